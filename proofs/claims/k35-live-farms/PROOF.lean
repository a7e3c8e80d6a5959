import PyProof.Rows.All
import Wide.All
import OpenK.AllK
import Wide.FinOn
import KE.KStateDown
import KE.GoesNew
import KE.GoesMore
import HandS.ForMost
import HandS.ForExc
import HandS.Defaults
import HandS.Star
import HandS.Property
import HandS.ClsMeth
import HandS.IsInst
import HandS.Style
import HandS.TupAny
import HandS.Deep
import HandS.Replace
import HandS.Conv
import HandS.Walk
import HandS.Codes
import HandS.Zip
import HandS.Steps
import HandS.Evl
import Lean
import HandS.Head0
import HandS.Head1
import HandS.Head2
import HandS.HeadEnd
import HandS.HeadHook1
import HandS.HeadHook2
import HandS.HeadHook3
import HandS.HeadNt
import OpenK.KMeth
import KE.KOpsOwn
import KE.KStar
import PyProof.SetRoads
import PyProof.Rows.SetFrom
import PyProof.Rows.SetObj
import PyProof.WalksMore
import PyProof.ListStr
import HandS.GenYield
import HandS.GenCall
import HandS.GenList
import HandS.NamedTupSort
import PyProof.InstEq
import KE.KUnpackStar
import HandS.FStr
import HandS.Text
import PyProof.CallStr
import KE.KIntText
import HandS.ExcInit
import HandS.ExcField
import HandS.ExcOwn
import HandS.ExcIs
import HandS.TryMany
import HandS.SuiteRaise
import HandS.Lambda
import HandS.Nested
import KE.KDflt
import HandS.TryOnly
import HandS.EndTab
import HandS.HeadHook4
import HandS.HeadWalk
import HandS.NestedK
import KE.KExcIs
import KE.GoesComp
import KE.KxField
import HandS.TupMul
import HandS.Strs
import PyProof.NeKinds
import KE.KDictZip
import HandS.Zip0
import HandS.ListItems
import HandS.NoneIn
import PySem.Challenge.RW_harvestcarts_k35_live_farms
set_option Elab.async false
set_option linter.all false
set_option maxRecDepth 100000
set_option maxHeartbeats 4100000
/-! promises of defs, methods, makers and properties, and how a call uses them: each by the layer's own rule -/
namespace HC
open PyProof.Rows PySem L2 PySem.Spec
abbrev CXW (P : Program) (w : World) : CXT := L2.CX P w
section
variable {P : Program} {w : World} {K : PySem.W.Frag}
variable {mg : Str → Option Value} {base : Heap} {k : Nat} {f : Addr} {sp : Sp}
/-- a def that takes its parameters by place and keeps sp -/
def FnU (P : Program) (w : World) (K : PySem.W.Frag) (mg : Str → Option Value) (base : Heap) (k : Nat) (f : Addr) (sp : Sp) : Prop := ∃ fd ps, FnOk P w K mg base (CXW P w) k f fd ps sp ∧ Binds K fd ps []
theorem fnr_mk {fd : FuncData} {ps : List Str} (F : FnOk P w K mg base (CXW P w) k f fd ps sp) (B : Binds K fd ps []) : FnU P w K mg base k f sp := ⟨fd, ps, F, B⟩
theorem FnU.raw (F : FnU P w K mg base k f sp) : FnR P w K mg base (CXW P w) k f sp := by
  obtain ⟨fd, ps, F, B⟩ := F
  refine FnR.imp (F.raw B .nil) fun vs H Q E h => ?_
  simpa using h
/-- the module's def x keeps sp -/
structure DefR (P : Program) (w : World) (K : PySem.W.Frag) (mg : Str → Option Value) (base : Heap) (x : Str) (k : Nat) (sp : Sp) : Prop where
  ex : ∃ f, mg x = some (.ref f) ∧ PySem.W.keepIn K (.ref f) = true ∧ FnU P w K mg base k f sp
/-- the method m of the class at C keeps sp -/
structure MethR (P : Program) (w : World) (K : PySem.W.Frag) (mg : Str → Option Value) (base : Heap) (C : Addr) (m : Str) (k : Nat) (sp : Sp) : Prop where
  cl : Cls K C
  ex : ∃ f, Meth K C m f ∧ FnR P w K mg base (CXW P w) k f sp
theorem MethR.at_ {C : Addr} {m : Str} (M : MethR P w K mg base C m k sp) : Meth K C m M.ex.choose := M.ex.choose_spec.1
theorem MethR.fn {C : Addr} {m : Str} (M : MethR P w K mg base C m k sp) : FnR P w K mg base (CXW P w) k M.ex.choose sp := M.ex.choose_spec.2
/-- the class x at C is made by an __init__ that keeps sp -/
structure MakeR (P : Program) (w : World) (K : PySem.W.Frag) (mg : Str → Option Value) (base : Heap) (x : Str) (C : Addr) (k : Nat) (sp : Sp) : Prop where
  at_ : mg x = some (.ref C)
  ex : ∃ f, Mk K C f ∧ FnR P w K mg base (CXW P w) k f sp
/-- the property f of the class at C -/
structure PropR (P : Program) (w : World) (K : PySem.W.Frag) (mg : Str → Option Value) (base : Heap) (C : Addr) (f : Str) (k : Nat) (sp : Sp) : Prop where
  cl : Cls K C
  ex : ∃ p g, PropOf K C f p g ∧ FnU P w K mg base k g sp
/-- what a body owes, the frame's slots laid as start says -/
abbrev Owes (P : Program) (w : World) (K : PySem.W.Frag) (mg : Str → Option Value) (base : Heap) (N : List Str) (qual : Str) (scope : Scope) (body : List Stmt) (k : Nat) (f : Addr) (sp : Sp) (cdv : Value) : Prop :=
  ∀ (A : Around) (outer : List Env) (s : Shared) (H : Hp) (vs : List V) (Q : VK) (E : XK),
    Room k (A.deeper (envOfC qual scope s.heap.objs.size f cdv)) → sp vs H Q E →
    ∃ t, PSs (cxOf (CXW P w) P w K mg base N qual scope f cdv A outer s H E) body t ∧ t { nx := fun _ H' => Q .non H', rt := Q } (start N vs) H
/-- def f(self, *v): by the layer's fn_star -/
theorem fnr_star1 {x qual : Str} {params : Arguments} {body : List Stmt} {scope : Scope} {fd : FuncData} {N : List Str} {p1 pv : Str} (F : FunD K x qual params body scope [] [] f fd) (S : FnScope N ([p1] ++ [pv]) scope)
    (h0 : ∀ (kV doc pm : Value) (an : Option Addr) (cdv ct : Value) (a : Value), bindArgs (PySem.W.fnOf x qual params body scope .none kV doc pm an cdv ct) ⟨[a], []⟩ = (newTuple [] >>= fun t => pure [(p1, a), (pv, t)]))
    (h1 : ∀ (kV doc pm : Value) (an : Option Addr) (cdv ct : Value) (a r : Value) (rs : List Value), bindArgs (PySem.W.fnOf x qual params body scope .none kV doc pm an cdv ct) ⟨a :: r :: rs, []⟩ = (newTuple (r :: rs) >>= fun t => pure [(p1, a), (pv, t)]))
    (owes : ∀ cdv, Owes P w K mg base N qual scope body k f sp cdv) :
    FnR P w K mg base (CXW P w) (k + 1) f (fun vs H Q E => ∃ w0 rest, vs = w0 :: rest ∧ rest.length ≤ sizeLine ∧ ∀ p, H p = none → sp [w0, V.ref p] (upd H p (.tup rest)) Q E) := by
  rcases F.ex with ⟨c1, c2, dv, kv, dc, pm, an, cdv, ct, sl, e, at_, code, dfl, _⟩
  subst e
  have dn : dv = .none := dfl.elim (fun z => z.2) (fun z => absurd rfl z.1)
  subst dn
  have both := StX.bind_star1 (B := fun us => bindArgs (PySem.W.fnOf x qual params body scope .none kv dc pm an cdv ct) ⟨us, []⟩) (h0 kv dc pm an cdv ct) (h1 kv dc pm an cdv ct)
  exact FnR.imp (StX.fn_star (P := P) (w := w) (mg := mg) (base := base) (k := k) (sp := sp) at_ code S StX.cxUp both (owes cdv)) fun vs H Q E ⟨w0, rest, z, hl, h⟩ => ⟨[w0], rest, z, rfl, hl, h⟩
end
section
variable {X : Cx} {k : Nat} {C : Addr} {sp : Sp} {E : XK} {x m f : Str} {e o : Expr} {es : List Expr} {ta te : TE} {t : TA} {p pos apos : Pos}
theorem passN : Passes (CXW X.prog X.w) X E0 := passL
/-- f(e, ..) -/
def tCallR (sp : Sp) (E : XK) (t : TA) : TE := fun σ H Q => t σ H fun vs H1 => sp vs H1 Q E
theorem tCallR_eq (sp : Sp) (E : XK) (t : TA) : tCall sp [] E t = tCallR sp E t := by
  funext σ H Q
  simp only [tCall, tCallR, List.append_nil]
theorem pe_callR (D : DefR X.prog X.w X.K X.mg X.base x k sp) (room : Room k X.A) (leave : Passes (CXW X.prog X.w) X E) (args : PA X (e :: es) t) (glob : Gl X x := by rfl) (nodeb : (x == ("__debug__" : Str)) = false := by decide) (one : starEach (e :: es) X.env = (false, eval e X.env) :: starEach es X.env := by rfl) (plain : (backTo pos (starEach es X.env)).any (·.1) = false := by rfl) : PE X (.Call (.Name x p) (e :: es) [] pos) (tCallR sp E t) := by
  obtain ⟨g, at_, kp, fd, ps, F, B⟩ := D.ex
  rw [← tCallR_eq]
  exact pe_call F room glob at_ kp B .nil leave args nodeb one plain
/-- f( *e) -/
def tStar1 (K : PySem.W.Frag) (te : TE) : TA := fun σ H Q => te σ H fun y H1 => ∃ a xs, y = V.ref a ∧ (SqT K H1 a xs ∨ SqL K H1 a xs) ∧ Q xs H1
/-- C( *e): the class stands in K, so it is called as a def of K is -/
theorem pe_makeS (M : MakeR X.prog X.w X.K X.mg X.base x C k sp) (room : Room (k + 1) X.A) (leave : Passes (CXW X.prog X.w) X E) (arg : PE X e te) (glob : Gl X x := by rfl) (nodeb : (x == ("__debug__" : Str)) = false := by decide) (one : starEach [.Starred e apos] X.env = [(true, eval e X.env)] := by rfl) : PE X (.Call (.Name x p) [.Starred e apos] [] pos) (StX.tMakeR C sp E (tStar1 X.K te)) := by
  constructor
  intro pn sh σ H Q inv h
  obtain ⟨g, made, F⟩ := M.ex
  have argRun := arg.run pn sh σ H _ inv h
  refine wpAny_Call_Name_kw (ld_glob inv glob M.at_ (PySem.W.callWith_S (h₀ := X.base) inv.ok.mod.kin made.kp (thn argRun ?_) one) nodeb)
  rintro v s1 ⟨y, H1, inv1, rel, a, xs, rfl, sq, q⟩
  cases rel
  exact StX.star_any inv1 sq fun us s2 inv2 vals => ⟨inv2.kIn, StX.run_makeR made F room leave inv2 vals q⟩
/-- C(e, ..) -/
theorem pe_makeP (M : MakeR X.prog X.w X.K X.mg X.base x C k sp) (room : Room (k + 1) X.A) (leave : Passes (CXW X.prog X.w) X E) (args : PA X (e :: es) t) (glob : Gl X x := by rfl) (nodeb : (x == ("__debug__" : Str)) = false := by decide) (one : starEach (e :: es) X.env = (false, eval e X.env) :: starEach es X.env := by rfl) (plain : (backTo pos (starEach es X.env)).any (·.1) = false := by rfl) : PE X (.Call (.Name x p) (e :: es) [] pos) (StX.tMakeR C sp E t) := by
  obtain ⟨g, made, F⟩ := M.ex
  exact StX.pe_makeR made F room glob M.at_ leave args nodeb one plain
/-- o.f, a property -/
def tPropR (C : Addr) (sp : Sp) (ta : TE) : TE := tProp C sp [] E0 ta
theorem pe_propR (M : PropR X.prog X.w X.K X.mg X.base C f k sp) (room : Room (k + 1) X.A) (obj : PE X e ta) (plain : attributeBase e f X.env (eval e X.env) = eval e X.env := by rfl) : PE X (.Attribute e f pos) (tPropR C sp ta) := by
  obtain ⟨pr, g, is, fd, ps, F, B⟩ := M.ex
  exact pe_prop (CX := CXW X.prog X.w) obj M.cl is F room B .nil (passL (X := X.nox)) plain
/-- len(o), o an instance with an own __len__ -/
def rLenO (C : Addr) (sp : Sp) : List V → Hp → VK → Prop := fun xs H Q => ∃ a dx fs, xs = [.ref a] ∧ H a = some (.ins C dx fs) ∧ sp [.ref a] H (fun v H' => ∃ n : Int, v = .int n ∧ 0 ≤ n ∧ n < 2 ^ 63 ∧ Q (.int n) H') E0
theorem call_lenO (M : MethR X.prog X.w X.K X.mg X.base C "__len__" k sp) (room : Room (k + 1) X.A) : CallR X (.builtin "len") (rLenO C sp) := by
  rintro pn sh σ H _ us Q inv rel ⟨a, dx, fs, rfl, obj, owed⟩
  obtain ⟨_, rfl, rfl⟩ := vals1 rel
  have look := (ins_get inv.hok obj).choose_spec.1.look
  have call := M.fn X.A.in1 X.stack sh H [.ref a] [.ref a] _ E0 room.in1 inv.env0.in1 (.cons rfl .nil) owed
  refine PySem.W.len_K inv.fr.choose_spec inv.mod.kin look.choose_spec.1 M.at_.at_ M.at_.fn (wpAny_call (codeAny_mono call ?_))
  rintro (er | fl) sh' got
  · rcases got with ⟨_, _, _, _, _, _, _, _, _, _, _, _, none_leaves⟩
    exact none_leaves.elim
  · cases fl with
    | ret val =>
      obtain ⟨v, H', inv', rel', n, rfl, low, high, q⟩ := inv.after got
      obtain ⟨tk, rfl⟩ := rel'
      exact ⟨⟨low, high⟩, V.int n, H', inv'.tok _, ⟨_, rfl⟩, q⟩
    | _ => exact got.elim
end
/-! ### enumerate over a tuple: the turns by GoesN.enumFrom over Draws.tuple; only the call with one argument is walked here -/
namespace EnT
/-- the record that enumerate() makes over the iterator at it -/
abbrev fresh (it : Addr) : Obj := { cls := .type "enumerate", data := .fields #[.none, .bool false, .ref it, rawInt 0, .none, .none] }
theorem new_of {v : Value} {o : Obj} {Z : Heap → Prop} (B : Begins v o Z) :
    Meets (Builtin.«enumerate.__new__» ⟨[.type "enumerate", v], []⟩) (fun _ R s => Z s.heap ∧ R (.ok (.ret (.ref (s.heap.push o).objs.size))) { s with heap := (s.heap.push o).push (fresh s.heap.objs.size) }) := by
  refine .of_wp fun prog w A R s owed => ?_
  have sub := sub_enumerate
  obtain ⟨start, goal⟩ := owed
  wp_walk using B.iter prog w _ _ _ _ start
  refine wpAny_stack_any fun frames => ?_
  refine wpAny_pure ?_
  split
  · rename_i c _ _ _ _ _
    generalize (c == Value.type "enumerate") = short
    cases short <;> (wp_walk using B.iter prog w _ _ _ _ start) <;> exact ⟨_, rfl, goal⟩
  · wp_walk using B.iter prog w _ _ _ _ start
    exact ⟨_, rfl, goal⟩
/-- enumerate(v): an iterator of v's, then the record over it -/
theorem call_of {prog : Program} {w : World} {A : Around} {E : Value → Shared → Prop} {s : Shared} {v : Value} {o : Obj} {Z : Heap → Prop} {Q : Value → Shared → Prop} (B : Begins v o Z) (start : Z s.heap)
    (go : ∀ h, (s.heap.push o).push (fresh s.heap.objs.size) = h → h.get? s.heap.objs.size = some o → IsEnum h (s.heap.objs.size + 1) s.heap.objs.size 0 .none → (∀ b ob, s.heap.get? b = some ob → h.get? b = some ob) →
      Q (.ref (s.heap.objs.size + 1)) { s with heap := h }) : wpAny (model prog w) A (call (.type "enumerate") [v]) Q E s := by
  have size1 : (s.heap.push o).objs.size = s.heap.objs.size + 1 := Heap.size_push ..
  have mine : ((s.heap.push o).push (fresh s.heap.objs.size)).get? (s.heap.objs.size + 1) = some (fresh s.heap.objs.size) := by
    rw [← size1]; exact Heap.get?_push_size _ rfl
  refine callType_new F.called_enumerate (by decide) (F.typeCall_enumerate_1 v) (F.newCall_enumerate_1 v) (fun obj => F.args_object_init_2 obj v) F.entry_enumerate_new (new_of B) ⟨start, ?_⟩
  refine ⟨⟨fresh s.heap.objs.size, ?_, rfl⟩, ?_⟩
  · show Heap.get? _ (s.heap.push o).objs.size = _
    rw [size1]
    exact mine
  · rw [size1]
    exact go _ rfl (Heap.get?_push_of_some _ (Heap.get?_push_size _ B.free)) mine fun b ob z => Heap.get?_push_of_some _ (Heap.get?_push_of_some _ z)
end EnT
/-- enumerate over the tuple at a, of n items: pairs, each new -/
def IteT (K : PySem.W.Frag) (a : Addr) (n : Nat) : It where
  go i H := i < n ∧ ∃ xs, SqT K H a xs ∧ xs.length = n
  yld i H v H' := ∃ T x, v = .ref T ∧ H T = none ∧ H' = upd H T (.tup [.int (i : Nat), x]) ∧ ∀ xs, SqT K H a xs → xs[i]? = some x
  stop i H := n ≤ i ∧ ∃ xs, SqT K H a xs ∧ xs.length = n
/-- what the heap says between two turns -/
structure TnE (a e it : Addr) (n i : Nat) (h : Heap) : Prop where
  le : i ≤ n
  rec_ : ∃ old, IsEnum h e it (0 + (i : Int)) old
  iter : h.IsTupleIter it a i
theorem two {b x y : Addr} (h : b ∈ [x, y]) : b = x ∨ b = y := by simpa using h
section
variable {P : Program} {w : World} {K : PySem.W.Frag} {elts : List Expr} {kk n : Nat} {tpos : Pos} {a e it : Addr}
theorem walkE {A : Around} (calm : A.in1.handled = none) (ai : a ≠ it) (ae : a ≠ e) (ei : e ≠ it) (cells : Array Value) :
    GoesN P w A (.Tuple elts kk tpos) e [e, it, a] [e, it] cells.size (fun i h₀ v h => ∃ T t x, v = .ref T ∧ h₀.objs.size ≤ T ∧ cells[i]? = some x ∧ h.IsTuple T #[.int (0 + (i : Int)) t, x]) (fun i h => (∃ old, IsEnum h e it (0 + (i : Int)) old) ∧ h.IsTupleIter it a i ∧ h.IsTuple a cells) :=
  GoesN.enumFrom 0 (Draws.tuple calm it a ai cells) e ei (by simp [ei, Ne.symm ae]) (by simp)
theorem turn_enumT (ai : a ≠ it) (ae : a ≠ e) (ei : e ≠ it) : Turn P w K (.Tuple elts kk tpos) (IteT K a n) [e, it] e (TnE a e it n) := by
  constructor
  · simp
  · intro i h now b hb
    rcases two hb with rfl | rfl
    · obtain ⟨old, z⟩ := now.rec_
      exact ⟨_, z, nofun⟩
    · obtain ⟨o, z, _, dat⟩ := now.iter
      refine ⟨o, z, fun v c => ?_⟩
      rw [dat] at c
      exact nomatch c
  · intro i h h' now same
    refine ⟨now.le, ?_, now.iter.at (same it (by simp))⟩
    obtain ⟨old, z⟩ := now.rec_
    exact ⟨old, same e (by simp) _ z⟩
  · rintro X rfl rfl rfl calm i pn s σ H E inv fp now ⟨lt, xs, sq, len⟩
    obtain ⟨cells, vals, tup, _⟩ := inv.tuple sq
    have sz : cells.toArray.size = n := by
      have := vals.length
      simp only [List.size_toArray]
      omega
    refine (walkE (P := X.prog) (w := X.w) (A := X.A) (show X.A.in1.handled = none from inv.ok.hd calm) ai ae ei cells.toArray).goes i s _ E (by omega) ⟨now.rec_, now.iter, tup⟩ ?_
    rintro _ h' tk ⟨T, t, u, rfl, new, at_, pair⟩ ⟨rec', iter', _⟩ same _
    have atX : i < xs.length := by omega
    obtain ⟨u', hu, ru⟩ := vals.get (List.getElem?_eq_getElem atX)
    have uu : u' = u := by
      rw [List.getElem?_toArray] at at_
      exact Option.some.inj (hu.symm.trans at_)
    subst uu
    rw [Int.zero_add] at pair
    have ob : ObjOk X.prog X.w (upd H T (.tup [.int (i : Nat), xs[i]])) h' T (.tup [.int (i : Nat), xs[i]]) := by
      refine ⟨?_, _, .cons ⟨t, rfl⟩ (.cons ru .nil), pair⟩
      show 2 ≤ sizeLine
      decide
    refine ⟨.ref T, _, inv.turnedNew same fp new ob, rfl, ⟨T, xs[i], rfl, inv.hok.fresh new, rfl, fun ys hy => ?_⟩, ⟨lt, rec', iter'⟩, fun b hb => ?_⟩
    · rw [inv.tuple_inj hy sq]
      exact List.getElem?_eq_getElem atX
    · refine (upd_ne fun z => ?_).trans (fp b hb).1
      obtain ⟨o, live⟩ : ∃ o, s.heap.get? b = some o := by
        rcases two hb with rfl | rfl
        · obtain ⟨old, q⟩ := now.rec_
          exact ⟨_, q⟩
        · obtain ⟨o, q, _⟩ := now.iter
          exact ⟨o, q⟩
      have := Heap.lt_size live
      rw [z] at this
      exact Nat.lt_irrefl _ (Nat.lt_of_lt_of_le this new)
  · rintro X rfl rfl rfl calm i pn s σ H E inv fp now ⟨ge, xs, sq, len⟩
    obtain ⟨cells, vals, tup, _⟩ := inv.tuple sq
    have sz : cells.toArray.size = i := by
      have := vals.length
      have := now.le
      simp only [List.size_toArray]
      omega
    have W := walkE (P := X.prog) (w := X.w) (A := X.A) (elts := elts) (kk := kk) (tpos := tpos) (show X.A.in1.handled = none from inv.ok.hd calm) ai ae ei cells.toArray
    rw [sz] at W
    exact W.stops s _ E ⟨now.rec_, now.iter, tup⟩ fun h' tk same _ => inv.turnedL same fp
  · intro A i s Q E now q
    obtain ⟨old, z⟩ := now.rec_
    exact wpAny_pyIter_enum z q
end
def iEnumT (K : PySem.W.Frag) (ta : TA) : TI := fun σ H R => ta σ H fun vs H1 => ∃ a xs, vs = [.ref a] ∧ SqT K H1 a xs ∧ R (IteT K a xs.length) H1
theorem pi_enumT {X : Cx} {e : Expr} {ta : TA} {p pos tpos : Pos} {elts : List Expr} {kk : Nat} (glob : Gl X "enumerate") (free : X.mg "enumerate" = none) (args : PA X [e] ta) (one : starEach [e] X.env = [(false, eval e X.env)] := by rfl) : PI X (.Tuple elts kk tpos) (.Call (.Name "enumerate" p) [e] [] pos) (iEnumT X.K ta) := by
  constructor
  intro pn s σ H R inv h
  refine Call_ (ld_blt inv glob free boot_enumerate ?_)
  refine PyProof.Rows.callWith_type1 (thn (args.run pos pn s σ H _ inv h) ?_) one rfl
  rintro us s1 ⟨vs, H1, inv1, rel, a, xs, rfl, sq, q⟩
  obtain ⟨_, rfl, rfl⟩ := vals1 rel
  obtain ⟨cells, vals, tup, _⟩ := inv1.tuple sq
  have below : a < s1.heap.objs.size := by
    obtain ⟨o, z, _⟩ := tup
    exact Heap.lt_size z
  refine EnT.call_of (begins_tuple a cells.toArray) tup fun h' _ isIter isRec same => wpAny_pyIter_enum isRec ?_
  refine ⟨s1.heap.objs.size + 1, [s1.heap.objs.size + 1, s1.heap.objs.size], TnE a _ _ xs.length, IteT X.K a xs.length, H1, rfl, inv1.kept (t' := s1.toks) same, turn_enumT ?_ ?_ ?_, ⟨Nat.zero_le _, ⟨.none, isRec⟩, _, isIter, rfl, rfl⟩, fun b hb => ?_, q⟩
  · exact Nat.ne_of_lt below
  · exact Nat.ne_of_lt (Nat.lt_succ_of_lt below)
  · exact Nat.succ_ne_self _
  · have up : s1.heap.objs.size ≤ b := by
      rcases two hb with z | z <;> rw [z]
      · exact Nat.le_succ _
      · exact Nat.le_refl _
    exact inv1.fpOk up (inv1.hok.fresh up)
theorem walk_enumT {K : PySem.W.Frag} {a : Addr} {xs : List V} : Walk (IteT K a xs.length) xs.length (fun H => SqT K H a xs) (YPair (fun i => some (.int (i : Nat))) (fun i => xs[i]?)) := by
  constructor
  · exact fun i H lt sq => ⟨lt, xs, sq, rfl⟩
  · exact fun H sq => ⟨Nat.le_refl _, xs, sq, rfl⟩
  · rintro i H v H' _ sq ⟨T, x, e1, e2, e3, e4⟩
    exact ⟨T, _, x, e1, e2, e3, rfl, e4 xs sq⟩
end HC

/-! operators whatever the types, and the steps of a reading -/
namespace HC
open PyProof.Rows PySem L2 PySem.Spec

/-! ### heaps -/
theorem same_new {H : Hp} {p : Addr} {o : HO} (h : H p = none) : Same H (upd H p o) := fun b u e => by rw [upd_ne (ne_of_none e h)]; exact e
/-- all but d is as it was -/
def Keep (d : Addr) (H H' : Hp) : Prop := ∀ b o, b ≠ d → H b = some o → H' b = some o
theorem Keep.refl (d : Addr) (H : Hp) : Keep d H H := fun _ _ _ h => h
theorem Keep.trans {d : Addr} {H H1 H2 : Hp} (a : Keep d H H1) (b : Keep d H1 H2) : Keep d H H2 := fun c o n h => b c o n (a c o n h)
theorem keep_upd {H : Hp} {d : Addr} {o : HO} : Keep d H (upd H d o) := fun b u n e => by rw [upd_ne n]; exact e
end HC
namespace L2
open PySem PySem.Spec PyProof.Rows HC
theorem Same.keep {d : Addr} {H H' : Hp} (a : Same H H') : Keep d H H' := fun b o _ h => a b o h
end L2
namespace HC
open PyProof.Rows PySem L2 PySem.Spec
theorem keep_same {d : Addr} {H H' : Hp} (a : Keep d H H') (h : H d = none) : Same H H' := fun b o e => a b o (ne_of_none e h) e
theorem same_l {K : PySem.W.Frag} {H H' : Hp} {a : Addr} {xs : List V} (e : Same H H') (h : SqL K H a xs) : SqL K H' a xs := e.seq h
theorem same_t {K : PySem.W.Frag} {H H' : Hp} {a : Addr} {xs : List V} (e : Same H H') (h : SqT K H a xs) : SqT K H' a xs := h.imp (fun z => z.imp (e a _) fun ⟨o, q⟩ => ⟨o, e a _ q⟩) id
mutual
theorem dp_same {K : PySem.W.Frag} {H H' : Hp} (e : Same H H') : ∀ (d : PyData) (v : V), Dp K H v d → Dp K H' v d
  | .none, _, .non => .non
  | .bool _, _, .bl b => .bl b
  | .int _, _, .int i => .int i
  | .str _, _, .str x => .str x
  | .list ds, _, .lst h a => .lst (same_l e h) (dp_sameAll e ds _ a)
  | .tuple ds, _, .tup h a => .tup (same_t e h) (dp_sameAll e ds _ a)
theorem dp_sameAll {K : PySem.W.Frag} {H H' : Hp} (e : Same H H') : ∀ (ds : List PyData) (vs : List V), DpAll K H vs ds → DpAll K H' vs ds
  | [], _, .nil => .nil
  | d :: ds, _, .cons a b => .cons (dp_same e d _ a) (dp_sameAll e ds _ b)
end
end HC
namespace L2
open PySem PySem.Spec PyProof.Rows HC
theorem Same.dp {K : PySem.W.Frag} {H H' : Hp} {v : V} {d : PyData} (e : Same H H') (h : Dp K H v d) : Dp K H' v d := dp_same e d v h
theorem Same.dpa {K : PySem.W.Frag} {H H' : Hp} {vs : List V} {ds : List PyData} (e : Same H H') (h : DpAll K H vs ds) : DpAll K H' vs ds := dp_sameAll e ds vs h
theorem DpAll.length {K : PySem.W.Frag} {H : Hp} : ∀ {vs : List V} {ds : List PyData}, DpAll K H vs ds → vs.length = ds.length
  | _, _, .nil => rfl
  | _, _, .cons _ b => congrArg Nat.succ (DpAll.length b)
theorem DpAll.get {K : PySem.W.Frag} {H : Hp} {vs : List V} {ds : List PyData} {i : Nat} {v : V} (h : DpAll K H vs ds) (e : vs[i]? = some v) : ∃ d, ds[i]? = some d ∧ Dp K H v d :=
  match i, h, e with
  | 0, .cons a _, e => ⟨_, rfl, Option.some.inj e ▸ a⟩
  | j + 1, .cons _ b, e => DpAll.get (i := j) b e
theorem DpAll.getD {K : PySem.W.Frag} {H : Hp} {vs : List V} {ds : List PyData} {i : Nat} {d : PyData} (h : DpAll K H vs ds) (e : ds[i]? = some d) : ∃ v, vs[i]? = some v ∧ Dp K H v d :=
  match i, h, e with
  | 0, .cons a _, e => ⟨_, rfl, Option.some.inj e ▸ a⟩
  | j + 1, .cons _ b, e => DpAll.getD (i := j) b e
theorem DpAll.append {K : PySem.W.Frag} {H : Hp} : ∀ {vs ws : List V} {ds es : List PyData}, DpAll K H vs ds → DpAll K H ws es → DpAll K H (vs ++ ws) (ds ++ es)
  | _, _, _, _, .nil, s => s
  | _, _, _, _, .cons r t, s => .cons r (DpAll.append t s)
end L2
namespace HC
open PyProof.Rows PySem L2 PySem.Spec
theorem dpa_take {K : PySem.W.Frag} {H : Hp} : ∀ {vs : List V} {ds : List PyData} (n : Nat), DpAll K H vs ds → DpAll K H (vs.take n) (ds.take n)
  | _, _, 0, _ => .nil
  | _, _, _ + 1, .nil => .nil
  | _, _, n + 1, .cons r t => .cons r (dpa_take n t)
theorem getm {α β : Type} {f : α → β} {l : List α} {i : Nat} {d : β} (h : (l.map f)[i]? = some d) : ∃ x, l[i]? = some x ∧ f x = d := by
  rw [List.getElem?_map] at h
  exact Option.map_eq_some_iff.mp h
theorem dpa_ints {K : PySem.W.Frag} {H : Hp} : ∀ ns : List Int, DpAll K H (ns.map V.int) (ns.map PyData.int)
  | [] => .nil
  | n :: r => .cons (.int n) (dpa_ints r)
theorem dpa_strs {K : PySem.W.Frag} {H : Hp} : ∀ ns : List Str, DpAll K H (ns.map V.str) (ns.map PyData.str)
  | [] => .nil
  | n :: r => .cons (.str n) (dpa_strs r)


/-! ### data -/
abbrev pInts (ns : List Int) : PyData := .list (ns.map .int)
theorem dp_lst {K : PySem.W.Frag} {H : Hp} {a : Addr} {xs : List V} {ds : List PyData} (h : H a = some (.lst xs)) (h2 : DpAll K H xs ds) : Dp K H (.ref a) (.list ds) := .lst (SqL.of h) h2
theorem dp_tup {K : PySem.W.Frag} {H : Hp} {a : Addr} {xs : List V} {ds : List PyData} (h : H a = some (.tup xs)) (h2 : DpAll K H xs ds) : Dp K H (.ref a) (.tuple ds) := .tup (SqT.of h) h2
end HC
namespace L2
open PySem PySem.Spec PyProof.Rows HC
theorem Dp.inv_l {K : PySem.W.Frag} {H : Hp} {v : V} {ds : List PyData} (h : Dp K H v (.list ds)) : ∃ a xs, v = .ref a ∧ SqL K H a xs ∧ DpAll K H xs ds := by
  cases h with
  | lst h1 h2 => exact ⟨_, _, rfl, h1, h2⟩
theorem Dp.inv_t {K : PySem.W.Frag} {H : Hp} {v : V} {ds : List PyData} (h : Dp K H v (.tuple ds)) : ∃ a xs, v = .ref a ∧ SqT K H a xs ∧ DpAll K H xs ds := by
  cases h with
  | tup h1 h2 => exact ⟨_, _, rfl, h1, h2⟩
theorem Dp.inv_i {K : PySem.W.Frag} {H : Hp} {v : V} {i : Int} (h : Dp K H v (.int i)) : v = .int i := by cases h; rfl
theorem Dp.inv_s {K : PySem.W.Frag} {H : Hp} {v : V} {i : Str} (h : Dp K H v (.str i)) : v = .str i := by cases h; rfl
theorem Dp.inv_b {K : PySem.W.Frag} {H : Hp} {v : V} {i : Bool} (h : Dp K H v (.bool i)) : v = .bl i := by cases h; rfl
theorem Dp.inv_n {K : PySem.W.Frag} {H : Hp} {v : V} (h : Dp K H v .none) : v = .non := by cases h; rfl
theorem DpAll.inv1 {K : PySem.W.Frag} {H : Hp} {vs : List V} {d : PyData} {ds : List PyData} (h : DpAll K H vs (d :: ds)) : ∃ v r, vs = v :: r ∧ Dp K H v d ∧ DpAll K H r ds :=
  match h with | .cons first more => ⟨_, _, rfl, first, more⟩
theorem DpAll.inv0 {K : PySem.W.Frag} {H : Hp} {vs : List V} (h : DpAll K H vs []) : vs = [] := by cases h; rfl
theorem DpAll.inv2 {K : PySem.W.Frag} {H : Hp} {vs : List V} {d e : PyData} (h : DpAll K H vs [d, e]) : ∃ v u, vs = [v, u] ∧ Dp K H v d ∧ Dp K H u e := by
  obtain ⟨v, r, rfl, h1, h2⟩ := h.inv1
  obtain ⟨u, r, rfl, h3, h4⟩ := h2.inv1
  obtain rfl := h4.inv0
  exact ⟨v, u, rfl, h1, h3⟩
end L2
namespace HC
open PyProof.Rows PySem L2 PySem.Spec

/-! data without lists stand whatever list or instance changes -/
mutual
def noL : PyData → Bool
  | .list _ => false
  | .tuple ds => noLs ds
  | .none | .bool _ | .int _ | .str _ | .dict _ => true
def noLs : List PyData → Bool
  | [] => true
  | d :: ds => noL d && noLs ds
end
def NotT : Option HO → Prop
  | some (.ext _) => False
  | some (.tup _) => False
  | some (.frz _ (.tup _)) => False
  | _ => True
theorem keep_t {K : PySem.W.Frag} {H H' : Hp} {d a : Addr} {xs : List V} (e : Keep d H H') (hd : NotT (H d)) (h : SqT K H a xs) : SqT K H' a xs := by
  refine h.imp (fun z => z.imp (fun q => e a _ (fun ad => ?_) q) (fun ⟨o, q⟩ => ⟨o, e a _ (fun ad => ?_) q⟩)) id
  all_goals (subst ad; rw [q] at hd; exact hd)
mutual
theorem dp_keep {K : PySem.W.Frag} {H H' : Hp} {d : Addr} (e : Keep d H H') (hd : NotT (H d)) : ∀ (x : PyData) (v : V), noL x = true → Dp K H v x → Dp K H' v x
  | .none, _, _, .non => .non
  | .bool _, _, _, .bl b => .bl b
  | .int _, _, _, .int i => .int i
  | .str _, _, _, .str x => .str x
  | .list ds, _, n, .lst h a => by simp [noL] at n
  | .tuple ds, _, n, .tup h a => .tup (keep_t e hd h) (dp_keepAll e hd ds _ (by simpa [noL] using n) a)
theorem dp_keepAll {K : PySem.W.Frag} {H H' : Hp} {d : Addr} (e : Keep d H H') (hd : NotT (H d)) : ∀ (xs : List PyData) (vs : List V), noLs xs = true → DpAll K H vs xs → DpAll K H' vs xs
  | [], _, _, .nil => .nil
  | x :: xs, _, n, .cons a b => by
    have n' : noL x = true ∧ noLs xs = true := by simpa [noLs] using n
    exact .cons (dp_keep e hd x _ n'.1 a) (dp_keepAll e hd xs _ n'.2 b)
end
theorem noLs_of {ds : List PyData} (h : ∀ d ∈ ds, noL d = true) : noLs ds = true := by
  induction ds with
  | nil => rfl
  | cons d r ih => simp [noLs, h d (by simp), ih fun e he => h e (by simp [he])]
theorem notT_l {H : Hp} {d : Addr} {xs : List V} (h : H d = some (.lst xs)) : NotT (H d) := by rw [h]; trivial
theorem notT_n {H : Hp} {d : Addr} (h : H d = none) : NotT (H d) := by rw [h]; trivial
theorem notT_i {H : Hp} {d C dx : Addr} {fs : List (Str × V)} (h : H d = some (.ins C dx fs)) : NotT (H d) := by rw [h]; trivial
/-- data that the layer's == speaks of, to a depth -/
def Sh (n : Nat) (d : PyData) : Prop := d.canLay0 = true ∧ d.depth ≤ n
theorem Sh.ok {n : Nat} {d : PyData} (h : Sh n d) (hn : n ≤ 64) : SeqAt.shaped d = true := by
  unfold SeqAt.shaped
  rw [h.1, Bool.true_and]
  exact decide_eq_true (Nat.le_trans h.2 hn)
theorem Sh.mono {n m : Nat} {d : PyData} (h : Sh n d) (hn : n ≤ m) : Sh m d := ⟨h.1, Nat.le_trans h.2 hn⟩
theorem sh_i (i : Int) : Sh 0 (.int i) := ⟨by simp [PyData.canLay0], by simp [PyData.depth]⟩
theorem sh_s {i : Str} (h : PyData.strOk i = true) : Sh 0 (.str i) := ⟨by simp [PyData.canLay0, h], by simp [PyData.depth]⟩
theorem sh_b (i : Bool) : Sh 0 (.bool i) := ⟨by simp [PyData.canLay0], by simp [PyData.depth]⟩
theorem sh_n : Sh 0 .none := ⟨by simp [PyData.canLay0], by simp [PyData.depth]⟩
theorem lay_all {ds : List PyData} (h : ∀ d ∈ ds, d.canLay0 = true) : PyData.canLayAll0 ds = true := by
  induction ds with
  | nil => simp [PyData.canLayAll0]
  | cons d r ih => simp [PyData.canLayAll0, h d (by simp), ih fun e he => h e (by simp [he])]
theorem depth_all {ds : List PyData} {n : Nat} (h : ∀ d ∈ ds, d.depth ≤ n) : PyData.depthAll ds ≤ n := by
  induction ds with
  | nil => simp [PyData.depthAll]
  | cons d r ih =>
    have h1 := h d (by simp)
    have h2 := ih fun e he => h e (by simp [he])
    simp only [PyData.depthAll]
    omega
theorem sh_l {n : Nat} {ds : List PyData} (h : ∀ d ∈ ds, Sh n d) : Sh (n + 1) (.list ds) := by
  refine ⟨by simp only [PyData.canLay0]; exact lay_all fun d hd => (h d hd).1, ?_⟩
  have := depth_all fun d hd => (h d hd).2
  simp only [PyData.depth]
  omega
theorem sh_t {n : Nat} {ds : List PyData} (h : ∀ d ∈ ds, Sh n d) : Sh (n + 1) (.tuple ds) := by
  refine ⟨by simp only [PyData.canLay0]; exact lay_all fun d hd => (h d hd).1, ?_⟩
  have := depth_all fun d hd => (h d hd).2
  simp only [PyData.depth]
  omega
theorem sh_ints (ns : List Int) : Sh 1 (pInts ns) := sh_l fun d hd => by
  obtain ⟨i, _, rfl⟩ := List.mem_map.mp hd
  exact sh_i i
theorem eqv_refl {n : Nat} {d : PyData} (h : Sh n d) : PyData.eqv d d = true := SeqAt.eqv_refl d h.1
theorem eqv_nil (ds : List PyData) : PyData.eqv (.list ds) (.list []) = ds.isEmpty := by
  cases ds <;> simp [PyData.eqv, PyData.eqvAll]
theorem eqv_nilT (ds : List PyData) : PyData.eqv (.tuple ds) (.tuple []) = ds.isEmpty := by
  cases ds <;> simp [PyData.eqv, PyData.eqvAll]
/-! ### operators -/
section
variable {X : Cx} {K : PySem.W.Frag} {H H' : Hp} {Q : VK} {σ : L2.St} {D : Ends}
def uAdd (K : PySem.W.Frag) : R2 := fun x y H Q => rI0 (fun i j => .int (i + j)) x y H Q ∨ (∃ i j, x = .str i ∧ y = .str j ∧ i.length + j.length ≤ sizeLine ∧ Q (.str (i ++ j)) H) ∨ rCat x y H Q ∨ rCatA K x y H Q
theorem op_addU : OpR X (binaryOp .Add) (uAdd X.K) := op_add.or (op_add_str.or (op_cat.or op_catA))
theorem g_add_i {i j : Int} (h : Q (.int (i + j)) H) : uAdd K (.int i) (.int j) H Q := .inl ⟨i, j, rfl, rfl, h⟩
theorem g_add_s {i j : Str} (hz : i.length + j.length ≤ sizeLine) (h : Q (.str (i ++ j)) H) : uAdd K (.str i) (.str j) H Q := .inr (.inl ⟨i, j, rfl, rfl, hz, h⟩)
theorem g_add_l {a b : Addr} {xs ys : List V} (h1 : H a = some (.lst xs)) (h2 : H b = some (.lst ys)) (hz : xs.length + ys.length ≤ sizeLine)
    (h : ∀ p H', H p = none → Same H H' → H' p = some (.lst (xs ++ ys)) → Q (.ref p) H') : uAdd K (.ref a) (.ref b) H Q :=
  .inr (.inr (.inl ⟨a, b, xs, ys, rfl, rfl, h1, h2, hz, fun p hp => h p _ hp (same_new hp) upd_same⟩))
theorem g_sub {i j : Int} (h : Q (.int (i - j)) H) : rI0 (fun i j => .int (i - j)) (.int i) (.int j) H Q := ⟨i, j, rfl, rfl, h⟩
theorem g_neg {i : Int} (h : Q (.int (-i)) H) : rU (fun i => .int (-i)) (.int i) H Q := ⟨i, rfl, h⟩
theorem g_mul {i j : Int} (hc : CMul i j) (h : Q (.int (i * j)) H) : rI CMul (fun i j => .int (i * j)) (.int i) (.int j) H Q := ⟨i, j, rfl, rfl, hc, h⟩
theorem g_fdiv {i j : Int} (h1 : 0 < j) (h2 : j < 1073741824) (h : Q (.int (i / j)) H) : rI CDiv (fun i j => .int (i / j)) (.int i) (.int j) H Q := ⟨i, j, rfl, rfl, ⟨h1, h2⟩, h⟩
theorem g_mod {i j : Int} (h1 : 0 < j) (h : Q (.int (i % j)) H) : rI (fun _ j => 0 < j) (fun i j => .int (i % j)) (.int i) (.int j) H Q := ⟨i, j, rfl, rfl, h1, h⟩
theorem g_pow {i j : Int} (hc : CPow i j) (h : Q (.int (i ^ j.toNat)) H) : rI CPow (fun i j => .int (i ^ j.toNat)) (.int i) (.int j) H Q := ⟨i, j, rfl, rfl, hc, h⟩
theorem g_lt {i j : Int} (h : Q (.bl (decide (i < j))) H) : rI0 (fun i j => .bl (decide (i < j))) (.int i) (.int j) H Q := ⟨i, j, rfl, rfl, h⟩
theorem g_le {i j : Int} (h : Q (.bl (decide (i ≤ j))) H) : rI0 (fun i j => .bl (decide (i ≤ j))) (.int i) (.int j) H Q := ⟨i, j, rfl, rfl, h⟩
theorem g_gt {i j : Int} (h : Q (.bl (decide (j < i))) H) : rI0 (fun i j => .bl (decide (j < i))) (.int i) (.int j) H Q := ⟨i, j, rfl, rfl, h⟩
theorem g_ge {i j : Int} (h : Q (.bl (decide (j ≤ i))) H) : rI0 (fun i j => .bl (decide (j ≤ i))) (.int i) (.int j) H Q := ⟨i, j, rfl, rfl, h⟩
def uEq (K : PySem.W.Frag) : R2 := fun x y H Q => rEq x y H Q ∨ rEqD K x y H Q
def uNe (K : PySem.W.Frag) : R2 := fun x y H Q => rNe x y H Q ∨ rNeD K x y H Q
theorem op_eqU {k : Nat} (hr : Room k X.A) : OpR X (compareOp .Eq) (uEq X.K) := op_eq.or (op_eqD hr.units)
theorem op_neU {k : Nat} (hr : Room k X.A) : OpR X (compareOp .NotEq) (uNe X.K) := op_ne.or (op_neD hr.units)
theorem dec_i {i j : Int} : decide (V.int i = V.int j) = decide (i = j) := by
  by_cases e : i = j
  · subst e; simp
  · rw [decide_eq_false e, decide_eq_false fun q => e (V.int.inj q)]
theorem dec_s {i j : Str} : decide (V.str i = V.str j) = decide (i = j) := by
  by_cases e : i = j
  · subst e; simp
  · rw [decide_eq_false e, decide_eq_false fun q => e (V.str.inj q)]
theorem dec_b {i j : Bool} : decide (V.bl i = V.bl j) = decide (i = j) := by
  by_cases e : i = j
  · subst e; simp
  · rw [decide_eq_false e, decide_eq_false fun q => e (V.bl.inj q)]
theorem g_eq_i {i j : Int} (h : Q (.bl (decide (i = j))) H) : uEq K (.int i) (.int j) H Q := .inl ⟨rfl, by rw [dec_i]; exact h⟩
theorem g_eq_s {i j : Str} (h : Q (.bl (decide (i = j))) H) : uEq K (.str i) (.str j) H Q := .inl ⟨rfl, by rw [dec_s]; exact h⟩
theorem g_eq_b {i j : Bool} (h : Q (.bl (decide (i = j))) H) : uEq K (.bl i) (.bl j) H Q := .inl ⟨rfl, by rw [dec_b]; exact h⟩
theorem g_ne_i {i j : Int} (h : Q (.bl (!decide (i = j))) H) : uNe K (.int i) (.int j) H Q := .inl ⟨rfl, by rw [dec_i]; exact h⟩
theorem g_ne_s {i j : Str} (h : Q (.bl (!decide (i = j))) H) : uNe K (.str i) (.str j) H Q := .inl ⟨rfl, by rw [dec_s]; exact h⟩
theorem g_ne_b {i j : Bool} (h : Q (.bl (!decide (i = j))) H) : uNe K (.bl i) (.bl j) H Q := .inl ⟨rfl, by rw [dec_b]; exact h⟩
theorem g_eq_d {x y : V} (d e : PyData) (h1 : Dp K H x d) (h2 : Dp K H y e) (s1 : SeqAt.shaped d = true) (s2 : SeqAt.shaped e = true) (h : Q (.bl (PyData.eqv d e)) H) : uEq K x y H Q := .inr ⟨d, e, h1, h2, s1, s2, h⟩
theorem g_ne_d {x y : V} (d e : PyData) (h1 : Dp K H x d) (h2 : Dp K H y e) (s1 : SeqAt.shaped d = true) (s2 : SeqAt.shaped e = true) (h : Q (.bl (!PyData.eqv d e)) H) : uNe K x y H Q := .inr ⟨d, e, h1, h2, s1, s2, h⟩
theorem g_isN {x : V} (h : Q (.bl (decide (x = .non))) H) : rIsN x .non H Q := ⟨rfl, h⟩
theorem g_notN {x : V} (h : Q (.bl (!decide (x = .non))) H) : rNotN x .non H Q := ⟨rfl, h⟩
/-- in -/
def uIn (K : PySem.W.Frag) : R2 := fun x y H Q => rIn K false x y H Q ∨ (∃ (c : Nat) (z : Str), x = .str ⟨#[c]⟩ ∧ y = .str z ∧ Q (.bl (decide (c ∈ z.cps.toList))) H) ∨ rInD K x y H Q
def uNotIn (K : PySem.W.Frag) : R2 := fun x y H Q => rIn K true x y H Q ∨ (∃ (c : Nat) (z : Str), x = .str ⟨#[c]⟩ ∧ y = .str z ∧ Q (.bl (!decide (c ∈ z.cps.toList))) H) ∨ rNotInD K x y H Q
theorem units65 {k : Nat} {A : Around} (hr : Room k A) : A.units + 65 < cLine := by have := hr.un; omega
theorem op_inU {k : Nat} (hr : Room k X.A) : OpR X (compareOp .In) (uIn X.K) := op_in_seq.or (op_in_sign.or (op_inD (units65 hr)))
theorem op_notInU {k : Nat} (hr : Room k X.A) : OpR X (compareOp .NotIn) (uNotIn X.K) := op_notIn_seq.or (op_notIn_sign.or (op_notInD (units65 hr)))
theorem g_in_sign {c : Nat} {z : Str} (h : Q (.bl (decide (c ∈ z.cps.toList))) H) : uIn K (.str ⟨#[c]⟩) (.str z) H Q := .inr (.inl ⟨c, z, rfl, rfl, h⟩)
theorem g_in_seq {x : V} {p : Addr} {xs : List V} (h1 : SqL K H p xs ∨ SqT K H p xs) (h2 : flatV x = true) (h3 : xs.all flatV = true) (h : Q (.bl (inV x xs)) H) : uIn K x (.ref p) H Q := .inl ⟨p, xs, rfl, h1, h2, h3, h⟩
theorem g_notIn_seq {x : V} {p : Addr} {xs : List V} (h1 : SqL K H p xs ∨ SqT K H p xs) (h2 : flatV x = true) (h3 : xs.all flatV = true) (h : Q (.bl (!inV x xs)) H) : uNotIn K x (.ref p) H Q := .inl ⟨p, xs, rfl, h1, h2, h3, h⟩
/-- x[i] -/
theorem g_ix_l {p : Addr} {xs : List V} {i : Int} {v : V} (h1 : SqL K H p xs) (h2 : atI xs i = some v) (h : Q v H) : rIx K (.ref p) (.int i) H Q := .inl ⟨p, xs, i, v, rfl, rfl, h1, h2, h⟩
theorem g_ix_t {p : Addr} {xs : List V} {i : Int} {v : V} (h1 : SqT K H p xs) (h2 : atI xs i = some v) (h : Q v H) : rIx K (.ref p) (.int i) H Q := .inr (.inl ⟨p, xs, i, v, rfl, rfl, h1, h2, h⟩)
theorem g_ix_s {z : Str} {i : Int} {c : Nat} (h1 : z.length ≤ sizeLine) (h2 : atI z.cps.toList i = some c) (h : Q (.str ⟨#[c]⟩) H) : rIx K (.str z) (.int i) H Q := .inr (.inr ⟨z, i, c, rfl, rfl, h1, h2, h⟩)
/-- len -/
def uLen (K : PySem.W.Frag) : List V → Hp → VK → Prop := fun xs H Q => (∃ z, xs = [.str z] ∧ z.length ≤ sizeLine ∧ Q (.int z.length) H) ∨ ∃ p ys, xs = [.ref p] ∧ (SqL K H p ys ∨ SqT K H p ys) ∧ Q (.int ys.length) H
theorem call_lenU : CallR X (.builtin "len") (uLen X.K) := call_len_str.or call_len_seq
theorem g_len_s {z : Str} (hz : z.length ≤ sizeLine) (h : Q (.int z.length) H) : uLen K [.str z] H Q := .inl ⟨z, rfl, hz, h⟩
theorem g_len_l {p : Addr} {ys : List V} (h1 : SqL K H p ys) (h : Q (.int ys.length) H) : uLen K [.ref p] H Q := .inr ⟨p, ys, rfl, .inl h1, h⟩
theorem g_len_t {p : Addr} {ys : List V} (h1 : SqT K H p ys) (h : Q (.int ys.length) H) : uLen K [.ref p] H Q := .inr ⟨p, ys, rfl, .inr h1, h⟩

/-! ### steps -/
variable {ta tb te : TE} {tA tB' : TT} {i : Nat} {v : V} {t u : TS} {ts : TA}
theorem g_var (e : σ[i]? = some (some v)) (h : Q v H) : tVar i σ H Q := ⟨v, e, h⟩
theorem g_c (h : Q v H) : tC v σ H Q := h
theorem g_op {r : R2} (h : ta σ H fun x H1 => tb σ H1 fun y H2 => r x y H2 Q) : tOp r ta tb σ H Q := h
theorem g_un {r : V → Hp → VK → Prop} (h : ta σ H fun x H1 => r x H1 Q) : tUn r ta σ H Q := h
def Bl (Q : Bool → Hp → Prop) : VK := fun x H => ∃ k, x = .bl k ∧ Q k H
theorem g_bl {b : Bool} {Q : Bool → Hp → Prop} (h : Q b H) : Bl Q (.bl b) H := ⟨b, rfl, h⟩
theorem g_test {Q : Bool → Hp → Prop} (h : te σ H (Bl Q)) : tTest te σ H Q := h
theorem g_tB {Q : Bool → Hp → Prop} (h : te σ H (Bl Q)) : tB te σ H Q := h
def Ch (r' : R2) (tc : TE) (y : V) (σ : L2.St) (Q : VK) : VK := fun z H3 => ∃ k, z = .bl k ∧ (if k = true then tc σ H3 fun w' H4 => r' y w' H4 Q else Q (.bl false) H3)
theorem g_chain {r r' : R2} {tc : TE} (h : ta σ H fun x H1 => tb σ H1 fun y H2 => r x y H2 (Ch r' tc y σ Q)) : tChain r r' ta tb tc σ H Q := h
theorem g_ch {r' : R2} {tc : TE} {y : V} {b : Bool} (h1 : b = true → tc σ H fun w' H4 => r' y w' H4 Q) (h2 : b = false → Q (.bl false) H) : Ch r' tc y σ Q (.bl b) H := ⟨b, rfl, by
  cases b with
  | true => exact iteT (h1 rfl)
  | false => exact iteF (h2 rfl)⟩
theorem g_and {Q : Bool → Hp → Prop} (h : tA σ H fun c H1 => if c = true then tB' σ H1 Q else Q false H1) : tAnd tA tB' σ H Q := h
theorem g_or {Q : Bool → Hp → Prop} (h : tA σ H fun c H1 => if c = true then Q true H1 else tB' σ H1 Q) : tOr tA tB' σ H Q := h
theorem g_not {Q : Bool → Hp → Prop} (h : tA σ H fun c H1 => Q (!c) H1) : tNot tA σ H Q := h
theorem g_andV (h : ta σ H (Bl fun c H1 => if c = true then tb σ H1 Q else Q (.bl false) H1)) : tAndV ta tb σ H Q := h
theorem g_orV (h : ta σ H (Bl fun c H1 => if c = true then Q (.bl true) H1 else tb σ H1 Q)) : tOrV ta tb σ H Q := h
theorem g_notV (h : ta σ H (Bl fun c H1 => Q (.bl (!c)) H1)) : tNotV ta σ H Q := h
theorem g_if (h : tA σ H fun c H1 => if c = true then ta σ H1 Q else tb σ H1 Q) : tIf tA ta tb σ H Q := h
theorem g_nil {Q : List V → Hp → Prop} (h : Q [] H) : tNil σ H Q := h
theorem g_cons {Q : List V → Hp → Prop} (h : te σ H fun x H1 => ts σ H1 fun xs H2 => Q (x :: xs) H2) : tCons te ts σ H Q := h
theorem g_cb {r : List V → Hp → VK → Prop} (h : ts σ H fun vs H1 => r vs H1 Q) : tCB r ts σ H Q := h
theorem g_callR {sp : Sp} {E : XK} (h : ts σ H fun vs H1 => sp vs H1 Q E) : tCallR sp E ts σ H Q := h
def NewT (xs : List V) (H : Hp) (Q : VK) : Prop := xs.length ≤ sizeLine ∧ ∀ p, H p = none → Q (.ref p) (upd H p (.tup xs))
def NewL (xs : List V) (H : Hp) (Q : VK) : Prop := xs.length ≤ sizeLine ∧ ∀ p, H p = none → Q (.ref p) (upd H p (.lst xs))
theorem g_tup (h : ts σ H fun xs H1 => NewT xs H1 Q) : tTup ts σ H Q := h
theorem g_lst (h : ts σ H fun xs H1 => NewL xs H1 Q) : tLst ts σ H Q := h
theorem n_tup {xs : List V} (hz : xs.length ≤ sizeLine) (h : ∀ p H', H p = none → Same H H' → H' p = some (.tup xs) → Q (.ref p) H') : NewT xs H Q := ⟨hz, fun p hp => h p _ hp (same_new hp) upd_same⟩
theorem n_lst {xs : List V} (hz : xs.length ≤ sizeLine) (h : ∀ p H', H p = none → Same H H' → H' p = some (.lst xs) → Q (.ref p) H') : NewL xs H Q := ⟨hz, fun p hp => h p _ hp (same_new hp) upd_same⟩
theorem g_seq (h : t { D with nx := u D } σ H) : tSeq t u D σ H := h
theorem g_next (h : D.nx σ H) : tNext D σ H := h
theorem g_asg {g : TG} (h : te σ H fun x H1 => g x σ H1 D.nx) : tAsg te g D σ H := h
theorem g_name {Q : L2.St → Hp → Prop} {σ' : L2.St} (e : σ.set i (some v) = σ') (h : Q σ' H) : gName i v σ H Q := by subst e; exact h
theorem g_ret (h : te σ H D.rt) : tRet te D σ H := h
theorem g_drop (h : te σ H fun _ H1 => D.nx σ H1) : tDrop te D σ H := h
theorem g_ifS (h : tA σ H fun b H1 => if b = true then t D σ H1 else u D σ H1) : tIfS tA t u D σ H := h
theorem if_T {c : Bool} {A B : Prop} (e : c = true) (h : A) : if c = true then A else B := by rw [if_pos e]; exact h
theorem if_F {c : Bool} {A B : Prop} (e : c = false) (h : B) : if c = true then A else B := by rw [if_neg (by rw [e]; decide)]; exact h
theorem if_C {c : Bool} {A B : Prop} (h1 : c = true → A) (h2 : c = false → B) : if c = true then A else B := by
  cases c with
  | true => exact iteT (h1 rfl)
  | false => exact iteF (h2 rfl)
theorem if_D {p : Prop} [Decidable p] {A B : Prop} (h1 : p → A) (h2 : ¬ p → B) : if decide p = true then A else B := by
  by_cases c : p
  · rw [if_pos (decide_eq_true c)]; exact h1 c
  · rw [if_neg (by rw [decide_eq_false c]; decide)]; exact h2 c
theorem if_ND {p : Prop} [Decidable p] {A B : Prop} (h1 : ¬ p → A) (h2 : p → B) : if (!decide p) = true then A else B := by
  by_cases c : p
  · rw [if_neg (by rw [decide_eq_true c]; decide)]; exact h2 c
  · rw [if_pos (by rw [decide_eq_false c]; decide)]; exact h1 c

/-! lists changed, asked -/
theorem atI_c0 {α : Type} {a : α} {l : List α} : atI (a :: l) 0 = some a := atI_nat (j := 0) rfl
theorem atI_c1 {α : Type} {a b : α} {l : List α} : atI (a :: b :: l) 1 = some b := atI_nat (j := 1) rfl
theorem atI_c2 {α : Type} {a b c : α} {l : List α} : atI (a :: b :: c :: l) 2 = some c := atI_nat (j := 2) rfl
theorem atI_c3 {α : Type} {a b c d : α} {l : List α} : atI (a :: b :: c :: d :: l) 3 = some d := atI_nat (j := 3) rfl
theorem atI_c4 {α : Type} {a b c d e : α} {l : List α} : atI (a :: b :: c :: d :: e :: l) 4 = some e := atI_nat (j := 4) rfl
theorem atI_c5 {α : Type} {a b c d e f : α} {l : List α} : atI (a :: b :: c :: d :: e :: f :: l) 5 = some f := atI_nat (j := 5) rfl
theorem atI_i {α : Type} {l : List α} {i : Int} {x : α} (h0 : 0 ≤ i) (h : l[i.toNat]? = some x) : atI l i = some x := by
  have := atI_nat h
  rwa [Int.toNat_of_nonneg h0] at this
theorem ixN_i {n : Nat} {i : Int} (h0 : 0 ≤ i) (h : i < n) : ixN n i = some i.toNat := by unfold ixN; rw [if_pos h0, if_pos h]
theorem seqIx_i {n : Nat} {i : Int} (h0 : 0 ≤ i) (h : i < n) : seqIndex? i n = some i.toNat := (ixN_seq (ixN_i h0 h)).1
def Ty (K : PySem.W.Frag) (T : String) (x : V) (H : Hp) (P : Prop) : Prop := tyV K T x H ∧ P
theorem g_bm {T : String} {r : V → List V → Hp → VK → Prop} {to : TE} (h : to σ H fun x H1 => Ty K T x H1 (ts σ H1 fun xs H2 => r x xs H2 Q)) : tBM K T r to ts σ H Q := h
theorem g_bm0 {T : String} {r : V → List V → Hp → VK → Prop} {to : TE} (h : to σ H fun x H1 => Ty K T x H1 (r x [] H1 Q)) : tBM0 K T r to σ H Q := h
theorem g_tyL {p : Addr} {xs : List V} {P : Prop} (h1 : SqL K H p xs) (h : P) : Ty K "list" (.ref p) H P := ⟨.inl ⟨rfl, _, h1⟩, h⟩
def TyS (x : V) (P : Prop) : Prop := (∃ a, x = .str a) ∧ P
theorem g_m1 {r : V → List V → Hp → VK → Prop} {to : TE} (h : to σ H fun x H1 => TyS x (te σ H1 fun y H2 => r x [y] H2 Q)) : tM1 r to te σ H Q := h
theorem g_m0 {r : V → List V → Hp → VK → Prop} {to : TE} (h : to σ H fun x H1 => TyS x (r x [] H1 Q)) : tM0 r to σ H Q := h
theorem g_tyS {z : Str} {P : Prop} (h : P) : TyS (.str z) P := ⟨⟨z, rfl⟩, h⟩
theorem g_append {l : Addr} {xs : List V} {y : V} (h1 : H l = some (.lst xs)) (hz : xs.length < sizeLine) (h : ∀ H', Keep l H H' → H' l = some (.lst (xs ++ [y])) → Q .non H') : rAppend (.ref l) [y] H Q := ⟨l, xs, y, rfl, rfl, h1, hz, h _ keep_upd upd_same⟩
theorem g_extend {l b : Addr} {xs zs : List V} (h1 : H l = some (.lst xs)) (h2 : H b = some (.lst zs)) (hz : xs.length + zs.length ≤ sizeLine) (h : ∀ H', Keep l H H' → H' l = some (.lst (xs ++ zs)) → Q .non H') : rExtend (.ref l) [.ref b] H Q := ⟨l, b, xs, zs, rfl, rfl, h1, h2, hz, h _ keep_upd upd_same⟩
theorem g_popAt {l : Addr} {xs : List V} {i : Int} {y : V} (h1 : H l = some (.lst xs)) (h0 : 0 ≤ i) (hi : xs[i.toNat]? = some y) (hz : xs.length ≤ sizeLine) (h : ∀ H', Keep l H H' → H' l = some (.lst (xs.eraseIdx i.toNat)) → Q y H') : rPopAt (.ref l) [.int i] H Q := by
  have hl : i.toNat < xs.length := (List.getElem?_eq_some_iff.mp hi).1
  have hs : (sizeLine : Nat) < 2 ^ 63 := line63
  exact ⟨l, xs, i, i.toNat, y, rfl, rfl, h1, by omega, by omega, seqIx_i h0 (by omega), hi, h _ keep_upd upd_same⟩
theorem g_pop {l : Addr} {xs : List V} {y : V} (h1 : H l = some (.lst xs)) (hi : xs[xs.length - 1]? = some y) (h : ∀ H', Keep l H H' → H' l = some (.lst xs.dropLast) → Q y H') : rPop (.ref l) [] H Q := ⟨l, xs, y, rfl, rfl, h1, hi, h _ keep_upd upd_same⟩
theorem g_gsub {Q : L2.St → Hp → Prop} {to ti : TE} {rs : TSet} (h : to σ H fun o H1 => ti σ H1 fun i H2 => rs o i v H2 fun H3 => Q σ H3) : gSub to ti rs v σ H Q := h
theorem g_setL {p : Addr} {xs : List V} {k : Int} {j : Nat} {Q : Hp → Prop} (h1 : H p = some (.lst xs)) (hj : ixN xs.length k = some j) (h : ∀ H', Keep p H H' → H' p = some (.lst (xs.set j v)) → Q H') : rSetL (.ref p) (.int k) v H Q := ⟨p, xs, k, j, rfl, rfl, h1, hj, h _ keep_upd upd_same⟩
/-! slices -/
theorem g_sl {r : V → Option Int → Option Int → Hp → VK → Prop} {tl th : TO} (h : te σ H fun x H1 => tl σ H1 fun l H2 => th σ H2 fun u H3 => r x l u H3 Q) : tSl r te tl th σ H Q := h
theorem g_noPart {Q : Option Int → Hp → Prop} (h : Q none H) : tNoPart σ H Q := h
def PartI (Q : Option Int → Hp → Prop) : VK := fun x H => ∃ i, x = .int i ∧ Q (some i) H
theorem g_part {Q : Option Int → Hp → Prop} (h : te σ H (PartI Q)) : tPart te σ H Q := h
theorem g_partI {i : Int} {Q : Option Int → Hp → Prop} (h : Q (some i) H) : PartI Q (.int i) H := ⟨i, rfl, h⟩
theorem g_slL {a : Addr} {xs : List V} {lo hi : Option Int} (h1 : SqL K H a xs) (h : ∀ p H', H p = none → Same H H' → H' p = some (.lst (cutV xs lo hi)) → Q (.ref p) H') : rSlL K (.ref a) lo hi H Q := ⟨a, xs, rfl, h1, fun p hp => h p _ hp (same_new hp) upd_same⟩
theorem cutV_all (xs : List V) : cutV xs none none = xs := by unfold cutV; rw [HT.sIx_none, HT.sIx_none]; simp
theorem cutV_to (xs : List V) (k : Nat) : cutV xs none (some (k : Int)) = xs.take k := by
  unfold cutV
  rw [HT.sIx_none, HT.sIx_nat, Nat.sub_zero, List.drop_zero]
  rcases Nat.le_total k xs.length with le | ge
  · congr 1
    exact Nat.min_eq_left le
  · rw [Nat.min_eq_right ge, List.take_length, List.take_of_length_le ge]
theorem cutV_from (xs : List V) (k : Nat) : cutV xs (some (k : Int)) none = xs.drop k := by
  unfold cutV
  rw [HT.sIx_none, HT.sIx_nat]
  rcases Nat.le_total k xs.length with le | ge
  · have z := Nat.min_eq_left le
    rw [z, ← List.length_drop, List.take_length]
  · rw [Nat.min_eq_right ge, List.drop_length, List.drop_of_length_le ge, List.take_nil]
theorem g_slT {a : Addr} {xs : List V} {lo hi : Option Int} (h1 : SqT K H a xs) (h : ∀ p H', Same H H' → SqT K H' p (cutV xs lo hi) → Q (.ref p) H') : rSlA K (.ref a) lo hi H Q := by
  refine ⟨a, xs, rfl, h1, fun hw => ?_, fun hw p hp => h p _ (same_new hp) (SqT.of upd_same)⟩
  refine h a H (Same.refl H) ?_
  have e : cutV xs lo hi = xs := by
    unfold cutV; rw [hw.1, hw.2]; simp
  rw [e]; exact h1
/-! loops -/
/-- the turns of a for over J -/
def LoopJ (J : It) (g : TG) (tb : TS) (D : Ends) (σ : L2.St) (H : Hp) : Prop := tFor (fun _ H1 R => R J H1) g tb D σ H
variable {g : TG} {tbs : TS}
def ItL (K : PySem.W.Frag) (g : TG) (tb : TS) (D : Ends) (σ : L2.St) : VK := fun x H1 => ∃ a, x = .ref a ∧ (∃ xs, SqL K H1 a xs) ∧ LoopJ (Itl K a) g tb D σ H1
theorem g_forL (h : te σ H (ItL K g tbs D σ)) : tFor (iList K te) g tbs D σ H := h
theorem n_forL {a : Addr} {xs : List V} (h1 : SqL K H a xs) (Pv : Nat → L2.St → Hp → Prop) (h0 : Pv 0 σ H) (hl : ∀ i σ H, Pv i σ H → SqL K H a xs)
    (hs : ∀ i x σ H, xs[i]? = some x → Pv i σ H → g x σ H fun σ2 H2 => tbs { D with nx := Pv (i + 1), ct := Pv (i + 1), bk := D.nx } σ2 H2) (hd : ∀ σ H, Pv xs.length σ H → D.nx σ H) : ItL K g tbs D σ (.ref a) H :=
  ⟨a, rfl, ⟨xs, h1⟩, for_list Pv h0 (fun i σ H _ p => hl i σ H p) hs hd⟩
def ItT (K : PySem.W.Frag) (g : TG) (tb : TS) (D : Ends) (σ : L2.St) : VK := fun x H1 => ∃ a, x = .ref a ∧ (∃ xs, SqT K H1 a xs) ∧ LoopJ (Itt K a) g tb D σ H1
theorem g_forT (h : te σ H (ItT K g tbs D σ)) : tFor (iTup K te) g tbs D σ H := h
theorem n_forT {a : Addr} {xs : List V} (h1 : SqT K H a xs) (Pv : Nat → L2.St → Hp → Prop) (h0 : Pv 0 σ H) (hl : ∀ i σ H, Pv i σ H → SqT K H a xs)
    (hs : ∀ i x σ H, xs[i]? = some x → Pv i σ H → g x σ H fun σ2 H2 => tbs { D with nx := Pv (i + 1), ct := Pv (i + 1), bk := D.nx } σ2 H2) (hd : ∀ σ H, Pv xs.length σ H → D.nx σ H) : ItT K g tbs D σ (.ref a) H :=
  ⟨a, rfl, ⟨xs, h1⟩, for_tup Pv h0 (fun i σ H _ p => hl i σ H p) hs hd⟩
def ItS (g : TG) (tb : TS) (D : Ends) (σ : L2.St) : VK := fun x H1 => ∃ z, x = .str z ∧ LoopJ (Its z) g tb D σ H1
theorem g_forS (h : te σ H (ItS g tbs D σ)) : tFor (iStr te) g tbs D σ H := h
theorem n_forS {z : Str} (Pv : Nat → L2.St → Hp → Prop) (h0 : Pv 0 σ H)
    (hs : ∀ i c σ H, z.cps[i]? = some c → Pv i σ H → g (.str ⟨#[c]⟩) σ H fun σ2 H2 => tbs { D with nx := Pv (i + 1), ct := Pv (i + 1), bk := D.nx } σ2 H2) (hd : ∀ σ H, Pv z.cps.size σ H → D.nx σ H) : ItS g tbs D σ (.str z) H :=
  ⟨z, rfl, for_it (walk_str (z := z)) Pv h0 (fun _ _ _ _ _ => trivial) (fun i x σ H H' hi p ⟨e, c, hc, ex⟩ => by subst e ex; exact hs i c σ _ hc p) hd⟩
def ItR1 (g : TG) (tb : TS) (D : Ends) (σ : L2.St) (vs : List V) (H1 : Hp) : Prop := ∃ j, vs = [.int j] ∧ -(2 ^ 62) ≤ j ∧ j < 2 ^ 62 ∧ LoopJ (Itr 0 j.toNat) g tb D σ H1
theorem g_forR1 (h : ts σ H (ItR1 g tbs D σ)) : tFor (iRng1 ts) g tbs D σ H := h
theorem n_forR1 {j : Int} (hj : -(2 ^ 62) ≤ j) (hk : j < 2 ^ 62) (Pv : Nat → L2.St → Hp → Prop) (h0 : Pv 0 σ H)
    (hs : ∀ (i : Nat) σ H, i < j.toNat → Pv i σ H → g (.int i) σ H fun σ2 H2 => tbs { D with nx := Pv (i + 1), ct := Pv (i + 1), bk := D.nx } σ2 H2) (hd : ∀ σ H, Pv j.toNat σ H → D.nx σ H) : ItR1 g tbs D σ [.int j] H :=
  ⟨j, rfl, hj, hk, for_range Pv h0 (fun i σ H hi p => by rw [Int.zero_add]; exact hs i σ H hi p) hd⟩
def ItR2 (g : TG) (tb : TS) (D : Ends) (σ : L2.St) (vs : List V) (H1 : Hp) : Prop := ∃ lo hi, vs = [.int lo, .int hi] ∧ (-(2 ^ 62) ≤ lo ∧ lo < 2 ^ 62 ∧ -(2 ^ 62) ≤ hi ∧ hi < 2 ^ 62) ∧ LoopJ (Itr lo (hi - lo).toNat) g tb D σ H1
theorem g_forR2 (h : ts σ H (ItR2 g tbs D σ)) : tFor (iRng2 ts) g tbs D σ H := h
theorem n_forR2 {lo hi : Int} (h1 : -(2 ^ 62) ≤ lo) (h2 : lo < 2 ^ 62) (h3 : -(2 ^ 62) ≤ hi) (h4 : hi < 2 ^ 62) (Pv : Nat → L2.St → Hp → Prop) (h0 : Pv 0 σ H)
    (hs : ∀ (i : Nat) σ H, i < (hi - lo).toNat → Pv i σ H → g (.int (lo + i)) σ H fun σ2 H2 => tbs { D with nx := Pv (i + 1), ct := Pv (i + 1), bk := D.nx } σ2 H2) (hd : ∀ σ H, Pv (hi - lo).toNat σ H → D.nx σ H) : ItR2 g tbs D σ [.int lo, .int hi] H :=
  ⟨lo, hi, rfl, ⟨h1, h2, h3, h4⟩, for_range Pv h0 hs hd⟩
def ItET (K : PySem.W.Frag) (g : TG) (tb : TS) (D : Ends) (σ : L2.St) (vs : List V) (H1 : Hp) : Prop := ∃ a xs, vs = [.ref a] ∧ SqT K H1 a xs ∧ LoopJ (IteT K a xs.length) g tb D σ H1
theorem g_forET (h : ts σ H (ItET K g tbs D σ)) : tFor (iEnumT K ts) g tbs D σ H := h
theorem n_forET {a : Addr} {xs : List V} (h1 : SqT K H a xs) (Pv : Nat → L2.St → Hp → Prop) (h0 : Pv 0 σ H) (hl : ∀ i σ H, Pv i σ H → SqT K H a xs)
    (hs : ∀ (i : Nat) x T σ H H', xs[i]? = some x → Pv i σ H → H T = none → Same H H' → H' T = some (.tup [.int i, x]) → g (.ref T) σ H' fun σ2 H2 => tbs { D with nx := Pv (i + 1), ct := Pv (i + 1), bk := D.nx } σ2 H2) (hd : ∀ σ H, Pv xs.length σ H → D.nx σ H) : ItET K g tbs D σ [.ref a] H :=
  ⟨a, xs, rfl, h1, for_it (walk_enumT (K := K) (a := a) (xs := xs)) Pv h0 (fun i σ H _ p => hl i σ H p) (fun i x σ H H' hi p ⟨T, u, y, ex, hn, eH, e1, e2⟩ => by
    have eu := Option.some.inj e1
    subst ex eH eu
    exact hs i y T σ H _ e2 p hn (same_new hn) upd_same) hd⟩
/-- unpack a pair -/
theorem g_gtup {n : Nat} {t : TGs} {a : Addr} {xs : List V} {Q : L2.St → Hp → Prop} (h1 : SqT K H a xs) (h2 : xs.length = n) (h : t xs σ H Q) : gTup K n t (.ref a) σ H Q := ⟨a, xs, rfl, h1, h2, h⟩
theorem g_gcons {t : TG} {u : TGs} {x : V} {r : List V} {Q : L2.St → Hp → Prop} (h : t x σ H fun σ' H' => u r σ' H' Q) : gCons t u (x :: r) σ H Q := ⟨x, r, rfl, h⟩
theorem g_gnil {Q : L2.St → Hp → Prop} (h : Q σ H) : gNil [] σ H Q := ⟨rfl, h⟩
/-! comprehensions -/
/-- the turns of a list comprehension over J -/
def LcJ (J : It) (g : TG) (tt : TT) (te : TE) (vs : List Nat) (σ : L2.St) (Q : VK) (H : Hp) : Prop := tLc (fun _ H1 R => R J H1) g tt te vs σ H Q
/-- what a turn of a comprehension owes: the list so far stands at D -/
def LcEnd (D : Addr) (P : Hp → V → Prop) : VK := fun y H4 => ∃ acc, H4 D = some (.lst acc) ∧ acc.length < sizeLine ∧ P (upd H4 D (.lst (acc ++ [y]))) y
variable {tt : TT} {vs : List Nat} {ti : TE}
def LcL (K : PySem.W.Frag) (g : TG) (tt : TT) (te : TE) (vs : List Nat) (σ : L2.St) (Q : VK) : VK := fun x H1 => ∃ a, x = .ref a ∧ (∃ xs, SqL K H1 a xs) ∧ LcJ (Itl K a) g tt te vs σ Q H1
theorem g_lcL (h : ti σ H (LcL K g tt te vs σ Q)) : tLc (iList K ti) g tt te vs σ H Q := h
def LcT (K : PySem.W.Frag) (g : TG) (tt : TT) (te : TE) (vs : List Nat) (σ : L2.St) (Q : VK) : VK := fun x H1 => ∃ a, x = .ref a ∧ (∃ xs, SqT K H1 a xs) ∧ LcJ (Itt K a) g tt te vs σ Q H1
theorem g_lcT (h : ti σ H (LcT K g tt te vs σ Q)) : tLc (iTup K ti) g tt te vs σ H Q := h
def LcS (g : TG) (tt : TT) (te : TE) (vs : List Nat) (σ : L2.St) (Q : VK) : VK := fun x H1 => ∃ z, x = .str z ∧ LcJ (Its z) g tt te vs σ Q H1
theorem g_lcS (h : ti σ H (LcS g tt te vs σ Q)) : tLc (iStr ti) g tt te vs σ H Q := h
def LcR1 (g : TG) (tt : TT) (te : TE) (us : List Nat) (σ : L2.St) (Q : VK) (vs : List V) (H1 : Hp) : Prop := ∃ j, vs = [.int j] ∧ -(2 ^ 62) ≤ j ∧ j < 2 ^ 62 ∧ LcJ (Itr 0 j.toNat) g tt te us σ Q H1
theorem g_lcR1 (h : ts σ H (LcR1 g tt te vs σ Q)) : tLc (iRng1 ts) g tt te vs σ H Q := h

def NxP (P : Nat → List V → Hp → Prop) (C : Addr) (i : Nat) : Hp → Prop := fun H => ∃ acc, acc.length ≤ i ∧ H C = some (.lst acc) ∧ P i acc H
def LcK (C : Addr) (Nx : Hp → Prop) : VK := fun y H4 => ∃ acc, H4 C = some (.lst acc) ∧ acc.length < sizeLine ∧ Nx (upd H4 C (.lst (acc ++ [y])))
def LcIf (C : Addr) (te : TE) (σ2 : L2.St) (Nx : Hp → Prop) : Bool → Hp → Prop := fun b H3 => if b = true then te σ2 H3 (LcK C Nx) else Nx H3
theorem g_lcIfT {C : Addr} {Nx : Hp → Prop} (h : te σ H (LcK C Nx)) : LcIf C te σ Nx true H := iteT h
theorem g_lcIfF {C : Addr} {Nx : Hp → Prop} (h : Nx H) : LcIf C te σ Nx false H := iteF h
theorem g_yes {Q : Bool → Hp → Prop} (h : Q true H) : tYes σ H Q := h
theorem n_lcK {C : Addr} {P : Nat → List V → Hp → Prop} {i : Nat} {acc : List V} {y : V} (h1 : H C = some (.lst acc)) (hi : acc.length < i) (hn : i ≤ 1000000) (h : ∀ H', Keep C H H' → H' C = some (.lst (acc ++ [y])) → P i (acc ++ [y]) H') : LcK C (NxP P C i) y H :=
  ⟨acc, h1, Nat.lt_of_lt_of_le (Nat.lt_of_lt_of_le hi hn) (by decide), acc ++ [y], by rw [List.length_append]; exact hi, upd_same, h _ keep_upd upd_same⟩
theorem n_lcN {C : Addr} {P : Nat → List V → Hp → Prop} {i : Nat} {acc : List V} (h1 : H C = some (.lst acc)) (hi : acc.length ≤ i) (h : P i acc H) : NxP P C i H := ⟨acc, hi, h1, h⟩
/-- the comprehension's turns, one after another: at turn i the list at C is acc; P i acc H what else holds -/
theorem lc_run {J : It} {n : Nat} {G : Hp → Prop} {Y : Nat → Hp → V → Hp → Prop} (w : Walk J n G Y) (P : Nat → List V → Hp → Prop) {H1 : Hp}
    (h0 : ∀ C H', H1 C = none → Same H1 H' → H' C = some (.lst []) → P 0 [] H')
    (hG : ∀ i acc H C, H1 C = none → H C = some (.lst acc) → P i acc H → G H)
    (hs : ∀ C i acc x H H', H1 C = none → i < n → acc.length ≤ i → H C = some (.lst acc) → P i acc H → Y i H x H' → g x (wipe σ vs) H' fun σ2 H2 => wipe σ2 vs = wipe σ vs ∧ tt σ2 H2 (LcIf C te σ2 (NxP P C (i + 1))))
    (hd : ∀ C acc H, H1 C = none → H C = some (.lst acc) → P n acc H → Q (.ref C) H) : LcJ J g tt te vs σ Q H1 := by
  intro C hC
  refine ⟨fun i m H => m = n - i ∧ i ≤ n ∧ NxP P C i H, ⟨n, by simp, Nat.zero_le _, [], Nat.le_refl _, upd_same, h0 C _ hC (same_new hC) upd_same⟩, ?_⟩
  rintro i m H ⟨rfl, hi, acc, hl, hC', p⟩
  have q := hG i acc H C hC hC' p
  by_cases hlt : i < n
  · exact .inr ⟨w.goes i H hlt q, NxP P C (i + 1), fun H' q' => ⟨n - (i + 1), by omega, rfl, hlt, q'⟩, fun x H' y => hs C i acc x H H' hC hlt hl hC' p (w.yields i H x H' hlt q y)⟩
  · have e : i = n := by omega
    subst e
    exact .inl ⟨w.stops H q, hd C acc H hC hC' p⟩
theorem n_lcL {a : Addr} {xs : List V} (h1 : SqL K H a xs) (h : LcJ (Itl K a) g tt te vs σ Q H) : LcL K g tt te vs σ Q (.ref a) H := ⟨a, rfl, ⟨xs, h1⟩, h⟩
theorem n_lcT {a : Addr} {xs : List V} (h1 : SqT K H a xs) (h : LcJ (Itt K a) g tt te vs σ Q H) : LcT K g tt te vs σ Q (.ref a) H := ⟨a, rfl, ⟨xs, h1⟩, h⟩
theorem n_lcS {z : Str} (h : LcJ (Its z) g tt te vs σ Q H) : LcS g tt te vs σ Q (.str z) H := ⟨z, rfl, h⟩
theorem n_lcR1 {j : Int} (h1 : -(2 ^ 62) ≤ j) (h2 : j < 2 ^ 62) (h : LcJ (Itr 0 j.toNat) g tt te vs σ Q H) : LcR1 g tt te vs σ Q [.int j] H := ⟨j, rfl, h1, h2, h⟩
/-! fields -/
def Fl (K : PySem.W.Frag) (f : Str) (Q : VK) : VK := fun x H1 => ∃ a C dx fs v, x = .ref a ∧ H1 a = some (.ins C dx fs) ∧ Cls K C ∧ NoAttr K C f ∧ fs.lookup f = some v ∧ Q v H1
theorem g_fld {f : Str} (h : ta σ H (Fl K f Q)) : tFld K ta f σ H Q := h
theorem n_fld {a C dx : Addr} {fs : List (Str × V)} {f : Str} {v : V} (h1 : H a = some (.ins C dx fs)) (h2 : Cls K C) (h3 : NoAttr K C f) (h4 : fs.lookup f = some v) (h : Q v H) : Fl K f Q (.ref a) H := ⟨a, C, dx, fs, v, rfl, h1, h2, h3, h4, h⟩
def Pr (C : Addr) (sp : Sp) (Q : VK) : VK := fun x H1 => ∃ a dx fs, x = .ref a ∧ H1 a = some (.ins C dx fs) ∧ sp [.ref a] H1 Q E0
theorem g_prop {C : Addr} {sp : Sp} (h : ta σ H (Pr C sp Q)) : tPropR C sp ta σ H Q := h
theorem n_prop {a C dx : Addr} {fs : List (Str × V)} {sp : Sp} (h1 : H a = some (.ins C dx fs)) (h : sp [.ref a] H Q E0) : Pr C sp Q (.ref a) H := ⟨a, dx, fs, rfl, h1, h⟩
def Mt (C : Addr) (m : Str) (sp : Sp) (E : XK) (ts : TA) (σ : L2.St) (Q : VK) : VK := fun x H1 => ∃ a dx fs, x = .ref a ∧ H1 a = some (.ins C dx fs) ∧ fs.lookup m = none ∧ ts σ H1 fun vs H2 => sp (x :: vs) H2 Q E
theorem g_meth {C : Addr} {m : Str} {sp : Sp} {E : XK} (h : ta σ H (Mt C m sp E ts σ Q)) : tMethR C m sp E ta ts σ H Q := h
theorem n_meth {a C dx : Addr} {fs : List (Str × V)} {m : Str} {sp : Sp} {E : XK} (h1 : H a = some (.ins C dx fs)) (h2 : fs.lookup m = none) (h : ts σ H fun vs H2 => sp (.ref a :: vs) H2 Q E) : Mt C m sp E ts σ Q (.ref a) H := ⟨a, dx, fs, rfl, h1, h2, h⟩
def MkK (C : Addr) (sp : Sp) (E : XK) (Q : VK) (vs : List V) (H1 : Hp) : Prop := ∀ x dx, H1 x = none → H1 dx = none → dx ≠ x → sp (.ref x :: vs) (upd (upd H1 dx (.own x)) x (.ins C dx [])) (fun v H2 => v = .non ∧ Q (.ref x) H2) E
theorem g_make {C : Addr} {sp : Sp} {E : XK} (h : ts σ H (MkK C sp E Q)) : StX.tMakeR C sp E ts σ H Q := h
theorem n_make {C : Addr} {sp : Sp} {E : XK} {vs : List V} (h : ∀ x dx H', H x = none → H dx = none → dx ≠ x → Same H H' → H' x = some (.ins C dx []) → H' dx = some (.own x) → sp (.ref x :: vs) H' (fun v H2 => v = .non ∧ Q (.ref x) H2) E) : MkK C sp E Q vs H := fun x dx hx hd ne =>
  h x dx _ hx hd ne (fun b o e => by rw [upd_ne (ne_of_none e hx), upd_ne (ne_of_none e hd)]; exact e) upd_same (by rw [upd_ne ne, upd_same])
def St1 (K : PySem.W.Frag) (Q : List V → Hp → Prop) : VK := fun y H1 => ∃ a xs, y = V.ref a ∧ (SqT K H1 a xs ∨ SqL K H1 a xs) ∧ Q xs H1
theorem g_star1 {Q : List V → Hp → Prop} (h : te σ H (St1 K Q)) : tStar1 K te σ H Q := h
theorem n_star1 {a : Addr} {xs : List V} {Q : List V → Hp → Prop} (h1 : SqT K H a xs ∨ SqL K H a xs) (h : Q xs H) : St1 K Q (.ref a) H := ⟨a, xs, rfl, h1, h⟩
def StA (K : PySem.W.Frag) (t : TA) (σ : L2.St) (Q : List V → Hp → Prop) : VK := fun x H1 => ∃ p xs, x = V.ref p ∧ (SqT K H1 p xs ∨ SqL K H1 p xs) ∧ t σ H1 fun ys H2 => Q (xs ++ ys) H2
theorem g_star {Q : List V → Hp → Prop} (h : te σ H (StA K ts σ Q)) : StX.tStar K te ts σ H Q := h
theorem n_star {a : Addr} {xs : List V} {Q : List V → Hp → Prop} (h1 : SqT K H a xs ∨ SqL K H a xs) (h : ts σ H fun ys H2 => Q (xs ++ ys) H2) : StA K ts σ Q (.ref a) H := ⟨a, xs, rfl, h1, h⟩
def SFl (K : PySem.W.Frag) (f : Str) (y : V) (D : Ends) (σ : L2.St) : VK := fun x H2 => ∃ a C dx fs, x = .ref a ∧ H2 a = some (.ins C dx fs) ∧ Cls K C ∧ NoAttr K C f ∧ fs.length < 1000 ∧ D.nx σ (upd H2 a (.ins C dx (putF f y fs)))
theorem g_sfld {f : Str} {tv : TE} (h : tv σ H fun y H1 => ta σ H1 (SFl K f y D σ)) : sFld K ta tv f D σ H := h
theorem n_sfld {a C dx : Addr} {fs : List (Str × V)} {f : Str} {y : V} (h1 : H a = some (.ins C dx fs)) (h2 : Cls K C) (h3 : NoAttr K C f) (h4 : fs.length < 1000) (h : ∀ H', Keep a H H' → H' a = some (.ins C dx (putF f y fs)) → D.nx σ H') : SFl K f y D σ (.ref a) H := ⟨a, C, dx, fs, rfl, h1, h2, h3, h4, h _ keep_upd upd_same⟩

/-! words between -/
def tCutE (t : TE) : TE := fun σ H Q => ∃ Mid : V → Hp → Prop, t σ H Mid ∧ ∀ v H', Mid v H' → Q v H'
def tCutT (t : TT) : TT := fun σ H Q => ∃ Mid : Bool → Hp → Prop, t σ H Mid ∧ ∀ b H', Mid b H' → Q b H'
theorem pe_cut {e : Expr} {t : TE} (h : PE X e t) : PE X e (tCutE t) := ⟨fun pins s σ H Q I ⟨Mid, q, k⟩ => thn (h.run pins s σ H Mid I q) fun v s1 ⟨x, H1, I1, r1, q1⟩ => ⟨x, H1, I1, r1, k x H1 q1⟩⟩
theorem pt_cut {e : Expr} {t : TT} (h : PT X e t) : PT X e (tCutT t) := ⟨fun pins s σ H Q I ⟨Mid, q, k⟩ => thn (h.run pins s σ H Mid I q) fun b s1 ⟨H1, I1, q1⟩ => ⟨H1, I1, k b H1 q1⟩⟩
theorem g_cut {t u : TS} (Mid : L2.St → Hp → Prop) (h1 : t { D with nx := Mid } σ H) (h2 : ∀ σ' H', Mid σ' H' → u D σ' H') : C8.tCut t u D σ H := ⟨Mid, h1, h2⟩
theorem g_cutE {t : TE} (Mid : V → Hp → Prop) (h1 : t σ H Mid) (h2 : ∀ v H', Mid v H' → Q v H') : tCutE t σ H Q := ⟨Mid, h1, h2⟩
theorem g_cutT {t : TT} {Q : Bool → Hp → Prop} (Mid : Bool → Hp → Prop) (h1 : t σ H Mid) (h2 : ∀ b H', Mid b H' → Q b H') : tCutT t σ H Q := ⟨Mid, h1, h2⟩

/-! while -/
def WhK (Pv : Nat → L2.St → Hp → Prop) (m : Nat) (tb : TS) (D : Ends) (σ : L2.St) : Bool → Hp → Prop := fun b H1 => if b = true then ∃ N : L2.St → Hp → Prop, (∀ σ' H', N σ' H' → ∃ m', m' < m ∧ Pv m' σ' H') ∧ tb { D with nx := N, ct := N, bk := D.nx } σ H1 else D.nx σ H1
theorem n_while {c : TT} (Pv : Nat → L2.St → Hp → Prop) (m : Nat) (h0 : Pv m σ H) (hs : ∀ m σ H, Pv m σ H → c σ H (WhK Pv m tbs D σ)) : tWhile c tbs D σ H := ⟨Pv, ⟨m, h0⟩, hs⟩
theorem n_whT {Pv : Nat → L2.St → Hp → Prop} {m : Nat} (h : tbs { D with nx := fun σ' H' => ∃ m', m' < m ∧ Pv m' σ' H', ct := fun σ' H' => ∃ m', m' < m ∧ Pv m' σ' H', bk := D.nx } σ H) : WhK Pv m tbs D σ true H := iteT ⟨_, fun _ _ z => z, h⟩
theorem n_whF {Pv : Nat → L2.St → Hp → Prop} {m : Nat} (h : D.nx σ H) : WhK Pv m tbs D σ false H := iteF h

/-! a, b = x, y -/
def ParK (i j : Nat) (D : Ends) (σ : L2.St) (vs : List V) (H1 : Hp) : Prop := ∃ v w, vs = [v, w] ∧ D.nx ((σ.set i (some v)).set j (some w)) H1
theorem g_par {i j : Nat} (h : ts σ H (ParK i j D σ)) : tPar i j ts D σ H := h
theorem n_par {i j : Nat} {v w : V} {σ' : L2.St} (e : (σ.set i (some v)).set j (some w) = σ') (h : D.nx σ' H) : ParK i j D σ [v, w] H := ⟨v, w, rfl, by rw [e]; exact h⟩
def ParK3 (i j l : Nat) (D : Ends) (σ : L2.St) (vs : List V) (H1 : Hp) : Prop := ∃ u v w, vs = [u, v, w] ∧ D.nx (((σ.set i (some u)).set j (some v)).set l (some w)) H1
theorem g_par3 {i j l : Nat} (h : ts σ H (ParK3 i j l D σ)) : tPar3 i j l ts D σ H := h
theorem n_par3 {i j l : Nat} {u v w : V} {σ' : L2.St} (e : ((σ.set i (some u)).set j (some v)).set l (some w) = σ') (h : D.nx σ' H) : ParK3 i j l D σ [u, v, w] H := ⟨u, v, w, rfl, by rw [e]; exact h⟩
def AugK (i : Nat) (D : Ends) (σ : L2.St) : VK := fun z H2 => D.nx (σ.set i (some z)) H2
theorem g_aug {i : Nat} {x : V} {tip : TIp} (e : σ[i]? = some (some x)) (h : te σ H fun y H1 => tip x y H1 (AugK i D σ)) : tAug i te tip D σ H := ⟨x, e, h⟩
theorem n_aug {i : Nat} {z : V} {σ' : L2.St} (e : σ.set i (some z) = σ') (h : D.nx σ' H) : AugK i D σ z H := by subst e; exact h
theorem g_ipI {f : Int → Int → Int} {i j : Int} (h : Q (.int (f i j)) H) : ipI f (.int i) (.int j) H Q := ⟨i, j, rfl, rfl, h⟩
theorem g_rAdd {i j : Int} (h : Q (.int (i + j)) H) : rAdd (.int i) (.int j) H Q := ⟨i, j, rfl, rfl, h⟩
theorem g_rSub {i j : Int} (h : Q (.int (i - j)) H) : rSub (.int i) (.int j) H Q := ⟨i, j, rfl, rfl, h⟩
def FAK (K : PySem.W.Frag) (f : Str) (tv : TE) (rd : V → V → Hp → VK → Prop) (D : Ends) (σ : L2.St) : VK := fun x H => sFldAug K (fun _ H1 R => R x H1) tv rd f D σ H
def FAE (C a : Addr) (f : Str) (D : Ends) (σ : L2.St) : VK := fun z H3 => ∃ dx' fs', H3 a = some (.ins C dx' fs') ∧ fs'.length < 1000 ∧ D.nx σ (upd H3 a (.ins C dx' (putF f z fs')))
theorem g_fldaug {f : Str} {tv : TE} {rd : V → V → Hp → VK → Prop} (h : ta σ H (FAK K f tv rd D σ)) : sFldAug K ta tv rd f D σ H := h
theorem n_fldaug {a C dx : Addr} {fs : List (Str × V)} {f : Str} {v : V} {tv : TE} {rd : V → V → Hp → VK → Prop} (h1 : H a = some (.ins C dx fs)) (h2 : Cls K C) (h3 : NoAttr K C f) (h4 : fs.lookup f = some v) (h : tv σ H fun y H2 => rd v y H2 (FAE C a f D σ)) : FAK K f tv rd D σ (.ref a) H := ⟨a, C, dx, fs, v, rfl, h1, h2, h3, h4, h⟩
theorem n_fae {a C dx : Addr} {fs : List (Str × V)} {f : Str} {z : V} (h1 : H a = some (.ins C dx fs)) (h4 : fs.length < 1000) (h : ∀ H', Keep a H H' → H' a = some (.ins C dx (putF f z fs)) → D.nx σ H') : FAE C a f D σ z H := ⟨dx, fs, h1, h4, h _ keep_upd upd_same⟩
theorem g_minL {a : Addr} {ns : List Int} (h1 : SqL K H a (ns.map V.int)) (h2 : 0 < ns.length) (h : ∀ m, m ∈ ns → (∀ y, y ∈ ns → m ≤ y) → Q (.int m) H) : rMin K [.ref a] H Q := ⟨a, ns, rfl, h1, h2, h⟩
theorem g_maxL {a : Addr} {ns : List Int} (h1 : SqL K H a (ns.map V.int)) (h2 : 0 < ns.length) (h : ∀ m, m ∈ ns → (∀ y, y ∈ ns → y ≤ m) → Q (.int m) H) : rMax K [.ref a] H Q := ⟨a, ns, rfl, h1, h2, h⟩
theorem g_sumL {a : Addr} {ns : List Int} (h1 : SqL K H a (ns.map V.int)) (h : Q (.int ns.sum) H) : rSum K [.ref a] H Q := ⟨a, ns, rfl, h1, h⟩
theorem g_all {a : Addr} {bs : List Bool} (h1 : SqL K H a (bs.map V.bl)) (h : Q (.bl (bs.all id)) H) : rAll K [.ref a] H Q := ⟨a, bs, rfl, h1, h⟩
theorem g_any {a : Addr} {bs : List Bool} (h1 : SqL K H a (bs.map V.bl)) (h : Q (.bl (bs.any id)) H) : rAny K [.ref a] H Q := ⟨a, bs, rfl, h1, h⟩

/-! a comprehension whose i-th item is f i -/
def PMap (f : Nat → V) (H1 : Hp) : Nat → List V → Hp → Prop := fun i acc H' => Same H1 H' ∧ acc = (List.range i).map f
theorem n_mapK {f : Nat → V} {H1 : Hp} {C : Addr} {i : Nat} {y : V} (hC : H1 C = none) (h1 : Same H1 H) (h2 : H C = some (.lst ((List.range i).map f))) (e : y = f i) (hn : i < 1000000 := by omega) : LcK C (NxP (PMap f H1) C (i + 1)) y H := by
  refine n_lcK h2 (by simp) (by omega) fun H' k hc => ⟨fun b o e => k _ _ (ne_of_none e hC) (h1 _ _ e), ?_⟩
  rw [List.range_succ, List.map_append, e]; rfl
theorem lc_map {J : It} {n : Nat} {G : Hp → Prop} {Y : Nat → Hp → V → Hp → Prop} (w : Walk J n G Y) (f : Nat → V) {H1 : Hp} (hG : ∀ H, Same H1 H → G H)
    (hs : ∀ C i x H H', H1 C = none → i < n → Same H1 H → H C = some (.lst ((List.range i).map f)) → Y i H x H' → g x (wipe σ vs) H' fun σ2 H2 => wipe σ2 vs = wipe σ vs ∧ tt σ2 H2 (LcIf C te σ2 (NxP (PMap f H1) C (i + 1))))
    (hd : ∀ C H, H1 C = none → Same H1 H → H C = some (.lst ((List.range n).map f)) → Q (.ref C) H) : LcJ J g tt te vs σ Q H1 := by
  refine lc_run w (PMap f H1) (fun C H' nC s h => ⟨s, rfl⟩) (fun i acc H C nC hC ⟨s, _⟩ => hG H s) ?_ ?_
  · rintro C i acc x H H' nC hi hl hC ⟨s, rfl⟩ y
    exact hs C i x H H' nC hi s hC y
  · rintro C acc H nC hC ⟨s, rfl⟩
    exact hd C H nC s hC
theorem range_getD {α β : Type} (xs : List α) (d : α) (F : α → β) : (List.range xs.length).map (fun i => F (xs.getD i d)) = xs.map F := by
  apply List.ext_getElem
  · simp
  · intro i h1 h2
    simp at h1
    simp [List.getD, List.getElem?_eq_getElem h1]
theorem getD_of {α : Type} {xs : List α} {i : Nat} {x d : α} (h : xs[i]? = some x) : xs.getD i d = x := by simp [List.getD, h]
theorem cps_get {z : Str} {i c : Nat} (h : z.cps[i]? = some c) : z.cps.toList[i]? = some c := by simpa using h
end
end HC

/-! short words for terms -/
namespace HC
open PyProof.Rows PySem L2 PySem.Spec
theorem bt_len : bootBuiltins "len" = some (.builtin "len") := by decide +kernel
theorem bt_abs : bootBuiltins "abs" = some (.builtin "abs") := by decide +kernel
theorem bt_min : bootBuiltins "min" = some (.builtin "min") := by decide +kernel
theorem bt_max : bootBuiltins "max" = some (.builtin "max") := by decide +kernel
theorem bt_all : bootBuiltins "all" = some (.builtin "all") := by decide +kernel
theorem bt_any : bootBuiltins "any" = some (.builtin "any") := by decide +kernel
theorem bt_sum : bootBuiltins "sum" = some (.builtin "sum") := by decide +kernel
theorem bt_isinstance : bootBuiltins "isinstance" = some (.builtin "isinstance") := by decide +kernel
theorem bt_list : bootBuiltins "list" = some (.type "list") := by decide +kernel
theorem bt_tuple : bootBuiltins "tuple" = some (.type "tuple") := by decide +kernel
theorem bt_int : bootBuiltins "int" = some (.type "int") := by decide +kernel
theorem bt_str : bootBuiltins "str" = some (.type "str") := by decide +kernel
theorem bt_bool : bootBuiltins "bool" = some (.type "bool") := by decide +kernel
theorem bt_dict : bootBuiltins "dict" = some (.type "dict") := by decide +kernel
/-- the builtins' names are not the module's -/
structure Bts (mg : Str → Option Value) : Prop where
  len : mg "len" = none
  abs : mg "abs" = none
  min : mg "min" = none
  max : mg "max" = none
  all : mg "all" = none
  any : mg "any" = none
  sum : mg "sum" = none
  isinstance : mg "isinstance" = none
  list : mg "list" = none
  tuple : mg "tuple" = none
  int : mg "int" = none
  str : mg "str" = none
  bool : mg "bool" = none
  dict : mg "dict" = none
  range : mg "range" = none
  enumerate : mg "enumerate" = none
  zip : mg "zip" = none
  sorted : mg "sorted" = none
  set : mg "set" = none
def GInt (mg : Str → Option Value) (x : Str) (i : Int) : Prop := ∃ t, mg x = some (.int i t)
def GStr (mg : Str → Option Value) (x : Str) (z : Str) : Prop := ∃ t, mg x = some (.str z t)
/-- the class x (at C) has the int constant f -/
structure GCon (K : PySem.W.Frag) (mg : Str → Option Value) (x f : Str) (v : V) : Prop where
  ex : ∃ C mc u, mg x = some (.ref C) ∧ ClX.CRead K C mc ∧ ClX.CVal K C mc f v u
section
variable {X : Cx} {e e2 o : Expr} {es : List Expr} {te te2 to : TE} {ts : TA} {p pos apos tpos : Pos} {x f : Str}
theorem pe_gi {i : Int} (h : GInt X.mg x i) (hg : Gl X x := by rfl) (hd : (x == ("__debug__" : Str)) = false := by decide) : PE X (.Name x pos) (tC (.int i)) := by
  obtain ⟨t, h⟩ := h
  exact pe_glob hg h ⟨t, rfl⟩ hd
theorem pe_gs {z : Str} (h : GStr X.mg x z) (hg : Gl X x := by rfl) (hd : (x == ("__debug__" : Str)) = false := by decide) : PE X (.Name x pos) (tC (.str z)) := by
  obtain ⟨t, h⟩ := h
  exact pe_glob hg h ⟨t, rfl⟩ hd
theorem pe_gcon {v : V} (h : GCon X.K X.mg x f v) (hg : Gl X x := by rfl) (hb : attributeBase (.Name x p) f X.env (eval (.Name x p) X.env) = eval (.Name x p) X.env := by rfl) (hd : (x == ("__debug__" : Str)) = false := by decide) : PE X (.Attribute (.Name x p) f pos) (tC v) := by
  obtain ⟨C, mc, u, h1, h2, h3⟩ := h.ex
  exact ⟨fun pins s σ H Q I h => (ClX.pe_cval (pe_glob (v := .ref C) hg h1 rfl hd) hb).run pins s σ H Q I ⟨C, mc, v, u, rfl, h2, h3, h⟩⟩
theorem pe_len0 (m : Bts X.mg) (he : PE X e te) (hg : Gl X "len" := by rfl) (hs : starEach (e :: []) X.env = (false, eval e X.env) :: starEach [] X.env := by rfl) : PE X (.Call (.Name "len" p) [e] [] pos) (tCB (uLen X.K) (tCons te tNil)) :=
  pe_callB call_lenU hg m.len bt_len (pa_cons he pa_nil hs) (by decide) (by decide) hs rfl
theorem pe_len (K' : PySem.W.Frag) (m : Bts X.mg) (he : PE X e te) (hg : Gl X "len" := by rfl) (hs : starEach (e :: []) X.env = (false, eval e X.env) :: starEach [] X.env := by rfl) (hK : X.K = K' := by rfl) : PE X (.Call (.Name "len" p) [e] [] pos) (tCB (uLen K') (tCons te tNil)) := by
  subst hK
  exact pe_len0 m he hg hs
def rAbs : List V → Hp → VK → Prop := fun xs H Q => ∃ i, xs = [.int i] ∧ Q (.int (if i < 0 then -i else i)) H
theorem pe_abs (m : Bts X.mg) (he : PE X e te) (hg : Gl X "abs" := by rfl) (hs : starEach (e :: []) X.env = (false, eval e X.env) :: starEach [] X.env := by rfl) : PE X (.Call (.Name "abs" p) [e] [] pos) (tCB rAbs (tCons te tNil)) :=
  pe_callB call_abs hg m.abs bt_abs (pa_cons he pa_nil hs) (by decide) (by decide) hs rfl
def rMin2 : List V → Hp → VK → Prop := fun xs H Q => ∃ i j, xs = [.int i, .int j] ∧ Q (.int (if j < i then j else i)) H
theorem pe_min2 (m : Bts X.mg) (ha : PA X [e, e2] ts) (hc : X.calm = true := by rfl) (hg : Gl X "min" := by rfl) (he : starEach [e, e2] X.env = (false, eval e X.env) :: starEach [e2] X.env := by rfl) (hpl : (backTo pos (starEach [e2] X.env)).any (·.1) = false := by rfl) :
    PE X (.Call (.Name "min" p) [e, e2] [] pos) (tCB rMin2 ts) := pe_callB (call_min2 hc) hg m.min bt_min ha (by decide) (by decide) he hpl
theorem pe_max2 (m : Bts X.mg) (ha : PA X [e, e2] ts) (hc : X.calm = true := by rfl) (hg : Gl X "max" := by rfl) (he : starEach [e, e2] X.env = (false, eval e X.env) :: starEach [e2] X.env := by rfl) (hpl : (backTo pos (starEach [e2] X.env)).any (·.1) = false := by rfl) :
    PE X (.Call (.Name "max" p) [e, e2] [] pos) (tCB Evl.rMax2 ts) := pe_callB (call_max2 hc) hg m.max bt_max ha (by decide) (by decide) he hpl
theorem pe_min10 (m : Bts X.mg) (he : PE X e te) (hc : X.calm = true := by rfl) (hg : Gl X "min" := by rfl) (hs : starEach (e :: []) X.env = (false, eval e X.env) :: starEach [] X.env := by rfl) : PE X (.Call (.Name "min" p) [e] [] pos) (tCB (rMin X.K) (tCons te tNil)) :=
  pe_callB (cr_min hc) hg m.min bt_min (pa_cons he pa_nil hs) (by decide) (by decide) hs rfl
theorem pe_min1 (K' : PySem.W.Frag) (m : Bts X.mg) (he : PE X e te) (hc : X.calm = true := by rfl) (hg : Gl X "min" := by rfl) (hs : starEach (e :: []) X.env = (false, eval e X.env) :: starEach [] X.env := by rfl) (hK : X.K = K' := by rfl) : PE X (.Call (.Name "min" p) [e] [] pos) (tCB (rMin K') (tCons te tNil)) := by
  subst hK
  exact pe_min10 m he hc hg hs
theorem pe_max10 (m : Bts X.mg) (he : PE X e te) (hc : X.calm = true := by rfl) (hg : Gl X "max" := by rfl) (hs : starEach (e :: []) X.env = (false, eval e X.env) :: starEach [] X.env := by rfl) : PE X (.Call (.Name "max" p) [e] [] pos) (tCB (rMax X.K) (tCons te tNil)) :=
  pe_callB (cr_max hc) hg m.max bt_max (pa_cons he pa_nil hs) (by decide) (by decide) hs rfl
theorem pe_max1 (K' : PySem.W.Frag) (m : Bts X.mg) (he : PE X e te) (hc : X.calm = true := by rfl) (hg : Gl X "max" := by rfl) (hs : starEach (e :: []) X.env = (false, eval e X.env) :: starEach [] X.env := by rfl) (hK : X.K = K' := by rfl) : PE X (.Call (.Name "max" p) [e] [] pos) (tCB (rMax K') (tCons te tNil)) := by
  subst hK
  exact pe_max10 m he hc hg hs
theorem pe_sum10 (m : Bts X.mg) (he : PE X e te) (hc : X.calm = true := by rfl) (hg : Gl X "sum" := by rfl) (hs : starEach (e :: []) X.env = (false, eval e X.env) :: starEach [] X.env := by rfl) : PE X (.Call (.Name "sum" p) [e] [] pos) (tCB (rSum X.K) (tCons te tNil)) :=
  pe_callB (cr_sum hc) hg m.sum bt_sum (pa_cons he pa_nil hs) (by decide) (by decide) hs rfl
theorem pe_sum1 (K' : PySem.W.Frag) (m : Bts X.mg) (he : PE X e te) (hc : X.calm = true := by rfl) (hg : Gl X "sum" := by rfl) (hs : starEach (e :: []) X.env = (false, eval e X.env) :: starEach [] X.env := by rfl) (hK : X.K = K' := by rfl) : PE X (.Call (.Name "sum" p) [e] [] pos) (tCB (rSum K') (tCons te tNil)) := by
  subst hK
  exact pe_sum10 m he hc hg hs
theorem pe_all0 (m : Bts X.mg) (he : PE X e te) (hc : X.calm = true := by rfl) (hg : Gl X "all" := by rfl) (hs : starEach (e :: []) X.env = (false, eval e X.env) :: starEach [] X.env := by rfl) : PE X (.Call (.Name "all" p) [e] [] pos) (tCB (rAll X.K) (tCons te tNil)) :=
  pe_callB (cr_all hc) hg m.all bt_all (pa_cons he pa_nil hs) (by decide) (by decide) hs rfl
theorem pe_all (K' : PySem.W.Frag) (m : Bts X.mg) (he : PE X e te) (hc : X.calm = true := by rfl) (hg : Gl X "all" := by rfl) (hs : starEach (e :: []) X.env = (false, eval e X.env) :: starEach [] X.env := by rfl) (hK : X.K = K' := by rfl) : PE X (.Call (.Name "all" p) [e] [] pos) (tCB (rAll K') (tCons te tNil)) := by
  subst hK
  exact pe_all0 m he hc hg hs
theorem pe_any0 (m : Bts X.mg) (he : PE X e te) (hc : X.calm = true := by rfl) (hg : Gl X "any" := by rfl) (hs : starEach (e :: []) X.env = (false, eval e X.env) :: starEach [] X.env := by rfl) : PE X (.Call (.Name "any" p) [e] [] pos) (tCB (rAny X.K) (tCons te tNil)) :=
  pe_callB (cr_any hc) hg m.any bt_any (pa_cons he pa_nil hs) (by decide) (by decide) hs rfl
theorem pe_any (K' : PySem.W.Frag) (m : Bts X.mg) (he : PE X e te) (hc : X.calm = true := by rfl) (hg : Gl X "any" := by rfl) (hs : starEach (e :: []) X.env = (false, eval e X.env) :: starEach [] X.env := by rfl) (hK : X.K = K' := by rfl) : PE X (.Call (.Name "any" p) [e] [] pos) (tCB (rAny K') (tCons te tNil)) := by
  subst hK
  exact pe_any0 m he hc hg hs
def rInt1 : List V → Hp → VK → Prop := fun xs H Q => (∃ i, xs = [.int i] ∧ Q (.int i) H) ∨ ∃ k, xs = [.bl k] ∧ Q (.int (if k then 1 else 0)) H
theorem pe_int1 (m : Bts X.mg) (he : PE X e te) (hg : Gl X "int" := by rfl) (hs : starEach (e :: []) X.env = (false, eval e X.env) :: starEach [] X.env := by rfl) : PE X (.Call (.Name "int" p) [e] [] pos) (tCB rInt1 (tCons te tNil)) :=
  pe_callTy call_int1 hg m.int bt_int (pa_cons he pa_nil hs) (by decide) (by decide) hs rfl
def rListOf (K : PySem.W.Frag) : List V → Hp → VK → Prop := fun xs H Q => ∃ p ys, xs = [.ref p] ∧ (SqL K H p ys ∨ SqT K H p ys) ∧ ∀ l, H l = none → Q (.ref l) (upd H l (.lst ys))
def rTupleOf (K : PySem.W.Frag) : List V → Hp → VK → Prop := fun xs H Q => ∃ p ys, xs = [.ref p] ∧ ((SqL K H p ys ∧ ∀ l, H l = none → Q (.ref l) (upd H l (.tup ys))) ∨ (SqT K H p ys ∧ Q (.ref p) H))
theorem pe_listOf0 (m : Bts X.mg) (he : PE X e te) (hg : Gl X "list" := by rfl) (hs : starEach (e :: []) X.env = (false, eval e X.env) :: starEach [] X.env := by rfl) : PE X (.Call (.Name "list" p) [e] [] pos) (tCB (rListOf X.K) (tCons te tNil)) :=
  pe_callTy call_list_of hg m.list bt_list (pa_cons he pa_nil hs) (by decide) (by decide) hs rfl
theorem pe_listOf (K' : PySem.W.Frag) (m : Bts X.mg) (he : PE X e te) (hg : Gl X "list" := by rfl) (hs : starEach (e :: []) X.env = (false, eval e X.env) :: starEach [] X.env := by rfl) (hK : X.K = K' := by rfl) : PE X (.Call (.Name "list" p) [e] [] pos) (tCB (rListOf K') (tCons te tNil)) := by
  subst hK
  exact pe_listOf0 m he hg hs
theorem pe_tupOf0 (m : Bts X.mg) (he : PE X e te) (hg : Gl X "tuple" := by rfl) (hs : starEach (e :: []) X.env = (false, eval e X.env) :: starEach [] X.env := by rfl) : PE X (.Call (.Name "tuple" p) [e] [] pos) (tCB (rTupleOf X.K) (tCons te tNil)) :=
  pe_callTy call_tuple_of hg m.tuple bt_tuple (pa_cons he pa_nil hs) (by decide) (by decide) hs rfl
theorem pe_tupOf (K' : PySem.W.Frag) (m : Bts X.mg) (he : PE X e te) (hg : Gl X "tuple" := by rfl) (hs : starEach (e :: []) X.env = (false, eval e X.env) :: starEach [] X.env := by rfl) (hK : X.K = K' := by rfl) : PE X (.Call (.Name "tuple" p) [e] [] pos) (tCB (rTupleOf K') (tCons te tNil)) := by
  subst hK
  exact pe_tupOf0 m he hg hs
/-- isinstance(e, T), T a built-in class -/
theorem pe_isiB0 {T : String} {n : Str} (m : Bts X.mg) (hn : X.mg n = none) (hb : bootBuiltins n = some (.type T)) (he : PE X e te) (hg : Gl X "isinstance" := by rfl) (hg2 : Gl X n := by rfl) (hd1 : n ≠ "__name__" := by decide) (hd2 : (n == ("__debug__" : Str)) = false := by decide)
    (hs : starEach [e, .Name n tpos] X.env = (false, eval e X.env) :: starEach [.Name n tpos] X.env := by rfl) (hs2 : starEach [.Name n tpos] X.env = (false, eval (.Name n tpos) X.env) :: starEach [] X.env := by rfl) (hpl : (backTo pos (starEach [.Name n tpos] X.env)).any (·.1) = false := by rfl) :
    PE X (.Call (.Name "isinstance" p) [e, .Name n tpos] [] pos) (tCB (rIsi X.K) (tCons te (tCons (tC (.ty T)) tNil))) :=
  pe_callB (p := p) (pos := pos) call_isi hg m.isinstance bt_isinstance (pa_cons he (pa_cons (pe_bltn (pos := tpos) (v := .ty T) hg2 hn hb rfl hd1 hd2) pa_nil hs2) hs) (by decide) (by decide) hs hpl
theorem pe_isiB (K' : PySem.W.Frag) {T : String} {n : Str} (m : Bts X.mg) (hn : X.mg n = none) (hb : bootBuiltins n = some (.type T)) (he : PE X e te) (hg : Gl X "isinstance" := by rfl) (hg2 : Gl X n := by rfl) (hd1 : n ≠ "__name__" := by decide) (hd2 : (n == ("__debug__" : Str)) = false := by decide)
    (hs : starEach [e, .Name n tpos] X.env = (false, eval e X.env) :: starEach [.Name n tpos] X.env := by rfl) (hs2 : starEach [.Name n tpos] X.env = (false, eval (.Name n tpos) X.env) :: starEach [] X.env := by rfl) (hpl : (backTo pos (starEach [.Name n tpos] X.env)).any (·.1) = false := by rfl) (hK : X.K = K' := by rfl) :
    PE X (.Call (.Name "isinstance" p) [e, .Name n tpos] [] pos) (tCB (rIsi K') (tCons te (tCons (tC (.ty T)) tNil))) := by
  subst hK
  exact pe_isiB0 m hn hb he hg hg2 hd1 hd2 hs hs2 hpl
/-- isinstance(e, C), C a class of the module -/
theorem pe_isiC0 {C : Addr} {n : Str} (m : Bts X.mg) (hn : X.mg n = some (.ref C)) (he : PE X e te) (hg : Gl X "isinstance" := by rfl) (hg2 : Gl X n := by rfl) (hd2 : (n == ("__debug__" : Str)) = false := by decide)
    (hs : starEach [e, .Name n tpos] X.env = (false, eval e X.env) :: starEach [.Name n tpos] X.env := by rfl) (hs2 : starEach [.Name n tpos] X.env = (false, eval (.Name n tpos) X.env) :: starEach [] X.env := by rfl) (hpl : (backTo pos (starEach [.Name n tpos] X.env)).any (·.1) = false := by rfl) :
    PE X (.Call (.Name "isinstance" p) [e, .Name n tpos] [] pos) (tCB (rIsi X.K) (tCons te (tCons (tC (.ref C)) tNil))) :=
  pe_callB (p := p) (pos := pos) call_isi hg m.isinstance bt_isinstance (pa_cons he (pa_cons (pe_glob (pos := tpos) (v := .ref C) hg2 hn rfl hd2) pa_nil hs2) hs) (by decide) (by decide) hs hpl
/-! methods of built-in types -/
variable {K : PySem.W.Frag} {H : Hp} {Q : VK} {σ : L2.St}
theorem pe_isiC (K' : PySem.W.Frag) {C : Addr} {n : Str} (m : Bts X.mg) (hn : X.mg n = some (.ref C)) (he : PE X e te) (hg : Gl X "isinstance" := by rfl) (hg2 : Gl X n := by rfl) (hd2 : (n == ("__debug__" : Str)) = false := by decide)
    (hs : starEach [e, .Name n tpos] X.env = (false, eval e X.env) :: starEach [.Name n tpos] X.env := by rfl) (hs2 : starEach [.Name n tpos] X.env = (false, eval (.Name n tpos) X.env) :: starEach [] X.env := by rfl) (hpl : (backTo pos (starEach [.Name n tpos] X.env)).any (·.1) = false := by rfl) (hK : X.K = K' := by rfl) :
    PE X (.Call (.Name "isinstance" p) [e, .Name n tpos] [] pos) (tCB (rIsi K') (tCons te (tCons (tC (.ref C)) tNil))) := by
  subst hK
  exact pe_isiC0 m hn he hg hg2 hd2 hs hs2 hpl
end
section
variable {X : Cx} {K : PySem.W.Frag} {H : Hp} {Q : VK} {σ : L2.St}
theorem g_abs {i : Int} (h : Q (.int (if i < 0 then -i else i)) H) : rAbs [.int i] H Q := ⟨i, rfl, h⟩
theorem g_min2 {i j : Int} (h : Q (.int (if j < i then j else i)) H) : rMin2 [.int i, .int j] H Q := ⟨i, j, rfl, h⟩
theorem g_max2 {i j : Int} (h : Q (.int (if j > i then j else i)) H) : Evl.rMax2 [.int i, .int j] H Q := ⟨i, j, rfl, h⟩
theorem g_int_i {i : Int} (h : Q (.int i) H) : rInt1 [.int i] H Q := .inl ⟨i, rfl, h⟩
theorem g_int_b {k : Bool} (h : Q (.int (if k then 1 else 0)) H) : rInt1 [.bl k] H Q := .inr ⟨k, rfl, h⟩
theorem g_listOf {p : Addr} {ys : List V} (h1 : SqL K H p ys ∨ SqT K H p ys) (h : ∀ l H', H l = none → Same H H' → H' l = some (.lst ys) → Q (.ref l) H') : rListOf K [.ref p] H Q := ⟨p, ys, rfl, h1, fun l hl => h l _ hl (same_new hl) upd_same⟩
theorem g_tupOf_l {p : Addr} {ys : List V} (h1 : SqL K H p ys) (h : ∀ l H', H l = none → Same H H' → H' l = some (.tup ys) → Q (.ref l) H') : rTupleOf K [.ref p] H Q := ⟨p, ys, rfl, .inl ⟨h1, fun l hl => h l _ hl (same_new hl) upd_same⟩⟩
theorem g_tupOf_t {p : Addr} {ys : List V} (h1 : SqT K H p ys) (h : Q (.ref p) H) : rTupleOf K [.ref p] H Q := ⟨p, ys, rfl, .inr ⟨h1, h⟩⟩
theorem g_isi {x : V} {t T : String} {b : Bool} (h1 : TyX K H x (.type t)) (h2 : kitB t T = some b) (h : Q (.bl b) H) : rIsi K [x, .ty T] H Q := ⟨x, .ty T, .type t, .type T, b, rfl, .ty T, h1, kit_ty h2, h⟩
end

section
variable {X : Cx} {K : PySem.W.Frag} {a b e e2 o value : Expr} {es : List Expr} {ta tb te to tl : TE} {ts : TA} {p pos apos cpos tpos p2 pos' : Pos} {f name : Str}
theorem op_addK (K) (hK : X.K = K := by rfl) : OpR X (binaryOp .Add) (uAdd K) := by subst hK; exact op_addU
theorem op_eqK (K) {k : Nat} (hr : Room k X.A) (hK : X.K = K := by rfl) : OpR X (compareOp .Eq) (uEq K) := by subst hK; exact op_eqU hr
theorem op_neK (K) {k : Nat} (hr : Room k X.A) (hK : X.K = K := by rfl) : OpR X (compareOp .NotEq) (uNe K) := by subst hK; exact op_neU hr
theorem op_inK (K) {k : Nat} (hr : Room k X.A) (hK : X.K = K := by rfl) : OpR X (compareOp .In) (uIn K) := by subst hK; exact op_inU hr
theorem op_notInK (K) {k : Nat} (hr : Room k X.A) (hK : X.K = K := by rfl) : OpR X (compareOp .NotIn) (uNotIn K) := by subst hK; exact op_notInU hr
theorem ix_K (K) (hK : X.K = K := by rfl) : IxR X (rIx K) := by subst hK; exact ix_seq
theorem sl_listK (K) (hK : X.K = K := by rfl) : SlR X (rSlL K) := by subst hK; exact sl_list
theorem sl_tupK (K) (hK : X.K = K := by rfl) : SlR X (rSlA K) := by subst hK; exact sl_tupA
theorem pe_fldK (K) (he : PE X e ta) (hb : attributeBase e f X.env (eval e X.env) = eval e X.env := by rfl) (hK : X.K = K := by rfl) : PE X (.Attribute e f pos) (tFld K ta f) := by subst hK; exact pe_fld he hb
theorem ps_fldK (K) (ha : PE X o ta) (hv : PE X value te) (hs : swapsWith value (some (.Attribute o f pos')) pos.line X.env = pure false := by rfl) (hK : X.K = K := by rfl) : PS X (.Assign [.Attribute o f pos'] value pos) (sFld K ta te f) := by subst hK; exact ps_fld ha hv hs
theorem ps_fldaugK (K) {op : Operator} {rd : V → V → Hp → VK → Prop} (ha : PE X o ta) (hv : PE X value te) (hop : InOp X op rd) (hK : X.K = K := by rfl) : PS X (.AugAssign (.Attribute o f tpos) op value pos) (sFldAug K ta te rd f) := by subst hK; exact ps_fldaug ha hv hop
theorem as_bm (K) {c : Expr} {T : String} {r : V → List V → Hp → VK → Prop} (h : PE X c (tBM X.K T r to ts)) (hK : X.K = K := by rfl) : PE X c (tBM K T r to ts) := by subst hK; exact h
theorem pi_listK (K) {tg : Expr} (hl : PE X e tl) (hK : X.K = K := by rfl) : PI X tg e (iList K tl) := by subst hK; exact pi_list hl
theorem pi_tupK (K) {tg : Expr} (hl : PE X e tl) (hK : X.K = K := by rfl) : PI X tg e (iTup K tl) := by subst hK; exact pi_tup hl
theorem pi_enumTK (K) {elts : List Expr} {kk : Nat} (hg : Gl X "enumerate") (hm : X.mg "enumerate" = none) (ha : PA X [e] ts) (hs : starEach [e] X.env = [(false, eval e X.env)] := by rfl) (hK : X.K = K := by rfl) :
    PI X (.Tuple elts kk tpos) (.Call (.Name "enumerate" p) [e] [] pos) (iEnumT K ts) := by subst hK; exact pi_enumT hg hm ha hs
theorem pi_enumLK (K) {elts : List Expr} {kk : Nat} (hg : Gl X "enumerate") (hm : X.mg "enumerate" = none) (ha : PA X [e] ts) (hs : starEach [e] X.env = [(false, eval e X.env)] := by rfl) (hK : X.K = K := by rfl) :
    PI X (.Tuple elts kk tpos) (.Call (.Name "enumerate" p) [e] [] pos) (iEnum K ts) := by subst hK; exact pi_enum hg hm ha hs
theorem pi_zipK (K) {elts : List Expr} {kk : Nat} (hg : Gl X "zip") (hm : X.mg "zip" = none) (ha : PA X [e, e2] ts) (hs : starEach [e, e2] X.env = (false, eval e X.env) :: starEach [e2] X.env := by rfl) (hpl : (backTo pos (starEach [e2] X.env)).any (·.1) = false := by rfl) (hK : X.K = K := by rfl) :
    PI X (.Tuple elts kk tpos) (.Call (.Name "zip" p) [e, e2] [] pos) (RZ.iZipA K ts) := by subst hK; exact RZ.pi_zipA hg hm ha hs hpl
theorem pg_tupK (K) {k : Nat} {t : TGs} {n : Nat} (hc : X.calm = true) (h : PGs X es t) (hn : (assignEach es X.env).length = n := by rfl) (hst : (assignEach es X.env).findIdx? (·.1) = none := by rfl) (hK : X.K = K := by rfl) : PG X (.Tuple es k pos) (gTup K n t) := by subst hK; exact pg_tup hc h hn hst
theorem pa_starK (K) (he : PE X e te) (hr : PA X es ts) (hs : starEach (.Starred e p :: es) X.env = (true, eval e X.env) :: starEach es X.env := by rfl) (hK : X.K = K := by rfl) : PA X (.Starred e p :: es) (StX.tStar K te ts) := by subst hK; exact StX.pa_star he hr hs
def rJoin (K : PySem.W.Frag) : V → List V → Hp → VK → Prop := fun x xs H Q => ∃ a p, ∃ ys : List Str, x = .str a ∧ xs = [.ref p] ∧ (SqL K H p (ys.map V.str) ∨ SqT K H p (ys.map V.str)) ∧ (ys.map (·.length)).sum + ys.length * a.length ≤ 16777216 ∧ Q (.str (Txt.join a ys)) H
theorem pe_joinK (K) (ho : PE X o to) (he : PE X e te) (hs : starEach [e] X.env = [(false, eval e X.env)] := by rfl) (hbase : attributeBase o "join" X.env (eval o X.env) = eval o X.env := by rfl) (hline : (apos.endLine == pos.line) = true := by rfl) (hK : X.K = K := by rfl) :
    PE X (.Call (.Attribute o "join" apos) [e] [] pos) (tM1 (rJoin K) to te) := by subst hK; exact pe_join ho he hs hbase hline
theorem pe_makeSK (K) {x : Str} {C : Addr} {k : Nat} {sp : Sp} {E : XK} (M : MakeR X.prog X.w X.K X.mg X.base x C k sp) (hr : Room (k + 1) X.A) (hx : Passes (CXW X.prog X.w) X E) (he : PE X e te) (hg : Gl X x := by rfl) (hd : (x == ("__debug__" : Str)) = false := by decide)
    (hst : starEach [.Starred e apos] X.env = [(true, eval e X.env)] := by rfl) (hK : X.K = K := by rfl) : PE X (.Call (.Name x p) [.Starred e apos] [] pos) (StX.tMakeR C sp E (tStar1 K te)) := by subst hK; exact pe_makeS M hr hx he hg hd hst
end
end HC

/-! the head's facts: defs at any address, facts by names, properties, constants of classes -/
namespace HC
open PySem PySem.W PySem.Calls PyProof.Rows He He5 L2
/-- a property's getter -/
def pgA (K : Frag) (C : Addr) (f : PySem.Str) : Addr := match recIn K (ma K C f) "property" with
  | some (.ref g :: _) => g
  | _ => 0
def propB (K : Frag) (C : Addr) (f : PySem.Str) : Bool := eqO (findIn K (.ref C) f) (some (some (.ref (ma K C f)))) && (eqO (specialIn K (.ref (ma K C f)) "__get__") (some (some (.builtin "property.__get__"))) &&
  (decide (takesIn K (.ref (ma K C f)) = some true) && (match recIn K (ma K C f) "property" with
    | some (.ref _ :: _) => true
    | _ => false)))
theorem propB_ok {K : Frag} {C : Addr} {f : PySem.Str} (h : propB K C f = true) : PropOf K C f (ma K C f) (pgA K C f) := by
  obtain ⟨h1, h⟩ := ba h
  obtain ⟨h2, h⟩ := ba h
  obtain ⟨h3, h4⟩ := ba h
  refine ⟨eqO_ok h1, eqO_ok h2, of_decide_eq_true h3, ?_⟩
  unfold pgA
  split at h4
  · rename_i g r e
    exact ⟨r, by rw [e]⟩
  · cases h4
def gconB (K : Frag) (C : Addr) (f : PySem.Str) (v : V) : Bool := readsIn K C (.type "type") && (eqO (specialIn K (.ref C) "__getattribute__") (some (some (.builtin "type.__getattribute__"))) && (match findCls K (.ref C) (.type "type") f with
  | some (.val u) => relB v u
  | _ => false))
theorem gconB_ok {K : Frag} {mg : PySem.Str → Option Value} {x f : PySem.Str} {C : Addr} {v : V} (hx : mg x = some (.ref C)) (h : gconB K C f v = true) : GCon K mg x f v := by
  obtain ⟨h1, h⟩ := ba h
  obtain ⟨h2, h3⟩ := ba h
  split at h3
  · rename_i u e
    exact ⟨C, .type "type", u, hx, ⟨h1, eqO_ok h2⟩, ⟨e, relB_ok h3⟩⟩
  · cases h3
/-- facts that He.Fa has no word for -/
inductive Fx where
  | prop (c f : PySem.Str)
  | con (c f : PySem.Str) (v : V)
def Fx.ok (K : Frag) : Fx → Bool
  | .prop c f => propB K (ga K c) f
  | .con c f v => gconB K (ga K c) f v
/-- the library's observation of facts and defs, and these facts beside it -/
def obsH (fx : List Fx) (fa : List Fa) (fn : List DefA) (K : Frag) : He.AlD × Bool := (obsA fa fn K, fx.all (Fx.ok K))
structure SaysH (fx : List Fx) (fa : List Fa) (fn : List DefA) (K : Frag) : Prop where
  base : SaysA fa fn K
  also : fx.all (Fx.ok K) = true
theorem SaysH.more {fx : List Fx} {fa : List Fa} {fn : List DefA} {K : Frag} (c : SaysH fx fa fn K) (i : Nat) {f : Fx} (at_ : fx[i]? = some f := by rfl) : f.ok K = true :=
  (List.all_eq_true.mp c.also) f (List.mem_of_getElem? at_)
def obsHG (n : Nat) (fx : List Fx) (fa : List Fa) (fn : List DefA) (g : Addr → Option Obj) : He.AlD × Bool := obsH fx fa fn (frG g (asA g n))
def hookH (n : Nat) (fx : List Fx) (fa : List Fa) (fn : List DefA) : PySem.W.Hook where
  α := He.AlD × Bool
  obs s := obsHG n fx fa fn s.heap.get?
  val _ := (valA fn, true)
  says _ h := ∃ K : Frag, K.In h ∧ SaysH fx fa fn K
  of _ _ both := ⟨_, frG_in, congrArg Prod.fst both, congrArg Prod.snd both⟩
  keeps _ _ _ here up := let ⟨K, inH, says⟩ := here; ⟨K, inH.keeps up, says⟩
theorem obsHG_eq {n : Nat} {fx : List Fx} {fa : List Fa} {fn : List DefA} {g : Addr → Option Obj} {s : Shared} (same : ∀ a, g a = s.heap.get? a) : obsHG n fx fa fn g = (hookH n fx fa fn).obs s := congrArg (obsHG n fx fa fn) (funext same)
end HC

/-! own operators, and makers with a star and a keyword -/
namespace HC
open PyProof.Rows PySem L2 PySem.Spec
section
variable {X : Cx} {k : Nat} {C : Addr} {sp : Sp} {m : Str}
/-- an instance's address, as its class asks it -/
theorem instAt {pins : List (Addr × Obj)} {s : Shared} {σ : L2.St} {H : Hp} {a C dx : Addr} {fs : List (Str × V)} (inv : L2.Inv X pins σ H s) (at_ : H a = some (.ins C dx fs)) : ∃ ox od, PySem.W.InstAt s.heap a ox C od := by
  obtain ⟨mA, obj, _⟩ := ins_get inv.hok at_
  obtain ⟨od, is, _⟩ := obj.look
  exact ⟨_, _, is⟩
/-- a value of ours is never NotImplemented -/
theorem cmpBack {pins : List (Addr × Obj)} {σ : L2.St} {Q : VK} {v : Value} {s : Shared} (h : EP X pins σ Q v s) : PySem.W.CmpBack (EP X pins σ Q) v s := by
  obtain ⟨x, H, inv, rel, q⟩ := h
  cases v <;> first | exact ⟨x, H, inv, rel, q⟩ | (cases x <;> simp [L2.RelV] at rel)
/-- x op y by the own method of x's class, both of the class at C -/
def rOwn2 (C : Addr) (sp : Sp) : R2 := fun x y H Q => ∃ a b dx dy fs gs, x = .ref a ∧ y = .ref b ∧ H a = some (.ins C dx fs) ∧ H b = some (.ins C dy gs) ∧ sp [.ref a, .ref b] H Q E0
theorem op_own2 {op : Operator} (M : MethR X.prog X.w X.K X.mg X.base C m k sp) (self : PySem.W.selfFirst X.K C = true) (room : Room k X.A) (nm : PySem.dunder op.info.2 = m := by first | rfl | decide) : OpR X (binaryOp op) (rOwn2 C sp) := by
  rintro pins s σ H _ _ v u Q inv rv ru ⟨a, b, dx, dy, fs, gs, rfl, rfl, ha, hb, owed⟩
  cases rv
  cases ru
  obtain ⟨ox, od, isA⟩ := instAt inv ha
  obtain ⟨oy, od', isB⟩ := instAt inv hb
  obtain ⟨mm, fr⟩ := inv.fr
  have called := run_fnR (us := [.ref a, .ref b]) (vs := [V.ref a, V.ref b]) M.fn room passN inv (.cons (by rfl) (.cons (by rfl) .nil)) owed
  exact PySem.W.binop_K fr inv.mod.kin isA isB.type self (nm ▸ M.at_.at_) M.at_.fn (wpAny_mono (wpAny_call called) (fun _ _ => cmpBack) fun _ _ z => z)
end
theorem callWith_SKW {M : Model} {A : Around} {E : Value → Shared → Prop} {s : Shared} {K : PySem.W.Frag} {env : Env} {pos p : Pos} {f : Value} {first : List Value} {Q : Value → Shared → Prop} {e : Expr} {kws : List Keyword} (kept : PySem.W.keepIn K f = true)
    (named : (backToKw pos (keywordEach kws env)).all (·.1.isSome) = true)
    (h : wpAny M A (eval e env) (fun v s1 => wpAny M A (evalAll ((backToKw pos (keywordEach kws env)).map (·.2))) (fun ks s2 => PySem.W.StarOf M A E v (fun vs s3 => K.In s3.heap ∧ wpAny M A (call f (first ++ vs) (((backToKw pos (keywordEach kws env)).filterMap (·.1)).zip ks)) Q E s3) s2) E s1) E s)
    (one : starEach [.Starred e p] env = [(true, eval e env)] := by rfl) : wpAny M A (callWith pos f first (backTo pos (starEach [.Starred e p] env)) (backToKw pos (keywordEach kws env))) Q E s := by
  rw [one]
  unfold callWith evalArgs
  apply wpAny_bind; apply wpAny_holding
  simp only [named, if_true, backTo]
  simp only [List.map_cons, List.map_nil, if_true]
  refine wpAny_bind (wpAny_bind (wpAny_mono h (fun v s1 h1 => wpAny_bind (wpAny_standAt (wpAny_pure ?_))) fun _ _ z => z))
  refine wpAny_bind (wpAny_pure (wpAny_holding (wpAny_bind (wpAny_mono h1 (fun ks s2 h2 => ?_) fun _ _ z => z))))
  refine wpAny_bind (wpAny_bind (wpAny_mono h2 (fun b s3 hb => ?_) fun _ _ z => z))
  obtain ⟨rfl, hb⟩ := hb
  rw [if_neg (fun z : false = true => nomatch z)]
  refine wpAny_holding (wpAny_mono hb (fun vs s4 done => wpAny_pure ?_) fun _ _ z => z)
  obtain ⟨kin, called⟩ := done
  apply wpAny_bind; apply wpAny_standAt
  obtain ⟨keeper, which, looks⟩ := PySem.W.keeps_K (M := M) kept _ kin
  simp only [List.any_cons, Bool.true_or]
  refine wpAny_bind (looks.here ?_)
  have ends : ∀ {m : Sem Value}, wpAny M A m Q E s4 → wpAny M A (do let r ← m; holding [r] point; pure r) Q E s4 := fun {m} hm =>
    wpAny_bind (wpAny_mono hm (fun r s5 q => wpAny_bind (wpAny_holding (wpAny_point (wpAny_pure q)))) fun _ _ z => z)
  rcases which with rfl | rfl | rfl
  · exact ends (by unfold callMarked; exact Calls.wpAny_keep called)
  · exact ends (wpAny_operating called)
  · exact ends (wpAny_operating called)
section
variable {P : Program} {w : World} {K : PySem.W.Frag}
variable {mg : Str → Option Value} {base : Heap} {k : Nat} {f : Addr} {sp : Sp}
/-- a def called by place and with the keyword kw: sp is told of the keyword's value, then of the others -/
def FnRK (P : Program) (w : World) (K : PySem.W.Frag) (mg : Str → Option Value) (base : Heap) (k : Nat) (f : Addr) (kw : Str) (sp : Sp) : Prop :=
  ∀ (A : Around) (outer : List Env) (s : Shared) (H : Hp) (us : List Value) (vs : List V) (u : Value) (z : V) (Q : VK) (E : XK), Room k A → Env0 P w K mg base A outer s H → Vals vs us → L2.RelV z u → sp (z :: vs) H Q E →
    codeAny (model P w) A (.call (.ref f) ⟨us, [(kw, u)]⟩) (CR (CXW P w) outer P w H s Q E) s
/-- def f(self, *v, kw=..), called with kw -/
theorem fnk_star1 {x qual : Str} {params : Arguments} {body : List Stmt} {scope : Scope} {kws : List (Str × V)} {fd : FuncData} {N : List Str} {p1 pv kw : Str} (F : FunD K x qual params body scope [] kws f fd) (S : FnScope N [p1, kw, pv] scope)
    (h0 : ∀ (kV doc pm : Value) (an : Option Addr) (cdv ct : Value) (a u : Value), bindArgs (PySem.W.fnOf x qual params body scope .none kV doc pm an cdv ct) ⟨[a], [(kw, u)]⟩ = (newTuple [] >>= fun t => pure [(p1, a), (kw, u), (pv, t)]))
    (h1 : ∀ (kV doc pm : Value) (an : Option Addr) (cdv ct : Value) (a u r : Value) (rs : List Value), bindArgs (PySem.W.fnOf x qual params body scope .none kV doc pm an cdv ct) ⟨a :: r :: rs, [(kw, u)]⟩ = (newTuple (r :: rs) >>= fun t => pure [(p1, a), (kw, u), (pv, t)]))
    (owes : ∀ cdv, Owes P w K mg base N qual scope body k f sp cdv) :
    FnRK P w K mg base (k + 1) f kw (fun vs H Q E => ∃ z w0 rest, vs = z :: w0 :: rest ∧ rest.length ≤ sizeLine ∧ ∀ p, H p = none → sp [w0, z, V.ref p] (upd H p (.tup rest)) Q E) := by
  rcases F.ex with ⟨c1, c2, dv, kv, dc, pm, an, cdv, ct, sl, e, at_, code, dfl, _⟩
  subst e
  have dn : dv = .none := dfl.elim (fun z => z.2) (fun z => absurd rfl z.1)
  subst dn
  rintro A outer s H us vs u z Q E room env rel relz ⟨z', w0, rest, ev, size, owed⟩
  injection ev with ez ev
  subst ez ev
  cases rel with
  | @cons _ a _ more ra rmore =>
    have free : H s.heap.objs.size = none := env.hok.fresh (Nat.le_refl _)
    have size' : more.length ≤ sizeLine := rmore.length ▸ size
    have bind : bindArgs (PySem.W.fnOf x qual params body scope .none kv dc pm an cdv ct) ⟨a :: more, [(kw, u)]⟩ = (newTuple more >>= fun t => pure [(p1, a), (kw, u), (pv, t)]) := by
      cases more with
      | nil => exact h0 kv dc pm an cdv ct a u
      | cons r rs => exact h1 kv dc pm an cdv ct a u r rs
    refine StX.run_bnd at_ code S room env (G := fun xs H2 => ∃ p, H p = none ∧ xs = [w0, z, V.ref p] ∧ H2 = upd H p (.tup rest)) ?_ ?_
    · intro A' Ex Q' go
      rw [bind]
      refine wpAny_bind (wpAny_newTuple (wpAny_pure ?_) size')
      have fresh : ObjOk P w (upd H s.heap.objs.size (.tup rest)) (s.heap.push { cls := .type "tuple", data := .seq more.toArray }) s.heap.objs.size (.tup rest) := ⟨size, more, rmore, _, Heap.get?_push_size _ rfl, rfl, _, rfl⟩
      have grown := StX.un_laid (fs := frs outer) (s := s) (o := { cls := .type "tuple", data := .seq more.toArray }) (u := .tup rest) free
      exact go _ _ [w0, z, .ref s.heap.objs.size] [a, u, .ref s.heap.objs.size] (StX.env0_laid env fresh) grown rfl (fun e s' => StX.cxUp outer s H _ _ E e s' grown (fun b o q => Heap.get?_push_of_some _ q) rfl) (.cons ra (.cons relz (.cons rfl .nil))) rfl ⟨_, free, rfl, rfl⟩
    · rintro s2 _ _ ⟨p, hp, rfl, rfl⟩ room'
      exact owes cdv A outer s2 _ _ Q E room' (owed p hp)
end
/-- the class x at C is made by an __init__ that keeps sp, the keyword kw given -/
structure MakeRK (P : Program) (w : World) (K : PySem.W.Frag) (mg : Str → Option Value) (base : Heap) (x : Str) (C : Addr) (k : Nat) (kw : Str) (sp : Sp) : Prop where
  at_ : mg x = some (.ref C)
  ex : ∃ f, Mk K C f ∧ FnRK P w K mg base k f kw sp
section
variable {X : Cx} {k : Nat} {C f : Addr} {sp : Sp} {E : XK} {x kw : Str} {e ke : Expr} {es : List Expr} {te tk : TE} {t : TA} {p pos apos kpos : Pos}
/-- what the maker owes: the new instance and its dict, then __init__ -/
def Makes (C : Addr) (sp : Sp) (E : XK) (Q : VK) (z : V) (vs : List V) (H : Hp) : Prop := ∀ x dx, H x = none → H dx = none → dx ≠ x → sp (z :: V.ref x :: vs) (upd (upd H dx (.own x)) x (.ins C dx [])) (fun v H2 => v = .non ∧ Q (.ref x) H2) E
theorem run_makeRK {pins : List (Addr × Obj)} {σ : L2.St} {H : Hp} {s : Shared} {Q : VK} {us : List Value} {vs : List V} {u : Value} {z : V} (made : Mk X.K C f) (F : FnRK X.prog X.w X.K X.mg X.base k f kw sp) (room : Room (k + 1) X.A) (leave : Passes (CXW X.prog X.w) X E) (inv : L2.Inv X pins σ H s)
    (rel : Vals vs us) (relz : L2.RelV z u) (owed : Makes C sp E Q z vs H) : wpAny (model X.prog X.w) X.A (call (.ref C) us [(kw, u)]) (EP X pins σ Q) X.xe s := by
  have inv2 := Inv.made (C := C) inv
  have here := owed _ _ (inv.hok.fresh (Nat.le_succ _)) (inv.hok.fresh (Nat.le_refl _)) (Nat.ne_of_lt (Nat.lt_succ_self _))
  have run := F _ X.stack _ _ (Value.ref (s.heap.objs.size + 1) :: us) (V.ref (s.heap.objs.size + 1) :: vs) u z _ E (room.make C us [(kw, u)]) (inv2.env0.make C us [(kw, u)]) (.cons rfl rel) relz here
  refine wpAny_call (make_map (f := f) inv.kIn made.makes made.init (beq_iff_eq.mp made.fn) (codeAny_mono run ?_))
  rintro (er | fl) s' got
  · exact leave pins σ _ _ er s' inv2 got
  · cases fl with
    | ret v =>
      obtain ⟨y, H', inv3, ry, ey, q⟩ := inv2.after got
      subst ey
      exact ⟨ry, V.ref (s.heap.objs.size + 1), H', inv3, rfl, q⟩
    | _ => exact got.elim
/-- one keyword's value, then the maker -/
def KwMk (C : Addr) (sp : Sp) (E : XK) (Q : VK) (vs : List V) (zs : List V) (H : Hp) : Prop := ∃ z, zs = [z] ∧ Makes C sp E Q z vs H
/-- C(e, .., kw=v) -/
def tMakeKW (C : Addr) (sp : Sp) (E : XK) (t tk : TA) : TE := fun σ H Q => t σ H fun vs H1 => tk σ H1 (KwMk C sp E Q vs)
theorem pe_makeKW {tk : TA} (M : MakeRK X.prog X.w X.K X.mg X.base x C k kw sp) (room : Room (k + 1) X.A) (leave : Passes (CXW X.prog X.w) X E) (args : PA X (e :: es) t) (key : PK X [⟨some kw, ke, kpos⟩] tk) (glob : Gl X x := by rfl) (nodeb : (x == ("__debug__" : Str)) = false := by decide)
    (named : (backToKw pos (keywordEach [⟨some kw, ke, kpos⟩] X.env)).all (·.1.isSome) = true := by rfl) (nm : (backToKw pos (keywordEach [⟨some kw, ke, kpos⟩] X.env)).filterMap (·.1) = [kw] := by rfl)
    (plain : ((backTo pos (starEach (e :: es) X.env)).any (·.1) || (backToKw pos (keywordEach [⟨some kw, ke, kpos⟩] X.env)).any (·.1.isNone)) = false := by rfl) (one : starEach (e :: es) X.env = (false, eval e X.env) :: starEach es X.env := by rfl) :
    PE X (.Call (.Name x p) (e :: es) [⟨some kw, ke, kpos⟩] pos) (tMakeKW C sp E t tk) := by
  constructor
  intro pn s σ H Q inv h
  obtain ⟨g, made, F⟩ := M.ex
  refine wpAny_Call_Name_kw (ld_glob inv glob M.at_ (PySem.W.callWith_KW (h₀ := X.base) inv.ok.mod.kin made.kp named (thn (args.run pos pn s σ H _ inv h) ?_) plain one) nodeb)
  rintro us s1 ⟨vs, H1, inv1, rel, q⟩
  refine thn (key.run pos pn s1 σ H1 _ inv1 q) ?_
  rintro ws s2 ⟨_, H2, inv2, relz, z, rfl, owed⟩
  obtain ⟨u, rfl, ru⟩ := vals1 relz
  refine ⟨inv2.kIn, ?_⟩
  rw [nm]
  exact run_makeRK made F room leave inv2 rel ru owed
/-- C( *e, kw=v): e's value, the keyword's, then e's items -/
def tMakeSKW (K : PySem.W.Frag) (C : Addr) (sp : Sp) (E : XK) (te : TE) (tk : TA) : TE := fun σ H Q => te σ H fun y H1 => tk σ H1 fun zs H2 => ∃ a xs, y = V.ref a ∧ (SqT K H2 a xs ∨ SqL K H2 a xs) ∧ KwMk C sp E Q xs zs H2
theorem pe_makeSKW {tk : TA} (M : MakeRK X.prog X.w X.K X.mg X.base x C k kw sp) (room : Room (k + 1) X.A) (leave : Passes (CXW X.prog X.w) X E) (arg : PE X e te) (key : PK X [⟨some kw, ke, kpos⟩] tk) (glob : Gl X x := by rfl) (nodeb : (x == ("__debug__" : Str)) = false := by decide)
    (named : (backToKw pos (keywordEach [⟨some kw, ke, kpos⟩] X.env)).all (·.1.isSome) = true := by rfl) (nm : (backToKw pos (keywordEach [⟨some kw, ke, kpos⟩] X.env)).filterMap (·.1) = [kw] := by rfl) (one : starEach [.Starred e apos] X.env = [(true, eval e X.env)] := by rfl) :
    PE X (.Call (.Name x p) [.Starred e apos] [⟨some kw, ke, kpos⟩] pos) (tMakeSKW X.K C sp E te tk) := by
  constructor
  intro pn s σ H Q inv h
  obtain ⟨g, made, F⟩ := M.ex
  refine wpAny_Call_Name_kw (ld_glob inv glob M.at_ (callWith_SKW made.kp named (thn (arg.run pn s σ H _ inv h) ?_) one) nodeb)
  rintro v s1 ⟨y, H1, inv1, rel, q⟩
  refine thn (key.run pos pn s1 σ H1 _ inv1 q) ?_
  rintro ws s2 ⟨_, H2, inv2, relz, a, xs, rfl, sq, z, rfl, owed⟩
  obtain ⟨u, rfl, ru⟩ := vals1 relz
  cases rel
  refine StX.star_any inv2 sq fun us s3 inv3 rv => ⟨inv3.kIn, ?_⟩
  rw [nm]
  exact run_makeRK made F room leave inv3 rv ru owed
end
section
variable {X : Cx} {K : PySem.W.Frag} {H : Hp} {Q : VK} {σ : L2.St} {C : Addr} {sp : Sp} {E : XK} {t tk : TA} {te : TE} {c : Expr}
theorem as_skw (K) (h : PE X c (tMakeSKW X.K C sp E te tk)) (hK : X.K = K := by rfl) : PE X c (tMakeSKW K C sp E te tk) := by subst hK; exact h
theorem n_own2 {a b dx dy : Addr} {fs gs : List (Str × V)} (h1 : H a = some (.ins C dx fs)) (h2 : H b = some (.ins C dy gs)) (h : sp [.ref a, .ref b] H Q E0) : rOwn2 C sp (.ref a) (.ref b) H Q := ⟨a, b, dx, dy, fs, gs, rfl, rfl, h1, h2, h⟩
theorem g_mkw (h : t σ H fun vs H1 => tk σ H1 (KwMk C sp E Q vs)) : tMakeKW C sp E t tk σ H Q := h
/-- the items of what stood behind the star, then the maker -/
def SkwK (K : PySem.W.Frag) (C : Addr) (sp : Sp) (E : XK) (Q : VK) (y : V) (zs : List V) (H : Hp) : Prop := ∃ a xs, y = V.ref a ∧ (SqT K H a xs ∨ SqL K H a xs) ∧ KwMk C sp E Q xs zs H
theorem g_mskw (h : te σ H fun y H1 => tk σ H1 (SkwK K C sp E Q y)) : tMakeSKW K C sp E te tk σ H Q := h
theorem n_mskw {a : Addr} {xs zs : List V} (h1 : SqT K H a xs ∨ SqL K H a xs) (h : KwMk C sp E Q xs zs H) : SkwK K C sp E Q (.ref a) zs H := ⟨a, xs, rfl, h1, h⟩
theorem n_kwmk {vs : List V} {z : V} (h : ∀ x dx H', H x = none → H dx = none → dx ≠ x → Same H H' → H' x = some (.ins C dx []) → H' dx = some (.own x) → sp (z :: .ref x :: vs) H' (fun v H2 => v = .non ∧ Q (.ref x) H2) E) : KwMk C sp E Q vs [z] H :=
  ⟨z, rfl, fun x dx hx hd ne => h x dx _ hx hd ne ((same_new hd).trans (same_new (by rw [upd_ne (Ne.symm ne)]; exact hx))) upd_same (by rw [upd_ne ne]; exact upd_same)⟩
theorem g_add_t {a b : Addr} {xs ys : List V} (h1 : SqT K H a xs) (h2 : SqT K H b ys) (hz : xs.length + ys.length ≤ sizeLine) (h : ∀ p H', Same H H' → SqT K H' p (xs ++ ys) → Q (.ref p) H') : uAdd K (.ref a) (.ref b) H Q := by
  refine .inr (.inr (.inr ⟨a, b, xs, ys, rfl, rfl, h1, h2, hz, fun e => ?_, fun _ e => ?_, fun _ _ p hp => h p _ (same_new hp) (SqT.of upd_same)⟩))
  · subst e
    exact h b H (Same.refl H) h2
  · subst e
    exact h a H (Same.refl H) (by simpa using h1)
end
theorem dpa_app {K : PySem.W.Frag} {H : Hp} : ∀ {vs us : List V} {ds es : List PyData}, DpAll K H vs ds → DpAll K H us es → DpAll K H (vs ++ us) (ds ++ es)
  | _, _, _, _, .nil, b => b
  | _, _, _, _, .cons a r, b => .cons a (dpa_app r b)
theorem dpa_drop {K : PySem.W.Frag} {H : Hp} : ∀ {vs : List V} {ds : List PyData} (n : Nat), DpAll K H vs ds → DpAll K H (vs.drop n) (ds.drop n)
  | _, _, 0, h => h
  | _, _, _ + 1, .nil => .nil
  | _, _, n + 1, .cons _ t => dpa_drop n t
end HC

/-! set(t) of a tuple of texts that differ, and its length -/
namespace HC
open PyProof.Rows PySem L2 PySem.Spec
section
variable {P : Program} {w : World} {A : Around} {E : Value → Shared → Prop} {s : Shared} {I S : Addr} {fp wr : List Addr} {Pv : Nat → Value → Prop} {St : Nat → Heap → Prop} {R : Result → Shared → Prop}
/-- a set is what its own record says -/
theorem setOf_kept {h h' : Heap} {B : Str → Bool} {n : Nat} (has : h.SetOf (PySem.strKind P w) S B n) (same : ∀ o, h.get? S = some o → h'.get? S = some o) : h'.SetOf (PySem.strKind P w) S B n := by
  obtain ⟨o, es, ep, t, at_, rest⟩ := has
  exact ⟨o, es, ep, t, same o at_, rest⟩
/-- one turn of set.update's loop -/
abbrev upTurn (S I : Addr) : Code := .builtin "set.update.loop" ⟨[.ref S, .ref I], []⟩
theorem upIn (h : wpAny (model P w) A.in1 (Builtin.«set.update.loop» ⟨[.ref S, .ref I], []⟩) (fun fin s' => match fin with
    | .done f => R (.ok f) s'
    | .again c => c.quiet = true ∧ codeAny (model P w) A c R s') (fun e s' => R (.error e) s') s) : codeAny (model P w) A (upTurn S I) R s :=
  codeAny_builtin F.entry_set_update_loop (by rw [Around.under_plainId F.plain_set_update_loop]; exact h)
/-- set.update's loop over any walk that gives the texts zs, all new -/
theorem fills {zs : List Str} (W : Walks P w A.in1 I fp wr zs.length Pv St) (off : S ∉ fp) (nz : zs.Nodup) (room : zs.length + 1 < scanBound) (val : ∀ i v, Pv i v → ∃ z t, zs[i]? = some z ∧ v = Value.str z t) (more : Nat) : ∀ (i : Nat) (s : Shared), i + more = zs.length → St i s.heap →
    s.heap.SetOf (PySem.strKind P w) S (fun z => decide (z ∈ zs.take i)) i →
    (∀ h' tk, (∀ b o, b ∉ S :: wr → s.heap.get? b = some o → h'.get? b = some o) → h'.SetOf (PySem.strKind P w) S (fun z => decide (z ∈ zs)) zs.length → R (.ok (.ret .none)) { s with heap := h', toks := tk }) →
    codeAny (model P w) A (upTurn S I) R s := by
  have offw : S ∉ wr := fun z => off (W.sub _ z)
  induction more with
  | zero =>
    intro i s sum now has done
    have last : i = zs.length := sum
    subst last
    rw [List.take_length] at has
    apply upIn
    refine wpAny_bind (W.done s _ _ now fun h' tk same => wpAny_pure (done h' tk (fun b o nb => same b o fun z => nb (List.mem_cons_of_mem _ z)) ?_))
    exact setOf_kept has fun o e => same S o offw e
  | succ more ih =>
    intro i s sum now has done
    have lt : i < zs.length := by omega
    apply upIn
    refine wpAny_bind (W.item i s _ _ lt now fun v h' tk pv now' same => ?_)
    obtain ⟨z, t, hz, rfl⟩ := val i v pv
    have fresh : z ∉ zs.take i := fun hm => by
      have ⟨j, hj⟩ := List.getElem?_of_mem hm
      rw [List.getElem?_take] at hj
      split at hj
      · rename_i ji
        have := (List.getElem?_inj (by omega) nz).mp (hj.trans hz.symm)
        omega
      · cases hj
    have has' : h'.SetOf (PySem.strKind P w) S (fun y => decide (y ∈ zs.take i)) i := setOf_kept has fun o e => same S o offw e
    apply wpAny_bind; apply wpAny_holding
    unfold setAdd
    refine wpAny_holding (wpAny_bind ((PySem.strKind P w).pyHash (k := z) ?_ ?_))
    · exact PySem.strKind_is P w z t
    refine wpAny_setAddHashed_of (knd := PySem.strKind P w) (s := { s with heap := h', toks := tk + 1 }) (PySem.strKind_is P w z t) rfl has' (by omega) fun h2 but has2 => ?_
    rw [decide_eq_false fresh] at has2
    have has3 : h2.SetOf (PySem.strKind P w) S (fun y => decide (y ∈ zs.take (i + 1))) (i + 1) := SetOf_congr has2 (fun y => by rw [List.take_add_one, hz]; simp [List.mem_append]) rfl
    refine wpAny_pure ⟨plainId_quiet F.plain_set_update_loop _, ih (i + 1) _ (by omega) (W.frame _ _ _ now' fun b hb o e => ?_) has3 fun h3 tk3 same3 fin => ?_⟩
    · rw [but.2 b fun q => off (q ▸ hb)]
      exact e
    · refine done h3 tk3 (fun b o nb e => same3 b o nb ?_) fin
      show h2.get? b = some o
      rw [but.2 b fun q => nb (q ▸ List.mem_cons_self)]
      exact same b o (fun q => nb (List.mem_cons_of_mem _ q)) e
/-- T(args) of a built-in class, its __init__ run as it stands -/
theorem callType_by {T newId initId : String} {args : List Value} {Q Q₁ : Value → Shared → Prop} (ft : TypeCalled T newId initId) (fit : checkTypeCall T ⟨args, []⟩ = pure ())
    (new : codeAny (model P w) A.in1 (.call (.builtin newId) ⟨.type T :: args, []⟩) (wants Q₁ E) s)
    (next : ∀ obj s₁, Q₁ obj s₁ → s₁.TypeIs obj T ∧ codeAny (model P w) A.in1 (.call (.builtin initId) ⟨obj :: args, []⟩) (wants (fun r s₂ => r = .none ∧ Q obj s₂) E) s₁) : wpAny (model P w) A (call (.type T) args) Q E s := by
  obtain ⟨first, others, mro⟩ := ft.mro
  have made := ft.made
  have sub := ft.sub
  have notT := ft.notType
  have can := ft.canCreate
  apply wpAny_call
  apply codeAny_of_tree
  change wpAny _ _ (callAny (.type T) _) _ _ _
  apply wpAny_pure
  refine ⟨Code.quiet_builtin _ (by decide +kernel), codeAny_builtin F.entry_type_call ?_⟩
  have same := Around.under_plain (A := A) (weight_type_call_type T args []) (units_type_call_type T args [])
  rw [same]
  repeat any_goals first | assumption | wp_step
  refine codeAny_mono new ?_
  rintro (er | fl) s1 got
  · exact got
  · cases fl with
    | ret obj =>
      obtain ⟨is, run⟩ := next obj s1 got
      have look := ft.init.lookup
      have bound := ft.init.bind obj
      repeat any_goals first | assumption | wp_step
      refine codeAny_mono run ?_
      rintro (er | fl) s2 back
      · exact back
      · cases fl with
        | ret v =>
          obtain ⟨rfl, q⟩ := back
          exact wpAny_pure (wpAny_pure q)
        | _ => exact back
    | _ => exact got
/-- set(t) -/
theorem call_setS {l : Addr} {cells : Array Value} {zs : List Str} {Q : Value → Shared → Prop} (calm : A.handled = none) (tup : s.heap.IsTuple l cells) (size : cells.size = zs.length) (texts : ∀ (i : Nat) (v : Value), cells[i]? = some v → ∃ z t, zs[i]? = some z ∧ v = Value.str z t) (nz : zs.Nodup) (room : zs.length + 1 < scanBound)
    (go : ∀ h' tk, h'.SetOf (PySem.strKind P w) s.heap.objs.size (fun z => decide (z ∈ zs)) zs.length → (∀ b o, s.heap.get? b = some o → h'.get? b = some o) → Q (.ref s.heap.objs.size) { s with heap := h', toks := tk }) :
    wpAny (model P w) A (call (Value.type "set") [Value.ref l]) Q E s := by
  refine callType_by F.called_set (F.typeCall_set_1 _) (code_set_new_1 (.ref l) (Q₁ := fun obj s1 => obj = .ref s.heap.objs.size ∧ ∃ led, s1 = { s with heap := s.heap.push { cls := .type "set", dict := none, data := .set #[] 0 (.fresh 0 0 led) } }) fun led => ⟨rfl, led, rfl⟩) ?_
  rintro _ _ ⟨rfl, led, rfl⟩
  have at_ : (s.heap.push { cls := .type "set", dict := none, data := .set #[] 0 (.fresh 0 0 led) }).get? s.heap.objs.size = some { cls := .type "set", dict := none, data := .set #[] 0 (.fresh 0 0 led) } := Heap.get?_push_size _ rfl
  have is : Shared.TypeIs { s with heap := s.heap.push { cls := .type "set", dict := none, data := .set #[] 0 (.fresh 0 0 led) } } (.ref s.heap.objs.size) "set" := ⟨_, at_, rfl⟩
  have subTS : isSubtype (.type "tuple") (.type "set") = pure false := by rw [isSubtype_type]; kernel_rfl
  have subTF : isSubtype (.type "tuple") (.type "frozenset") = pure false := by rw [isSubtype_type]; kernel_rfl
  have tup' : (s.heap.push { cls := .type "set", dict := none, data := .set #[] 0 (.fresh 0 0 led) }).IsTuple l cells := tup.at fun o e => Heap.get?_push_of_some _ e
  obtain ⟨⟨c, dct, dt, sl⟩, getT, clsT, n, datT⟩ := tup'
  simp only at clsT datT
  subst clsT datT
  refine ⟨is, codeAny_call_builtin F.called_set.init.plain F.entry_set_init (check_set_init_1 is ?_)⟩
  have isT : Heap.IsTuple (s.heap.push { cls := .type "set", dict := none, data := .set #[] 0 (.fresh 0 0 led) }) l cells := ⟨_, getT, rfl, n, rfl⟩
  unfold Builtin.«set.__init__»
  wp_walk using PySem.AutoSeq1.wpAny_loadPart' at_, PySem.AutoSeq1.wpAny_loadPart' getT, wpAny_pyIter_tuple isT
  have sz : (s.heap.push { cls := .type "set", dict := none, data := .set #[] 0 (.fresh 0 0 led) }).objs.size = s.heap.objs.size + 1 := Heap.size_push ..
  have low : l < s.heap.objs.size := by
    obtain ⟨o, z, _⟩ := tup
    exact Heap.lt_size z
  have W := Walks.tuple (prog := P) (w := w) (A := A.in1.in1.in1) calm (s.heap.push { cls := .type "set", dict := none, data := .set #[] 0 (.fresh 0 0 led) }).objs.size l (by rw [sz]; exact Nat.ne_of_lt (Nat.lt_succ_of_lt low)) cells
  rw [size] at W
  refine fills (S := s.heap.objs.size) W ?_ nz room (fun i v h => texts i v h) zs.length 0 _ (Nat.zero_add _) ⟨⟨_, Heap.get?_push_size _ rfl, rfl, rfl⟩, isT.at fun o e => Heap.get?_push_of_some _ e⟩ ?_ ?_
  · simp only [List.mem_cons, List.not_mem_nil, or_false, not_or, sz]
    exact ⟨Nat.ne_of_lt (Nat.lt_succ_self _), Nat.ne_of_gt low⟩
  · exact SetOf_congr ((setObjOf_fresh led).setOf (Heap.get?_push_of_some _ at_) (by decide)) (fun y => by simp) rfl
  · intro h' tk same fin
    refine wpAny_pure (wpAny_pure ⟨rfl, go h' tk fin fun b o e => same b o ?_ (Heap.get?_push_of_some _ (Heap.get?_push_of_some _ e))⟩)
    have lt := Heap.lt_size e
    simp only [List.mem_cons, List.not_mem_nil, or_false, not_or, sz]
    exact ⟨Nat.ne_of_lt lt, Nat.ne_of_lt (Nat.lt_succ_of_lt lt)⟩
end
/-- len(set(e)), e a tuple of texts that differ -/
def tLenSet (K : PySem.W.Frag) (te : TE) : TE := fun σ H Q => te σ H fun y H1 => ∃ (a : Addr) (zs : List Str), y = V.ref a ∧ SqT K H1 a (zs.map V.str) ∧ zs.Nodup ∧ zs.length ≤ 1000 ∧ Q (.int zs.length) H1
theorem pe_lenSet {X : Cx} {e : Expr} {te : TE} {p p2 q pos : Pos} (calm : X.calm = true) (gl : Gl X "len") (ml : X.mg "len" = none) (gs : Gl X "set") (ms : X.mg "set" = none) (arg : PE X e te) (one : starEach [e] X.env = (false, eval e X.env) :: starEach [] X.env := by rfl) :
    PE X (.Call (.Name "len" p) [.Call (.Name "set" p2) [e] [] q] [] pos) (tLenSet X.K te) := by
  constructor
  intro pn s σ H Q inv h
  refine Call_ (ld_blt inv gl ml PySem.boot_len (PyProof.Rows.callWith_builtin1 (PyProof.Rows.args_cons ?_ rfl) rfl rfl))
  refine Call_ (ld_blt inv gs ms PyProof.Rows.boot_set ?_)
  refine PyProof.Rows.callWith_type1 (PyProof.Rows.args_cons (thn (arg.run pn s σ H _ inv h) ?_) one) one rfl
  rintro v s1 ⟨y, H1, inv1, rel, a, zs, rfl, sq, nz, few, q⟩
  cases rel
  apply PyProof.Rows.args_nil
  obtain ⟨cells, vals, tup, _⟩ := inv1.tuple sq
  have len : cells.length = zs.length := by
    have := vals.length
    simpa using this.symm
  refine call_setS (inv1.ok.hd calm) tup (by simpa using len) (fun i v at_ => ?_) nz (by unfold scanBound; omega) fun h' tk has same => ?_
  · rw [List.getElem?_toArray] at at_
    have lt : i < zs.length := by
      have := (List.getElem?_eq_some_iff.mp at_).1
      omega
    obtain ⟨u, hu, ru⟩ := vals.get (i := i) (x := V.str zs[i]) (by simp [lt])
    rw [hu] at at_
    cases at_
    obtain ⟨t, rfl⟩ := ru
    exact ⟨zs[i], t, List.getElem?_eq_getElem lt, rfl⟩
  · apply PyProof.Rows.args_nil
    obtain ⟨o, es, ep, tb, at_, exact_, dat, _, _, _, fits, num⟩ := has
    have inv2 : L2.Inv X pn σ H1 { s1 with heap := h', toks := tk } := inv1.kept same
    refine call_len_set at_ exact_ dat fits (by rw [num]; omega) ⟨V.int zs.length, H1, inv2.tok _, ⟨_, by rw [num]⟩, q⟩
theorem as_lenSet {X : Cx} (K) {c : Expr} {te : TE} (h : PE X c (tLenSet X.K te)) (hK : X.K = K := by rfl) : PE X c (tLenSet K te) := by subst hK; exact h
/-- what len(set( .. )) asks of the tuple -/
def LsK (K : PySem.W.Frag) (Q : VK) : VK := fun y H1 => ∃ (a : Addr) (zs : List Str), y = V.ref a ∧ SqT K H1 a (zs.map V.str) ∧ zs.Nodup ∧ zs.length ≤ 1000 ∧ Q (.int zs.length) H1
theorem g_lenSet {K : PySem.W.Frag} {te : TE} {σ : L2.St} {H : Hp} {Q : VK} (h : te σ H (LsK K Q)) : tLenSet K te σ H Q := h
theorem n_lenSet {K : PySem.W.Frag} {H : Hp} {Q : VK} {a : Addr} {zs : List Str} (h1 : SqT K H a (zs.map V.str)) (h2 : zs.Nodup) (h3 : zs.length ≤ 1000) (h : Q (.int zs.length) H) : LsK K Q (.ref a) H := ⟨a, zs, rfl, h1, h2, h3, h⟩
end HC

/-! facts carried along heaps -/
namespace HC
open PyProof.Rows PySem L2 PySem.Spec
theorem same_at {H H' : Hp} {a : Addr} {o : HO} (e : Same H H') (h : H a = some o) : H' a = some o := e _ _ h
theorem keep_at {H H' : Hp} {d a : Addr} {o : HO} (e : Keep d H H') (n : a ≠ d) (h : H a = some o) : H' a = some o := e _ _ n h
/-- what stood before d was made stands when d changes -/
theorem same_keep {H0 H H' : Hp} {d : Addr} (s : Same H0 H) (n : H0 d = none) (e : Keep d H H') : Same H0 H' := fun b o h => e b o (ne_of_none h n) (s b o h)
theorem same_mid {H0 H1 H : Hp} {d : Addr} (s : Same H0 H1) (n : H1 d = none) : H0 d = none := s.free n
theorem sqt_keep {K : PySem.W.Frag} {H H' : Hp} {d a : Addr} {xs ys : List V} (e : Keep d H H') (hd : H d = some (.lst ys)) (h : SqT K H a xs) : SqT K H' a xs := keep_t e (notT_l hd) h
/-- a chain link of the list at l: items are only added -/
theorem app_tail {α : Type} (l : List α) (i : Nat) {x : α} (h : l[i]? = some x) : l.take (i + 1) = l.take i ++ [x] := by rw [List.take_add_one, h]; rfl
/-! a comprehension with a test: what passes, in order -/
section
variable {α : Type} {K : PySem.W.Frag} {H : Hp} {Q : VK} {σ : L2.St} {g : TG} {tt : TT} {te : TE} {vs : List Nat}
def PFilt (xs : List α) (p : α → Bool) (f : α → V) (H1 : Hp) : Nat → List V → Hp → Prop := fun i acc H' => Same H1 H' ∧ acc = ((xs.take i).filter p).map f
theorem n_filtT {xs : List α} {p : α → Bool} {f : α → V} {H1 : Hp} {C : Addr} {i : Nat} {x : α} {y : V} (hx : xs[i]? = some x) (hp : p x = true) (e : y = f x) (hC : H1 C = none) (h1 : Same H1 H) (h2 : H C = some (.lst (((xs.take i).filter p).map f))) (hn : i < 1000000 := by omega) : LcK C (NxP (PFilt xs p f H1) C (i + 1)) y H := by
  have hl : (((xs.take i).filter p).map f).length ≤ i := by
    rw [List.length_map]
    exact Nat.le_trans (List.length_filter_le _ _) (by rw [List.length_take]; exact Nat.min_le_left _ _)
  refine n_lcK h2 (by omega) (by omega) fun H' k hc => ⟨fun b o e => k _ _ (ne_of_none e hC) (h1 _ _ e), ?_⟩
  rw [app_tail _ _ hx, List.filter_append, List.map_append, e]
  simp [hp]
theorem n_filtF {xs : List α} {p : α → Bool} {f : α → V} {H1 : Hp} {C : Addr} {i : Nat} {x : α} (hx : xs[i]? = some x) (hp : p x = false) (h1 : Same H1 H) (h2 : H C = some (.lst (((xs.take i).filter p).map f))) : NxP (PFilt xs p f H1) C (i + 1) H := by
  have hl : (((xs.take i).filter p).map f).length ≤ i := by
    rw [List.length_map]
    exact Nat.le_trans (List.length_filter_le _ _) (by rw [List.length_take]; exact Nat.min_le_left _ _)
  refine n_lcN h2 (by omega) ⟨h1, ?_⟩
  rw [app_tail _ _ hx, List.filter_append]
  simp [hp]
theorem lc_filt {J : It} {G : Hp → Prop} {Y : Nat → Hp → V → Hp → Prop} (xs : List α) (w : Walk J xs.length G Y) (p : α → Bool) (f : α → V) {H1 : Hp} (hG : ∀ H, Same H1 H → G H)
    (hs : ∀ C i x v H H', H1 C = none → xs[i]? = some x → i < xs.length → Same H1 H → H C = some (.lst (((xs.take i).filter p).map f)) → Y i H v H' → g v (wipe σ vs) H' fun σ2 H2 => wipe σ2 vs = wipe σ vs ∧ tt σ2 H2 (LcIf C te σ2 (NxP (PFilt xs p f H1) C (i + 1))))
    (hd : ∀ C H, H1 C = none → Same H1 H → H C = some (.lst ((xs.filter p).map f)) → Q (.ref C) H) : LcJ J g tt te vs σ Q H1 := by
  refine lc_run w (PFilt xs p f H1) (fun C H' nC s h => ⟨s, by simp⟩) (fun i acc H C nC hC ⟨s, _⟩ => hG H s) ?_ ?_
  · rintro C i acc v H H' nC hi hl hC ⟨s, rfl⟩ y
    exact hs C i xs[i] v H H' nC (List.getElem?_eq_getElem hi) hi s hC y
  · rintro C acc H nC hC ⟨s, rfl⟩
    rw [List.take_length] at hC
    exact hd C H nC s hC
end
/-! keeping lists of data that hold no list -/
theorem dpa_keep {K : PySem.W.Frag} {H H' : Hp} {d : Addr} {ys vs : List V} {xs : List PyData} (e : Keep d H H') (hd : H d = some (.lst ys)) (n : noLs xs = true) (h : DpAll K H vs xs) : DpAll K H' vs xs := dp_keepAll e (notT_l hd) xs vs n h
theorem noLs_map {α : Type} {f : α → PyData} (l : List α) (h : ∀ x, noL (f x) = true) : noLs (l.map f) = true := noLs_of fun d hd => by
  obtain ⟨x, _, rfl⟩ := List.mem_map.mp hd
  exact h x
/-! isinstance(e, (tuple, list)) -/
section
variable {X : Cx} {e : Expr} {te : TE} {p pos p1 p2 tpos : Pos} {kk : Nat} {K : PySem.W.Frag} {H : Hp} {Q : VK} {σ : L2.St}
def tIsTT (K : PySem.W.Frag) (te : TE) : TE := tCB (rIsiT K) (tCons te (tCons (tTup (tCons (tC (.ty "tuple")) (tCons (tC (.ty "list")) tNil))) tNil))
theorem pe_isiTT (K' : PySem.W.Frag) (m : Bts X.mg) (he : PE X e te) (hg : Gl X "isinstance" := by rfl) (hg1 : Gl X "tuple" := by rfl) (hg2 : Gl X "list" := by rfl)
    (hs : starEach [e, .Tuple [.Name "tuple" p1, .Name "list" p2] kk tpos] X.env = (false, eval e X.env) :: starEach [.Tuple [.Name "tuple" p1, .Name "list" p2] kk tpos] X.env := by rfl) (hK : X.K = K' := by rfl) :
    PE X (.Call (.Name "isinstance" p) [e, .Tuple [.Name "tuple" p1, .Name "list" p2] kk tpos] [] pos) (tIsTT K' te) := by
  subst hK
  exact pe_callB (p := p) (pos := pos) call_isiT hg m.isinstance bt_isinstance (pa_cons he (pa_cons (pe_tup (pa_cons (pe_bltn (v := .ty "tuple") hg1 m.tuple bt_tuple rfl (by decide) (by decide)) (pa_cons (pe_bltn (v := .ty "list") hg2 m.list bt_list rfl (by decide) (by decide)) pa_nil))) pa_nil) hs) (by decide) (by decide) hs rfl
def IsTTK (K : PySem.W.Frag) (Q : VK) : VK := fun x H1 => NewT [.ty "tuple", .ty "list"] H1 fun y H2 => rIsiT K [x, y] H2 Q
theorem g_isTT (h : te σ H (IsTTK K Q)) : tIsTT K te σ H Q := h
theorem n_isTT {x : V} {t : String} {b c : Bool} (h0 : ∀ H', Same H H' → TyX K H' x (.type t)) (h1 : kitB t "tuple" = some b) (h2 : kitB t "list" = some c) (h : ∀ H', Same H H' → Q (.bl (b || c)) H') : IsTTK K Q x H := by
  refine ⟨by simp [sizeLine_eq], fun T hT => ?_⟩
  have s := same_new (o := .tup [.ty "tuple", .ty "list"]) hT
  refine ⟨x, T, _, .type t, [.type "tuple", .type "list"], b || c, rfl, upd_same, .cons (.ty _) (.cons (.ty _) .nil), h0 _ s, ?_, h _ s⟩
  refine kitAny_cons (kit_ty h1) (fun e => ?_) (fun e => by rw [e]; rfl)
  subst e
  refine kitAny_cons (kit_ty h2) (fun e => ?_) (fun e => by rw [e]; rfl)
  subst e
  rfl
end
/-- a list or a tuple, by its type's name -/
def SqQ (K : PySem.W.Frag) (H : Hp) (T : String) (a : Addr) (xs : List V) : Prop := (T = "list" ∧ SqL K H a xs) ∨ (T = "tuple" ∧ SqT K H a xs)
theorem SqQ.same {K : PySem.W.Frag} {H H' : Hp} {T : String} {a : Addr} {xs : List V} (e : Same H H') (h : SqQ K H T a xs) : SqQ K H' T a xs := h.imp (fun z => ⟨z.1, same_l e z.2⟩) (fun z => ⟨z.1, same_t e z.2⟩)
theorem SqQ.or {K : PySem.W.Frag} {H : Hp} {T : String} {a : Addr} {xs : List V} (h : SqQ K H T a xs) : SqL K H a xs ∨ SqT K H a xs := h.imp (·.2) (·.2)
end HC

/-! list(text); dicts: made of pairs, read, stored -/
namespace HC
open PyProof.Rows PySem L2 PySem.Spec
/-- the signs of a text, one by one -/
def signs (z : Str) : List Str := z.cps.toList.map fun c => ⟨#[c]⟩
def rListS : List V → Hp → VK → Prop := fun xs H Q => ∃ z : Str, xs = [.str z] ∧ z.cps.size ≤ sizeLine ∧ ∀ l, H l = none → Q (.ref l) (upd H l (.lst ((signs z).map V.str)))
theorem vals_signs {z : Str} {acc : Array Value} (h : ItemsOf (SignAt z) acc z.cps.size) : Vals ((signs z).map V.str) acc.toList := by
  have key : ∀ (cs : List Nat) (us : List Value), cs.length = us.length → (∀ (j : Nat) v, us[j]? = some v → ∃ c u, cs[j]? = some c ∧ v = Value.str ⟨#[c]⟩ u) → Vals (cs.map fun c => V.str ⟨#[c]⟩) us := by
    intro cs
    induction cs with
    | nil => intro us hl _; cases us with | nil => exact .nil | cons _ _ => simp at hl
    | cons c cs ih =>
      intro us hl hj
      cases us with
      | nil => simp at hl
      | cons u us =>
        obtain ⟨c', t, h1, h2⟩ := hj 0 u rfl
        cases h1
        refine .cons ⟨t, h2⟩ (ih us (by simpa using hl) fun j v hv => ?_)
        exact hj (j + 1) v (by simpa using hv)
  have e : (signs z).map V.str = z.cps.toList.map fun c => V.str ⟨#[c]⟩ := by simp [signs]
  rw [e]
  refine key _ _ (by simp [h.1]) fun j v hv => ?_
  obtain ⟨c, u, h1, h2⟩ := h.2 j v (by simpa using hv)
  exact ⟨c, u, by simpa using h1, h2⟩
section
variable {X : Cx} {e o i value : Expr} {te td ty tv : TE} {p pos pos' : Pos} {K : PySem.W.Frag} {H : Hp} {Q : VK} {σ : L2.St} {D : Ends}
theorem call_list_txt (calm : X.calm = true) : CallR X (.type "list") rListS := by
  rintro pins s σ H xs us Q inv rel ⟨z, rfl, hz, q⟩
  obtain ⟨_, rfl, t, rfl⟩ := vals1 rel
  refine call_list_str (inv.ok.hd calm) z t (fun h' tk acc c kept at_ items => ?_) hz
  have rv := vals_signs items
  have len : ((signs z).map V.str).length ≤ sizeLine := by simpa [signs] using hz
  exact ⟨.ref s.heap.objs.size, _, inv.laid (t' := tk) kept (Nat.le_refl _) (show ObjOk X.prog X.w _ h' _ (.lst _) from ⟨len, acc.toList, c, rv, at_⟩), rfl, q _ (inv.hok.fresh (Nat.le_refl _))⟩
theorem pe_listTxt (m : Bts X.mg) (he : PE X e te) (calm : X.calm = true := by rfl) (hg : Gl X "list" := by rfl) (hs : starEach (e :: []) X.env = (false, eval e X.env) :: starEach [] X.env := by rfl) : PE X (.Call (.Name "list" p) [e] [] pos) (tCB rListS (tCons te tNil)) :=
  pe_callTy (call_list_txt calm) hg m.list bt_list (pa_cons he pa_nil hs) (by decide) (by decide) hs rfl
theorem g_listS {z : Str} (hz : z.cps.size ≤ sizeLine) (h : ∀ l H', H l = none → Same H H' → H' l = some (.lst ((signs z).map V.str)) → Q (.ref l) H') : rListS [.str z] H Q := ⟨z, rfl, hz, fun l hl => h l _ hl (same_new hl) upd_same⟩
/-! dicts -/
def rDictP (K : PySem.W.Frag) : List V → Hp → VK → Prop := fun xs H Q => ∃ (a : Addr) (ps : List Addr) (kvs : List (Key × V)), xs = [.ref a] ∧ SqL K H a (ps.map V.ref) ∧ Paired (fun p kv => SqT K H p [kV kv.1, kv.2]) ps kvs ∧ ∀ p, H p = none → Q (.ref p) (upd H p (.dK (mergeK [] kvs)))
theorem pe_dictP (K' : PySem.W.Frag) (m : Bts X.mg) (he : PE X e te) (calm : X.calm = true := by rfl) (hg : Gl X "dict" := by rfl) (hs : starEach (e :: []) X.env = (false, eval e X.env) :: starEach [] X.env := by rfl) (hK : X.K = K' := by rfl) : PE X (.Call (.Name "dict" p) [e] [] pos) (tCB (rDictP K') (tCons te tNil)) := by
  subst hK
  exact pe_callTy (call_dictP calm) hg m.dict bt_dict (pa_cons he pa_nil hs) (by decide) (by decide) hs rfl
theorem g_dictP {a : Addr} {ps : List Addr} {kvs : List (Key × V)} (h1 : SqL K H a (ps.map V.ref)) (h2 : Paired (fun p kv => SqT K H p [kV kv.1, kv.2]) ps kvs) (h : ∀ l H', H l = none → Same H H' → H' l = some (.dK (mergeK [] kvs)) → Q (.ref l) H') : rDictP K [.ref a] H Q := ⟨a, ps, kvs, rfl, h1, h2, fun l hl => h l _ hl (same_new hl) upd_same⟩
/-- d[y]: what is asked of the dict -/
def DgK (y : V) (Q : VK) (x : V) : Hp → Prop := fun H => ∃ a v, x = .ref a ∧ DGet H a y (some v) ∧ Q v H
theorem g_dget (h : td σ H fun x H1 => ty σ H1 fun y H2 => DgK y Q x H2) : tDGet td ty σ H Q := h
theorem n_dget {a : Addr} {kvs : List (Key × V)} {k : Key} {v : V} (h1 : H a = some (.dK kvs)) (h2 : valV kvs k = some v) (h : Q v H) : DgK (kV k) Q (.ref a) H := ⟨a, v, rfl, h2 ▸ DGet.k h1, h⟩
theorem n_dgetS {a : Addr} {kvs : List (Key × V)} {k : Str} {v : V} (h1 : H a = some (.dK kvs)) (h2 : valV kvs (.inr k) = some v) (h : Q v H) : DgK (.str k) Q (.ref a) H := n_dget (k := .inr k) h1 h2 h
def DpK (y v : V) (D : Ends) (σ : L2.St) (x : V) : Hp → Prop := fun H => ∃ a H4, x = .ref a ∧ DPut H a y v H4 ∧ D.nx σ H4
theorem g_dput (h : tv σ H fun v H1 => td σ H1 fun x H2 => ty σ H2 fun y H3 => DpK y v D σ x H3) : sDPut td ty tv D σ H := h
theorem n_dput {a : Addr} {kvs : List (Key × V)} {k : Key} {v : V} (h1 : H a = some (.dK kvs)) (hz : kvs.length < sizeLine) (h : ∀ H', Keep a H H' → H' a = some (.dK (putK kvs k v)) → D.nx σ H') : DpK (kV k) v D σ (.ref a) H := ⟨a, _, rfl, DPut.k h1 hz, h _ keep_upd upd_same⟩
theorem n_dputS {a : Addr} {kvs : List (Key × V)} {k : Str} {v : V} (h1 : H a = some (.dK kvs)) (hz : kvs.length < sizeLine) (h : ∀ H', Keep a H H' → H' a = some (.dK (putK kvs (.inr k) v)) → D.nx σ H') : DpK (.str k) v D σ (.ref a) H := n_dput (k := .inr k) h1 hz h
theorem units2 {k : Nat} {A : Around} (hr : Room k A) : A.units + 1 < cLine := by have := units65 hr; omega
end
theorem notT_d {H : Hp} {d : Addr} {kvs : List (Key × V)} (h : H d = some (.dK kvs)) : NotT (H d) := by rw [h]; trivial
end HC

/-! the head's facts, further ones as tests of the written part -/
namespace HC
open PySem PySem.W PySem.Calls PyProof.Rows He He5 L2
abbrev Tst := Frag → Bool
/-- the library's observation of facts and defs, and these tests beside it -/
def obsJ (fx : List Tst) (fa : List Fa) (fn : List DefA) (K : Frag) : He.AlD × Bool := (obsA fa fn K, fx.all fun t => t K)
structure SaysJ (fx : List Tst) (fa : List Fa) (fn : List DefA) (K : Frag) : Prop where
  base : SaysA fa fn K
  also : (fx.all fun t => t K) = true
theorem SaysJ.more {fx : List Tst} {fa : List Fa} {fn : List DefA} {K : Frag} (c : SaysJ fx fa fn K) (i : Nat) {f : Tst} (at_ : fx[i]? = some f := by rfl) : f K = true :=
  (List.all_eq_true.mp c.also) f (List.mem_of_getElem? at_)
def obsJG (n : Nat) (fx : List Tst) (fa : List Fa) (fn : List DefA) (g : Addr → Option Obj) : He.AlD × Bool := obsJ fx fa fn (frG g (asA g n))
def hookJ (n : Nat) (fx : List Tst) (fa : List Fa) (fn : List DefA) : PySem.W.Hook where
  α := He.AlD × Bool
  obs s := obsJG n fx fa fn s.heap.get?
  val _ := (valA fn, true)
  says _ h := ∃ K : Frag, K.In h ∧ SaysJ fx fa fn K
  of _ _ both := ⟨_, frG_in, congrArg Prod.fst both, congrArg Prod.snd both⟩
  keeps _ _ _ here up := let ⟨K, inH, says⟩ := here; ⟨K, inH.keeps up, says⟩
theorem obsJG_eq {n : Nat} {fx : List Tst} {fa : List Fa} {fn : List DefA} {g : Addr → Option Obj} {s : Shared} (same : ∀ a, g a = s.heap.get? a) : obsJG n fx fa fn g = (hookJ n fx fa fn).obs s := congrArg (obsJG n fx fa fn) (funext same)
end HC

/-! generators: if and for in their bodies; defs and methods that are generators -/
namespace HC
open PyProof.Rows PySem L2 PySem.Spec GenW
section
variable {X : Cx} {test tg iter : Expr} {body orelse : List Stmt} {pos : Pos}
/-- if in a generator -/
def tGIf (c : TT) (t u : TGn) : TGn := fun D ys σ H => c σ H fun b H1 => if b = true then t D ys σ H1 else u D ys σ H1
theorem gs_if {tc : TT} {t u : TGn} (hc : PT X test tc) (yes : GSs X body t) (no : GSs X orelse u) : GS X (.If test body orelse pos) (tGIf tc t u) := by
  constructor
  intro A S ip R n ys s₀ c fs K J gd lv s σ H D g size k now owed
  obtain ⟨acc, cc, rel, inv⟩ := now
  rw [arm_exec_If]
  refine seg_at (seg_bind_wrap (wpAny_pure (seg_bind_wrap ?_)))
  rw [g.over]
  refine wpAny_mono (hc.run _ s σ H _ inv owed) ?_ fun e s' raised => k.exc n s₀ e s' raised
  rintro b s' ⟨H1, inv1, q⟩
  cases b
  · exact no.run A S ip R n ys s₀ c fs K J gd lv s' σ H1 D g size k ⟨acc, cc, rel, inv1⟩ (by simpa using q)
  · exact yes.run A S ip R n ys s₀ c fs K J gd lv s' σ H1 D g size k ⟨acc, cc, rel, inv1⟩ (by simpa using q)
/-- for in a generator: ys is what is out so far -/
def tGFor (wi : TI) (g : TG) (tb : TGn) : TGn := fun D ys σ H => wi σ H fun J H1 => ∃ W : Nat → Nat → List V → L2.St → Hp → Prop, (∃ m, W 0 m ys σ H1) ∧ ∀ i m ys σ H, W i m ys σ H →
  (J.stop i H ∧ D.nx ys σ H) ∨ (J.go i H ∧ ∃ N : List V → L2.St → Hp → Prop, (∀ ys' σ' H', N ys' σ' H' → ∃ m', m' < m ∧ W (i + 1) m' ys' σ' H') ∧ ∀ x H', J.yld i H x H' → g x σ H' fun σ2 H2 => tb { D with nx := N, ct := N, bk := D.nx } ys σ2 H2)
/-- what the code of a loop does with an exception: it is noted, then it leaves -/
abbrev noted (env : Env) (e : Value) : Sem PySem.Fin := (do noteFrame e env; theTreesLotGoes e : Sem Unit).wrap (fun _ => .raise e) .raise id id
theorem noted_eq (env : Env) (e : Value) : ((do noteFrame e env; theTreesLotGoes e : Sem Unit).bind fun _ => (.raise e : Sem PySem.Fin)) = noted env e := Sem.bind_eq_wrap _ _
/-- a turn of the loop's code -/
theorem seg_forTurn {prog : Program} {w : World} {A : Around} {R : GenEnd} {Y : Protocol} {n : Nat} {s₀ s : Shared} {fs : List Frame} {env : Env} {it : Value}
    (h : wpAny (model prog w) (A.over (.forLoop tg it body [] env) fs) (pyNext it) (fun r s1 => match r with
        | none => Seg (model prog w) A R Y n s₀ (.forLoop tg it body [] env) (.pure (.again (.block [] env))) fs s1
        | some v => wpAny (model prog w) (A.over (.forLoop tg it body [] env) fs) (letOwnedTupleGo tg it v) (fun _ s2 => wpAny (model prog w) (A.over (.forLoop tg it body [] env) fs) (assign tg env v) (fun _ s3 =>
            Seg (model prog w) A R Y n s₀ (.forLoop tg it body [] env) ((execs body env).wrap (fun f => match f with
              | .next | .cont => .pure (.again (.forLoop tg it body [] env))
              | .brk => .pure (.done .next)
              | .ret v => .pure (.done (.ret v))) (noted env) id id) fs s3)
          (fun e s' => Seg (model prog w) A R Y n s₀ (.forLoop tg it body [] env) (noted env e) fs s') s2)
          (fun e s' => Seg (model prog w) A R Y n s₀ (.forLoop tg it body [] env) (noted env e) fs s') s1)
      (fun e s' => Seg (model prog w) A R Y n s₀ (.forLoop tg it body [] env) (noted env e) fs s') s) :
    Seg (model prog w) A R Y n s₀ (.forLoop tg it body [] env) ((model prog w).den (.forLoop tg it body [] env)) fs s := by
  show Seg _ A R Y n s₀ _ ((forTurn tg it body [] env).onRaise (fun x => do noteFrame x env; theTreesLotGoes x)) fs s
  unfold forTurn
  rw [Sem.onRaise_eq_wrap]
  simp only [noted_eq]
  refine seg_at (seg_bind_wrap (wpAny_pure (seg_bind_wrap (wpAny_onRaise (wpAny_mono h ?_ fun e s' z => wpAny_standAt z)))))
  rintro (_ | v) s1 h1
  · exact h1
  · refine seg_bind_wrap (wpAny_mono h1 ?_ fun e s' z => z)
    intro _ s2 h2
    refine seg_bind_wrap (wpAny_mono h2 ?_ fun e s' z => z)
    intro _ s3 h3
    rw [Sem.bind_eq_wrap', Sem.wrap_wrap]
    refine (congrArg (fun t => Seg (model prog w) A R Y n s₀ (.forLoop tg it body [] env) t fs s3) (Sem.wrap_congr (execs body env) _ _ (fun f => ?_) (fun e => ?_))).mpr h3
    · cases f <;> rfl
    · rfl
theorem gs_for {wi : TI} {g : TG} {tb : TGn} (hp : PassesOwn (model X.prog X.w) X.A X.env X.xe) (calm : X.calm = true) (hi : PI X tg iter wi) (hg : PG X tg g) (hb : GSs X body tb) (hs : ∀ x, foldedSetIterable iter X.env x = pure x := by intro _; rfl) : GS X (.For tg iter body [] pos) (tGFor wi g tb) := by
  constructor
  intro A S ip R n ys s₀ c fs K J gd lv s σ H D gc size k now owed
  obtain ⟨acc, cc, rel, inv⟩ := now
  rw [arm_exec_For]
  refine seg_at (seg_bind_wrap (wpAny_pure (seg_bind_wrap ?_)))
  rw [gc.over]
  refine wpAny_mono (hi.run _ s σ H _ inv owed) ?_ fun e s' raised => k.exc n s₀ e s' raised
  intro v s1 h1
  rw [hs v]
  refine seg_at (seg_bind_wrap (wpAny_pure (seg_bind_wrap ?_)))
  rw [gc.over]
  refine wpAny_holding (wpAny_mono h1 ?_ fun e s' raised => k.exc n s₀ e s' raised)
  rintro itv s2 ⟨it, fp, tn, J', H2, rfl, inv2, T, st, ok, W, ⟨m0, w0⟩, turn⟩
  have offS : ∀ b ∈ fp, S ≠ b := fun b hb => (ok b hb).2.2.2.2.2 (S, lstObj acc cc) (List.mem_append_right _ List.mem_cons_self)
  have still : ∀ {H' : Hp} {acc' : Array Value} {cc' : Nat}, (∀ b ∈ fp, H' b = none) → ∀ b ∈ fp, FpOk X ((S, lstObj acc' cc') :: ip) H' b := by
    intro H' acc' cc' free b hb
    obtain ⟨_, o1, o2, o3, o4, o5⟩ := ok b hb
    refine ⟨free b hb, o1, o2, o3, o4, fun p hm => ?_⟩
    rcases List.mem_append.mp hm with z | z
    · exact o5 p (List.mem_append_left _ z)
    · rcases List.mem_cons.mp z with rfl | z
      · exact offS b hb
      · exact o5 p (List.mem_append_right _ (List.mem_cons_of_mem _ z))
  refine seg_call fun p => ?_
  have here := fun (kk : Result → Sem PySem.Fin) => gc_loop (k := kk) (c' := .forLoop tg (.ref it) body [] X.env) (l := lv []) (kp := []) (p := p) gc rfl rfl
  have out : ∀ (n : Nat) (s₀ : Shared) (e : Value) (s' : Shared), X.xe e s' → Seg (model X.prog X.w) A R (GY X S) n s₀ (.forLoop tg (.ref it) body [] X.env) (noted X.env e)
      (.ret (fun r => ((match r with
        | .ok f => (.pure f : Sem Flow)
        | .error e => .raise e).onRaise (cameBack X.env)).wrap K J gd lv) none (gd false) (lv []) c p [] :: fs) s' := by
    intro n s₀ e s' raised
    apply seg_wrap
    rw [(here _).over]
    apply wpAny_bind
    refine wpAny_mono (hp e s' raised) (fun _ s3 back => wpAny_theTreesLotGoes ?_) fun e2 s3 back => ?_
    · exact seg_leaf (.error e) (seg_cameBack gc k back)
    · exact seg_leaf (.error e2) (seg_cameBack gc k back)
  have loop : ∀ (m n i : Nat) (ys : List V) (s₀ s : Shared) (σ : L2.St) (H : Hp) (acc : Array Value) (cc : Nat), n + ys.length = sizeLine → W i m ys σ H → Vals ys acc.toList → L2.Inv X ((S, lstObj acc cc) :: ip) σ H s → tn i s.heap → (∀ b ∈ fp, H b = none) →
      Seg (model X.prog X.w) A R (GY X S) n s₀ (.forLoop tg (.ref it) body [] X.env) ((model X.prog X.w).den (.forLoop tg (.ref it) body [] X.env))
        (.ret (fun r => ((match r with
        | .ok f => (.pure f : Sem Flow)
        | .error e => .raise e).onRaise (cameBack X.env)).wrap K J gd lv) none (gd false) (lv []) c p [] :: fs) s := by
    intro m
    induction m using Nat.strongRecOn with | ind m ih =>
      intro n i ys s₀ s σ H acc cc size w rel inv st free
      apply seg_forTurn
      rw [(here _).over]
      rcases turn i m ys σ H w with ⟨stop, q⟩ | ⟨go, N, back, step⟩
      · refine wpAny_mono (T.done X rfl rfl rfl calm i _ s σ H X.xe inv (still free) st stop) ?_ fun e s' raised => out n s₀ e s' raised
        rintro r s4 ⟨rfl, inv4⟩
        refine seg_again rfl ?_
        exact seg_leaf (.ok .next) (k.ok n ys s₀ s4 .next size ⟨σ, H, ⟨acc, cc, rel, inv4⟩, q⟩)
      · refine wpAny_mono (T.item X rfl rfl rfl calm i _ s σ H X.xe inv (still free) st go) ?_ fun e s' raised => out n s₀ e s' raised
        rintro r s4 ⟨u, rfl, h4⟩
        refine wpAny_mono h4 ?_ fun e s' raised => out n s₀ e s' raised
        rintro _ s5 ⟨x, H5, inv5, ru, yl, st5, free5⟩
        refine wpAny_mono (hg.run _ s5 σ H5 x u _ (inv5.pinned (still free5) (T.obj _ _ st5)) ru (step x H5 yl)) ?_ fun e s' raised => out n s₀ e s' raised
        rintro _ s6 ⟨σ6, H6, inv6, q6⟩
        have again : ∀ {n' : Nat} {ys' : List V} {s₀' s7 : Shared} {σ7 : L2.St} {H7 : Hp}, n' + ys'.length = sizeLine → GI X S (ip ++ pinsAt fp s5.heap) ys' σ7 H7 s7 → N ys' σ7 H7 →
            Seg (model X.prog X.w) A R (GY X S) n' s₀' (.forLoop tg (.ref it) body [] X.env) (.pure (.again (.forLoop tg (.ref it) body [] X.env)))
              (.ret (fun r => ((match r with
        | .ok f => (.pure f : Sem Flow)
        | .error e => .raise e).onRaise (cameBack X.env)).wrap K J gd lv) none (gd false) (lv []) c p [] :: fs) s7 := by
          rintro n' ys' s₀' s7 σ7 H7 size' ⟨acc7, cc7, rel7, inv7⟩ n7
          obtain ⟨m', lt, w7⟩ := back ys' σ7 H7 n7
          have pin : ∀ b ∈ fp, ∀ o, s5.heap.get? b = some o → s7.heap.get? b = some o ∧ H7 b = none := fun b hb o at_ =>
            have z := inv7.pin (b, o) (List.mem_append_right _ (List.mem_cons_of_mem _ (List.mem_append_right _ (mem_pinsAt hb at_))))
            ⟨z.1, z.2.1⟩
          refine seg_again rfl (ih m' lt n' (i + 1) ys' s₀' s7 σ7 H7 acc7 cc7 size' w7 rel7 (Inv.unpinned (pins := (S, lstObj acc7 cc7) :: ip) (pl := pinsAt fp s5.heap) inv7) (T.keep _ _ _ st5 fun b hb o at_ => (pin b hb o at_).1) fun b hb => ?_)
          obtain ⟨o, at_, _⟩ := T.obj _ _ st5 b hb
          exact (pin b hb o at_).2
        refine hb.run A S (ip ++ pinsAt fp s5.heap) R n ys s₀ _ _ _ _ id id s6 σ6 H6 { D with nx := N, ct := N, bk := D.nx } ⟨gc.pn, fun q hq => ?_, gc.apart, (here _).over, (here _).split, (here _).guard, rfl⟩ size ⟨fun n' ys' s₀' s7 f size' got => ?_, fun n' s₀' e s7 raised => out n' s₀' e s7 raised⟩ ⟨acc, cc, rel, inv6⟩ q6
        · rcases List.mem_append.mp hq with z | z
          · exact gc.ip q z
          · exact (offS _ (of_pinsAt z).1).symm
        · cases f with
          | next =>
            obtain ⟨σ7, H7, G7, n7⟩ := got
            exact again size' G7 n7
          | cont =>
            obtain ⟨σ7, H7, G7, n7⟩ := got
            exact again size' G7 n7
          | brk =>
            obtain ⟨σ7, H7, ⟨acc7, cc7, rel7, inv7⟩, n7⟩ := got
            exact seg_leaf (.ok .next) (k.ok n' ys' s₀' s7 .next size' ⟨σ7, H7, ⟨acc7, cc7, rel7, Inv.unpinned (pins := (S, lstObj acc7 cc7) :: ip) (pl := pinsAt fp s5.heap) inv7⟩, n7⟩)
          | ret v =>
            obtain ⟨x7, σ7, H7, ⟨acc7, cc7, rel7, inv7⟩, r7, n7⟩ := got
            exact seg_leaf (.ok (.ret v)) (k.ok n' ys' s₀' s7 (.ret v) size' ⟨x7, σ7, H7, ⟨acc7, cc7, rel7, Inv.unpinned (pins := (S, lstObj acc7 cc7) :: ip) (pl := pinsAt fp s5.heap) inv7⟩, r7, n7⟩)
  exact loop m0 n 0 ys s₀ s2 σ H2 acc cc size w0 rel inv2 st fun b hb => (ok b hb).1
end
end HC

/-! signs of own classes: x op int, x[i], x(..), x != y and x == y by an own __eq__ -/
namespace HC
open PyProof.Rows PySem L2 PySem.Spec
/-- what op between an instance of C and an int asks of the written part -/
structure BinI (K : PySem.W.Frag) (C : Addr) (nm : Str × Str) : Prop where
  self : PySem.W.selfFirst K C = true
  noR : PySem.W.findIn K (.ref C) nm.2 = some none
  i1 : ∃ fo, PySem.W.findIn K (.type "int") nm.1 = some fo
  i2 : ∃ ro, PySem.W.findIn K (.type "int") nm.2 = some ro
  sub : PySem.W.subIn K (.type "int") (.ref C) = some false
def binIB (K : PySem.W.Frag) (C : Addr) (nm : Str × Str) : Bool := PySem.W.selfFirst K C && (decide (PySem.W.findIn K (.ref C) nm.2 = some none) && ((PySem.W.findIn K (.type "int") nm.1).isSome && ((PySem.W.findIn K (.type "int") nm.2).isSome && decide (PySem.W.subIn K (.type "int") (.ref C) = some false))))
theorem binIB_ok {K : PySem.W.Frag} {C : Addr} {nm : Str × Str} (h : binIB K C nm = true) : BinI K C nm := by
  simp only [binIB, Bool.and_eq_true, decide_eq_true_eq] at h
  exact ⟨h.1, h.2.1, Option.isSome_iff_exists.mp h.2.2.1, Option.isSome_iff_exists.mp h.2.2.2.1, h.2.2.2.2⟩
section
variable {X : Cx} {k : Nat} {C : Addr} {sp : Sp} {m : Str}
def rOwnI (C : Addr) (sp : Sp) : R2 := fun x y H Q => ∃ a dx fs i, x = .ref a ∧ y = .int i ∧ H a = some (.ins C dx fs) ∧ sp [.ref a, .int i] H Q E0
theorem op_ownI {op : Operator} {nm : Str × Str} (M : MethR X.prog X.w X.K X.mg X.base C m k sp) (B : BinI X.K C nm) (room : Room k X.A) (h1 : PySem.dunder op.info.2 = m := by first | rfl | decide) (h2 : PySem.dunder op.info.2 = nm.1 := by first | rfl | decide) (h3 : PySem.dunderR op.info.2 = nm.2 := by first | rfl | decide) : OpR X (binaryOp op) (rOwnI C sp) := by
  rintro pins s σ H _ _ v u Q inv rv ru ⟨a, dx, fs, i, rfl, rfl, ha, owed⟩
  cases rv
  obtain ⟨t, rfl⟩ := ru
  obtain ⟨ox, od, isA⟩ := instAt inv ha
  obtain ⟨mm, fr⟩ := inv.fr
  obtain ⟨fo, i1⟩ := B.i1
  obtain ⟨ro, i2⟩ := B.i2
  have called := run_fnR (us := [.ref a, .int i t]) (vs := [V.ref a, V.int i]) M.fn room passN inv (.cons (by rfl) (.cons ⟨t, rfl⟩ .nil)) owed
  exact PySem.W.ksp_binT (T := "int") fr inv.mod.kin isA rfl B.self (h1 ▸ M.at_.at_) M.at_.fn (h3 ▸ B.noR) (.inl rfl) (h2 ▸ i1) (h3 ▸ i2) B.sub (wpAny_mono (wpAny_call called) (fun _ _ => cmpBack) fun _ _ z => z)
theorem n_ownI {H : Hp} {Q : VK} {a dx : Addr} {fs : List (Str × V)} {i : Int} (h1 : H a = some (.ins C dx fs)) (h : sp [.ref a, .int i] H Q E0) : rOwnI C sp (.ref a) (.int i) H Q := ⟨a, dx, fs, i, rfl, rfl, h1, h⟩
/-- o[i] by an own __getitem__ -/
def tOwnIx (C : Addr) (sp : Sp) (to ti : TE) : TE := fun σ H Q => to σ H fun x H1 => ti σ H1 fun i H2 => ∃ a dx fs, x = V.ref a ∧ H2 a = some (.ins C dx fs) ∧ sp [x, i] H2 Q E0
theorem pe_ownIx {o i : Expr} {to ti : TE} {pos : Pos} (M : MethR X.prog X.w X.K X.mg X.base C "__getitem__" k sp) (fi : ∀ f, Meth X.K C "__getitem__" f → PySem.W.fnIn X.K f = true) (room : Room (k + 1) X.A) (ho : PE X o to) (hi : PE X i ti)
    (plain : ∀ (a : Addr) (v : Value), subscripted i true (.ref a) v = runValue (.builtin "lifetime.subscript" ⟨[.ref a, v], []⟩) := by intro _ _; rfl) : PE X (.Subscript o i pos) (tOwnIx C sp to ti) := by
  constructor
  intro pn s σ H Q inv h
  refine Subscript_ (thn (ho.run pn s σ H _ inv h) ?_)
  rintro u s1 ⟨x, H1, inv1, rx, q1⟩
  refine thn (hi.run pn s1 σ H1 _ inv1 q1) ?_
  rintro v s2 ⟨y, H2, inv2, ry, a, dx, fs, rfl, ha, owed⟩
  cases rx
  obtain ⟨ox, od, isA⟩ := instAt inv2 ha
  obtain ⟨mm, fr⟩ := inv2.fr
  have called := M.fn X.A.in1 X.stack s2 H2 [.ref a, v] [.ref a, y] Q E0 room.in1 inv2.env0.in1 (.cons rfl (.cons ry .nil)) owed
  refine PySem.W.sub_K fr inv2.mod.kin isA M.at_.at_ (fi _ M.at_) M.at_.fn (wpAny_call (codeAny_mono called ?_)) (plain a v)
  rintro (er | fl) s3 got
  · rcases got with ⟨_, _, _, _, _, _, _, _, _, _, _, _, none_leaves⟩
    exact none_leaves.elim
  · cases fl with
    | ret val => exact inv2.after got
    | _ => exact got.elim
def OixK (C : Addr) (sp : Sp) (Q : VK) (x : V) : VK := fun i H2 => ∃ a dx fs, x = V.ref a ∧ H2 a = some (.ins C dx fs) ∧ sp [x, i] H2 Q E0
theorem g_ownIx {to ti : TE} {σ : L2.St} {H : Hp} {Q : VK} (h : to σ H fun x H1 => ti σ H1 (OixK C sp Q x)) : tOwnIx C sp to ti σ H Q := h
theorem n_ownIx {H : Hp} {Q : VK} {a dx : Addr} {fs : List (Str × V)} {i : V} (h1 : H a = some (.ins C dx fs)) (h : sp [.ref a, i] H Q E0) : OixK C sp Q (.ref a) i H := ⟨a, dx, fs, rfl, h1, h⟩
/-! == and != by an own __eq__ -/
structure EqO (K : PySem.W.Frag) (C : Addr) : Prop where
  ne : PySem.W.findIn K (.ref C) "__ne__" = some (some (.builtin "object.__ne__"))
  obj : PySem.W.subIn K (.ref C) (.type "object") = some true
def eqOB (K : PySem.W.Frag) (C : Addr) : Bool := decide (PySem.W.findIn K (.ref C) "__ne__" = some (some (.builtin "object.__ne__"))) && decide (PySem.W.subIn K (.ref C) (.type "object") = some true)
theorem eqOB_ok {K : PySem.W.Frag} {C : Addr} (h : eqOB K C = true) : EqO K C := by
  simp only [eqOB, Bool.and_eq_true, decide_eq_true_eq] at h
  exact ⟨h.1, h.2⟩
/-- both of the class at C; b: the answer of __eq__ -/
def rOwnEq (neg : Bool) (C : Addr) (sp : Sp) : R2 := fun x y H Q => ∃ a b dx dy fs gs, x = .ref a ∧ y = .ref b ∧ H a = some (.ins C dx fs) ∧ H b = some (.ins C dy gs) ∧ sp [.ref a, .ref b] H (fun v H' => ∃ r : Bool, v = .bl r ∧ Q (.bl (if neg then !r else r)) H') E0
theorem notFirst_self {K : PySem.W.Frag} {C : Addr} : PySem.W.notFirst K C (.ref C) = true := by unfold PySem.W.notFirst; simp
theorem ne_bind (self : Value) : bindSpecial (.builtin "object.__ne__") self = pure (.builtin "object.__ne__", [self]) := by kernel_rfl
theorem op_ownEq (M : MethR X.prog X.w X.K X.mg X.base C "__eq__" k sp) (room : Room (k + 1) X.A) : OpR X (compareOp .Eq) (rOwnEq false C sp) := by
  rintro pins s σ H _ _ v u Q inv rv ru ⟨a, b, dx, dy, fs, gs, rfl, rfl, ha, hb, owed⟩
  cases rv
  cases ru
  obtain ⟨ox, od, isA⟩ := instAt inv ha
  obtain ⟨oy, od', isB⟩ := instAt inv hb
  obtain ⟨mm, fr⟩ := inv.fr
  have called := run_fnR (us := [.ref a, .ref b]) (vs := [V.ref a, V.ref b]) M.fn (room.mono (Nat.le_succ k)) passN inv (.cons (by rfl) (.cons (by rfl) .nil)) owed
  show wpAny _ _ (richCompare .Eq (.ref a) (.ref b)) _ _ _
  refine PySem.W.cmp_K (by have := units65 room; omega) fr inv.mod.kin isA isB.type notFirst_self M.at_.at_ M.at_.fn (wpAny_mono (wpAny_call called) ?_ fun _ _ z => z)
  rintro r s1 ⟨x, H1, inv1, rx, br, rfl, q⟩
  obtain rfl : r = Value.bool br := rx
  exact ⟨.bl br, H1, inv1, rfl, by simpa using q⟩
theorem op_ownNe (M : MethR X.prog X.w X.K X.mg X.base C "__eq__" k sp) (O : EqO X.K C) (room : Room (k + 1) X.A) : OpR X (compareOp .NotEq) (rOwnEq true C sp) := by
  rintro pins s σ H _ _ v u Q inv rv ru ⟨a, b, dx, dy, fs, gs, rfl, rfl, ha, hb, owed⟩
  cases rv
  cases ru
  obtain ⟨ox, od, isA⟩ := instAt inv ha
  obtain ⟨oy, od', isB⟩ := instAt inv hb
  have un := units65 room
  have called := M.fn X.A.in1 X.stack s H [.ref a, .ref b] [.ref a, .ref b] _ E0 room.in1 inv.env0.in1 (.cons rfl (.cons rfl .nil)) owed
  have look : PySem.W.Looks (model X.prog X.w) s.heap (specialOf (.ref a) "__ne__") (some (.builtin "object.__ne__")) := isA.type.andThen (PySem.W.looks_findIn inv.kIn O.ne)
  have isObj : PySem.W.Looks (model X.prog X.w) s.heap (isInstance (.ref a) (.type "object")) true := isA.type.andThen (PySem.W.looks_subIn inv.kIn O.obj)
  have inner : wpAny (model X.prog X.w) X.A.in1 (Builtin.«object.__ne__» ⟨[.ref a, .ref b], []⟩) (fun fin s' => ∃ r : Bool, fin = .done (.ret (.bool r)) ∧ EP X pins σ Q (.bool r) s') X.xe s := by
    unfold Builtin.«object.__ne__»; refine wpAny_bind (wpAny_pure (wpAny_bind (wpAny_cRoomFor (by show X.A.in1.units < cLine; exact Nat.lt_of_le_of_lt (Nat.le_of_eq rfl) (by have : X.A.in1.units ≤ X.A.units + 1 := Nat.le_of_eq rfl; omega)) (wpAny_bind (PySem.W.ifBound_K inv.kIn isA M.at_.at_ M.at_.fn (wpAny_call (codeAny_mono called ?_)))))))
    rintro (er | fl) s1 got
    · rcases got with ⟨_, _, _, _, _, _, _, _, _, _, _, _, none_leaves⟩
      exact none_leaves.elim
    · cases fl with
      | ret val =>
        obtain ⟨x, H1, inv1, rx, br, rfl, q⟩ := inv.after got
        obtain rfl : val = Value.bool br := rx
        refine wpAny_bind (wpAny_truthy_bool (wpAny_pure ⟨!br, rfl, .bl (!br), H1, inv1, rfl, by simpa using q⟩))
      | _ => exact got.elim
  show wpAny _ _ (richCompare .NotEq (.ref a) (.ref b)) _ _ _
  unfold richCompare
  simp only [oneThing_ref]
  refine wpAny_holding (wpAny_bind (wpAny_cRoomFor (by omega) (wpAny_bind (isA.type.here (wpAny_bind (isB.type.here ?_))))))
  simp only [bne_self_eq_false, Bool.false_eq_true, if_false, Bool.false_and]
  refine wpAny_bind (wpAny_pure (show _ from ?_)); simp only [Bool.false_eq_true, if_false]; unfold tryCompare
  refine wpAny_bind (wpAny_bind (NtL.csib look (ne_bind _) ?_))
  refine wpAny_call (codeAny_call_builtin (by decide +kernel) F.cmpEntry_ne (PySem.W.check_slot F.cmpKind_ne F.cmpSplit_ne isObj (F.cmpArgs_ne _ _) (wpAny_mono inner ?_ fun _ _ z => z)))
  rintro fin s1 ⟨r, rfl, q⟩
  exact wpAny_pure (wpAny_pure q)
theorem n_ownEq {neg : Bool} {H : Hp} {Q : VK} {a b dx dy : Addr} {fs gs : List (Str × V)} (h1 : H a = some (.ins C dx fs)) (h2 : H b = some (.ins C dy gs)) (h : sp [.ref a, .ref b] H (fun v H' => ∃ r : Bool, v = .bl r ∧ Q (.bl (if neg then !r else r)) H') E0) : rOwnEq neg C sp (.ref a) (.ref b) H Q := ⟨a, b, dx, dy, fs, gs, rfl, rfl, h1, h2, h⟩
end
end HC

/-! head, *rest = list; str(int), int(text), text.split(text), f-strings -/
namespace HC
open PyProof.Rows PySem L2 PySem.Spec
/-- a list taken apart: its first item, and a new list of the others; nothing else is touched -/
theorem unpack_head {prog : Program} {w : World} {A : Around} {E : Value → Shared → Prop} {s : Shared} {l : Addr} {v : Value} {vs : List Value} {Q : List Value → Shared → Prop} (is : s.heap.IsList l (v :: vs).toArray) (calm : A.handled = none) (short : vs.length + 1 ≤ sizeLine)
    (go : ∀ (h' : Heap) (tk : Nat), (∀ b o, s.heap.get? b = some o → h'.get? b = some o) → Q [v, .ref h'.objs.size] { s with heap := h'.push { cls := .type "list", data := .seq vs.toArray }, toks := tk }) : wpAny (model prog w) A (unpackItems (.ref l) 2 (some 1)) Q E s := by
  obtain ⟨ol, at_, _⟩ := id is
  have low := Heap.lt_size at_
  have off : l ≠ s.heap.objs.size := Nat.ne_of_lt low
  unfold unpackItems notIterableAtAll
  refine wpAny_bind (wpAny_bind (wpAny_specialOf is.typeIs PySem.F.slot_list_iter.lookup (wpAny_pure ?_)))
  rw [if_neg (fun z : false = true => nomatch z)]
  refine wpAny_bind (wpAny_holding (wpAny_pyIter_list is (wpAny_bind (wpAny_holding (PySem.W.kun_draw off 1 0 _ _ ⟨_, Heap.get?_push_size _ rfl, rfl, rfl⟩ (is.push _) (by simp) fun h1 it1 same1 => ?_)))))
  have is1 : h1.IsList l (v :: vs).toArray := (is.push _).extBut same1.extBut off
  obtain ⟨oi, ati, _⟩ := id it1
  obtain ⟨ol1, at1, _⟩ := id is1
  refine wpAny_bind (wpAny_holding (PySem.W.kun_collect (s := { s with heap := h1 }) (T := "list_iterator") (items := (v :: vs).toArray) (.inr (.inr (.inl rfl))) (Walks.list (A := A.in1) calm s.heap.objs.size l off _) (fun j u st => st.1.typeIs) (k := 1) (by simp) ⟨it1, is1⟩ (Heap.lt_size ati) (Heap.lt_size at1) (fun h2 tk kept => ?_) (by simpa using short)))
  have all : ∀ b o, s.heap.get? b = some o → h2.get? b = some o := fun b o e => kept b o (Nat.ne_of_lt (Heap.lt_size e)) (same1.extBut b o (Nat.ne_of_lt (Heap.lt_size e)) (Heap.get?_push_of_some _ e))
  have cut : (((v :: vs).toArray.toList.drop 1).length - (2 - 1 - 1)) = vs.length := by simp
  show wpAny _ _ (if ((v :: vs).toArray.toList.drop 1).length < 2 - 1 - 1 then _ else _) _ _ _
  rw [if_neg (by simp)]
  show wpAny _ _ (newList (((v :: vs).toArray.toList.drop 1).take (((v :: vs).toArray.toList.drop 1).length - (2 - 1 - 1))) >>= fun d => pure (((v :: vs).toArray.toList.drop 0).take 1 ++ [d] ++ ((v :: vs).toArray.toList.drop 1).drop (((v :: vs).toArray.toList.drop 1).length - (2 - 1 - 1)))) _ _ _
  rw [cut]
  have e1 : ((v :: vs).toArray.toList.drop 1).take vs.length = vs := by simp
  have e2 : ((v :: vs).toArray.toList.drop 1).drop vs.length = [] := by simp
  rw [e1, e2]
  exact wpAny_bind (wpAny_newList (s := { s with heap := h2, toks := tk }) (wpAny_pure (by simpa using go h2 tk all)) (by omega))
section
variable {X : Cx} {e o t1 t2 : Expr} {te to : TE} {p q pos apos : Pos} {k : Nat} {K : PySem.W.Frag} {H : Hp} {Q : VK} {σ : L2.St}
/-- t1, *t2 = list -/
def gStar1 (K : PySem.W.Frag) (g : TGs) : TG := fun v σ H Q => ∃ a x xs, v = .ref a ∧ SqL K H a (x :: xs) ∧ ∀ p, H p = none → g [x, .ref p] σ (upd H p (.lst xs)) Q
theorem pg_star1 (K' : PySem.W.Frag) {g : TGs} (calm : X.calm = true) (h : PGs X [t1, t2] g) (e1 : (assignEach [t1, .Starred t2 p] X.env).map (·.2) = (assignEach [t1, t2] X.env).map (·.2) := by rfl) (e2 : (assignEach [t1, .Starred t2 p] X.env).length = 2 := by rfl) (e3 : (assignEach [t1, .Starred t2 p] X.env).findIdx? (·.1) = some 1 := by rfl) (hK : X.K = K' := by rfl) :
    PG X (.Tuple [t1, .Starred t2 p] k pos) (gStar1 K' g) := by
  subst hK
  constructor
  rintro pins s σ H _ u Q inv rel ⟨a, x, xs, rfl, sq, owed⟩
  cases rel
  obtain ⟨its, rv, pl, hz⟩ := inv.list sq
  cases rv with
  | @cons _ v _ vs rx rxs =>
    rw [assign_Tuple]
    refine wpAny_bind (wpAny_standAt ?_); unfold unpack
    rw [e2, e3, e1]
    refine wpAny_bind (wpAny_holding (unpack_head pl.isList (inv.ok.hd calm) (by have := rxs.length; simpa [← this] using hz) fun h' tk kept => ?_))
    have inv1 : L2.Inv X pins σ H { s with heap := h', toks := tk } := inv.kept kept
    have free : H h'.objs.size = none := inv1.hok.fresh (Nat.le_refl _)
    have len : xs.length ≤ sizeLine := Nat.le_trans (Nat.le_succ _) (by simpa using hz)
    have ok : ObjOk X.prog X.w (upd H h'.objs.size (.lst xs)) (h'.push { cls := .type "list", data := .seq vs.toArray }) h'.objs.size (.lst xs) := ⟨len, vs, 0, rxs, Heap.get?_push_size _ rfl⟩
    have inv2 := inv1.laid (t' := tk) (a := h'.objs.size) (o := .lst xs) (h' := h'.push { cls := .type "list", data := .seq vs.toArray }) (fun b o z => Heap.get?_push_of_some _ z) (Nat.le_refl _) ok
    exact h.run pins _ σ _ [x, V.ref h'.objs.size] _ Q inv2 (.cons rx (.cons rfl .nil)) (owed _ free)
theorem n_star1P {g : TGs} {a : Addr} {x : V} {xs : List V} {Q : L2.St → Hp → Prop} (h1 : SqL K H a (x :: xs)) (h : ∀ p H', H p = none → Same H H' → H' p = some (.lst xs) → g [x, .ref p] σ H' Q) : gStar1 K g (.ref a) σ H Q := ⟨a, x, xs, rfl, h1, fun p hp => h p _ hp (same_new hp) upd_same⟩
/-- the text of a number -/
def numS (i : Int) : Str := Str.ofString (toString i)
def rStr1 : List V → Hp → VK → Prop := fun xs H Q => ∃ i, xs = [.int i] ∧ i.natAbs.log2 < 1920 ∧ Q (.str (numS i)) H
theorem call_strI : CallR X (.type "str") rStr1 := by
  rintro pins s σ H xs us Q inv rel ⟨i, rfl, small, q⟩
  obtain ⟨_, rfl, t, rfl⟩ := vals1 rel
  exact PySem.P.str_of_int small ⟨.str (numS i), H, inv.tok _, ⟨_, rfl⟩, q⟩
theorem pe_strI (m : Bts X.mg) (he : PE X e te) (hg : Gl X "str" := by rfl) (hs : starEach (e :: []) X.env = (false, eval e X.env) :: starEach [] X.env := by rfl) : PE X (.Call (.Name "str" p) [e] [] pos) (tCB rStr1 (tCons te tNil)) :=
  pe_callTy call_strI hg m.str bt_str (pa_cons he pa_nil hs) (by decide) (by decide) hs rfl
theorem g_strI {i : Int} (h1 : i.natAbs.log2 < 1920) (h : Q (.str (numS i)) H) : rStr1 [.int i] H Q := ⟨i, rfl, h1, h⟩
def rIntS : List V → Hp → VK → Prop := fun xs H Q => ∃ a n, xs = [.str a] ∧ PySem.intText? a = some n ∧ a.length ≤ 640 ∧ Q (.int n) H
theorem pe_intS (m : Bts X.mg) (he : PE X e te) (hg : Gl X "int" := by rfl) (hs : starEach (e :: []) X.env = (false, eval e X.env) :: starEach [] X.env := by rfl) : PE X (.Call (.Name "int" p) [e] [] pos) (tCB rIntS (tCons te tNil)) :=
  pe_callTy call_int_str hg m.int bt_int (pa_cons he pa_nil hs) (by decide) (by decide) hs rfl
theorem g_intS {a : Str} {n : Int} (h1 : PySem.intText? a = some n) (h2 : a.length ≤ 640) (h : Q (.int n) H) : rIntS [.str a] H Q := ⟨a, n, rfl, h1, h2, h⟩
theorem num_small {i : Int} (h0 : 0 ≤ i) (h1 : i < 2 ^ 64) : i.natAbs.log2 < 1920 := by
  have : i.natAbs < 2 ^ 1920 := Nat.lt_of_lt_of_le (by omega : i.natAbs < 2 ^ 64) (Nat.pow_le_pow_right (by decide) (by decide))
  by_cases z : i.natAbs = 0
  · rw [z]; decide
  · exact (Nat.log2_lt z).mpr this
/-- text.split(text) -/
def rSplit : V → List V → Hp → VK → Prop := fun x xs H Q => ∃ a b, x = .str a ∧ xs = [.str b] ∧ (b.length == 0) = false ∧ a.length + 2 ≤ sizeLine ∧ rNewStrs (Txt.split a b) H Q
theorem g_split {a b : Str} (h1 : (b.length == 0) = false) (h2 : a.length + 2 ≤ sizeLine) (h : ∀ p H', H p = none → Same H H' → H' p = some (.lst ((Txt.split a b).map V.str)) → Q (.ref p) H') : rSplit (.str a) [.str b] H Q := ⟨a, b, rfl, rfl, h1, h2, fun p hp => h p _ hp (same_new hp) upd_same⟩
/-- f'..' of two parts and more -/
def tFs (ts : List TE) : TE := fun σ H Q => tJs ts Str.empty σ H fun out H1 => Q (.str out) H1
def FsK (ts : List TE) (acc : Str) (σ : L2.St) (Q : VK) : VK := fun x H1 => ∃ y : Str, x = .str y ∧ (acc ++ y).length ≤ sizeLine ∧ tJs ts (acc ++ y) σ H1 fun out H2 => Q (.str out) H2
theorem g_fs {t : TE} {ts : List TE} (h : t σ H (FsK ts Str.empty σ Q)) : tFs (t :: ts) σ H Q := h
theorem n_fs0 {acc y : Str} (hz : (acc ++ y).length ≤ sizeLine) (h : Q (.str (acc ++ y)) H) : FsK [] acc σ Q (.str y) H := ⟨y, rfl, hz, h⟩
theorem n_fs {acc y : Str} {t : TE} {ts : List TE} (hz : (acc ++ y).length ≤ sizeLine) (h : t σ H (FsK ts (acc ++ y) σ Q)) : FsK (t :: ts) acc σ Q (.str y) H := ⟨y, rfl, hz, h⟩
def FmK (Q : VK) : VK := fun x H1 => (∃ y : Str, x = .str y ∧ y.length ≤ sizeLine ∧ Q (.str y) H1) ∨ ∃ i : Int, x = .int i ∧ i.natAbs.log2 < 1920 ∧ Q (.str (numS i)) H1
theorem g_fmt (h : te σ H (FmK Q)) : tFmt te σ H Q := h
theorem n_fmtS {y : Str} (hz : y.length ≤ sizeLine) (h : Q (.str y) H) : FmK Q (.str y) H := .inl ⟨y, rfl, hz, h⟩
theorem n_fmtI {i : Int} (hz : i.natAbs.log2 < 1920) (h : Q (.str (numS i)) H) : FmK Q (.int i) H := .inr ⟨i, rfl, hz, h⟩
end
end HC

/-! generator methods: their promises, list(o.m(..)); instances called; steps of generator bodies -/
namespace HC
open PyProof.Rows PySem L2 PySem.Spec
section
variable {K : PySem.W.Frag} {P : Program} {w : World} {base : Heap} {mg : Str → Option Value}
/-- the method m of the class at C is a generator that keeps sp -/
structure MethG (P : Program) (w : World) (K : PySem.W.Frag) (mg : Str → Option Value) (base : Heap) (C : Addr) (m : Str) (k : Nat) (sp : SpG) : Prop where
  cl : Cls K C
  ex : ∃ f fd ps, Meth K C m f ∧ GFn P w K mg base k f fd ps sp ∧ Binds K fd ps []
theorem gfn_body {x qual : Str} {params : Arguments} {body : List Stmt} {scope : Scope} {f : Addr} {fd : FuncData} {N ps : List Str} {k : Nat} {sp : SpG} (F : FunD K x qual params body scope [] [] f fd) (S : GScope N ps scope) (len : ∀ vs H Q E, sp vs H Q E → vs.length = ps.length)
    (owes : ∀ (cdv : Value) (A : Around) (outer : List Env) (s : Shared) (H : Hp) (vs : List V) (Q : List V → Hp → Prop) (E : XK) (pn : List (Addr × Obj)), Room k (A.deeper (envOfC qual scope s.heap.objs.size f cdv)) → sp vs H Q E →
      ∃ t, GSs (gcxOf P w K mg base N qual scope f cdv A outer s H E pn) body t ∧ t { nx := fun ys _ H' => Q ys H', rt := fun ys v H' => v = .non ∧ Q ys H' } [] (start N vs) H) : GFn P w K mg base (k + 1) f fd ps sp := by
  rcases F.ex with ⟨c1, c2, dv, kv, dc, pm, an, cdv, ct, sl, e, at_, code, _⟩
  subst e
  exact gfn_of at_ code S len (owes cdv)
end
section
variable {X : Cx} {k : Nat} {C : Addr} {sp : SpG} {m : Str} {o e : Expr} {es : List Expr} {to : TE} {t : TA} {p q pos apos : Pos} {K : PySem.W.Frag} {H : Hp} {Q : VK} {σ : L2.St}
theorem noStop0 : NoStop X.K E0 := fun _ _ _ z => z.elim
/-- list(o.m(e, ..)), m a generator method -/
theorem pe_listM {pl : Sem Bool} (M : MethG X.prog X.w X.K X.mg X.base C m k sp) (room : Room (k + 3) X.A) (b : Bts X.mg) (ho : PE X o to) (ha : PA X (e :: es) t) (hg : Gl X "list" := by rfl)
    (hs : starEach [.Call (.Attribute o m apos) (e :: es) [] q] X.env = (false, eval (.Call (.Attribute o m apos) (e :: es) [] q) X.env) :: starEach [] X.env := by rfl)
    (hst : starEach (e :: es) X.env = (false, eval e X.env) :: starEach es X.env := by rfl) (hpl : (backTo q (starEach es X.env)).any (·.1) = false := by rfl)
    (ht : eval (.Call (.Attribute o m apos) (e :: es) [] q) X.env = (do
      let ov ← eval o X.env
      standAt apos.atName
      let (fn, rest) ← holding [ov] (getMethod ov m pl)
      callWith q fn rest (backTo q (starEach (e :: es) X.env)) (backToKw q (keywordEach [] X.env))) := by rfl) :
    PE X (.Call (.Name "list" p) [.Call (.Attribute o m apos) (e :: es) [] q] [] pos) (tListG (tMethG C m sp [] E0 to t)) := by
  obtain ⟨f, fd, ps, at_, F, bnd⟩ := M.ex
  exact pe_listG (pgen_meth (pl := pl) ho M.cl at_ F (room.mono (by omega)) bnd .nil ha hst hpl ht) passN noStop0 room hg b.list bt_list (by decide) (by decide) hs
/-- the object, then the arguments, then what the generator promises -/
def GmK (C : Addr) (m : Str) (sp : SpG) (t : TA) (σ : L2.St) (Q : VK) : VK := fun x H1 => ∃ a dx fs, x = .ref a ∧ H1 a = some (.ins C dx fs) ∧ fs.lookup m = none ∧ t σ H1 fun vs H2 => sp (x :: (vs ++ [])) H2 (fun out H3 => ∀ p, H3 p = none → Q (.ref p) (upd H3 p (.lst out))) E0
theorem g_listM (h : to σ H (GmK C m sp t σ Q)) : tListG (tMethG C m sp [] E0 to t) σ H Q := h
theorem n_listM {a dx : Addr} {fs : List (Str × V)} (h1 : H a = some (.ins C dx fs)) (h2 : fs.lookup m = none) (h : t σ H fun vs H2 => sp (V.ref a :: (vs ++ [])) H2 (fun out H3 => ∀ p, H3 p = none → Q (.ref p) (upd H3 p (.lst out))) E0) : GmK C m sp t σ Q (.ref a) H := ⟨a, dx, fs, rfl, h1, h2, h⟩
end
section
variable {X : Cx} {k : Nat} {C : Addr} {sp : Sp} {fe e : Expr} {es : List Expr} {tf : TE} {t : TA} {p pos : Pos} {H : Hp} {Q : VK} {σ : L2.St}
/-- x(e, ..), x an instance of the class at C -/
theorem pe_callI (M : MethR X.prog X.w X.K X.mg X.base C "__call__" k sp) (fi : ∀ f, Meth X.K C "__call__" f → PySem.W.fnIn X.K f = true) (room : Room k X.A) (hf : PE X fe tf) (ha : PA X (e :: es) t)
    (ht : eval (.Call fe (e :: es) [] pos) X.env = (do
      callWith pos (← eval fe X.env) [] (backTo pos (starEach (e :: es) X.env)) (backToKw pos (keywordEach [] X.env))) := by rfl) (he : starEach (e :: es) X.env = (false, eval e X.env) :: starEach es X.env := by rfl) (hpl : (backTo pos (starEach es X.env)).any (·.1) = false := by rfl) : PE X (.Call fe (e :: es) [] pos) (StX.tCallO X C sp E0 tf t) :=
  StX.pe_callO hf ⟨M.at_.at_, M.at_.fn, fi _ M.at_⟩ M.fn room passN ha ht he hpl
def CiK (X : Cx) (C : Addr) (sp : Sp) (t : TA) (σ : L2.St) (Q : VK) : VK := fun y H1 => ∃ a, y = V.ref a ∧ t σ H1 fun vs H2 => StX.InsC X H2 a C ∧ sp (V.ref a :: vs) H2 Q E0
theorem g_callI (h : tf σ H (CiK X C sp t σ Q)) : StX.tCallO X C sp E0 tf t σ H Q := h
theorem n_callI {a : Addr} (h : t σ H fun vs H2 => StX.InsC X H2 a C ∧ sp (V.ref a :: vs) H2 Q E0) : CiK X C sp t σ Q (.ref a) H := ⟨a, rfl, h⟩
theorem insC_of {a dx : Addr} {fs : List (Str × V)} (h : H a = some (.ins C dx fs)) : StX.InsC X H a C := .inr ⟨dx, fs, h⟩
theorem pe_splitH {o : Expr} {to te : TE} {apos : Pos} (ho : PE X o to) (he : PE X e te) (hs : starEach [e] X.env = [(false, eval e X.env)] := by rfl) (hbase : attributeBase o "split" X.env (eval o X.env) = eval o X.env := by rfl) (hline : (apos.endLine == pos.line) = true := by rfl) :
    PE X (.Call (.Attribute o "split" apos) [e] [] pos) (tM1 rSplit to te) := pe_split ho he hs hbase hline
theorem pe_fs {v1 v2 : Expr} {rest : List Expr} {ts : List TE} (h : PJ X (v1 :: v2 :: rest) ts) : PE X (.JoinedStr (v1 :: v2 :: rest) pos) (tFs ts) := pe_joined h
end
/-! steps of a generator's body -/
section
variable {D : GEnds} {ys : List V} {σ : L2.St} {H : Hp} {t u : TGn} {te : TE} {tp : TS} {tc : TT} {g : TG} {ts : TA}
theorem g_gthen (h : t { D with nx := fun ys' σ' H' => u D ys' σ' H' } ys σ H) : tGThen t u D ys σ H := h
theorem g_gplain (h : tp { nx := D.nx ys, rt := D.rt ys, bk := D.bk ys, ct := D.ct ys } σ H) : tPlain tp D ys σ H := h
theorem g_gif (h : tc σ H fun b H1 => if b = true then t D ys σ H1 else u D ys σ H1) : tGIf tc t u D ys σ H := h
theorem g_g0 (h : D.nx ys σ H) : tG0 D ys σ H := h
theorem n_yield (hz : ys.length < sizeLine) (h : te σ H fun x H1 => D.nx (ys ++ [x]) σ H1) : tGYield te D ys σ H := ⟨hz, h⟩
def GiR2 (g : TG) (tb : TGn) (D : GEnds) (ys : List V) (σ : L2.St) (vs : List V) (H1 : Hp) : Prop := ∃ lo hi, vs = [.int lo, .int hi] ∧ (-(2 ^ 62) ≤ lo ∧ lo < 2 ^ 62 ∧ -(2 ^ 62) ≤ hi ∧ hi < 2 ^ 62) ∧ tGFor (fun _ H2 R => R (Itr lo (hi - lo).toNat) H2) g tb D ys σ H1
theorem g_gforR2 (h : ts σ H (GiR2 g t D ys σ)) : tGFor (iRng2 ts) g t D ys σ H := h
theorem n_gforR2 {lo hi : Int} (h1 : -(2 ^ 62) ≤ lo) (h2 : lo < 2 ^ 62) (h3 : -(2 ^ 62) ≤ hi) (h4 : hi < 2 ^ 62) (Pv : Nat → List V → L2.St → Hp → Prop) (h0 : Pv 0 ys σ H)
    (hs : ∀ (i : Nat) ys σ H, i < (hi - lo).toNat → Pv i ys σ H → g (.int (lo + i)) σ H fun σ2 H2 => t { D with nx := Pv (i + 1), ct := Pv (i + 1), bk := D.nx } ys σ2 H2) (hd : ∀ ys σ H, Pv (hi - lo).toNat ys σ H → D.nx ys σ H) : GiR2 g t D ys σ [.int lo, .int hi] H := by
  refine ⟨lo, hi, rfl, ⟨h1, h2, h3, h4⟩, fun i m ys σ H => m = (hi - lo).toNat - i ∧ i ≤ (hi - lo).toNat ∧ Pv i ys σ H, ⟨_, rfl, Nat.zero_le _, h0⟩, ?_⟩
  rintro i m ys σ H ⟨rfl, le, p⟩
  have W := walk_range (lo := lo) (n := (hi - lo).toNat)
  by_cases lt : i < (hi - lo).toNat
  · refine .inr ⟨W.goes i H lt trivial, Pv (i + 1), fun ys' σ' H' p' => ⟨_, by omega, rfl, lt, p'⟩, fun x H' y => ?_⟩
    obtain ⟨rfl, rfl⟩ := W.yields i H x H' lt trivial y
    exact hs i ys σ H' lt p
  · obtain rfl : i = (hi - lo).toNat := by omega
    exact .inl ⟨W.stops H trivial, hd ys σ H p⟩
end
end HC

/-! def f(self, *v, kw=d), called without kw -/
namespace HC
open PyProof.Rows PySem L2 PySem.Spec
/-- the binder looks one name up in the dict at D, then goes on as g tells -/
def Looks1 {α : Type} (D : Addr) (kw : Str) (t : Sem α) (g : Value → Sem α) : Prop := ∃ (β γ : Type) (k1 : Option Value → Sem β) (k2 : β → Sem γ) (k3 : γ → Sem α), t = ((nsGet D kw >>= k1) >>= k2) >>= k3 ∧ ∀ u, ∃ b, k1 (some u) = pure b ∧ (k2 b >>= k3) = g u
theorem looks1_run {α : Type} {M : Model} {A : Around} {E : Value → Shared → Prop} {s : Shared} {K : PySem.W.Frag} {D : Addr} {kw : Str} {t : Sem α} {g : Value → Sem α} {u : Value} {Q : α → Shared → Prop} (X : K.In s.heap) (at_ : PySem.W.nsIn K D kw = some (some u)) (l : Looks1 D kw t g) (h : wpAny M A (g u) Q E s) : wpAny M A t Q E s := by
  obtain ⟨β, γ, k1, k2, k3, rfl, more⟩ := l
  obtain ⟨b, e1, e2⟩ := more u
  have one : PySem.W.Looks M s.heap (nsGet D kw >>= k1) b := (PySem.W.looks_nsIn X at_).andThen (PySem.W.Looks.of_pure e1)
  rw [bind_assoc]
  refine wpAny_bind (one.here ?_)
  show wpAny M A (k2 b >>= k3) Q E s
  rw [e2]
  exact h
section
variable {P : Program} {w : World} {K : PySem.W.Frag} {mg : Str → Option Value} {base : Heap} {k : Nat} {f : Addr} {sp : Sp}
theorem fnd_star1 {x qual : Str} {params : Arguments} {body : List Stmt} {scope : Scope} {dv : V} {fd : FuncData} {N : List Str} {p1 pv kw : Str} (F : FunD K x qual params body scope [] [(kw, dv)] f fd) (S : FnScope N [p1, kw, pv] scope)
    (h0 : ∀ (D : Addr) (doc pm : Value) (an : Option Addr) (cdv ct : Value) (a : Value), Looks1 D kw (bindArgs (PySem.W.fnOf x qual params body scope .none (.ref D) doc pm an cdv ct) ⟨[a], []⟩) fun u => newTuple [] >>= fun t => pure [(p1, a), (kw, u), (pv, t)])
    (h1 : ∀ (D : Addr) (doc pm : Value) (an : Option Addr) (cdv ct : Value) (a r : Value) (rs : List Value), Looks1 D kw (bindArgs (PySem.W.fnOf x qual params body scope .none (.ref D) doc pm an cdv ct) ⟨a :: r :: rs, []⟩) fun u => newTuple (r :: rs) >>= fun t => pure [(p1, a), (kw, u), (pv, t)])
    (owes : ∀ cdv, Owes P w K mg base N qual scope body k f sp cdv) :
    FnR P w K mg base (CXW P w) (k + 1) f (fun vs H Q E => ∃ w0 rest, vs = w0 :: rest ∧ rest.length ≤ sizeLine ∧ ∀ p, H p = none → sp [w0, dv, V.ref p] (upd H p (.tup rest)) Q E) := by
  rcases F.ex with ⟨c1, c2, dV, kV, dc, pm, an, cdv, ct, sl, e, at_, code, dfl, kwd⟩
  subst e
  have dn : dV = .none := dfl.elim (fun z => z.2) (fun z => absurd rfl z.1)
  subst dn
  rcases kwd with z | ⟨D, rfl, has⟩
  · exact absurd z (by simp)
  obtain ⟨u, atD, ru⟩ := has (kw, dv) (by simp)
  rintro A outer s H us vs Q E room env rel ⟨w0, rest, rfl, size, owed⟩
  cases rel with
  | @cons _ a _ more ra rmore =>
    have free : H s.heap.objs.size = none := env.hok.fresh (Nat.le_refl _)
    have size' : more.length ≤ sizeLine := rmore.length ▸ size
    have KX : K.In s.heap := env.mod.kin.keeps fun b o e => (env.bs b o e).1
    have bind : Looks1 D kw (bindArgs (PySem.W.fnOf x qual params body scope .none (.ref D) dc pm an cdv ct) ⟨a :: more, []⟩) fun u => newTuple more >>= fun t => pure [(p1, a), (kw, u), (pv, t)] := by
      cases more with
      | nil => exact h0 D dc pm an cdv ct a
      | cons r rs => exact h1 D dc pm an cdv ct a r rs
    refine StX.run_bnd at_ code S room env (G := fun xs H2 => ∃ p, H p = none ∧ xs = [w0, dv, V.ref p] ∧ H2 = upd H p (.tup rest)) ?_ ?_
    · intro A' Ex Q' go
      refine looks1_run KX atD bind (wpAny_bind (wpAny_newTuple (wpAny_pure ?_) size'))
      have fresh : ObjOk P w (upd H s.heap.objs.size (.tup rest)) (s.heap.push { cls := .type "tuple", data := .seq more.toArray }) s.heap.objs.size (.tup rest) := ⟨size, more, rmore, _, Heap.get?_push_size _ rfl, rfl, _, rfl⟩
      have grown := StX.un_laid (fs := frs outer) (s := s) (o := { cls := .type "tuple", data := .seq more.toArray }) (u := .tup rest) free
      exact go _ _ [w0, dv, .ref s.heap.objs.size] [a, u, .ref s.heap.objs.size] (StX.env0_laid env fresh) grown rfl (fun e s' => StX.cxUp outer s H _ _ E e s' grown (fun b o q => Heap.get?_push_of_some _ q) rfl) (.cons ra (.cons ru (.cons rfl .nil))) rfl ⟨_, free, rfl, rfl⟩
    · rintro s2 _ _ ⟨p, hp, rfl, rfl⟩ room'
      exact owes cdv A outer s2 _ _ Q E room' (owed p hp)
end
end HC

/-! exceptions of own classes whose __init__ takes keywords alone -/
namespace HC
open PyProof.Rows PySem Spec HandSPX
/-- at C stands an own class below ValueError; what its line of classes holds -/
structure VeAt (h : Heap) (C : Addr) (o : Obj) (bm : List Value) : Prop where
  obj : ∃ nm q N bs hdct sn sub ab col dd k0 k1 k2 k3 k5, o = excClassObj nm q C N bs bm hdct sn sub ab col dd k0 k1 k2 k3 k5 "ValueError.__new__"
  at_ : h.get? C = some o
  ve : (Value.ref C :: bm).contains (.type "ValueError") = true
  ae : (Value.ref C :: bm).contains (.type "AttributeError") = false
  ne : (Value.ref C :: bm).contains (.type "NameError") = false
  me : (Value.ref C :: bm).contains (.ref C) = true
theorem veAt {h : Heap} {C : Addr} {nm q : Str} {N : Addr} {bs bm sub : List Value} {hdct ab : Bool} {sn : List Str} {col : Option Bool} {dd : Option Addr} {k0 k1 k2 k3 k5 : Option Value}
    (at_ : h.get? C = some (excClassObj nm q C N bs bm hdct sn sub ab col dd k0 k1 k2 k3 k5 "ValueError.__new__")) (tail : refsVE bm = true) : VeAt h C (excClassObj nm q C N bs bm hdct sn sub ab col dd k0 k1 k2 k3 k5 "ValueError.__new__") bm := by
  have key : ∀ T : String, (Value.ref C :: bm).contains (.type T) = veTail.contains (.type T) := fun T => by rw [List.contains_cons, refsVE_contains T bm tail]; rfl
  exact ⟨⟨_, _, _, _, _, _, _, _, _, _, _, _, _, _, _, rfl⟩, at_, by rw [key]; decide +kernel, by rw [key]; decide +kernel, by rw [key]; decide +kernel, by simp⟩
section
variable {prog : Program} {w : World} {A : Around} {h : Heap} {C : Addr} {o : Obj} {bm : List Value} {kw : List (Str × Value)} {g : Array GenState} {d : Drawn} {t : Nat} {os : OsState}
/-- the object that C(k=v, ..) makes, no argument by place -/
abbrev bare (h : Heap) (C : Addr) : Heap := (h.push (W.kdv_tup [])).push (excO C h.objs.size)
theorem new_bare {R : Result → Shared → Prop} (V : VeAt h C o bm) (k : R (.ok (.ret (.ref (h.objs.size + 1)))) ⟨bare h C, g, d, t, os⟩) : codeAny (model prog w) A (.builtin "ValueError.__new__" ⟨[.ref C], kw⟩) R ⟨h, g, d, t, os⟩ := by
  obtain ⟨nm, q, N, bs, hdct, sn, sub, ab, col, dd, k0, k1, k2, k3, k5, rfl⟩ := V.obj
  have cl := V.at_
  have p := V.ve; have a := V.ae; have n := V.ne; have m := V.me
  have fin := PySem.F.excBase_ValueError.ends
  refine codeAny_builtinAt PySem.F.excBase_ValueError.entry (show PySem.wpAt _ _ _ (Builtin.«BaseException.__new__» _) _ _ _ from ?_)
  unfold Builtin.«BaseException.__new__»; refine PySem.wpAt_bind (show PySem.wpAt _ _ _ (stack >>= _) _ _ _ from PySem.wpAt_bind (PySem.wpAt_stack fun _ _ => PySem.wpAt_of_wpAny ?_))
  wp_walk
  refine PySem.wpAt_of_wpAny ?_
  rw [PySem.F.excBase_ValueError.owner]
  repeat (first
    | with_reducible refine wpAny_madeHere_exc PySem.F.excBase_ValueError.canon cl ?_ | with_reducible refine wpAny_madeBy_exc cl ?_ | with_reducible refine wpAny_staticBase_exc cl ?_ | with_reducible refine wpAny_loadPart_at cl ?_
    | ((with_reducible refine wpAny_isSubtype_exc cl ?_); first | rw [p] | rw [a] | rw [n] | rw [m]) | simp only [bne_self_eq_false, Bool.false_eq_true, if_false] | wp_step)
  rw [Heap.size_push]
  exact k
theorem call_bare {R : Result → Shared → Prop} {fI : Addr} (V : VeAt h C o bm) (hi : W.Looks (model prog w) h (typeLookup (.ref C) "__init__") (some (.ref fI))) (hb : ∀ self, W.Looks (model prog w) h (bindSpecial (.ref fI) self) (.ref fI, [self]))
    (k : codeAny (model prog w) (A.under (.builtin "type.__call__" ⟨[.ref C], kw⟩)) (.call (.ref fI) ⟨[.ref (h.objs.size + 1)], kw⟩) (W.InitBack (h.objs.size + 1) R) ⟨bare h C, g, d, t, os⟩) :
    codeAny (model prog w) A (.call (.ref C) ⟨[], kw⟩) R ⟨h, g, d, t, os⟩ := by
  obtain ⟨nm, q, N, bs, hdct, sn, sub, ab, col, dd, k0, k1, k2, k3, k5, rfl⟩ := V.obj
  have cl := V.at_
  have p := V.ve; have a := V.ae; have n := V.ne; have m := V.me
  have up : ∀ b u, h.get? b = some u → (bare h C).get? b = some u := fun b u e => Heap.get?_push_of_some _ (Heap.get?_push_of_some _ e)
  have cl' := up _ _ cl
  have mine : (bare h C).get? (h.objs.size + 1) = some (excO C h.objs.size) := by heap_get
  have lk := tc_lookup
  have bn := tc_bind (.ref C)
  have ty : (⟨h, g, d, t, os⟩ : Shared).TypeIs (.ref C) "type" := ⟨_, cl, rfl⟩
  have may : ∀ {M : Model} {B : Around} {E : Value → Shared → Prop} {Q : Unit → Shared → Prop}, Q () ⟨h, g, d, t, os⟩ → wpAny M B (checkBuiltinCall "ValueError.__new__" ⟨[.ref C], kw⟩) Q E ⟨h, g, d, t, os⟩ := fun {M B E Q} ok => by
    have st := PySem.F.excBase_ValueError.noStar
    simp only [checkBuiltinCall, PySem.F.excBase_ValueError.newSplit, PySem.F.excBase_ValueError.newKind, PySem.F.excBase_ValueError.newRow]
    repeat (first
    | with_reducible refine wpAny_madeHere_exc PySem.F.excBase_ValueError.canon cl ?_ | with_reducible refine wpAny_madeBy_exc cl ?_ | with_reducible refine wpAny_staticBase_exc cl ?_ | with_reducible refine wpAny_loadPart_at cl ?_
    | ((with_reducible refine wpAny_isSubtype_exc cl ?_); first | rw [p] | rw [a] | rw [n] | rw [m]) | simp only [bne_self_eq_false, Bool.false_eq_true, if_false] | wp_step)
    exact ok
  have typ : ∀ {Q : Fin → Shared → Prop} {E : Value → Shared → Prop}, codeAny (model prog w) (A.under (.builtin "type.__call__" ⟨[.ref C], kw⟩)) (.call (.ref fI) ⟨[.ref (h.objs.size + 1)], kw⟩)
      (fun r s' => match r with | .error e => E e s' | .ok (.ret v) => v = .none ∧ Q (.done (.ret (.ref (h.objs.size + 1)))) s' | .ok _ => False) ⟨bare h C, g, d, t, os⟩ →
      wpAny (model prog w) (A.under (.builtin "type.__call__" ⟨[.ref C], kw⟩)) (Builtin.«type.__call__» ⟨[.ref C], kw⟩) Q E ⟨h, g, d, t, os⟩ := fun {Q E} z => by
    repeat (first
    | with_reducible refine wpAny_madeHere_exc PySem.F.excBase_ValueError.canon cl ?_ | with_reducible refine wpAny_madeBy_exc cl ?_ | with_reducible refine wpAny_staticBase_exc cl ?_ | with_reducible refine wpAny_loadPart_at cl ?_
    | ((with_reducible refine wpAny_isSubtype_exc cl ?_); first | rw [p] | rw [a] | rw [n] | rw [m]) | simp only [bne_self_eq_false, Bool.false_eq_true, if_false] | wp_step)
    refine codeAny_call_builtin_code (Code.quiet_builtin _ PySem.F.excBase_ValueError.quiet) (may (new_bare V ?_))
    show wpAny _ _ _ _ _ _
    unfold isInstance
    repeat (first | with_reducible refine wpAny_loadPart_at mine ?_ | (with_reducible refine wpAny_isSubtype_exc cl' ?_; rw [m]) | wp_step)
    refine (show wpAny _ _ (typeLookup (.ref C) _) _ _ _ from (hi.keeps up).at (wpAny_holding (wpAny_bind (((hb _).keeps up).at (wpAny_bind (wpAny_call (codeAny_mono z ?_)))))))
    intro r s' got
    match r, got with
    | .error e, got => exact got
    | .ok (.ret v), got =>
      obtain ⟨rfl, got⟩ := got
      first | exact wpAny_pure (wpAny_pure got) | (wp_walk; exact got)
    | .ok .next, got => exact got.elim
    | .ok .brk, got => exact got.elim
    | .ok .cont, got => exact got.elim
  refine codeAny_of_tree (show wpAny _ _ (callAny (.ref C) _) _ _ _ from ?_)
  repeat (any_goals (first | assumption | with_reducible refine wpAny_loadPart_at cl ?_ | wp_step))
  refine ⟨rfl, codeAny_call_builtin_at (Code.quiet_builtin _ (by decide +kernel)) entry_typeCall (wpAny_check_type_call_sub cl (typ (codeAny_mono k ?_)))⟩
  intro r s' got
  match r, got with
  | .error e, got => exact got
  | .ok (.ret v), got => exact got
  | .ok .next, got => exact got
  | .ok .brk, got => exact got
  | .ok .cont, got => exact got
end
end HC
namespace HC
open PyProof.Rows PySem L2 PySem.Spec
/-- C.__init__ is ValueError's, C an own class -/
structure InitV (K : PySem.W.Frag) (mg : Str → Option Value) (b : Str) : Prop where
  ex : ∃ B, mg b = some (.ref B) ∧ PySem.W.typeIn K (.ref B) = some (.type "type") ∧ ClX.CRead K B (.type "type") ∧ PySem.W.findCls K (.ref B) (.type "type") "__init__" = some (.val (.builtin "ValueError.__init__"))
section
variable {X : Cx} {e : Expr} {es : List Expr} {ta : TA} {b x fld : Str} {p p1 p2 pos kpos : Pos}
/-- b.__init__(e, ..), b such a class -/
theorem pe_binit {pl : Sem Bool} (V : InitV X.K X.mg b) (ha : PA X (e :: es) ta) (hg : Gl X b := by rfl) (nodeb : (b == ("__debug__" : Str)) = false := by decide)
    (form : eval (.Call (.Attribute (.Name b p1) "__init__" p2) (e :: es) [] pos) X.env = (do
      let ov ← eval (.Name b p1) X.env
      standAt p2.atName
      let (fn, more) ← holding [ov] (getMethod ov "__init__" pl)
      callWith pos fn more (backTo pos (starEach (e :: es) X.env)) (backToKw pos (keywordEach [] X.env))) := by rfl)
    (one : starEach (e :: es) X.env = (false, eval e X.env) :: starEach es X.env := by rfl) (plain : (backTo pos (starEach es X.env)).any (·.1) = false := by rfl) :
    PE X (.Call (.Attribute (.Name b p1) "__init__" p2) (e :: es) [] pos) (tVeI X.K ta) := by
  obtain ⟨B, at_, ty, rd, fi⟩ := V.ex
  constructor
  intro pn s σ H Q inv h
  refine PySem.W.methodCall_KW (ld_glob inv hg at_ ?_ nodeb) form
  have fr := inv.fr.choose_spec
  refine PySem.W.method_of_cls fr inv.ok.mod.kin rd.ga (PySem.W.cls_val fr inv.ok.mod.kin ty rd.rd fi (by decide +kernel) ?_)
  show wpAny _ _ (callWith pos (Value.builtin "ValueError.__init__") [] (backTo pos (starEach (e :: es) X.env)) []) _ _ _; refine PyProof.Rows.callWith_method1 (thn (ha.run pos pn _ σ H _ (inv.tok _) h) ?_) one plain
  rintro us s1 ⟨vs, H1, inv1, rel, a, C, ws, rfl, few, T, at1, q⟩
  cases rel with
  | @cons _ u0 _ more ra rm =>
    cases ra
    have len : more.length ≤ sizeLine := by
      have := Paired.length rm
      rw [sizeLine_eq]
      omega
    exact oinit_ok T inv1 at1 len fun s' inv2 => ⟨.non, H1, inv2, rfl, q⟩
/-- what the __init__ of an exception with the one field fld keeps -/
def sp_init1 (K : PySem.W.Frag) (C : Addr) (fld : Str) : Sp := fun vs H Q _ => ∃ a v, vs = [.ref a, v] ∧ H a = some (exo a C none) ∧ ∀ dx, H dx = none → dx ≠ a → Q .non (upd (upd H dx (exd dx [(fld, v)])) a (exo a C (some dx)))
end
/-- the exception class x at C: made by C(fld=..), which lays the field and nothing else -/
structure ExcR (P : Program) (w : World) (K : PySem.W.Frag) (mg : Str → Option Value) (base : Heap) (x : Str) (C : Addr) (k : Nat) (fld : Str) : Prop where
  at_ : mg x = some (.ref C)
  oex : OexC K C
  ex : ∃ fI fd, PySem.W.findIn K (.ref C) "__init__" = some (some (.ref fI)) ∧ PySem.W.typeIn K (.ref fI) = some (.type "function") ∧ FnOk P w K mg base (CXW P w) k fI fd ["self", fld] (sp_init1 K C fld) ∧
    KBn K fd ["self", fld] 1 [fld] (fun us ws => us ++ ws) (fun vs zs => vs ++ zs)
section
variable {P : Program} {w : World} {K : PySem.W.Frag} {mg : Str → Option Value} {base : Heap} {f C : Addr} {fd : FuncData} {qual b fld msg : Str} {params : Arguments} {scope : Scope} {j : Nat} {p1 p2 p3 p4 p5 p6 p7 p8 p9 p10 : Pos}
/-- def __init__(self, *, fld): b.__init__(self, msg); self.fld = fld -/
theorem init1_ok (T : OexC K C) (no : PySem.W.findIn K (.ref C) fld = some none) (V : InitV K mg b)
    (F : FunD K "__init__" qual params [.Expr (.Call (.Attribute (.Name b p1) "__init__" p2) [.Name "self" p3, .Constant (.str msg) j p4] [] p5) p6, .Assign [.Attribute (.Name "self" p7) fld p8] (.Name fld p9) p10] scope [] [] f fd)
    (S : FnScope ["self", fld] ["self", fld] scope) (gl : scope.names.lookup b = some .globalImplicit) (vs : Vis scope "self") (vf : Vis scope fld) (nb : (b == ("__debug__" : Str)) = false) (nf : (fld == ("__debug__" : Str)) = false) (nf2 : (fld == ("__classdict__" : Str)) = false)
    (pl : Env → Sem Bool) (form : ∀ env : Env, eval (.Call (.Attribute (.Name b p1) "__init__" p2) [.Name "self" p3, .Constant (.str msg) j p4] [] p5) env = (do
      let ov ← eval (.Name b p1) env
      standAt p2.atName
      let (fn, more) ← holding [ov] (getMethod ov "__init__" (pl env))
      callWith p5 fn more (backTo p5 (starEach [.Name "self" p3, .Constant (.str msg) j p4] env)) (backToKw p5 (keywordEach [] env)))) :
    FnOk P w K mg base (CXW P w) 2 f fd ["self", fld] (sp_init1 K C fld) := by
  refine F.ok S ?_ (fun cdv A outer s H vs Q E hr h => ?_)
  · rintro vs H Q E ⟨a, v, rfl, _⟩; rfl
  · obtain ⟨a, v, rfl, at_, k⟩ := h
    refine ⟨_, pss_cons (ps_expr (pe_binit V (pa_cons (pe_var (i := 0) rfl vs (by decide) (by decide)) (pa_cons pe_str pa_nil)) gl nb (form _))) (pss_one (ps_ost (pe_var (i := 0) rfl vs (by decide) (by decide)) (pe_var (i := 1) rfl vf nf nf2))), ?_⟩
    refine ⟨_, rfl, a, C, [.str msg], rfl, ?_, T, at_, ?_⟩
    · show 1 ≤ 1000
      decide
    · refine ⟨_, rfl, _, rfl, a, C, rfl, T, no, .inl ⟨at_, fun dx n ne => ?_⟩⟩
      exact k dx n ne
end
section
variable {X : Cx} {x fld : Str} {C : Addr} {k : Nat} {ke : Expr} {tk : TA} {p pos kpos : Pos}
/-- C(fld=e), an exception -/
def tMkX (C : Addr) (fld : Str) (tk : TA) : L2.St → Hp → XK → Prop := fun σ H Q => tk σ H fun zs H1 => ∃ v, zs = [v] ∧ ∀ d, H1 d = none → Q (.ref C) (some d) (upd H1 d (.xd [(fld, v)]))
theorem pmk_kx (R : ExcR X.prog X.w X.K X.mg X.base x C k fld) (room : Room (k + 1) X.A) (key : PK X [⟨some fld, ke, kpos⟩] tk) (glob : Gl X x := by rfl) (nodeb : (x == ("__debug__" : Str)) = false := by decide)
    (all : (backToKw pos (keywordEach [⟨some fld, ke, kpos⟩] X.env)).all (·.1.isSome) = true := by rfl) (names : (backToKw pos (keywordEach [⟨some fld, ke, kpos⟩] X.env)).filterMap (·.1) = [fld] := by rfl)
    (plain : ((backTo pos (starEach [] X.env)).any (·.1) || (backToKw pos (keywordEach [⟨some fld, ke, kpos⟩] X.env)).any (·.1.isNone)) = false := by rfl) :
    PMk X (.Call (.Name x p) [] [⟨some fld, ke, kpos⟩] pos) (tMkX C fld tk) := by
  obtain ⟨fI, fd, i1, i2, F1, B1⟩ := R.ex
  intro pn s σ H Q inv h
  obtain ⟨nm, q, N, bs, bm, sn, sub, ab, col, dd, k0, k1, k2, k3, k5, cls, tail⟩ := R.oex.cls
  refine wpAny_Call_Name_kw (ld_glob inv glob R.at_ ?_ nodeb)
  refine PySem.W.callWith_KW0 (h₀ := X.base) inv.ok.mod.kin R.oex.kC all ?_ plain
  refine thn (key.run pos pn s σ H _ inv h) ?_
  rintro ws s1 ⟨zs, H1, inv1, rel, v, rfl, q1⟩
  refine ⟨inv1.kIn, ?_⟩
  rw [names]
  obtain ⟨u, rfl, ru⟩ : ∃ u, ws = [u] ∧ L2.RelV v u := by
    cases rel with
    | cons a b => cases b; exact ⟨_, rfl, a⟩
  show wpAny _ _ (call (.ref C) [] [(fld, u)]) _ _ _
  obtain ⟨hp, g, dr, tk1, os⟩ := s1
  have up : hp.objs.size ≤ hp.objs.size + 1 := Nat.le_succ _
  have new : H1 (hp.objs.size + 1) = none := inv1.hok.fresh up
  have kk : ∀ b o, hp.get? b = some o → ((hp.push (PySem.W.kdv_tup [])).push (PySem.HandSPX.excO C hp.objs.size)).get? b = some o := fun b o e => Heap.get?_push_of_some _ (Heap.get?_push_of_some _ e)
  have own : ((hp.push (PySem.W.kdv_tup [])).push (PySem.HandSPX.excO C hp.objs.size)).get? (hp.objs.size + 1) = some (PySem.HandSPX.excO C hp.objs.size) := by heap_get
  have inv2 : L2.Inv X pn σ (upd H1 (hp.objs.size + 1) (exo (hp.objs.size + 1) C none)) ⟨(hp.push (PySem.W.kdv_tup [])).push (PySem.HandSPX.excO C hp.objs.size), g, dr, tk1, os⟩ :=
    inv1.laid (t' := tk1) (a := hp.objs.size + 1) (o := exo (hp.objs.size + 1) C none) (h' := (hp.push (PySem.W.kdv_tup [])).push (PySem.HandSPX.excO C hp.objs.size)) kk up (exo_ok own)
  have r2 : Vals [V.ref (hp.objs.size + 1), v] [Value.ref (hp.objs.size + 1), u] := .cons rfl (.cons ru .nil)
  have hq : sp_init1 X.K C fld [V.ref (hp.objs.size + 1), v] (upd H1 (hp.objs.size + 1) (exo (hp.objs.size + 1) C none))
      (fun y H2 => y = .non ∧ ∃ (d : Addr) (fs : List (Str × V)), H2 (hp.objs.size + 1) = some (exo (hp.objs.size + 1) C (some d)) ∧ H2 d = some (exd d fs) ∧ H1 d = none ∧ Q (.ref C) (some d) (upd (del H2 (hp.objs.size + 1)) d (.xd fs))) E0 := by
    refine ⟨_, _, rfl, upd_same, fun dx n ne => ⟨rfl, dx, [(fld, v)], upd_same, ?_, ?_, ?_⟩⟩
    · rw [upd_ne ne]; exact upd_same
    · rw [upd_ne ne] at n; exact n
    · have n1 : H1 dx = none := by rw [upd_ne ne] at n; exact n
      have e : upd (del (upd (upd (upd H1 (hp.objs.size + 1) (exo (hp.objs.size + 1) C none)) dx (exd dx [(fld, v)])) (hp.objs.size + 1) (exo (hp.objs.size + 1) C (some dx))) (hp.objs.size + 1)) dx (.xd [(fld, v)]) = upd H1 dx (.xd [(fld, v)]) := by
        funext c
        by_cases c1 : c = dx
        · rw [c1, upd_same, upd_same]
        · rw [upd_ne c1, upd_ne c1]
          by_cases c2 : c = hp.objs.size + 1
          · rw [c2, del_same, new]
          · rw [del_ne c2, upd_ne c2, upd_ne c1, upd_ne c2]
      rw [e]
      exact q1 dx n1
  refine wpAny_call (call_bare (veAt (inv1.kIn _ _ cls) tail) (PySem.W.looks_findIn inv1.kIn i1) (fun self => PySem.W.bind_fn inv1.kIn self i2)
    (codeAny_mono (F1.run _ X.stack _ _ ⟨[Value.ref (hp.objs.size + 1)], [(fld, u)]⟩ [Value.ref (hp.objs.size + 1), u] _ _ E0 (room.make C [] [(fld, u)]) (inv2.env0.make C [] [(fld, u)]) (B1.to _ [Value.ref (hp.objs.size + 1)] [u] inv2.kIn rfl rfl) r2 hq) ?_))
  rintro (er | fl) s' got
  · exact passN pn σ _ _ er s' inv2 got
  · cases fl with
    | ret y =>
      obtain ⟨v2, H2, os2, bare2, un2, hok2, rv, rfl, d, fs, e1, e2, e3, q2⟩ := got
      obtain ⟨hp2, g2, d2, t2, os2'⟩ := s'
      exact ⟨rv, mk_end (raises_own R.oex.exC R.oex.tyC) inv1 up kk un2 hok2 os2 bare2 e1 e2 e3 q2⟩
    | _ => exact got.elim
end
end HC

/-! lambdas as values: without a parameter, or with one that has a default; a def that calls what it is given -/
namespace HC
open PyProof.Rows PySem L2 PySem.Spec LamX
/-- a lambda's text -/
structure LF where
  params : Arguments
  body : Expr
  scope : Scope
def LamO (f : Addr) (q : Str) (l : LF) (cl : List (Str × Addr)) (dV : Value) (c : Addr) : HO := .ext fun h => ∃ doc pm ctv : Value, h.get? f = some (PySem.W.kdv_obj "<lambda>" q l.params (.expr l.body) l.scope cl dV doc pm c ctv)
theorem lamO_ne {f c : Addr} {q : Str} {l : LF} {cl : List (Str × Addr)} {dV : Value} (ps : Array Value) : LamO f q l cl dV c ≠ .tbl ps := fun z => by
  unfold LamO at z
  cases z
/-- the value f is the lambda l of the frame env, its default d -/
def IsLam (env : Env) (H : Hp) (f : Addr) (l : LF) (d : Option V) : Prop := ∃ (c : Addr) (dV : Value), H f = some (LamO f (env.qual ++ "<lambda>") l (cloFrom env.cells l.scope.names []) dV c) ∧ H c = some (CodeO c (env.qual ++ "<lambda>")) ∧
  (d = none ∧ dV = .none ∨ ∃ v T0, d = some v ∧ dV = .ref T0 ∧ H T0 = some (.tup [v]))
theorem IsLam.ext {env : Env} {H H' : Hp} {f : Addr} {l : LF} {d : Option V} (x : IsLam env H f l d) (e : ExtN H H') : IsLam env H' f l d := by
  obtain ⟨c, dV, h1, h2, h3⟩ := x
  refine ⟨c, dV, e _ _ h1 lamO_ne, e _ _ h2 codeO_ne, h3.imp id fun ⟨v, T0, a, b, z⟩ => ⟨v, T0, a, b, e _ _ z nofun⟩⟩
section
variable {X : Cx} {σ : L2.St} {H : Hp} {s : Shared} {pins : List (Addr × Obj)}
theorem nofr_new (inv : L2.Inv X pins σ H s) {h' : Heap} (hsz : s.heap.objs.size ≤ h'.objs.size) : H h'.objs.size = none := inv.hok.fresh hsz
/-- the object of the lambda is laid and known -/
theorem lam_lay {q : Str} {l : LF} {cl : List (Str × Addr)} {dV doc pm ctv : Value} {c : Addr} {t' : Nat} (inv : L2.Inv X pins σ H s) :
    L2.Inv X pins σ (upd H s.heap.objs.size (LamO s.heap.objs.size q l cl dV c)) { s with heap := s.heap.push (PySem.W.kdv_obj "<lambda>" q l.params (.expr l.body) l.scope cl dV doc pm c ctv), toks := t' } := by
  refine inv.laid (a := s.heap.objs.size) (fun b u e => Heap.get?_push_of_some _ e) (Nat.le_refl _) ?_
  have at_ : (s.heap.push (PySem.W.kdv_obj "<lambda>" q l.params (.expr l.body) l.scope cl dV doc pm c ctv)).get? s.heap.objs.size = some (PySem.W.kdv_obj "<lambda>" q l.params (.expr l.body) l.scope cl dV doc pm c ctv) := Heap.get?_push_size _ rfl
  exact ⟨⟨doc, pm, ctv, at_⟩, ⟨_, at_⟩, fun h1 h2 ⟨a, b, d, z⟩ st => ⟨a, b, d, st _ z⟩⟩
theorem extN_new {H : Hp} {f : Addr} {o : HO} (h : H f = none) : ExtN H (upd H f o) := ExtN.of fun b u e => by rw [upd_ne (ne_of_none e h)]; exact e
theorem tabs_new {T : List (Addr × Str)} {H : Hp} {f : Addr} {o : HO} (h : H f = none) (t : Tabs T H) : Tabs T (upd H f o) := t.ext fun b u e => by rw [upd_ne (ne_of_none e h)]; exact e
theorem lam_tail {T : List (Addr × Str)} {c P : Addr} {l : LF} {dV : Value} {pos : Pos} {E : Value → Shared → Prop} {Q : Value → Shared → Prop} (inv : L2.Inv X pins σ H s) (TB : TabB X.base X.mg c P) (code : X.env.code = .ref c)
    (mem : (P, X.env.qual ++ "<lambda>") ∈ T) (one : ∀ p ∈ T, p.1 = P → p.2 = X.env.qual ++ "<lambda>") (tabs : Tabs T H) (free : ∀ y ∈ l.scope.names, y.2 = .free → ∃ c, X.env.cells.lookup y.1 = some c)
    (h : ∀ (f c' : Addr) (H1 : Hp) (s' : Shared), L2.Inv X pins σ H1 s' → H f = none → (∀ b o, b ≠ P → H b = some o → H1 b = some o) → ExtN H H1 → Tabs T H1 → H1 f = some (LamO f (X.env.qual ++ "<lambda>") l (cloFrom X.env.cells l.scope.names []) dV c') → H1 c' = some (CodeO c' (X.env.qual ++ "<lambda>")) → Q (.ref f) s') :
    wpAny (model X.prog X.w) X.A (makeTail "<lambda>" (X.env.qual ++ "<lambda>") l.params (.expr l.body) l.scope X.env dV .none none pos pos.line) Q E s := by
  obtain ⟨ps, atP, trip, among⟩ := tabs _ mem
  have bP : s.heap.BuiltinsAt X.mg P := TB.bm.keeps inv.bk
  have realP : s.heap.get? P = some { cls := .none, data := .fields ps } := inv.hok P _ atP
  cases found : codeAmong pos ps.toList with
  | none =>
    refine PySem.W.kdv_makeTail (mg := X.mg) (c := c) (P := P) (ps := ps) (closure_ok free) inv.ok.glob (inv.mod.glob.keeps inv.bk) code (TB.code.keeps inv.bk) realP trip found TB.gP bP fun c' ctv doc h' tk but ge lt rec_ tab => ?_
    obtain ⟨c2, oc, vs, t, e2, oc2, dat, val⟩ := rec_
    cases e2
    have size : s.heap.objs.size ≤ h'.objs.size := Nat.le_trans ge (Nat.le_of_lt lt)
    have newC : H c' = none := inv.hok.fresh ge
    have inv1 := inv_table (t' := tk) (more := #[rawInt pos.line, rawInt pos.col, .ref c']) (h' := h') inv atP (fun b o nb e => but b o nb e) tab ge ⟨oc, vs, t, oc2, dat, val⟩
    have ext1 : ExtN H (upd (upd H P (.tbl (ps ++ #[rawInt pos.line, rawInt pos.col, .ref c']))) c' (CodeO c' (X.env.qual ++ "<lambda>"))) := fun b o e n => by
      rw [upd_ne (ne_of_none e newC), upd_ne (fun z => n ps (Option.some.inj (e.symm.trans (by rw [z]; exact atP))))]
      exact e
    have asL : (ps ++ #[rawInt pos.line, rawInt pos.col, .ref c']).toList = ps.toList ++ [rawInt pos.line, rawInt pos.col, .ref c'] := by simp
    have tabs1 : Tabs T (upd (upd H P (.tbl (ps ++ #[rawInt pos.line, rawInt pos.col, .ref c']))) c' (CodeO c' (X.env.qual ++ "<lambda>"))) := fun p hp => by
      by_cases hb : p.1 = P
      · rw [one p hp hb, hb]
        refine ⟨_, by rw [upd_ne (ne_of_none atP newC), upd_same], by rw [asL]; exact PySem.TriplesOk_snoc _ _ _ _ trip, fun p' cv at_ => ?_⟩
        rw [asL] at at_
        rcases among_app _ trip at_ with z | z
        · obtain ⟨c0, e1, e2⟩ := among p' cv z
          exact ⟨c0, e1, ext1 _ _ e2 codeO_ne⟩
        · exact ⟨c', z, upd_same⟩
      · obtain ⟨ps', a1, a2, a3⟩ := tabs p hp
        refine ⟨ps', by rw [upd_ne (ne_of_none a1 newC), upd_ne hb]; exact a1, a2, fun p' cv at_ => ?_⟩
        obtain ⟨c0, e1, e2⟩ := a3 p' cv at_
        exact ⟨c0, e1, ext1 _ _ e2 codeO_ne⟩
    have newF : (upd (upd H P (.tbl (ps ++ #[rawInt pos.line, rawInt pos.col, .ref c']))) c' (CodeO c' (X.env.qual ++ "<lambda>"))) h'.objs.size = none := inv1.hok.fresh (Nat.le_refl _)
    have inv2 := lam_lay (q := X.env.qual ++ "<lambda>") (l := l) (cl := cloFrom X.env.cells l.scope.names []) (dV := dV) (doc := doc) (pm := (X.mg "__name__").getD .none) (ctv := ctv) (c := c') (t' := tk) inv1
    refine h h'.objs.size c' _ _ inv2 (inv.hok.fresh size) (fun b o nb e => by rw [upd_ne (ne_of_none e (inv.hok.fresh size)), upd_ne (ne_of_none e newC), upd_ne nb]; exact e) (ext1.trans (extN_new newF)) (tabs_new newF tabs1) upd_same ?_
    rw [upd_ne (Nat.ne_of_lt lt)]
    exact upd_same
  | some cv =>
    obtain ⟨c', e, at_⟩ := among pos cv found
    subst e
    refine PySem.W.kdv_makeTailHit (mg := X.mg) (c := c) (P := P) (ps := ps) (closure_ok free) inv.ok.glob (inv.mod.glob.keeps inv.bk) code (TB.code.keeps inv.bk) realP trip found bP fun ctv doc h' tk keep size => ?_
    have inv1 : L2.Inv X pins σ H { s with heap := h', toks := tk } := inv.kept keep
    have newF : H h'.objs.size = none := inv1.hok.fresh (Nat.le_refl _)
    have inv2 := lam_lay (q := X.env.qual ++ "<lambda>") (l := l) (cl := cloFrom X.env.cells l.scope.names []) (dV := dV) (doc := doc) (pm := (X.mg "__name__").getD .none) (ctv := ctv) (c := c') (t' := tk) inv1
    refine h h'.objs.size c' _ _ inv2 newF (fun b o _ e => by rw [upd_ne (ne_of_none e newF)]; exact e) (extN_new newF) (tabs_new newF tabs) upd_same ?_
    rw [upd_ne (ne_of_none at_ newF)]
    exact at_
end
/-! ### the lambda's names -/
/-- no name of its own but a parameter that the maker has not: captured ones and globals -/
structure LamN (N : List Str) (sc scope : Scope) : Prop where
  kind : scope.kind = .function
  noco : scope.isCoroutine = false
  nogen : scope.isGenerator = false
  own : ∀ y ∈ scope.names, y.2 ≠ .cell ∧ (y.2 = .local → y.1 ∉ N)
  caught : ∀ y ∈ scope.names, y.2 = .free → sc.names.lookup y.1 = some .cell ∨ sc.names.lookup y.1 = some .free
def lamNB (N : List Str) (sc scope : Scope) : Bool :=
  decide (scope.kind = .function) && !scope.isCoroutine && !scope.isGenerator && scope.names.all fun y => !decide (y.2 = .cell) && (!decide (y.2 = .local) || !N.contains y.1) && (!decide (y.2 = .free) || decide (sc.names.lookup y.1 = some .cell) || decide (sc.names.lookup y.1 = some .free))
theorem lamN_by {N : List Str} {sc scope : Scope} (h : lamNB N sc scope = true) : LamN N sc scope := by
  unfold lamNB at h
  simp only [Bool.and_eq_true, Bool.or_eq_true, Bool.not_eq_true', List.all_eq_true, decide_eq_true_eq, decide_eq_false_iff_not] at h
  rcases h with ⟨⟨⟨h1, h2⟩, h3⟩, h4⟩
  refine ⟨h1, h2, h3, fun y hy => ⟨(h4 y hy).1.1, fun e m => ?_⟩, fun y hy e => ?_⟩
  · rcases (h4 y hy).1.2 with z | z
    · exact z e
    · rw [List.contains_iff_mem.mpr m] at z
      cases z
  · rcases (h4 y hy).2 with (z | z) | z
    · exact absurd e z
    · exact .inl z
    · exact .inr z
theorem LamN.has {X : Cx} {scope : Scope} (L : LamN X.N X.env.scope scope) (ok : X.Ok) : ∀ y ∈ scope.names, y.2 = .free → ∃ c, X.env.cells.lookup y.1 = some c := fun y hy e => (L.caught y hy e).elim (fun k => ok.has _ (.inl k)) fun k => ok.has _ (.inr k)
/-- a lambda -/
def tLamV (T : List (Addr × Str)) (env : Env) (l : LF) (d : Option V) : TE := fun σ H Q => Tabs T H ∧ ∀ f H1, H f = none → ExtN H H1 → Tabs T H1 → IsLam env H1 f l d → Q (.ref f) H1
/-- .. all but the table at P stays -/
def tLamK (P : Addr) (nm : Str) (env : Env) (l : LF) (d : Option V) : TE := fun σ H Q => TabS H P nm ∧ ∀ f H1, H f = none → (∀ b o, b ≠ P → H b = some o → H1 b = some o) → TabS H1 P nm → IsLam env H1 f l d → Q (.ref f) H1
section
variable {X : Cx} {T : List (Addr × Str)} {c P : Addr} {params : Arguments} {body : Expr} {scope : Scope} {pos : Pos}
/-- lambda: e -/
theorem pe_lam0 (TB : TabB X.base X.mg c P) (code : X.env.code = .ref c) (mem : (P, X.env.qual ++ "<lambda>") ∈ T) (one : ∀ p ∈ T, p.1 = P → p.2 = X.env.qual ++ "<lambda>") (L : LamN X.N X.env.scope scope) (nod : defaultsOf params X.env = ([], []) := by rfl) :
    PE X (.Lambda params body scope pos) (tLamV T X.env ⟨params, body, scope⟩ none) := by
  constructor
  rintro pn s σ H Q inv ⟨tabs, k⟩
  refine PySem.W.kla_eval nod ?_
  rw [makeFunction_eq]; simp only [List.zip_nil_right, List.filterMap_nil, List.isEmpty_nil, if_true, pure_bind]
  refine lam_tail (l := ⟨params, body, scope⟩) inv TB code mem one tabs (L.has inv.ok) fun f c' H1 s' inv1 new _ ext tabs1 at1 at2 => ?_
  exact ⟨.ref f, H1, inv1, rfl, k f H1 new ext tabs1 ⟨c', .none, at1, at2, .inl ⟨rfl, rfl⟩⟩⟩
theorem pe_lam0K (TB : TabB X.base X.mg c P) (code : X.env.code = .ref c) (L : LamN X.N X.env.scope scope) (nod : defaultsOf params X.env = ([], []) := by rfl) :
    PE X (.Lambda params body scope pos) (tLamK P (X.env.qual ++ "<lambda>") X.env ⟨params, body, scope⟩ none) := by
  constructor
  rintro pn s σ H Q inv ⟨tab, k⟩
  refine PySem.W.kla_eval nod ?_
  rw [makeFunction_eq]; simp only [List.zip_nil_right, List.filterMap_nil, List.isEmpty_nil, if_true, pure_bind]
  refine lam_tail (T := [(P, X.env.qual ++ "<lambda>")]) (l := ⟨params, body, scope⟩) inv TB code (List.mem_singleton.mpr rfl) (fun p hp _ => by rw [List.mem_singleton.mp hp]) (fun p hp => by rw [List.mem_singleton.mp hp]; exact tab) (L.has inv.ok) fun f c' H1 s' inv1 new kp ext tabs1 at1 at2 => ?_
  exact ⟨.ref f, H1, inv1, rfl, k f H1 new kp (tabs1 _ (List.mem_singleton.mpr rfl)) ⟨c', .none, at1, at2, .inl ⟨rfl, rfl⟩⟩⟩
/-- lambda y=i: e, i a number -/
theorem pe_lam1 {i : Int} {j : Nat} {ip : Pos} (TB : TabB X.base X.mg c P) (code : X.env.code = .ref c) (mem : (P, X.env.qual ++ "<lambda>") ∈ T) (one : ∀ p ∈ T, p.1 = P → p.2 = X.env.qual ++ "<lambda>") (L : LamN X.N X.env.scope scope)
    (dfl : params.defaults = [.Constant (.int i) j ip] := by rfl) (nok : params.kw_defaults = [] := by rfl) : PE X (.Lambda params body scope pos) (tLamV T X.env ⟨params, body, scope⟩ (some (.int i))) := by
  constructor
  rintro pn s σ H Q inv ⟨tabs, k⟩
  refine PySem.W.kdv_lam (by rw [dfl]; rfl) nok ?_
  rw [dfl]
  have ci : PE X (.Constant (.int i) j ip) (tC (.int i)) := pe_int
  refine PySem.W.kdv_all1 (thn (ci.run pn s σ H (fun v H1 => v = .int i ∧ H1 = H) inv ⟨rfl, rfl⟩) ?_)
  rintro u s1 ⟨v, H1, inv1, rel, rfl, rfl⟩
  refine PySem.W.kdv_all0 ?_
  rw [makeFunction_eq]
  simp only [List.zip_nil_right, List.filterMap_nil, List.isEmpty_nil, if_true, pure_bind, List.isEmpty_cons, Bool.false_eq_true, if_false]
  refine wpAny_bind (wpAny_newTextTuple (show _ from ?_))
  have newT : H1 s1.heap.objs.size = none := inv1.hok.fresh (Nat.le_refl _)
  have laid : L2.Inv X pn σ (upd H1 s1.heap.objs.size (.tup [.int i])) { s1 with heap := s1.heap.push { cls := .type "tuple", data := .seq [u].toArray } } := by
    refine inv1.laid (t' := s1.toks) (a := s1.heap.objs.size) (fun b o e => Heap.get?_push_of_some _ e) (Nat.le_refl _) ⟨?_, [u], .cons rel .nil, ?_⟩
    · show 1 ≤ sizeLine
      rw [sizeLine_eq]; omega
    · exact ⟨_, Heap.get?_push_size _ rfl, rfl, _, rfl⟩
  refine lam_tail (l := ⟨params, body, scope⟩) laid TB code mem one (tabs_new newT tabs) (L.has inv.ok) fun f c' H2 s' inv2 new _ ext tabs1 at1 at2 => ?_
  have newF : H1 f = none := by
    cases z : H1 f with
    | none => rfl
    | some o => rw [upd_ne (ne_of_none z newT), z] at new; cases new
  exact ⟨.ref f, H2, inv2, rfl, k f H2 newF ((extN_new newT).trans ext) tabs1 ⟨c', _, at1, at2, .inr ⟨_, _, rfl, rfl, ext _ _ upd_same nofun⟩⟩⟩
theorem pe_lam1K {i : Int} {j : Nat} {ip : Pos} (TB : TabB X.base X.mg c P) (code : X.env.code = .ref c) (L : LamN X.N X.env.scope scope) (dfl : params.defaults = [.Constant (.int i) j ip] := by rfl) (nok : params.kw_defaults = [] := by rfl) :
    PE X (.Lambda params body scope pos) (tLamK P (X.env.qual ++ "<lambda>") X.env ⟨params, body, scope⟩ (some (.int i))) := by
  constructor
  rintro pn s σ H Q inv ⟨tab, k⟩
  have tabs : Tabs [(P, X.env.qual ++ "<lambda>")] H := fun p hp => by rw [List.mem_singleton.mp hp]; exact tab
  refine PySem.W.kdv_lam (by rw [dfl]; rfl) nok ?_
  rw [dfl]
  have ci : PE X (.Constant (.int i) j ip) (tC (.int i)) := pe_int
  refine PySem.W.kdv_all1 (thn (ci.run pn s σ H (fun v H1 => v = .int i ∧ H1 = H) inv ⟨rfl, rfl⟩) ?_)
  rintro u s1 ⟨v, H1, inv1, rel, rfl, rfl⟩
  refine PySem.W.kdv_all0 ?_
  rw [makeFunction_eq]
  simp only [List.zip_nil_right, List.filterMap_nil, List.isEmpty_nil, if_true, pure_bind, List.isEmpty_cons, Bool.false_eq_true, if_false]
  refine wpAny_bind (wpAny_newTextTuple (show _ from ?_))
  have newT : H1 s1.heap.objs.size = none := inv1.hok.fresh (Nat.le_refl _)
  have laid : L2.Inv X pn σ (upd H1 s1.heap.objs.size (.tup [.int i])) { s1 with heap := s1.heap.push { cls := .type "tuple", data := .seq [u].toArray } } := by
    refine inv1.laid (t' := s1.toks) (a := s1.heap.objs.size) (fun b o e => Heap.get?_push_of_some _ e) (Nat.le_refl _) ⟨?_, [u], .cons rel .nil, ?_⟩
    · show 1 ≤ sizeLine
      rw [sizeLine_eq]; omega
    · exact ⟨_, Heap.get?_push_size _ rfl, rfl, _, rfl⟩
  refine lam_tail (l := ⟨params, body, scope⟩) laid TB code (List.mem_singleton.mpr rfl) (fun p hp _ => by rw [List.mem_singleton.mp hp]) (tabs_new newT tabs) (L.has inv.ok) fun f c' H2 s' inv2 new kp ext tabs1 at1 at2 => ?_
  have newF : H1 f = none := by
    cases z : H1 f with
    | none => rfl
    | some o => rw [upd_ne (ne_of_none z newT), z] at new; cases new
  exact ⟨.ref f, H2, inv2, rfl, k f H2 newF (fun b o nb e => kp b o nb (by rw [upd_ne (ne_of_none e newT)]; exact e)) (tabs1 _ (List.mem_singleton.mpr rfl)) ⟨c', _, at1, at2, .inr ⟨_, _, rfl, rfl, ext _ _ upd_same nofun⟩⟩⟩
end

/-! ### the lambda, called -/
/-- how the lambda's parameter is bound, nothing being given -/
def LamB (l : LF) : Option V → Prop
  | none => ∀ (q : Str) (cl : List (Str × Addr)) (doc pm cv ctv : Value), bindArgs (PySem.W.kdv_fn "<lambda>" q l.params (.expr l.body) l.scope cl .none doc pm cv ctv) ⟨[], []⟩ = pure []
  | some _ => ∃ y : Str, l.scope.names.lookup y = some .local ∧ ∀ (q : Str) (cl : List (Str × Addr)) (T0 : Addr) (doc pm cv ctv u : Value), ∃ k, bindArgs (PySem.W.kdv_fn "<lambda>" q l.params (.expr l.body) l.scope cl (.ref T0) doc pm cv ctv) ⟨[], []⟩ = seqItems? (.ref T0) >>= k ∧ k (some #[u]) = pure [(y, u)]
/-- the lambda's body reads as t, in the maker's slots -/
structure BodyR (X : Cx) (k : Nat) (l : LF) (d : Option V) (t : XK → TE) : Prop where
  nm : LamN X.N X.env.scope l.scope
  bd : LamB l d
  rd : ∀ (A : Around) (outer : List Env) (s : Shared) (H : Hp) (E : XK) (f c' : Addr), Room k (A.deeper (lamEnv X l.scope s.heap.objs.size f c')) → PE (lamCx X A outer s H E l.scope f c') l.body (t E)
/-- the maker's cells stand from s to s1 -/
structure KeptC (X : Cx) (s : Shared) (HZ : Hp) (s1 : Shared) : Prop where
  cell : ∀ y c v, X.env.cells.lookup y = some c → s.heap.IsCell c v → s1.heap.IsCell c v
  free : ∀ y c, X.env.cells.lookup y = some c → HZ c = none
section
variable {X : Cx} {σ : L2.St} {H HZ : Hp} {s s1 : Shared} {pins : List (Addr × Obj)}
theorem KeptC.refl (inv : L2.Inv X pins σ H s) : KeptC X s H s := ⟨fun _ _ _ _ z => z, fun y c e => inv.freeC y c e⟩
/-- .. and over a call, or a block whose iterator is none of them -/
theorem KeptC.un {H1 : Hp} {s2 : Shared} {fs fp : List Addr} (k : KeptC X s H1 s1) (inv : L2.Inv X pins σ H s) (un : Un fs fp H1 HZ s1.heap s2.heap) (off : ∀ b ∈ fp, ∀ y c, X.env.cells.lookup y = some c → b ≠ c) : KeptC X s HZ s2 := by
  have out : ∀ y c, X.env.cells.lookup y = some c → c ∉ fp := fun y c e m => off c m y c e rfl
  refine ⟨fun y c v e z => ?_, fun y c e => ?_⟩
  · obtain ⟨o, ho, hd⟩ := k.cell y c v e z
    obtain ⟨sl, q⟩ := un.any ho (k.free y c e) (out y c e)
    exact ⟨_, q, hd⟩
  · obtain ⟨v, z⟩ := inv.cell y c e
    obtain ⟨o, ho, hd⟩ := k.cell y c v e z
    exact un.free c o ho (k.free y c e) (out y c e)
/-- what the lambda caught is the maker's -/
theorem clo_back {scope : Scope} {y : Str} {c : Addr} (inv : L2.Inv X pins σ H s) (L : LamN X.N X.env.scope scope) (e : (cloFrom X.env.cells scope.names []).lookup y = some c) : X.env.cells.lookup y = some c := by
  cases cloFrom_mem (PySem.mem_of_lookup e) with
  | inl no => cases no
  | inr both =>
    obtain ⟨c1, z⟩ := L.has inv.ok _ both.1 rfl
    have z : X.env.cells.lookup y = some c1 := z
    rw [z, show c = c1 by rw [both.2, z] <;> rfl]
theorem clo_has {cells : List (Str × Addr)} {scope : Scope} {y : Str} (e : scope.names.lookup y = some .free) : ∃ c, (cloFrom cells scope.names []).lookup y = some c := mem_lookup (cloFrom_has (PySem.mem_of_lookup e))
theorem lam_okX {A : Around} {outer : List Env} {E : XK} {scope : Scope} {f c' : Addr} (inv : L2.Inv X pins σ H s) (L : LamN X.N X.env.scope scope) (e0 : Env0 X.prog X.w X.K X.mg X.base A outer s1 HZ) (calm : A.handled = none) : (lamCx X A outer s1 HZ E scope f c').Ok where
  mod := e0.mod
  kind := L.kind
  glob := rfl
  blt := rfl
  above := Nat.le_refl _
  inj y z c e1 e2 := inv.ok.inj y z c (clo_back inv L e1) (clo_back inv L e2)
  has y k := k.elim (fun z => absurd rfl (L.own _ (PySem.mem_of_lookup z)).1) fun z => clo_has z
  cab _ _ z _ := nomatch (show false = true from z)
  hd _ := calm
  frames := Around.frames_deeper e0.frames
  stk := .inr ⟨rfl, rfl⟩
  exf _ z := nomatch z
  bs := e0.bs
  bsz := e0.bsz
  noex _ _ _ z := nomatch z
  exfs _ z := nomatch z
  funs := e0.funs
  frf := e0.frf
theorem lam_start3 {A : Around} {outer : List Env} {E : XK} {scope : Scope} {f c' : Addr} {h₁ : Heap} {tk : Nat} {m : Str → Option Value} (inv : L2.Inv X pins σ H s) (L : LamN X.N X.env.scope scope) (e0 : Env0 X.prog X.w X.K X.mg X.base A outer s1 HZ) (calm : A.handled = none)
    (kc : KeptC X s HZ s1) (ns : h₁.Ns s1.heap.objs.size m) (kp : ∀ b o, s1.heap.get? b = some o → h₁.get? b = some o) :
    L2.Inv (lamCx X A outer s1 HZ E scope f c') [] σ HZ { s1 with heap := h₁, toks := tk } where
  ok := lam_okX inv L e0 calm
  os := rfl
  bare := e0.bare
  base := Un.kept kp
  loc := by
    refine ⟨m, ns, fun i y v at_ val vis => ?_⟩
    have at_ : X.N[i]? = some y := at_
    rcases (show Vis scope y from vis) with k | k | k
    · exact absurd (List.mem_of_getElem? at_) ((L.own _ (PySem.mem_of_lookup k)).2 rfl)
    · exact absurd rfl (LamN.own L _ (PySem.mem_of_lookup k)).1
    · have mine := L.caught _ (PySem.mem_of_lookup k) rfl
      obtain ⟨_, _, all⟩ := inv.loc
      obtain ⟨u, ru, way⟩ := all i y v at_ val (.inr mine)
      obtain ⟨c2, e2⟩ := clo_has (cells := X.env.cells) k
      have e1 := clo_back inv L e2
      refine ⟨u, ru, .inr ⟨.inr k, c2, e2, ?_⟩⟩
      rcases way with ⟨own, _⟩ | ⟨_, c3, e3, cell⟩
      · rcases mine with z | z <;> exact nomatch z.symm.trans own
      · obtain rfl : c2 = c3 := Option.some.inj (e1.symm.trans e3)
        obtain ⟨o, ho, dat⟩ := kc.cell y c2 _ e1 cell
        exact ⟨o, kp _ _ ho, dat⟩
  cell y c e := by
    obtain ⟨v, z⟩ := inv.cell y c (clo_back inv L e)
    obtain ⟨o, ho, dat⟩ := kc.cell y c v (clo_back inv L e) z
    exact ⟨v, o, kp _ _ ho, dat⟩
  free := e0.hok.fresh (Nat.le_refl _)
  freeC y c e := kc.free y c (clo_back inv L e)
  pin _ z := nomatch z
  hok := e0.hok.kept kp
  len := inv.len
/-- x(), in the def that got the lambda: Z is that def's context, entered at s0 from the frames st -/
theorem pe_act3 {CXg : CXT} {Eg : XK} {Ng : List Str} {qg : Str} {sg : Scope} {g f : Addr} {cdg : Value} {l : LF} {d : Option V} {k i : Nat} {a : Str} {pn : List (Addr × Obj)} {xe : Value → Shared → Prop} {W : WX} {E : XK} {t : XK → TE} {p1 p2 : Pos} {A0 : Around} {st : List Env} {s0 : Shared} {H0 : Hp}
    (inv : L2.Inv X pins σ H s) (kc : KeptC X s H0 s0) (B : BodyR X k l d t)
    (tk : Takes ((cxOf CXg X.prog X.w X.K X.mg X.base Ng qg sg g cdg A0 st s0 H0 Eg).tr pn xe) W) (room : Room (k + 1) (A0.deeper (envOfC qg sg s0.heap.objs.size g cdg)))
    (hN : Ng[i]? = some a) (hv : Vis sg a) (hd : (a == ("__debug__" : Str)) = false := by decide) (hcd : (a == ("__classdict__" : Str)) = false := by decide) : PE ((cxOf CXg X.prog X.w X.K X.mg X.base Ng qg sg g cdg A0 st s0 H0 Eg).tr pn xe) (.Call (.Name a p1) [] [] p2)
      (fun σZ HZ Q => (∀ cls d H', E cls d H' → W cls d σZ H') ∧ σZ[i]? = some (some (.ref f)) ∧ IsLam X.env HZ f l d ∧ t E σ HZ Q) := by
  constructor
  rintro pinsZ sZ σZ HZ Q invZ ⟨hW, slot, ⟨c', dV, atF, atC, dfl⟩, go⟩
  refine wpAny_Call_Name_kw (thn ((pe_var (pos := p1) (i := i) hN hv hd hcd).run pinsZ sZ σZ HZ (fun v H1 => v = .ref f ∧ H1 = HZ) invZ ⟨.ref f, slot, rfl, rfl⟩) ?_)
  rintro u s1 ⟨v, H1, inv1, rel, rfl, rfl⟩
  cases rel
  obtain ⟨⟨doc, pm, ctv, realF⟩, _, _⟩ := inv1.hok f _ atF
  obtain ⟨⟨oc, vs, tk0, hoc, hdc, hvc⟩, _, _⟩ := inv1.hok c' _ atC
  refine PySem.W.callWith_F0 ⟨_, _, _, _, realF⟩ ?_
  have kc1 : KeptC X s H1 s1 := kc.un inv (fs := frs st) (fp := []) inv1.base (fun b hb => absurd hb (by simp))
  have rc : codeAny (model X.prog X.w) (A0.deeper (envOfC qg sg s0.heap.objs.size g cdg)) (.call (.ref f) ⟨[], []⟩) (CR (L2.CX X.prog X.w) (envOfC qg sg s0.heap.objs.size g cdg :: st) X.prog X.w H1 s1 Q E) s1 := by
    refine PySem.W.kla_callFunE room.depth realF rfl B.nm.noco B.nm.nogen rfl ⟨c', oc, vs, tk0, rfl, hoc, hdc, hvc⟩ ?_
    have enter : ∀ (binds : List (Str × Value)), (∀ y ∈ binds, l.scope.names.lookup y.1 = some .local) →
        wpAny (model X.prog X.w) (A0.deeper (envOfC qg sg s0.heap.objs.size g cdg)).in1 (newFunctionEnv l.scope mainGlobals (cloFrom X.env.cells l.scope.names []) binds ((X.env.qual ++ "<lambda>") ++ ".<locals>.") (some f) (.ref c') none builtinsNs)
          (fun env s₂ => s₂.heap.NoLimit ∧ codeAny (model X.prog X.w) (A0.deeper (envOfC qg sg s0.heap.objs.size g cdg)) (.expr l.body env) (CR (L2.CX X.prog X.w) (envOfC qg sg s0.heap.objs.size g cdg :: st) X.prog X.w H1 s1 Q E) s₂)
          (fun e s' => CR (L2.CX X.prog X.w) (envOfC qg sg s0.heap.objs.size g cdg :: st) X.prog X.w H1 s1 Q E (.error e) s') s1 := fun binds loc => by
      refine wpAny_newFunctionEnv (fun y hy => (B.nm.own y hy).1) loc (fun h₁ ns sb => ⟨inv1.nolimit.fresh _ sb, ?_⟩) B.nm.kind
      show codeAny _ _ (.expr l.body (lamEnv X l.scope s1.heap.objs.size f c')) _ _
      have kp : ∀ b o, s1.heap.get? b = some o → h₁.get? b = some o := fun b o e => sb.extBut b o (Nat.ne_of_lt (Heap.lt_size e)) (Heap.get?_push_of_some _ e)
      have J : L2.Inv (lamCx X (A0.deeper (envOfC qg sg s0.heap.objs.size g cdg)) (envOfC qg sg s0.heap.objs.size g cdg :: st) s1 H1 E l.scope f c') [] σ H1 { s1 with heap := h₁, toks := s1.toks + binds.length } :=
        lam_start3 inv B.nm inv1.env0 room.hd kc1 ns kp
      refine PySem.W.kla_codeExpr (wpAny_mono ((B.rd _ _ s1 H1 E f c' (room.deeper _)).run [] _ _ H1 Q J go) ?_ fun e s' hq => hq)
      rintro v s' ⟨w', H', J', rv, q⟩
      exact ⟨w', _, J'.os, J'.bare, J'.base, J'.hok, rv, q⟩
    have bd := B.bd
    rcases dfl with ⟨rfl, rfl⟩ | ⟨v, T0, rfl, rfl, atT⟩
    · rw [bd]
      exact wpAny_pure (enter [] (by simp))
    · obtain ⟨y, loc, binds⟩ := bd
      obtain ⟨cells, vals, ⟨oT, hT, cT, nT, dT⟩, _⟩ := inv1.tuple (SqT.of atT)
      obtain ⟨u, e, ru⟩ : ∃ u, cells = [u] ∧ L2.RelV v u := by
        cases vals with
        | cons a b => cases b; exact ⟨_, rfl, a⟩
      subst e
      obtain ⟨kk, e1, e2⟩ := binds (X.env.qual ++ "<lambda>") (cloFrom X.env.cells l.scope.names []) T0 doc pm (.ref c') ctv u
      rw [e1]
      refine wpAny_bind (wpAny_seqItems hT dT ?_)
      rw [show ([u].toArray) = #[u] from rfl, e2]
      exact wpAny_pure (enter [(y, u)] (fun z hz => by rw [List.mem_singleton.mp hz]; exact loc))
  refine wpAny_call (codeAny_mono rc ?_)
  rintro (er | fl) s' got
  · exact tk er s' (XE.of_call inv1 (fun cls d H' z => hW cls d H' z) got)
  · cases fl with
    | ret u => exact inv1.after got
    | _ => exact got.elim
end
end HC

/-! a def that tells what a lambda does -/
namespace HC
open PyProof.Rows PySem L2 PySem.Spec LamX
/-! ### a def that calls what it is given -/
/-- the def's body, entered from X with the lambda f: TT, what it makes of the lambda's reading; IsL, what is known of f -/
def Gives (X : Cx) (Ng : List Str) (x : Str) (sg : Scope) (g : Addr) (cdg : Value) (bg : List Stmt) (a : Str) (TT : (XK → Hp → VK → Prop) → Hp → VK → Prop) : Prop :=
  ∀ (f : Addr) (s : Shared) (H : Hp) (Q : VK) (IsL : Hp → Prop) (tl : XK → Hp → VK → Prop),
    (∀ (W : WX) (pn : List (Addr × Obj)) (xe : Value → Shared → Prop) (E : XK) (p1 p2 : Pos), Takes ((cxOf C8.CX0 X.prog X.w X.K X.mg X.base Ng x sg g cdg X.A X.stack s H C8.E0).tr pn xe) W →
      PE ((cxOf C8.CX0 X.prog X.w X.K X.mg X.base Ng x sg g cdg X.A X.stack s H C8.E0).tr pn xe) (.Call (.Name a p1) [] [] p2) (fun σZ HZ Q => (∀ cls d H', E cls d H' → W cls d σZ H') ∧ σZ[0]? = some (some (.ref f)) ∧ IsL HZ ∧ tl E HZ Q)) →
    IsL H → TT tl H Q →
    ∃ ts, PSs (cxOf C8.CX0 X.prog X.w X.K X.mg X.base Ng x sg g cdg X.A X.stack s H C8.E0).nox bg ts ∧ ts { nx := fun _ H' => Q .non H', rt := Q } (L2.start Ng [.ref f]) H
def onOne (R : V → Hp → Prop) : List V → Hp → Prop
  | [v], H => R v H
  | _, _ => False
theorem onOne_inv {R : V → Hp → Prop} {vs : List V} {H : Hp} (h : onOne R vs H) : ∃ v, vs = [v] ∧ R v H :=
  match vs, h with
  | [v], h => ⟨v, rfl, h⟩
def tOut (X : Cx) (k : Nat) (TT : (XK → Hp → VK → Prop) → Hp → VK → Prop) (te : TE) (σ0 : L2.St) : TE := fun σ H Q => te σ H fun v H1 => ∃ f l d t, v = V.ref f ∧ BodyR X k l d t ∧ IsLam X.env H1 f l d ∧ TT (fun E H' Q' => t E σ0 H' Q') H1 Q
section
variable {X : Cx} {TT : (XK → Hp → VK → Prop) → Hp → VK → Prop} {x a : Str} {g : Addr} {fd : FuncData} {k : Nat} {pg : Arguments} {bg : List Stmt} {sg : Scope} {Ng : List Str} {e : Expr} {te : TE} {p pos : Pos}
variable {s0 : Shared} {H0 : Hp} {pins0 : List (Addr × Obj)} {σ0 : L2.St} {scope : Scope} {cenv : Env} {fp : List Addr}
/-- x(e) in a block of X -/
theorem pe_out (at_ : X.mg x = some (.ref g)) (F : FunD X.K x x pg bg sg [] [] g fd) (B : L2.Binds X.K fd [a] []) (Sg : FnScope Ng [a] sg) (hNg : Ng[0]? = some a) (hva : Vis sg a) (hG : ∀ cdg, Gives X Ng x sg g cdg bg a TT) (room : Room (k + 2) X.A)
    (inv0 : L2.Inv X pins0 σ0 H0 s0) (off : ∀ b ∈ fp, ∀ y c, X.env.cells.lookup y = some c → b ≠ c) (he : PE (X.blk s0 H0 scope cenv fp) e te)
    (glob : Gl (X.blk s0 H0 scope cenv fp) x := by rfl) (nodeb : (x == ("__debug__" : Str)) = false := by decide) (hd : (a == ("__debug__" : Str)) = false := by decide) (hcd : (a == ("__classdict__" : Str)) = false := by decide) (one : starEach [e] cenv = [(false, eval e cenv)] := by rfl) :
    PE (X.blk s0 H0 scope cenv fp) (.Call (.Name x p) [e] [] pos) (tOut X k TT te σ0) := by
  obtain ⟨oc, od, dV, kV, doc, pm, an, cdv, ct, osl, rfl, lk, code, _, _⟩ := F.ex
  constructor
  intro pn s σ H Q inv h
  refine wpAny_Call_Name_kw (ld_glob inv glob at_ ?_ nodeb)
  refine PySem.W.callWith_K (h₀ := X.base) inv.ok.mod.kin F.kp (thn ((pa_cons he pa_nil one).run pos pn s σ H (onOne fun v H1 => ∃ f l d t, v = V.ref f ∧ BodyR X k l d t ∧ IsLam X.env H1 f l d ∧ TT (fun E H' Q' => t E σ0 H' Q') H1 Q) inv h) ?_) one (by rfl)
  · rintro us s1 ⟨vs, H1, inv1, rel, one1⟩
    obtain ⟨v, rfl, f, l, d, t, rfl, body, isl, q⟩ := onOne_inv one1
    obtain ⟨_, rfl, rfl⟩ := vals1 rel
    refine ⟨inv1.kIn, ?_⟩
    have kc : KeptC X s0 H1 s1 := (KeptC.refl inv0).un inv0 (fs := frs X.stack) inv1.base off
    have rc : codeAny (model X.prog X.w) X.A (.call (.ref g) ⟨[.ref f], []⟩) (CR C8.CX0 X.stack X.prog X.w H1 s1 Q C8.E0) s1 := by
      refine run_ofS (N := Ng) (ps := [a]) (us := [.ref f]) (vs := [.ref f]) lk code Sg room inv1.env0 (B s1 [.ref f] inv1.kIn rfl) (.cons rfl .nil) rfl fun room' => ?_
      obtain ⟨t', ht', hq'⟩ := hG cdv f s1 H1 Q (fun HZ => IsLam X.env HZ f l d) (fun E H' Q' => t E σ0 H' Q') (fun W pn xe E p1 p2 tk => pe_act3 (i := 0) inv0 kc body tk room' hNg hva hd hcd) isl q
      exact ⟨t', ht'.nox, hq'⟩
    refine wpAny_call (codeAny_mono rc ?_)
    rintro (er | fl) s' got
    · exact (show False from got).elim
    · cases fl with
      | ret u => exact inv1.after got
      | _ => exact got.elim
end
/-! ### a comprehension whose element looks back at the def -/
section
variable {X : Cx}
theorem pe_lcY {elt tg iter : Expr} {ifs : List Expr} {scope : Scope} {own : List (Str × Nat)} {pos : Pos} {wi : TI} {g : TG} {tt : L2.St → TT} {te : L2.St → TE} (calm : X.calm = true) (nodup : X.N.Nodup) (hi : PI X tg iter wi) (ok : BlkOk X.N X.env.scope scope own)
    (hg : ∀ (s : Shared) (H : Hp) (C : Addr) (cl : List (Str × Addr)) (fp : List Addr), PG (X.blk s H scope (compEnvC scope cl C X.env) fp) tg g)
    (ht : ∀ (pins : List (Addr × Obj)) (σ : L2.St) (s : Shared) (H : Hp) (C : Addr) (cl : List (Str × Addr)) (fp : List Addr), L2.Inv X pins σ H s → (∀ b ∈ fp, (b ∈ X.ex ∨ X.s_0.heap.objs.size ≤ b) ∧ ∀ y c, X.env.cells.lookup y = some c → b ≠ c) → PTs (X.blk s H scope (compEnvC scope cl C X.env) fp) ifs (tt σ))
    (he : ∀ (pins : List (Addr × Obj)) (σ : L2.St) (s : Shared) (H : Hp) (C : Addr) (cl : List (Str × Addr)) (fp : List Addr), L2.Inv X pins σ H s → (∀ b ∈ fp, (b ∈ X.ex ∨ X.s_0.heap.objs.size ≤ b) ∧ ∀ y c, X.env.cells.lookup y = some c → b ≠ c) → PE (X.blk s H scope (compEnvC scope cl C X.env) fp) elt (te σ))
    (folds : ∀ x, foldedSetIterable iter X.env x = pure x := by intro _; rfl) :
    PE X (.ListComp elt [⟨tg, iter, ifs, 0⟩] scope pos) (fun σ H Q => tLc wi g (tt σ) (te σ) (own.map (·.2)) σ H Q) := by
  constructor
  intro pins s σ H Q inv h
  rw [eval_ListComp]
  have closed : ∀ y ∈ scope.names, y.2 = .free → ∃ c, X.env.cells.lookup y.1 = some c := fun y hy e => (ok.free y hy e).elim (fun z => inv.ok.has _ (.inl z)) fun z => inv.ok.has _ (.inr z)
  refine wpAny_comprehension_free (use := none) rfl folds (closure_ok closed) ok.kind (fun y hy e => by rw [ok.uniq y hy, e]) (thn (hi.run pins s σ H _ inv h) fun xv s1 got => thn got ?_)
  rintro _ s2 ⟨it, fp, tn, J, H2, rfl, inv2, turns, now, off, q⟩
  refine wpAny_newObj_type (newEnv_comp (show _ from ?_)) (by show 0 ≤ sizeLine; decide)
  obtain ⟨W, ⟨m0, w0⟩, turn⟩ := q s2.heap.objs.size (inv2.hok.fresh (Nat.le_refl _))
  have keep3 : ∀ b o, s2.heap.get? b = some o → (s2.heap.push { cls := .type "list", data := .seq ([] : List Value).toArray }).get? b = some o := fun b o e => Heap.get?_push_of_some _ e
  obtain ⟨s3, e3, D, eD⟩ : ∃ s3 : Shared, s3 = { s2 with heap := s2.heap.push { cls := .type "list", data := .seq ([] : List Value).toArray } } ∧ ∃ D, D = s2.heap.objs.size := ⟨_, rfl, _, rfl⟩
  rw [← e3]
  rw [← eD] at w0 turn ⊢
  have inv3 : L2.Inv X pins σ (upd H2 D (.lst [])) s3 := by
    rw [e3, eD]
    exact inv2.laid (t' := s2.toks) keep3 (Nat.le_refl _) ⟨Nat.zero_le _, [], 0, .nil, Heap.get?_push_size _ rfl⟩
  have keep3' : ∀ b o, s2.heap.get? b = some o → s3.heap.get? b = some o := by rw [e3]; exact keep3
  have low : ∀ b ∈ fp, b < s2.heap.objs.size := fun b hb => Heap.lt_size (turns.obj _ _ now b hb).choose_spec.1
  have off3 : ∀ b ∈ fp, FpOk X pins (upd H2 D (.lst [])) b ∧ b < s3.heap.objs.size := fun b hb => by
    refine ⟨⟨?_, (off b hb).2⟩, ?_⟩
    · rw [upd_ne (by rw [eD]; exact Nat.ne_of_lt (low b hb))]
      exact (off b hb).1
    · obtain ⟨o, z, _⟩ := turns.obj _ _ now b hb
      exact Heap.lt_size (keep3' b o z)
  have now3 : tn 0 s3.heap := turns.keep _ _ _ now fun b _ o e => keep3' b o e
  have cells : ∀ b ∈ fp, (b ∈ X.ex ∨ X.s_0.heap.objs.size ≤ b) ∧ ∀ y c, X.env.cells.lookup y = some c → b ≠ c := fun b hb => ⟨(off3 b hb).1.2.2.2.1, fun y c e => ((off3 b hb).1.2.2.2.2.1 y c e).symm⟩
  have blk := block_start inv3 ok nodup off3
  obtain ⟨H3, eH⟩ : ∃ H3, H3 = upd H2 D (.lst []) := ⟨_, rfl⟩
  rw [← eH] at w0 inv3 off3 blk
  obtain ⟨cl, ecl⟩ : ∃ cl, cl = cellsFrom (s3.heap.objs.size + 1) scope.names (cloFrom X.env.cells scope.names []) := ⟨_, rfl⟩
  have pg := hg s3 H3 s3.heap.objs.size cl fp
  have pe := he pins σ s3 H3 s3.heap.objs.size cl fp inv3 cells
  have yes := ht pins σ s3 H3 s3.heap.objs.size cl fp inv3 cells
  rw [← ecl] at blk
  show codeAny _ _ (.compStart (.ListComp elt [⟨tg, iter, ifs, 0⟩] scope pos) 0 (.ref it) (.ref D) (compEnvC scope (cellsFrom (s3.heap.objs.size + 1) scope.names (cloFrom X.env.cells scope.names [])) s3.heap.objs.size X.env)) _ { s3 with heap := pushCells (s3.heap.push { cls := .type "dict", data := .dict #[] }) scope.names }
  rw [← ecl]
  obtain ⟨ce, ece, cL⟩ : ∃ ce, ce = compEnvC scope cl s3.heap.objs.size X.env ∧ ce.locals = s3.heap.objs.size := ⟨_, rfl, rfl⟩
  rw [← ece] at blk pg pe yes ⊢
  obtain ⟨s4, e4⟩ : ∃ s4 : Shared, s4 = { s3 with heap := pushCells (s3.heap.push { cls := .type "dict", data := .dict #[] }) scope.names } := ⟨_, rfl⟩
  rw [← e4] at blk ⊢
  have now4 : tn 0 s4.heap := turns.keep _ _ _ now3 fun b _ o e => by rw [e4]; exact pushCells_keeps _ _ _ _ (Heap.get?_push_of_some _ e)
  have none3 : ∀ b ∈ fp, H3 b = none := fun b hb => (off3 b hb).1.1
  have still : ∀ {σ' : L2.St} {H' : Hp} {s' : Shared}, L2.Inv (X.blk s3 H3 scope ce fp) [] σ' H' s' → (∀ b ∈ fp, H' b = none) → ∀ b ∈ fp, FpOk (X.blk s3 H3 scope ce fp) [] H' b := fun {σ' H' s'} i' hn b hb =>
    ⟨hn b hb, (i'.ok.exf b hb).1, i'.ok.exfs b hb, .inl hb, (i'.ok.exf b hb).2, fun p hp => absurd (show p ∈ ([] : List (Addr × Obj)) ++ [] from hp) (by simp)⟩
  have back : ∀ (s6 : Shared) (H5 : Hp) (m : Str → Option Value), L2.Inv X pins σ H5 s6 → Q (.ref D) H5 → s6.heap.Ns s3.heap.objs.size m → FpOk X pins H5 s3.heap.objs.size → compPost (model X.prog X.w) X.A X.xe none (EP X pins σ Q) (.ref D) s3.heap.objs.size (.ok .next) s6 := by
    rintro s6 H5 m i6 q6 ns ⟨f0, f1, f2, f3, f4, f5⟩
    exact ⟨m, ns, fun h'' sb => ⟨.ref D, H5, i6.turned (t' := s6.toks) (fun b o hb e => (sb.2 b hb).trans e) f0 f1 f3 f4 f5, rfl, q6⟩⟩
  have loop : codeAny (model X.prog X.w) X.A (.compLoop (.ListComp elt [⟨tg, iter, ifs, 0⟩] scope pos) 0 (.ref it) (.ref D) ce) (compPost (model X.prog X.w) X.A X.xe none (EP X pins σ Q) (.ref D) s3.heap.objs.size) s4 := by
    refine compLoop_any (fun n s' => ∃ i H', L2.Inv (X.blk s3 H3 scope ce fp) [] (wipe σ (own.map (·.2))) H' s' ∧ tn i s'.heap ∧ (∀ b ∈ fp, H' b = none) ∧ W i n H') ?_ m0 ⟨0, H3, blk, now4, none3, w0⟩
    rintro n s5 ⟨i, H5, inv5, now5, none5, w5⟩
    rcases turn i n H5 w5 with ⟨stop, qq⟩ | ⟨go, Nx, less, step⟩
    · refine thnF (turns.done (X.blk s3 H3 scope ce fp) rfl rfl rfl calm i [] s5 _ H5 (fun _ _ => False) inv5 (still inv5 none5) now5 stop) ?_
      rintro _ s6 ⟨rfl, inv6⟩
      obtain ⟨m, ns, _⟩ := inv6.loc
      have ns : s6.heap.Ns ce.locals m := ns
      have nC : H5 ce.locals = none := inv6.free
      rw [cL] at ns nC
      refine back s6 H5 m (inv3.call' (ch := fp) inv6.os inv6.base inv6.hok inv6.bare fun b hb => ?_) qq ns (inv3.fpOk (Nat.le_refl _) nC)
      obtain ⟨_, a1, a2, a3, a4, a5⟩ := (off3 b hb).1
      exact ⟨a3, a1, a4, a5⟩
    · refine thnF (turns.item (X.blk s3 H3 scope ce fp) rfl rfl rfl calm i [] s5 _ H5 (fun _ _ => False) inv5 (still inv5 none5) now5 go) ?_
      rintro _ s6 ⟨u, rfl, h6⟩
      refine thnF h6 ?_
      rintro _ s7 ⟨x, H7, inv7, r7, y7, now7, none7⟩
      refine thnF (pg.run _ s7 _ H7 x u _ (inv7.pinned (still inv7 none7) (turns.obj _ _ now7)) r7 (step x H7 y7)) ?_
      rintro _ s8 ⟨σ8, H8, inv8, wiped, q8⟩
      refine thnF (yes.run _ s8 σ8 H8 _ inv8 q8) ?_
      rintro b s9 ⟨H9, inv9, q9⟩
      have fin : ∀ {s' : Shared} {H' : Hp}, L2.Inv (X.blk s3 H3 scope ce fp) ([] ++ pinsAt fp s7.heap) σ8 H' s' → Nx H' → ∃ m, m < n ∧ ∃ i H', L2.Inv (X.blk s3 H3 scope ce fp) [] (wipe σ (own.map (·.2))) H' s' ∧ tn i s'.heap ∧ (∀ b ∈ fp, H' b = none) ∧ W i m H' := fun {s' H'} i' nx => by
        obtain ⟨m', lt, w'⟩ := less H' nx
        have pin' : ∀ b ∈ fp, ∀ o, s7.heap.get? b = some o → s'.heap.get? b = some o ∧ H' b = none := fun b hb o e => by
          have z := i'.pin (b, o) (List.mem_append_right _ (List.mem_append_right _ (mem_pinsAt hb e)))
          exact ⟨z.1, z.2.1⟩
        have len : (wipe σ (own.map (·.2))).length = σ8.length := by rw [← wiped, wipe_length]
        refine ⟨m', lt, i + 1, H', (i'.unpinned (pins := [])).weak len (fun j v e => ?_), turns.keep _ _ _ now7 fun b hb o e => (pin' b hb o e).1, fun b hb => ?_, w'⟩
        · rw [← wiped] at e
          exact (wipe_some e).1
        · exact (pin' b hb _ (turns.obj _ _ now7 b hb).choose_spec.1).2
      cases b with
      | false =>
        rw [if_neg (by decide)] at q9
        exact fin inv9 q9
      | true =>
        rw [if_pos rfl] at q9
        refine thnF (pe.run _ s9 σ8 H9 _ inv9 q9) ?_
        rintro z s10 ⟨yv, H10, inv10, r10, acc, at10, few, nx⟩
        exact app_ok (X := X.blk s3 H3 scope ce fp) inv10 at10 few r10 fun s11 inv11 => fin inv11 nx
  exact codeAny_compStart_list loop (turns.self X.A 0 _ _ _ now4 loop)
theorem pe_lcX {elt tg iter : Expr} {scope : Scope} {own : List (Str × Nat)} {pos : Pos} {wi : TI} {g : TG} {te : L2.St → TE} (calm : X.calm = true) (nodup : X.N.Nodup) (hi : PI X tg iter wi) (ok : BlkOk X.N X.env.scope scope own)
    (hg : ∀ (s : Shared) (H : Hp) (C : Addr) (cl : List (Str × Addr)) (fp : List Addr), PG (X.blk s H scope (compEnvC scope cl C X.env) fp) tg g)
    (he : ∀ (pins : List (Addr × Obj)) (σ : L2.St) (s : Shared) (H : Hp) (C : Addr) (cl : List (Str × Addr)) (fp : List Addr), L2.Inv X pins σ H s → (∀ b ∈ fp, ∀ y c, X.env.cells.lookup y = some c → b ≠ c) → PE (X.blk s H scope (compEnvC scope cl C X.env) fp) elt (te σ))
    (folds : ∀ x, foldedSetIterable iter X.env x = pure x := by intro _; rfl) :
    PE X (.ListComp elt [⟨tg, iter, [], 0⟩] scope pos) (fun σ H Q => tLc wi g tYes (te σ) (own.map (·.2)) σ H Q) :=
  pe_lcY (tt := fun _ => tYes) calm nodup hi ok hg (fun _ _ _ _ _ _ _ _ _ => pts_nil) (fun pins σ s H C cl fp inv off => he pins σ s H C cl fp inv fun b hb => (off b hb).2) folds
end
end HC

/-! the head's facts where lambdas are made: the tables of some defs' code objects are empty; tests of exception classes -/
namespace HC
open PySem PySem.W PySem.Calls PyProof.Rows He He5 L2
def obsL (fx : List Tst) (fa : List Fa) (fn : List DefA) (tf : List He.Defn) (g : Addr → Option Obj) (K : Frag) : He.AlD × Bool := (obsA fa fn K, (fx.all fun t => t K) && He.tabsB g tf K)
structure SaysL (fx : List Tst) (fa : List Fa) (fn : List DefA) (tf : List He.Defn) (h : Heap) (K : Frag) : Prop where
  j : SaysJ fx fa fn K
  hd : ∀ p ∈ tf, codeHdIn K (He.cT K p).1 (He.cT K p).2 = true
  out : ∀ p ∈ tf, K.lookup (He.cT K p).2 = none
  empty : ∀ p ∈ tf, h.get? (He.cT K p).2 = some { cls := .none, data := .fields #[] }
def obsLG (n : Nat) (fx : List Tst) (fa : List Fa) (fn : List DefA) (tf : List He.Defn) (g : Addr → Option Obj) : He.AlD × Bool := obsL fx fa fn tf g (He.frT g (asA g n))
theorem saysL_of {n : Nat} {fx : List Tst} {fa : List Fa} {fn : List DefA} {tf : List He.Defn} {h : Heap} (e : obsLG n fx fa fn tf h.get? = (valA fn, true)) : SaysL fx fa fn tf h (He.frT h.get? (asA h.get? n)) := by
  have e1 : obsA fa fn (He.frT h.get? (asA h.get? n)) = valA fn := congrArg Prod.fst e
  have e2 : ((fx.all fun t => t (He.frT h.get? (asA h.get? n))) && He.tabsB h.get? tf (He.frT h.get? (asA h.get? n))) = true := congrArg Prod.snd e
  obtain ⟨h1, h2⟩ := ba e2
  have key : ∀ p ∈ tf, codeHdIn (He.frT h.get? (asA h.get? n)) (He.cT (He.frT h.get? (asA h.get? n)) p).1 (He.cT (He.frT h.get? (asA h.get? n)) p).2 = true ∧ ∃ o, h.get? (He.cT (He.frT h.get? (asA h.get? n)) p).2 = some o ∧ He.emptyTab o = true := fun p hp => by
    have ⟨h3, h4⟩ := ba (List.all_eq_true.mp h2 p hp)
    refine ⟨h3, ?_⟩
    split at h4
    · rename_i o q
      exact ⟨o, q, h4⟩
    · cases h4
  refine ⟨⟨e1, h1⟩, fun p hp => (key p hp).1, fun p hp => ?_, fun p hp => ?_⟩
  · obtain ⟨_, o, q, z⟩ := key p hp
    exact He.frT_none q z
  · obtain ⟨_, o, q, z⟩ := key p hp
    rw [q, He.emptyTab_eq z]
def hookL (n : Nat) (fx : List Tst) (fa : List Fa) (fn : List DefA) (tf : List He.Defn) : PySem.W.Hook where
  α := He.AlD × Bool
  obs s := obsLG n fx fa fn tf s.heap.get?
  val _ := (valA fn, true)
  says _ h := ∃ K : Frag, K.In h ∧ SaysL fx fa fn tf h K
  of _ _ both := ⟨_, He.frT_in, saysL_of both⟩
  keeps _ _ _ here up := let ⟨K, inH, says⟩ := here; ⟨K, inH.keeps up, says.j, says.hd, says.out, fun p hp => up _ _ (says.empty p hp)⟩
theorem obsLG_eq {n : Nat} {fx : List Tst} {fa : List Fa} {fn : List DefA} {tf : List He.Defn} {g : Addr → Option Obj} {s : Shared} (same : ∀ a, g a = s.heap.get? a) : obsLG n fx fa fn tf g = (hookL n fx fa fn tf).obs s := congrArg (obsLG n fx fa fn tf) (funext same)
/-- the code of a def of K, known by its place -/
theorem code_at {K : Frag} {p : He.Defn} {x q : PySem.Str} {params : Arguments} {body : List Stmt} {scope : Scope} {dvs : List V} {kws : List (PySem.Str × V)} {fd : FuncData} (F : FunD K x q params body scope dvs kws (He.fAd K p) fd) : fd.code = .ref (He.cT K p).1 := by
  obtain ⟨oc, od, dV, kV, doc, pm, an, cdv, ct, osl, rfl, lk, code, _, _⟩ := F.ex
  obtain ⟨c, e⟩ := He.codeIn_ref code
  have z := He.codeOf_eq lk e
  show cdv = .ref (He.codeOf K p)
  rw [z, e]
/-- the layer's rule for a def, its code object told -/
theorem FunD_okC {P : Program} {w : World} {K : Frag} {mg : PySem.Str → Option Value} {base : Heap} {x qual : PySem.Str} {params : Arguments} {body : List Stmt} {scope : Scope} {dvs : List V} {kws : List (PySem.Str × V)} {f : Addr} {fd : FuncData} {CX : CXT} {N ps : List PySem.Str} {k : Nat} {sp : Sp}
    (F : FunD K x qual params body scope dvs kws f fd) (S : FnScope N ps scope) (len : ∀ vs H Q E, sp vs H Q E → vs.length = ps.length)
    (hbody : ∀ (A : Around) (outer : List Env) (s : Shared) (H : Hp) (vs : List V) (Q : VK) (E : XK), Room k (A.deeper (envOfC qual scope s.heap.objs.size f fd.code)) → sp vs H Q E →
      ∃ t, PSs (cxOf CX P w K mg base N qual scope f fd.code A outer s H E) body t ∧ t { nx := fun _ H' => Q .non H', rt := Q } (start N vs) H) : FnOk P w K mg base CX (k + 1) f fd ps sp := by
  obtain ⟨oc, od, dV, kV, doc, pm, an, cdv, ct, sl, rfl, lk, hcd, _, _⟩ := F.ex
  exact fn_of lk hcd S len fun A outer s H vs Q E hr hsp => hbody A outer s H vs Q E hr hsp
/-! ### tests -/
def oexB (K : Frag) (C : Addr) : Bool := (match K.lookup C with
  | some ⟨.type c, _, .cls cd, sl⟩ => decide (c = "type") && (match cd.mro, sl.toList with
    | .ref C' :: bm, [_, _, _, _, some (.builtin n), _] => decide (C' = C) && (decide (n = "ValueError.__new__") && (!cd.hasDel && (cd.hasDict && HandSPX.refsVE bm)))
    | _, _ => false)
  | _ => false) && (eqO (findIn K (.ref C) "__setattr__") (some (some (.builtin "object.__setattr__"))) && (decide (subIn K (.ref C) (.type "BaseException") = some true) && (decide (typeIn K (.ref C) = some (.type "type")) && keepIn K (.ref C))))
theorem oexB_ok {K : Frag} {C : Addr} (h : oexB K C = true) : OexC K C := by
  obtain ⟨h1, h⟩ := ba h
  obtain ⟨h2, h⟩ := ba h
  obtain ⟨h3, h⟩ := ba h
  obtain ⟨h4, h5⟩ := ba h
  refine ⟨?_, eqO_ok h2, of_decide_eq_true h3, of_decide_eq_true h4, h5⟩
  split at h1
  · rename_i c od cd sl lk
    obtain ⟨hc, h1⟩ := ba h1
    split at h1
    · rename_i C' bm k0 k1 k2 k3 n k5 em es
      obtain ⟨i1, i⟩ := ba h1
      obtain ⟨i2, i⟩ := ba i
      obtain ⟨i3, i⟩ := ba i
      obtain ⟨i4, i5⟩ := ba i
      have e1 := of_decide_eq_true i1
      have e2 := of_decide_eq_true i2
      have e3 : cd.hasDel = false := by simpa using i3
      have e0 := of_decide_eq_true hc
      subst e0 e1 e2
      obtain ⟨nm, bs, mro, ns, qn, hdc, sn, sub, ab, col, hdl⟩ := cd
      have em : mro = _ := em
      have e3 : hdl = false := e3
      have i4 : hdc = true := i4
      subst em e3 i4
      have e4 : sl = #[k0, k1, k2, k3, some (.builtin "ValueError.__new__"), k5] := by
        cases sl
        simpa using es
      subst e4
      exact ⟨nm, qn, ns, bs, bm, sn, sub, ab, col, od, k0, k1, k2, k3, k5, lk, i5⟩
    · cases h1
  · cases h1
def initB (K : Frag) (B : Addr) : Bool := decide (typeIn K (.ref B) = some (.type "type")) && (readsIn K B (.type "type") && (eqO (specialIn K (.ref B) "__getattribute__") (some (some (.builtin "type.__getattribute__"))) &&
  (match findCls K (.ref B) (.type "type") "__init__" with
  | some (.val (.builtin n)) => decide (n = "ValueError.__init__")
  | _ => false)))
theorem initB_ok {K : Frag} {mg : PySem.Str → Option Value} {b : PySem.Str} {B : Addr} (at_ : mg b = some (.ref B)) (h : initB K B = true) : InitV K mg b := by
  obtain ⟨h1, h⟩ := ba h
  obtain ⟨h2, h⟩ := ba h
  obtain ⟨h3, h4⟩ := ba h
  refine ⟨B, at_, of_decide_eq_true h1, ⟨h2, eqO_ok h3⟩, ?_⟩
  split at h4
  · rename_i n e
    rw [e, of_decide_eq_true h4]
  · cases h4
end HC

/-! what a def or a lambda lets out; tables and lambdas as the heap goes on; steps for raise and lambda -/
namespace HC
open PyProof.Rows PySem L2 PySem.Spec LamX
section
variable {P : Program} {w : World} {K : PySem.W.Frag} {mg : Str → Option Value} {base : Heap} {N : List Str} {qual : Str} {scope : Scope} {f c' : Addr} {cdv : Value} {A : Around} {outer : List Env} {s : Shared} {H : Hp} {E : XK}
theorem tk_def : Takes (cxOf (CXW P w) P w K mg base N qual scope f cdv A outer s H E) (fun cls d _ H' => E cls d H') := takes_of rfl rfl rfl rfl
theorem pz_def : Passes (CXW P w) (cxOf (CXW P w) P w K mg base N qual scope f cdv A outer s H E) E := passes_call tk_def fun _ _ _ _ h => h
theorem po_def : PassesOwn (model P w) (cxOf (CXW P w) P w K mg base N qual scope f cdv A outer s H E).A (cxOf (CXW P w) P w K mg base N qual scope f cdv A outer s H E).env (cxOf (CXW P w) P w K mg base N qual scope f cdv A outer s H E).xe := passes_of (X := cxOf (CXW P w) P w K mg base N qual scope f cdv A outer s H E) rfl
theorem pz_lam {X : Cx} : Passes (CXW X.prog X.w) (lamCx X A outer s H E scope f c') E := passes_call (takes_of (X := lamCx X A outer s H E scope f c') rfl rfl rfl rfl) fun _ _ _ _ h => h
end
/-! ### all but the tables stays -/
section
variable {K : PySem.W.Frag} {H H' : Hp} {T : List (Addr × Str)}
theorem extN_same (e : Same H H') : ExtN H H' := fun b o h _ => e b o h
theorem extN_l {a : Addr} {xs : List V} (e : ExtN H H') (h : SqL K H a xs) : SqL K H' a xs := h.imp (fun z => z.imp (fun q => e _ _ q nofun) fun ⟨o, q⟩ => ⟨o, e _ _ q nofun⟩) id
theorem extN_t {a : Addr} {xs : List V} (e : ExtN H H') (h : SqT K H a xs) : SqT K H' a xs := h.imp (fun z => z.imp (fun q => e _ _ q nofun) fun ⟨o, q⟩ => ⟨o, e _ _ q nofun⟩) id
mutual
theorem dp_extN (e : ExtN H H') : ∀ (d : PyData) (v : V), Dp K H v d → Dp K H' v d
  | .none, _, .non => .non
  | .bool _, _, .bl b => .bl b
  | .int _, _, .int i => .int i
  | .str _, _, .str x => .str x
  | .list ds, _, .lst h a => .lst (extN_l e h) (dpa_extN e ds _ a)
  | .tuple ds, _, .tup h a => .tup (extN_t e h) (dpa_extN e ds _ a)
theorem dpa_extN (e : ExtN H H') : ∀ (ds : List PyData) (vs : List V), DpAll K H vs ds → DpAll K H' vs ds
  | [], _, .nil => .nil
  | d :: ds, _, .cons a b => .cons (dp_extN e d _ a) (dpa_extN e ds _ b)
end
theorem tabs_same (e : Same H H') (t : Tabs T H) : Tabs T H' := t.ext e
theorem tabs_keep {d : Addr} {xs : List V} (e : Keep d H H') (at_ : H d = some (.lst xs)) (t : Tabs T H) : Tabs T H' := fun p hp => by
  obtain ⟨ps, h1, h2, h3⟩ := t p hp
  have off : ∀ {b : Addr} {o : HO}, H b = some o → (∀ ys, o ≠ .lst ys) → b ≠ d := fun {b o} z n e => by
    rw [e, at_] at z
    exact n xs (Option.some.inj z).symm
  refine ⟨ps, e _ _ (off h1 nofun) h1, h2, fun pos cv hc => ?_⟩
  have ⟨c, e1, e2⟩ := h3 pos cv hc
  exact ⟨c, e1, e _ _ (off e2 fun ys z => by unfold CodeO at z; cases z) e2⟩
end
/-! ### steps -/
section
variable {X : Cx} {K : PySem.W.Frag} {H : Hp} {Q : VK} {σ : L2.St} {D : Ends}
theorem g_lam {T : List (Addr × Str)} {env : Env} {l : LF} {d : Option V} (t : Tabs T H) (h : ∀ f H1, H f = none → ExtN H H1 → Tabs T H1 → IsLam env H1 f l d → Q (.ref f) H1) : tLamV T env l d σ H Q := ⟨t, h⟩
/-- xs * k -/
theorem g_rep {l : Addr} {k : Int} {xs : List V} (h1 : H l = some (.lst xs)) (lo : 0 ≤ k) (hi : k < 1000) (few : xs.length * k.toNat ≤ sizeLine) (h : ∀ p H', Same H H' → H p = none → H' p = some (.lst (List.replicate k.toNat xs).flatten) → Q (.ref p) H') : rRep (.ref l) (.int k) H Q :=
  ⟨l, k, xs, rfl, rfl, h1, by omega, by omega, few, fun p hp => h p _ (same_new hp) hp upd_same⟩
end
theorem noLs_mem : ∀ {ds : List PyData} {d : PyData}, noLs ds = true → d ∈ ds → noL d = true
  | e :: r, d, h, m => by
    have h' : noL e = true ∧ noLs r = true := by simpa [noLs] using h
    rcases List.mem_cons.mp m with q | q
    · rw [q]; exact h'.1
    · exact noLs_mem h'.2 q
/-- [x(y) for y in l]: data without lists, one for each; the rest stands -/
theorem lc_outs {K : PySem.W.Frag} {wl : Addr} {xs : List V} {ds : List PyData} {j : Nat} {te : TE} {vs : List Nat} {σ : L2.St} {Q : VK} {H1 : Hp} (flat : noLs ds = true) (len : xs.length = ds.length) (few : ds.length ≤ 1000) (h1 : H1 wl = some (.lst xs))
    (back : ∀ x, wipe ((wipe σ vs).set j (some x)) vs = wipe σ vs)
    (step : ∀ (i : Nat) (x : V) (d : PyData) (H2 : Hp) (R : VK), xs[i]? = some x → ds[i]? = some d → Same H1 H2 → (∀ v H3, Same H2 H3 → Dp K H3 v d → R v H3) → te ((wipe σ vs).set j (some x)) H2 R)
    (done : ∀ C acc H', H1 C = none → Same H1 H' → H' C = some (.lst acc) → DpAll K H' acc ds → Q (.ref C) H') : LcJ (Itl K wl) (gName j) tYes te vs σ Q H1 := by
  refine lc_run (walk_list (xs := xs)) (fun i acc H => Same H1 H ∧ acc.length = i ∧ DpAll K H acc (ds.take i)) ?_ ?_ ?_ ?_
  · intro C H' _ s _
    exact ⟨s, rfl, .nil⟩
  · rintro i acc H C _ _ ⟨s, _, _⟩
    exact SqL.of (s _ _ h1)
  · rintro C i acc x H H' nC lt la at_ ⟨s, rfl, all⟩ ⟨rfl, hx⟩
    have ld : acc.length < ds.length := by omega
    have hd : ds[acc.length]? = some ds[acc.length] := List.getElem?_eq_getElem ld
    refine ⟨back x, ?_⟩
    show LcIf C te ((wipe σ vs).set j (some x)) _ true _
    refine g_lcIfT (step _ x _ _ _ hx hd s fun v H3 s3 dv => ?_)
    refine n_lcK (s3 _ _ at_) (Nat.lt_succ_self _) (by omega) fun H4 k4 at4 => ⟨keep_same ((Same.keep s).trans ((Same.keep s3).trans k4)) nC, by simp, ?_⟩
    have flat1 : noLs (ds.take acc.length ++ [ds[acc.length]]) = true := noLs_of fun d hd => noLs_mem flat (by
      rcases List.mem_append.mp hd with z | z
      · exact List.mem_of_mem_take z
      · rw [List.mem_singleton.mp z]; exact List.getElem_mem ld)
    rw [List.take_succ, hd]
    exact dp_keepAll k4 (notT_l (s3 _ _ at_)) _ _ flat1 ((s3.dpa all).append (.cons dv .nil))
  · rintro C acc H nC at_ ⟨s, la, all⟩
    rw [len, List.take_length] at all
    exact done C acc H nC s at_ all
/-- lambda: x(y1, y2), both names the maker's -/
theorem body_call2 {X : Cx} {l : LF} {d : Option V} {k i j : Nat} {x y1 y2 : Str} {sp : Sp} {p p1 p2 p3 : Pos} (D : DefR X.prog X.w X.K X.mg X.base x k sp) (nm : LamN X.N X.env.scope l.scope) (bd : LamB l d) (hb : l.body = .Call (.Name x p) [.Name y1 p1, .Name y2 p2] [] p3)
    (g : l.scope.names.lookup x = some NameKind.globalImplicit) (n1 : X.N[i]? = some y1) (v1 : Vis l.scope y1) (n2 : X.N[j]? = some y2) (v2 : Vis l.scope y2) (b0 : (x == ("__debug__" : Str)) = false := by decide) (b1 : (y1 == ("__debug__" : Str)) = false := by decide) (c1 : (y1 == ("__classdict__" : Str)) = false := by decide)
    (b2 : (y2 == ("__debug__" : Str)) = false := by decide) (c2 : (y2 == ("__classdict__" : Str)) = false := by decide) : BodyR X k l d (fun E => tCallR sp E (tCons (tVar i) (tCons (tVar j) tNil))) := by
  refine ⟨nm, bd, fun A outer s H E f c' r => ?_⟩
  rw [hb]
  have pz : Passes (CXW X.prog X.w) (lamCx X A outer s H E l.scope f c') E := pz_lam (X := X)
  have a2 : PA (lamCx X A outer s H E l.scope f c') [.Name y1 p1, .Name y2 p2] (tCons (tVar i) (tCons (tVar j) tNil)) := pa_cons (pe_var (i := i) n1 v1 b1 c1) (pa_cons (pe_var (i := j) n2 v2 b2 c2) pa_nil)
  have gl : Gl (lamCx X A outer s H E l.scope f c') x := g
  exact pe_callR (X := lamCx X A outer s H E l.scope f c') (E := E) D r pz a2 gl b0
end HC

/-! try with clauses with and without a name: what stands when an exception is caught, one lemma for each kind of clause -/
namespace HC
open PyProof.Rows PySem L2 PySem.Spec LamX
/-- one clause: its class, the slot of its name, what its suite does -/
structure Cl where
  c : Value
  i : Option Nat
  ts : Addr → Value → Option Addr → TS
def Cl.set (k : Cl) (σ : L2.St) (v : Option V) : L2.St := match k.i with
  | some i => σ.set i v
  | none => σ
/-- the ends of a suite, its name gone -/
def Cl.ends (k : Cl) (D : Ends) : Ends := { nx := fun σ H => D.nx (k.set σ none) H, rt := D.rt, bk := fun σ H => D.bk (k.set σ none) H, ct := fun σ H => D.ct (k.set σ none) H }
/-- what the clauses wish of an exception of the body -/
def wMix (K : PySem.W.Frag) (Wout : WX) (D : Ends) : List Cl → WX
  | [] => Wout
  | k :: r => fun cls d σ H => ∃ b, PySem.W.exmOne K cls k.c = some b ∧ (b = true → ∀ a, H a = none → k.ts a cls d (k.ends D) (k.set σ (some (.ref a))) H) ∧ (b = false → wMix K Wout D r cls d σ H)
/-- the exception at a is caught: noted, landed, the def's state beneath it -/
structure Caught (X : Cx) (pins : List (Addr × Obj)) (σ : L2.St) (H : Hp) (a : Addr) (cls : Value) (d : Option Addr) (s : Shared) : Prop where
  ex : ∃ (B : Heap) (sI : Shared), L2.Inv X pins σ H sI ∧ (∀ b o, sI.heap.get? b = some o → b ∉ frs X.stack → B.get? b = some o) ∧ sI.heap.UpToSlots s.heap ∧ HandSPX.FlyingZ B X.stack a (Zc cls d) s.heap ∧ s.os = sI.os ∧ AllBare s.gens
  na : H a = none
section
variable {X : Cx} {pins : List (Addr × Obj)} {σ : L2.St} {H : Hp} {a : Addr} {cls : Value} {d : Option Addr} {s : Shared} {D : Ends}
theorem Caught.suite (c : Caught X pins σ H a cls d s) (hs : X.stack = X.env :: X.outer) (hf : X.env.frame = some X.env.locals) : L2.Inv X pins σ H s ∧ ∃ oe vs, s.heap.get? a = some oe ∧ Zc cls d oe ∧ oe.data = .fields vs ∧ L2.Inv (X.suite a ((a, oe) :: (X.pn ++ pins))) [] σ H s := by
  obtain ⟨B, sI, J, nb, up, fly, os, ag⟩ := c.ex
  have I : L2.Inv X pins σ H s := J.landed nb fly.1 up os ag
  obtain ⟨oe, vs, at_, z, dat⟩ := fly.there
  have out : a ∉ frs (X.env :: X.outer) := fun m => by
    obtain ⟨_, o, e, no⟩ := (hs ▸ fly.2.2.1 : s.heap.FunFrames B (X.env :: X.outer)).mem m
    cases at_.symm.trans e
    exact no _ dat
  refine ⟨I, oe, vs, at_, z, dat, I.suite at_ dat c.na (fun e => out (List.mem_filterMap.mpr ⟨X.env, .head _, by rw [hf, e]⟩)) fun m => ?_⟩
  obtain ⟨e, he, q⟩ := List.mem_filterMap.mp m
  exact out (List.mem_filterMap.mpr ⟨e, .tail _ he, q⟩)
/-- .. and lands once more, for a suite -/
theorem Caught.again {A : Around} {Q : Unit → Shared → Prop} {E : Value → Shared → Prop} (c : Caught X pins σ H a cls d s) (k : ∀ h, Caught X pins σ H a cls d { s with heap := h } → Q () { s with heap := h }) : wpAny (model X.prog X.w) A (setFlight (.ref a) none) Q E s := by
  obtain ⟨B, sI, J, nb, up, fly, os, ag⟩ := c.ex
  exact HandSPX.lands_againZ fly fun h fly' up' => k h ⟨⟨B, sI, J, nb, up.trans up', fly', os, ag⟩, c.na⟩
/-- no clause is left: it flies on -/
theorem Caught.on {Wout : WX} (c : Caught X pins σ H a cls d s) (hs : X.stack = X.env :: X.outer) (hf : X.env.frame = some X.env.locals) (tk : Takes X Wout) (w : Wout cls d σ H) : wpAny (model X.prog X.w) X.A (handleBy (.ref a) X.env []) (SP X pins D) X.xe s := by
  obtain ⟨B, sI, J, nb, up, fly, os, ag⟩ := c.ex
  obtain ⟨_, _, _, oe, vs, T, oT, ts, at_, _, dat, first, _⟩ := id fly
  refine wpAny_handleBy_nil ?_
  unfold PySem.passOn
  refine wpAny_bind (wpAny_field at_ dat first (show _ from ?_))
  rw [if_neg (show ¬ (Value.ref T == Value.none) = true by simp)]
  have last : wpAny (model X.prog X.w) X.A (setFlight (.ref a) X.env.frame) (fun _ s4 => wpAny (model X.prog X.w) X.A (throw (.ref a) : Sem Flow) (SP X pins D) X.xe s4) X.xe s := by
    rw [hf]
    have fly' : HandSPX.FlyingZ B (X.env :: X.outer) a (Zc cls d) s.heap := hs ▸ fly
    exact HandSPX.setFlight_upZ fly' fun h4 held up4 => wpAny_throw (tk _ _ ⟨a, B, sI, pins, σ, H, cls, d, rfl, J, nb, up.trans up4, .inr (.inr (by rw [hs]; exact held)), c.na, os, ag, w⟩)
  first | exact wpAny_bind last | exact wpAny_bind (wpAny_pure (wpAny_bind last))
/-- the class of a clause is looked up, and asked -/
theorem Caught.ask {x : Str} {cv : Value} {np : Pos} {b : Bool} {Q : Bool → Shared → Prop} {E : Value → Shared → Prop} (c : Caught X pins σ H a cls d s) (hs : X.stack = X.env :: X.outer) (hf : X.env.frame = some X.env.locals) (nm : Names X x cv) (ex : PySem.W.exmOne X.K cls cv = some b) (q : Q b s) :
    wpAny (model X.prog X.w) (X.A.mark (some (.ref a))) (eval (.Name x np) X.env) (fun v s' => wpAny (model X.prog X.w) (X.A.mark (some (.ref a))) (excMatches (.ref a) v) Q E s') E s := by
  obtain ⟨I, oe, vs, at_, z, dat, S⟩ := c.suite hs hf
  have ty : PySem.W.Looks (model X.prog X.w) s.heap (typeOf (.ref a)) cls := fun A Q E s' k q => wpAny_typeOf_ref (k _ _ at_) (by rw [z.1]; exact q)
  have yes := (PySem.W.exm_one (M := model X.prog X.w) I.kIn ty ex).here (A := X.A.mark (some (.ref a))) (E := E) q
  obtain ⟨gl, nodeb, own | ⟨no, bt, nn⟩⟩ := nm
  · exact ld_glob (X := X.suite a ((a, oe) :: (X.pn ++ pins))) S gl own yes nodeb
  · exact ld_blt (X := X.suite a ((a, oe) :: (X.pn ++ pins))) S gl no bt yes nn nodeb
/-- the clauses of a try and what they do -/
inductive HdsM (X : Cx) : List ExceptHandler → List Cl → Prop
  | nil : HdsM X [] []
  | plain {x : Str} {c : Value} {ts : Addr → Value → Option Addr → TS} {b₀ : Stmt} {suite : List Stmt} {np pos' : Pos} {hds : List ExceptHandler} {l : List Cl} (nm : Names X x c)
      (run : ∀ (a : Addr) (oe : Obj) (cls : Value) (d : Option Addr) (pn : List (Addr × Obj)), Zc cls d oe → (∃ vs, oe.data = .fields vs) → PSs (X.suite a ((a, oe) :: pn)) (b₀ :: suite) (ts a cls d)) (r : HdsM X hds l) : HdsM X (.ExceptHandler (some (.Name x np)) none (b₀ :: suite) pos' :: hds) (⟨c, none, ts⟩ :: l)
  | as_ {x n : Str} {i : Nat} {c : Value} {ts : Addr → Value → Option Addr → TS} {b₀ : Stmt} {suite : List Stmt} {np pos' : Pos} {hds : List ExceptHandler} {l : List Cl} (nm : Names X x c) (nd : X.N.Nodup) (at_ : X.N[i]? = some n) (loc : X.env.kindOf n = some .local)
      (run : ∀ (a : Addr) (oe : Obj) (cls : Value) (d : Option Addr) (pn : List (Addr × Obj)), Zc cls d oe → (∃ vs, oe.data = .fields vs) → PSs (X.suite a ((a, oe) :: pn)) (b₀ :: suite) (ts a cls d)) (r : HdsM X hds l) : HdsM X (.ExceptHandler (some (.Name x np)) (some n) (b₀ :: suite) pos' :: hds) (⟨c, some i, ts⟩ :: l)
theorem caught_run {Wout : WX} {hds : List ExceptHandler} {l : List Cl} (hs : X.stack = X.env :: X.outer) (hf : X.env.frame = some X.env.locals) (tk : Takes X Wout) (ok : X.Ok) (M : HdsM X hds l) (c : Caught X pins σ H a cls d s) (w : wMix X.K Wout D l cls d σ H) :
    wpAny (model X.prog X.w) X.A (handleBy (.ref a) X.env hds) (SP X pins D) X.xe s := by
  induction M with
  | nil => exact c.on hs hf tk w
  | plain nm run r ih =>
    obtain ⟨b, ex, yes, no⟩ := w
    refine wpAny_handleBy_cons (codeAny_handlers_test (c.ask hs hf nm ex ?_)) nofun
    cases b with
    | false => exact ih (no rfl)
    | true =>
      refine codeAny_handlers_suite (c.again fun h c4 => ?_)
      obtain ⟨_, oe, vs, _, z, dat, S⟩ := c4.suite hs hf
      refine wpAny_mono ((run a oe cls d (X.pn ++ pins) z ⟨_, dat⟩).run [] _ _ H _ S (yes rfl a c.na)) (fun fl s6 got => ?_) (fun _ _ z => z.elim)
      cases fl with
      | ret u => exact let ⟨v, σ6, H6, S6, rv, q⟩ := got; ⟨v, σ6, H6, S6.unsuite ok, rv, q⟩
      | _ => exact let ⟨σ6, H6, S6, q⟩ := got; ⟨σ6, H6, S6.unsuite ok, q⟩
  | @as_ x n i cv ts b₀ suite np pos' hds' l' nm nd at_ loc run r ih =>
    obtain ⟨b, ex, yes, no⟩ := w
    refine wpAny_handleBy_cons (codeAny_handlers_test (c.ask hs hf nm ex ?_)) nofun
    cases b with
    | false => exact ih (no rfl)
    | true =>
      refine codeAny_handlers_suite_as (c.again fun h c4 => ?_)
      obtain ⟨_, oe, vs, _, z, dat, S⟩ := c4.suite hs hf
      refine store_ok (X := X.suite a ((a, oe) :: (X.pn ++ pins))) (v := .ref a) S nd at_ (.inl loc) rfl (fun s5 S5 => ?_) (.inr loc)
      refine wpAny_mono ((run a oe cls d (X.pn ++ pins) z ⟨_, dat⟩).run [] s5 _ H _ S5 (yes rfl a c.na)) (fun fl s6 got => ?_) (fun _ _ z => z.elim)
      have bye : ∀ {σ6 : L2.St} {H6 : Hp} {Q : Shared → Prop}, L2.Inv (X.suite a ((a, oe) :: (X.pn ++ pins))) [] σ6 H6 s6 → (∀ s7, L2.Inv X pins (σ6.set i none) H6 s7 → Q s7) →
          wpAny (model X.prog X.w) X.A (bindName X.env n .none >>= fun _ => unbindBehindTheSuite X.env n pos') (fun _ s7 => Q s7) X.xe s6 := fun S6 k => gone_ok (S6.unsuite ok) nd at_ loc k
      cases fl with
      | ret u => exact let ⟨v, σ6, H6, S6, rv, q⟩ := got; bye S6 fun s7 J => ⟨v, _, H6, J, rv, q⟩
      | _ => exact let ⟨σ6, H6, S6, q⟩ := got; bye S6 fun s7 J => ⟨_, H6, J, q⟩
/-- try: body / except A: .. / except B as e: .. -/
theorem ps_try_mix {body : List Stmt} {h₀ : ExceptHandler} {hds : List ExceptHandler} {l : List Cl} {pos : Pos} {tb : WX → TS} {Wout : WX} (hs : X.stack = X.env :: X.outer) (hf : X.env.frame = some X.env.locals) (tk : Takes X Wout)
    (inner : ∀ (W : WX) (pn : List (Addr × Obj)) (xe : Value → Shared → Prop), Takes (X.tr pn xe) W → PassesOwn (model X.prog X.w) X.A X.env xe → PSs (X.tr pn xe) body (tb W)) (M : HdsM X (h₀ :: hds) l) : PS X (.Try body (h₀ :: hds) [] [] pos) (fun D σ H => tb (wMix X.K Wout D l) D σ H) := by
  constructor
  intro pins s σ H D inv h
  have ok := inv.ok
  have catch_ : ∀ u s', XE (X.tr (X.pn ++ pins) fun e s₁ => wpAny (model X.prog X.w) X.A (noteFrame e X.env) (fun _ s₂ => wpAny (model X.prog X.w) X.A (setFlight e none) (fun _ s₃ => wpAny (model X.prog X.w) X.A (handleBy e X.env (h₀ :: hds)) (SP X pins D) X.xe s₃) X.xe s₂) X.xe s₁) (wMix X.K Wout D l) u s' →
      wpAny (model X.prog X.w) X.A (noteFrame u X.env) (fun _ s₂ => wpAny (model X.prog X.w) X.A (setFlight u none) (fun _ s₃ => wpAny (model X.prog X.w) X.A (handleBy u X.env (h₀ :: hds)) (SP X pins D) X.xe s₃) X.xe s₂) X.xe s' := by
    rintro _ s' ⟨a, B, sI, pn', σ', H', cls, d, rfl, J, nb, up, sky, na, os, ag, w⟩
    have air : Sky B (X.env :: X.outer) a (Zc cls d) X.env.locals s'.heap := hs ▸ sky
    refine Sky.land Zc.steady (by rw [ok.frames, hs]) hf air fun h3 fly up3 => ?_
    exact caught_run hs hf tk ok M ⟨⟨B, sI, J.ofTry ok, nb, up.trans up3, hs ▸ fly, os, ag⟩, na⟩ w
  refine wpAny_Try_except (wpAny_mono ((inner (wMix X.K Wout D l) (X.pn ++ pins) _ catch_ PassesOwn.looking).run [] s σ H D (inv.toTry _) h) (fun fl s1 got => ?_) fun _ _ z => z)
  cases fl with
  | next => exact let ⟨σ', H', J, q⟩ := got; wpAny_execs_nil ⟨σ', H', L2.Inv.ofTry J ok, q⟩
  | ret u => exact let ⟨v, σ', H', J, r, q⟩ := got; ⟨v, σ', H', L2.Inv.ofTry J ok, r, q⟩
  | _ => exact let ⟨σ', H', J, q⟩ := got; ⟨σ', H', L2.Inv.ofTry J ok, q⟩
end
/-- x(e) in the maker's own frame -/
theorem pe_outD {X : Cx} {TT : (XK → Hp → VK → Prop) → Hp → VK → Prop} {x a : Str} {g : Addr} {fd : FuncData} {k : Nat} {pg : Arguments} {bg : List Stmt} {sg : Scope} {Ng : List Str} {e : Expr} {te : TE} {p pos : Pos} (at_ : X.mg x = some (.ref g)) (F : FunD X.K x x pg bg sg [] [] g fd) (B : L2.Binds X.K fd [a] [])
    (Sg : FnScope Ng [a] sg) (hNg : Ng[0]? = some a) (hva : Vis sg a) (hG : ∀ cdg, Gives X Ng x sg g cdg bg a TT) (room : Room (k + 2) X.A) (he : PE X e te) (glob : Gl X x := by rfl) (nodeb : (x == ("__debug__" : Str)) = false := by decide) (hd : (a == ("__debug__" : Str)) = false := by decide)
    (hcd : (a == ("__classdict__" : Str)) = false := by decide) (one : starEach [e] X.env = [(false, eval e X.env)] := by rfl) : PE X (.Call (.Name x p) [e] [] pos) (fun σ H Q => tOut X k TT te σ σ H Q) := by
  obtain ⟨oc, od, dV, kV, doc, pm, an, cdv, ct, sl, rfl, lk, code, _, _⟩ := F.ex
  constructor
  intro pn s σ H Q inv h
  refine wpAny_Call_Name_kw (ld_glob inv glob at_ ?_ nodeb)
  refine PySem.W.callWith_K (h₀ := X.base) inv.ok.mod.kin F.kp (thn ((pa_cons he pa_nil one).run pos pn s σ H (onOne fun v H1 => ∃ f l d t, v = V.ref f ∧ BodyR X k l d t ∧ IsLam X.env H1 f l d ∧ TT (fun E H' Q' => t E σ H' Q') H1 Q) inv h) ?_) one (by rfl)
  rintro us s1 ⟨vs, H1, inv1, rel, got1⟩
  obtain ⟨v, rfl, f, l, d, t, rfl, body, isl, q⟩ := onOne_inv got1
  obtain ⟨_, rfl, rfl⟩ := vals1 rel
  refine ⟨inv1.kIn, wpAny_call (codeAny_mono (run_ofS (CX := C8.CX0) (Q := Q) (E := C8.E0) (N := Ng) (ps := [a]) (us := [.ref f]) (vs := [.ref f]) lk code Sg room inv1.env0 (B s1 [.ref f] inv1.kIn rfl) (.cons rfl .nil) rfl fun room' => ?_) ?_)⟩
  · obtain ⟨t', ht', hq'⟩ := hG cdv f s1 H1 Q (fun HZ => IsLam X.env HZ f l d) (fun E H' Q' => t E σ H' Q') (fun W pn xe E p1 p2 tk => pe_act3 (i := 0) inv1 (KeptC.refl inv1) body tk room' hNg hva hd hcd) isl q
    exact ⟨t', ht'.nox, hq'⟩
  · rintro (er | fl) s' got
    · exact (show False from got).elim
    · cases fl with
      | ret u => exact inv1.after got
      | _ => exact got.elim
end HC

/-! what a caught exception is asked; exceptions with more than one field; list.count of plain values -/
namespace HC
open PyProof.Rows PySem L2 PySem.Spec LamX
/-! ### isinstance of the exception that a suite holds -/
/-- its dict, if it has one, stands in the heap -/
def DctAt (d : Option Addr) (H : Hp) : Prop := ∀ dd, d = some dd → ∃ fs, H dd = some (.xd fs)
def rIsX (K : PySem.W.Frag) (a : Addr) (cls : Value) (d : Option Addr) : List V → Hp → VK → Prop := fun xs H Q =>
  ∃ (D : Addr) (c : V) (cv : Value) (b : Bool), cls = .ref D ∧ ExcC K D ∧ DctAt d H ∧ xs = [.ref a, c] ∧ (∀ u, L2.RelV c u → u = cv) ∧ PySem.W.kitOne K (.ref D) cv = some b ∧ Q (.bl b) H
section
variable {X : Cx} {a : Addr} {oe : Obj} {pn : List (Addr × Obj)} {cls : Value} {d : Option Addr}
theorem caught_inst {D : Addr} {pins : List (Addr × Obj)} {σ : L2.St} {H : Hp} {s : Shared} (hz : Zc (.ref D) d oe) (hf : ∃ vs, oe.data = .fields vs) (inv : L2.Inv (X.suite a ((a, oe) :: pn)) pins σ H s) (dc : DctAt d H) : ∃ od, PySem.W.InstAt s.heap a oe D od := by
  have held := (inv.pin (a, oe) (List.mem_append_left _ (.head _))).1
  have nc : PySem.W.notCls oe = true := by
    obtain ⟨vs, e⟩ := hf
    unfold PySem.W.notCls
    rw [e]
  cases d with
  | none => exact ⟨none, held, hz.1, nc, by rw [hz.2]; trivial⟩
  | some dd =>
    obtain ⟨fs, at_⟩ := dc dd rfl
    obtain ⟨mA, ns, _⟩ : ObjOk X.prog X.w H s.heap dd (.xd fs) := inv.hok dd _ at_
    obtain ⟨od, ho, _⟩ := lookIn_ns ns
    exact ⟨some od, held, hz.1, nc, by rw [hz.2]; exact ho⟩
theorem call_isX (hz : Zc cls d oe) (hf : ∃ vs, oe.data = .fields vs) : CallR (X.suite a ((a, oe) :: pn)) (.builtin "isinstance") (rIsX X.K a cls d) := by
  rintro pins s σ H _ us Q inv rel ⟨D, c, cv, b, rfl, ex, dc, rfl, is, yes, q⟩
  cases rel with
  | cons r1 r2 =>
    cases r2 with
    | cons r3 r4 =>
      cases r4
      cases r1
      obtain rfl := is _ r3
      obtain ⟨od, J⟩ := caught_inst hz hf inv dc
      have cl : (PySem.W.clsIn X.K D).isSome = true := by
        obtain ⟨cd, e, _⟩ := PySem.W.any_some ex.hd
        rw [e]; rfl
      exact PySem.W.kia_one (PySem.W.kitx_exc (od := od) cl ex.hg ex.hk ex.hs ex.ha ex.hn ex.ht ex.hm) inv.kIn J yes nofun fun tk => ⟨.bl b, H, inv.kept (t' := tk) fun _ _ z => z, rfl, q⟩
theorem pe_isX {n : Str} {c : V} {e : Expr} {te : TE} {p pos tpos : Pos} (m : Bts X.mg) (hz : Zc cls d oe) (hf : ∃ vs, oe.data = .fields vs) (he : PE (X.suite a ((a, oe) :: pn)) e te) (hc : PE (X.suite a ((a, oe) :: pn)) (.Name n tpos) (tC c)) (hg : Gl (X.suite a ((a, oe) :: pn)) "isinstance" := by rfl)
    (s1 : starEach [e, .Name n tpos] (X.suite a ((a, oe) :: pn)).env = (false, eval e (X.suite a ((a, oe) :: pn)).env) :: starEach [.Name n tpos] (X.suite a ((a, oe) :: pn)).env := by rfl) (s2 : starEach [.Name n tpos] (X.suite a ((a, oe) :: pn)).env = (false, eval (.Name n tpos) (X.suite a ((a, oe) :: pn)).env) :: starEach [] (X.suite a ((a, oe) :: pn)).env := by rfl)
    (pl : (backTo pos (starEach [.Name n tpos] (X.suite a ((a, oe) :: pn)).env)).any (·.1) = false := by rfl) : PE (X.suite a ((a, oe) :: pn)) (.Call (.Name "isinstance" p) [e, .Name n tpos] [] pos) (tCB (rIsX X.K a cls d) (tCons te (tCons (tC c) tNil))) :=
  pe_callB (p := p) (pos := pos) (call_isX hz hf) hg m.isinstance bt_isinstance (pa_cons he (pa_cons hc pa_nil s2) s1) (by decide) (by decide) s1 pl
end
theorem n_isX {K : PySem.W.Frag} {a D C : Addr} {d : Option Addr} {H : Hp} {Q : VK} {b : Bool} (ex : ExcC K D) (dc : DctAt d H) (yes : PySem.W.kitOne K (.ref D) (.ref C) = some b) (q : Q (.bl b) H) : rIsX K a (.ref D) d [.ref a, .ref C] H Q :=
  ⟨D, .ref C, .ref C, b, rfl, ex, dc, rfl, fun u r => r, yes, q⟩
theorem n_isXT {K : PySem.W.Frag} {a D : Addr} {T : String} {d : Option Addr} {H : Hp} {Q : VK} {b : Bool} (ex : ExcC K D) (dc : DctAt d H) (yes : PySem.W.kitOne K (.ref D) (.type T) = some b) (q : Q (.bl b) H) : rIsX K a (.ref D) d [.ref a, .ty T] H Q :=
  ⟨D, .ty T, .type T, b, rfl, ex, dc, rfl, fun u r => r, yes, q⟩
def excCB (K : PySem.W.Frag) (D : Addr) : Bool := He.eqO (PySem.W.findIn K (.ref D) "__getattribute__") (some (some (.builtin "BaseException.__getattribute__"))) && (decide (PySem.W.findIn K (.ref D) "__getattr__" = some none) && (decide (PySem.W.subIn K (.ref D) (.type "BaseException") = some true) && (PySem.W.hasDictIn K D && (He.eqO (PySem.W.findIn K (.ref D) "__class__") (some (some (.builtin "object.__class__"))) &&
  (He.eqO (PySem.W.specialIn K (.builtin "object.__class__") "__get__") (some (some (.builtin "getset_descriptor.__get__"))) && (decide (PySem.W.takesIn K (.builtin "object.__class__") = some true) && decide (PySem.W.mroIn K D (.type "object") = some true)))))))
theorem excCB_ok {K : PySem.W.Frag} {D : Addr} (h : excCB K D = true) : ExcC K D := by
  simp only [excCB, Bool.and_eq_true, decide_eq_true_eq] at h
  obtain ⟨h1, h2, h3, h4, h5, h6, h7, h8⟩ := h
  exact ⟨He.eqO_ok h1, h2, h3, h4, He.eqO_ok h5, He.eqO_ok h6, h7, h8⟩
/-- two readings of one expression -/
def tEither (t u : TE) : TE := fun σ H Q => t σ H Q ∨ u σ H Q
theorem pe_either {X : Cx} {e : Expr} {t u : TE} (h1 : PE X e t) (h2 : PE X e u) : PE X e (tEither t u) := ⟨fun pn s σ H Q inv h => h.elim (h1.run pn s σ H Q inv) (h2.run pn s σ H Q inv)⟩
/-! ### list.count of plain values -/
def rCntF (K : PySem.W.Frag) : V → List V → Hp → VK → Prop := fun x xs H Q => ∃ (l : Addr) (ys : List V) (y : V), x = .ref l ∧ xs = [y] ∧ SqL K H l ys ∧ flatV y = true ∧ ys.all flatV = true ∧ Q (.int (ys.countP fun z => eqV z y : Nat)) H
theorem cnt_vals {y : V} : ∀ {ys : List V} {us : List Value}, Vals ys us → ys.all flatV = true → us.countP (eqU y) = ys.countP fun z => eqV z y
  | _, _, .nil, _ => rfl
  | z :: ys, u :: us, .cons r t, f => by
    have both : flatV z = true ∧ ys.all flatV = true := by simpa using f
    rw [List.countP_cons, List.countP_cons, cnt_vals t both.2, eqU_of r both.1]
theorem mt_cntF {X : Cx} : MtR X "list.count" (rCntF X.K) := by
  rintro pins s σ H _ _ v us Q inv rx rel ⟨l, ys, y, rfl, rfl, at_, fy, fys, q⟩
  cases rx
  cases rel with
  | @cons _ uy _ _ ry rn =>
    cases rn
    obtain ⟨its, vals, ⟨⟨c, dd, dat, sl⟩, n, held, hc, hn, hd⟩, _⟩ := inv.list at_
    dsimp only at hc hd
    subst hc hd
    have cnt : its.toArray.toList.countP (eqU y) = ys.countP fun z => eqV z y := cnt_vals vals fys
    have met := SeqAt.list_countAt l its.toArray n dd sl uy (eqU y)
    refine call_meets PySem.F.slot_list_count ⟨_, held, rfl⟩ PySem.F.entry_list_count (PySem.F.args_list_count_2 _ _) met ⟨held, fun u hu => mem_eqAt ry fy vals fys u (List.mem_toArray.mp hu), ?_⟩
    refine ⟨.int (ys.countP (fun z => eqV z y) : Nat), H, inv.tok _, ⟨s.toks, ?_⟩, q⟩
    rw [cnt]
theorem g_cntF {K : PySem.W.Frag} {H : Hp} {Q : VK} {l : Addr} {ys : List V} {y : V} (h1 : SqL K H l ys) (h2 : flatV y = true) (h3 : ys.all flatV = true) (h : Q (.int (ys.countP fun z => eqV z y : Nat)) H) : rCntF K (.ref l) [y] H Q := ⟨l, ys, y, rfl, rfl, h1, h2, h3, h⟩
/-! ### exceptions with some fields, all given by keyword -/
def sp_initN (K : PySem.W.Frag) (C : Addr) (fo : List V → List (Str × V)) (n : Nat) : Sp := fun vs H Q _ => ∃ a zs, vs = .ref a :: zs ∧ zs.length = n ∧ H a = some (exo a C none) ∧
  ∀ dx H', H dx = none → dx ≠ a → H' a = some (exo a C (some dx)) → H' dx = some (exd dx (fo zs)) → (∀ c, c ≠ a → c ≠ dx → H' c = H c) → Q .non H'
structure ExcN (P : Program) (w : World) (K : PySem.W.Frag) (mg : Str → Option Value) (base : Heap) (x : Str) (C : Addr) (k : Nat) (flds : List Str) (fo : List V → List (Str × V)) : Prop where
  at_ : mg x = some (.ref C)
  oex : OexC K C
  ex : ∃ fI fd, PySem.W.findIn K (.ref C) "__init__" = some (some (.ref fI)) ∧ PySem.W.typeIn K (.ref fI) = some (.type "function") ∧ FnOk P w K mg base (CXW P w) k fI fd ("self" :: flds) (sp_initN K C fo flds.length) ∧
    KBn K fd ("self" :: flds) 1 flds (fun us ws => us ++ ws) (fun vs zs => vs ++ zs)
def two2 (f1 f2 : Str) : List V → List (Str × V)
  | [v, u] => [(f2, u), (f1, v)]
  | _ => []
section
variable {P : Program} {w : World} {K : PySem.W.Frag} {mg : Str → Option Value} {base : Heap} {f C : Addr} {fd : FuncData} {qual b f1 f2 msg : Str} {params : Arguments} {scope : Scope} {j : Nat} {p1 p2 p3 p4 p5 p6 p7 p8 p9 p10 q7 q8 q9 q10 : Pos}
/-- def __init__(self, *, f1, f2): b.__init__(self, msg); self.f1 = f1; self.f2 = f2 -/
theorem init2_ok (T : OexC K C) (no1 : PySem.W.findIn K (.ref C) f1 = some none) (no2 : PySem.W.findIn K (.ref C) f2 = some none) (V : InitV K mg b)
    (F : FunD K "__init__" qual params [.Expr (.Call (.Attribute (.Name b p1) "__init__" p2) [.Name "self" p3, .Constant (.str msg) j p4] [] p5) p6, .Assign [.Attribute (.Name "self" p7) f1 p8] (.Name f1 p9) p10, .Assign [.Attribute (.Name "self" q7) f2 q8] (.Name f2 q9) q10] scope [] [] f fd)
    (S : FnScope ["self", f1, f2] ["self", f1, f2] scope) (gl : scope.names.lookup b = some .globalImplicit) (vs : Vis scope "self") (v1 : Vis scope f1) (v2 : Vis scope f2) (nb : (b == ("__debug__" : Str)) = false) (n1 : (f1 == ("__debug__" : Str)) = false) (n1' : (f1 == ("__classdict__" : Str)) = false) (n2 : (f2 == ("__debug__" : Str)) = false) (n2' : (f2 == ("__classdict__" : Str)) = false)
    (pl : Env → Sem Bool) (form : ∀ env : Env, eval (.Call (.Attribute (.Name b p1) "__init__" p2) [.Name "self" p3, .Constant (.str msg) j p4] [] p5) env = (do
      let ov ← eval (.Name b p1) env
      standAt p2.atName
      let (fn, more) ← holding [ov] (getMethod ov "__init__" (pl env))
      callWith p5 fn more (backTo p5 (starEach [.Name "self" p3, .Constant (.str msg) j p4] env)) (backToKw p5 (keywordEach [] env)))) :
    FnOk P w K mg base (CXW P w) 2 f fd ["self", f1, f2] (sp_initN K C (two2 f1 f2) 2) := by
  refine F.ok S ?_ (fun cdv A outer s H vs Q E hr h => ?_)
  · rintro vs H Q E ⟨a, zs, rfl, e, _⟩
    simp [e]
  · obtain ⟨a, zs, rfl, len, at_, k⟩ := h
    match zs, len with
    | [y, z], _ =>
      refine ⟨_, pss_cons (ps_expr (pe_binit V (pa_cons (pe_var (i := 0) rfl vs (by decide) (by decide)) (pa_cons pe_str pa_nil)) gl nb (form _))) (pss_cons (ps_ost (pe_var (i := 0) rfl vs (by decide) (by decide)) (pe_var (i := 1) rfl v1 n1 n1')) (pss_one (ps_ost (pe_var (i := 0) rfl vs (by decide) (by decide)) (pe_var (i := 2) rfl v2 n2 n2')))), ?_⟩
      refine ⟨_, rfl, a, C, [.str msg], rfl, ?_, T, at_, ?_⟩
      · show 1 ≤ 1000
        decide
      · refine ⟨_, rfl, _, rfl, a, C, rfl, T, no1, .inl ⟨at_, fun dx n ne => ?_⟩⟩
        refine ⟨_, rfl, _, rfl, a, C, rfl, T, no2, .inr ⟨dx, [(f1, y)], upd_same, ?_, by show 1 ≤ 900; decide, ?_⟩⟩
        · rw [upd_ne ne]; exact upd_same
        · refine k dx _ n ne ?_ upd_same fun c h1 h2 => ?_
          · rw [upd_ne (Ne.symm ne)]; exact upd_same
          · rw [upd_ne h2, upd_ne h1, upd_ne h2]
end
section
variable {X : Cx} {x : Str} {C : Addr} {k : Nat} {ks : List Keyword} {tk : TA} {p pos : Pos} {flds : List Str} {fo : List V → List (Str × V)}
def tMkN (C : Addr) (n : Nat) (fo : List V → List (Str × V)) (tk : TA) : L2.St → Hp → XK → Prop := fun σ H Q => tk σ H fun zs H1 => zs.length = n ∧ ∀ d, H1 d = none → Q (.ref C) (some d) (upd H1 d (.xd (fo zs)))
theorem pmk_kn (R : ExcN X.prog X.w X.K X.mg X.base x C k flds fo) (room : Room (k + 1) X.A) (key : PK X ks tk) (glob : Gl X x := by rfl) (nodeb : (x == ("__debug__" : Str)) = false := by decide) (all : (backToKw pos (keywordEach ks X.env)).all (·.1.isSome) = true := by rfl)
    (names : (backToKw pos (keywordEach ks X.env)).filterMap (·.1) = flds := by rfl) (plain : ((backTo pos (starEach [] X.env)).any (·.1) || (backToKw pos (keywordEach ks X.env)).any (·.1.isNone)) = false := by rfl) : PMk X (.Call (.Name x p) [] ks pos) (tMkN C flds.length fo tk) := by
  obtain ⟨fI, fd, i1, i2, F1, B1⟩ := R.ex
  intro pn s σ H Q inv h
  obtain ⟨nm, q, N, bs, bm, sn, sub, ab, col, dd, k0, k1, k2, k3, k5, cls, tail⟩ := R.oex.cls
  refine wpAny_Call_Name_kw (ld_glob inv glob R.at_ (PySem.W.callWith_KW0 (h₀ := X.base) inv.ok.mod.kin R.oex.kC all (thn (key.run pos pn s σ H _ inv h) ?_) plain) nodeb)
  rintro ws s1 ⟨zs, H1, inv1, rel, len, q1⟩
  refine ⟨inv1.kIn, ?_⟩
  rw [names]
  have lw : ws.length = flds.length := by rw [← len]; exact (Paired.length rel).symm
  obtain ⟨hp, g, dr, tk1, os⟩ := s1
  generalize ee : hp.objs.size + 1 = me
  have up : hp.objs.size ≤ me := by omega
  have new : H1 me = none := inv1.hok.fresh up
  have kk : ∀ b o, hp.get? b = some o → (bare hp C).get? b = some o := fun b o e => Heap.get?_push_of_some _ (Heap.get?_push_of_some _ e)
  have own : (bare hp C).get? me = some (PySem.HandSPX.excO C hp.objs.size) := by subst ee; heap_get
  have inv2 : L2.Inv X pn σ (upd H1 me (exo me C none)) ⟨bare hp C, g, dr, tk1, os⟩ := inv1.laid (t' := tk1) (a := me) (o := exo me C none) (h' := bare hp C) kk up (exo_ok own)
  have owed : sp_initN X.K C fo flds.length (V.ref me :: zs) (upd H1 me (exo me C none))
      (fun y H2 => y = .non ∧ ∃ (d : Addr) (fs : List (Str × V)), H2 me = some (exo me C (some d)) ∧ H2 d = some (exd d fs) ∧ H1 d = none ∧ Q (.ref C) (some d) (upd (del H2 me) d (.xd fs))) E0 := by
    refine ⟨me, zs, rfl, len, upd_same, fun dx H' n ne e1 e2 e3 => ⟨rfl, dx, fo zs, e1, e2, ?_, ?_⟩⟩
    · rw [upd_ne ne] at n; exact n
    · have n1 : H1 dx = none := by rw [upd_ne ne] at n; exact n
      have same : upd (del H' me) dx (.xd (fo zs)) = upd H1 dx (.xd (fo zs)) := by
        funext c
        by_cases c1 : c = dx
        · rw [c1, upd_same, upd_same]
        · rw [upd_ne c1, upd_ne c1]
          by_cases c2 : c = me
          · rw [c2, del_same, new]
          · rw [del_ne c2, e3 c c2 c1, upd_ne c2]
      rw [same]
      exact q1 dx n1
  have run := F1.run _ X.stack _ _ ⟨[Value.ref me], flds.zip ws⟩ (Value.ref me :: ws) _ _ E0 (room.make C [] (flds.zip ws)) (inv2.env0.make C [] (flds.zip ws)) (B1.to _ [Value.ref me] ws inv2.kIn rfl lw) (show Vals (V.ref me :: zs) (Value.ref me :: ws) from .cons rfl rel) owed
  refine wpAny_call (call_bare (veAt (inv1.kIn _ _ cls) tail) (PySem.W.looks_findIn inv1.kIn i1) (fun self => PySem.W.bind_fn inv1.kIn self i2) (codeAny_mono (by rw [ee]; exact run) ?_))
  rintro (er | fl) s' got
  · exact passN pn σ _ _ er s' inv2 got
  · cases fl with
    | ret y =>
      obtain ⟨v2, H2, os2, bare2, un2, hok2, rv, rfl, d, fs, e1, e2, e3, q2⟩ := got
      obtain ⟨hp2, g2, d2, t2, os2'⟩ := s'
      rw [ee]
      exact ⟨rv, mk_end (raises_own R.oex.exC R.oex.tyC) inv1 up kk un2 hok2 os2 bare2 e1 e2 e3 q2⟩
    | _ => exact got.elim
end
/-! ### an own exception without __init__, made with a text -/
abbrev veLine : List Value := [.type "ValueError", .type "Exception", .type "BaseException", .type "object"]
structure ExcT (K : PySem.W.Frag) (mg : Str → Option Value) (x : Str) (C : Addr) : Prop where
  at_ : mg x = some (.ref C)
  exI : PySem.W.excIn K C veLine "ValueError.__new__" = true
  kept : PySem.W.keepIn K (.ref C) = true
  base : PySem.W.subIn K (.ref C) (.type "BaseException") = some true
  meta_ : PySem.W.typeIn K (.ref C) = some (.type "type")
def excTB (K : PySem.W.Frag) (C : Addr) : Bool := PySem.W.excIn K C veLine "ValueError.__new__" && (PySem.W.keepIn K (.ref C) && (decide (PySem.W.subIn K (.ref C) (.type "BaseException") = some true) && decide (PySem.W.typeIn K (.ref C) = some (.type "type"))))
theorem excTB_ok {K : PySem.W.Frag} {mg : Str → Option Value} {x : Str} {C : Addr} (at_ : mg x = some (.ref C)) (h : excTB K C = true) : ExcT K mg x C := by
  simp only [excTB, Bool.and_eq_true, decide_eq_true_eq] at h
  exact ⟨at_, h.1, h.2.1, h.2.2.1, h.2.2.2⟩
theorem pmk_px {X : Cx} {x m : Str} {C : Addr} {j : Nat} {p p2 pos : Pos} (R : ExcT X.K X.mg x C) (glob : Gl X x := by rfl) (nodeb : (x == ("__debug__" : Str)) = false := by decide) : PMk X (.Call (.Name x p) [.Constant (.str m) j p2] [] pos) (fun _ H Q => Q (.ref C) none H) :=
  pmk_own PySem.F.excBase_ValueError R.exI R.at_ R.kept (raises_own R.base R.meta_) glob nodeb
end HC

/-! len(set(e)) of texts that may be alike, e a tuple or a list -/
namespace HC
open PyProof.Rows PySem L2 PySem.Spec
/-- the texts of a list, each once -/
def accD (l : List Str) : List Str := l.foldl (fun acc z => if z ∈ acc then acc else z :: acc) []
theorem accD_snoc (l : List Str) (z : Str) : accD (l ++ [z]) = if z ∈ accD l then accD l else z :: accD l := by
  show List.foldl _ _ (l ++ [z]) = _
  rw [List.foldl_append]
  rfl
/-- how many there are -/
def dst (l : List Str) : Nat := (accD l).length
theorem snoc_ind {α : Type} {P : List α → Prop} (h0 : P []) (hs : ∀ l x, P l → P (l ++ [x])) (l : List α) : P l := by
  rw [← List.reverse_reverse l]
  induction l.reverse with
  | nil => exact h0
  | cons x r ih => rw [List.reverse_cons]; exact hs _ _ ih
theorem mem_accD (y : Str) (l : List Str) : y ∈ accD l ↔ y ∈ l := by
  refine snoc_ind (P := fun l => y ∈ accD l ↔ y ∈ l) (by simp [accD]) (fun l z ih => ?_) l
  rw [accD_snoc, List.mem_append, List.mem_singleton]
  by_cases h : z ∈ accD l
  · rw [if_pos h, ih]
    exact ⟨.inl, fun q => q.elim id fun e => e ▸ ih.mp (e ▸ h)⟩
  · rw [if_neg h, List.mem_cons, ih]
    exact Or.comm
theorem dst_snoc (l : List Str) (z : Str) : dst (l ++ [z]) = if z ∈ l then dst l else dst l + 1 := by
  unfold dst
  rw [accD_snoc]
  by_cases h : z ∈ l
  · rw [if_pos ((mem_accD z l).mpr h), if_pos h]
  · rw [if_neg fun q => h ((mem_accD z l).mp q), if_neg h, List.length_cons]
theorem dst_le (l : List Str) : dst l ≤ l.length := by
  refine snoc_ind (P := fun l => dst l ≤ l.length) (Nat.le_refl _) (fun l z ih => ?_) l
  rw [dst_snoc, List.length_append, List.length_singleton]
  split <;> omega
theorem nodup_snoc {α : Type} {l : List α} {z : α} : (l ++ [z]).Nodup ↔ l.Nodup ∧ z ∉ l := by
  rw [List.nodup_append]
  constructor
  · rintro ⟨h1, _, h3⟩
    exact ⟨h1, fun m => h3 z m z (by simp) rfl⟩
  · rintro ⟨h1, h2⟩
    refine ⟨h1, by simp, fun a ha b hb e => ?_⟩
    rw [List.mem_singleton] at hb
    exact h2 (hb ▸ e ▸ ha)
theorem dst_nd (l : List Str) : dst l = l.length ↔ l.Nodup := by
  refine snoc_ind (P := fun l => dst l = l.length ↔ l.Nodup) (by simp [dst, accD]) (fun l z ih => ?_) l
  have le := dst_le l
  rw [dst_snoc, nodup_snoc, ← ih, List.length_append, List.length_singleton]
  by_cases h : z ∈ l
  · rw [if_pos h]
    exact ⟨fun e => absurd e (by omega), fun e => absurd h e.2⟩
  · rw [if_neg h]
    exact ⟨fun e => ⟨by omega, h⟩, fun e => by omega⟩
section
variable {P : Program} {w : World} {A : Around} {E : Value → Shared → Prop} {s : Shared} {I S : Addr} {fp wr : List Addr} {Pv : Nat → Value → Prop} {St : Nat → Heap → Prop} {R : Result → Shared → Prop}
/-- the loop over any walk that gives the texts zs -/
theorem fillsD {zs : List Str} (W : Walks P w A.in1 I fp wr zs.length Pv St) (off : S ∉ fp) (room : zs.length + 1 < scanBound) (val : ∀ i v, Pv i v → ∃ z t, zs[i]? = some z ∧ v = Value.str z t) (more : Nat) : ∀ (i : Nat) (s : Shared), i + more = zs.length → St i s.heap →
    s.heap.SetOf (PySem.strKind P w) S (fun z => decide (z ∈ zs.take i)) (dst (zs.take i)) →
    (∀ h' tk, (∀ b o, b ∉ S :: wr → s.heap.get? b = some o → h'.get? b = some o) → h'.SetOf (PySem.strKind P w) S (fun z => decide (z ∈ zs)) (dst zs) → R (.ok (.ret .none)) { s with heap := h', toks := tk }) →
    codeAny (model P w) A (upTurn S I) R s := by
  have offw : S ∉ wr := fun z => off (W.sub _ z)
  induction more with
  | zero =>
    intro i s sum now has done
    obtain rfl : i = zs.length := sum
    rw [List.take_length] at has
    refine upIn (wpAny_bind (W.done s _ _ now fun h' tk same => wpAny_pure (done h' tk (fun b o nb => same b o fun z => nb (.tail _ z)) (setOf_kept has fun o e => same S o offw e))))
  | succ more ih =>
    intro i s sum now has done
    have lt : i < zs.length := by omega
    refine upIn (wpAny_bind (W.item i s _ _ lt now fun v h' tk pv now' same => ?_))
    obtain ⟨z, t, hz, rfl⟩ := val i v pv
    have has' := setOf_kept (h' := h') has fun o e => same S o offw e
    have few : dst (zs.take i) ≤ i := Nat.le_trans (dst_le _) (by simp; omega)
    refine wpAny_bind (wpAny_holding (show wpAny _ _ (setAdd _ _) _ _ _ from ?_))
    unfold setAdd
    refine wpAny_holding (wpAny_bind ((PySem.strKind P w).pyHash (k := z) (PySem.strKind_is P w z t) ?_))
    refine wpAny_setAddHashed_of (knd := PySem.strKind P w) (s := { s with heap := h', toks := tk + 1 }) (PySem.strKind_is P w z t) rfl has' (by omega) fun h2 but has2 => ?_
    have tk1 : zs.take (i + 1) = zs.take i ++ [z] := by rw [List.take_add_one, hz]; rfl
    have has3 : h2.SetOf (PySem.strKind P w) S (fun y => decide (y ∈ zs.take (i + 1))) (dst (zs.take (i + 1))) := SetOf_congr has2 (fun y => by rw [tk1]; simp [List.mem_append]) (by
      rw [tk1, dst_snoc]
      by_cases m : z ∈ zs.take i <;> simp [m])
    refine wpAny_pure ⟨plainId_quiet F.plain_set_update_loop _, ih (i + 1) _ (by omega) (W.frame _ _ _ now' fun b hb o e => ?_) has3 fun h3 tk3 same3 fin => done h3 tk3 (fun b o nb e => same3 b o nb ?_) fin⟩
    · show h2.get? b = some o
      rw [but.2 b fun q => off (q ▸ hb)]; exact e
    · show h2.get? b = some o
      rw [but.2 b fun q => nb (q ▸ .head _)]; exact same b o (fun q => nb (.tail _ q)) e
/-- set(t), t a tuple -/
theorem call_setT {l : Addr} {cells : Array Value} {zs : List Str} {Q : Value → Shared → Prop} (calm : A.handled = none) (tup : s.heap.IsTuple l cells) (size : cells.size = zs.length) (texts : ∀ (i : Nat) (v : Value), cells[i]? = some v → ∃ z t, zs[i]? = some z ∧ v = Value.str z t) (room : zs.length + 1 < scanBound)
    (go : ∀ h' tk, h'.SetOf (PySem.strKind P w) s.heap.objs.size (fun z => decide (z ∈ zs)) (dst zs) → (∀ b o, s.heap.get? b = some o → h'.get? b = some o) → Q (.ref s.heap.objs.size) { s with heap := h', toks := tk }) :
    wpAny (model P w) A (call (Value.type "set") [Value.ref l]) Q E s := by
  refine callType_by F.called_set (F.typeCall_set_1 _) (code_set_new_1 (.ref l) (Q₁ := fun obj s1 => obj = .ref s.heap.objs.size ∧ ∃ led, s1 = { s with heap := s.heap.push { cls := .type "set", dict := none, data := .set #[] 0 (.fresh 0 0 led) } }) fun led => ⟨rfl, led, rfl⟩) ?_
  rintro _ _ ⟨rfl, led, rfl⟩
  generalize e0 : s.heap.push { cls := .type "set", dict := none, data := .set #[] 0 (.fresh 0 0 led) } = h0
  have at_ : h0.get? s.heap.objs.size = some { cls := .type "set", dict := none, data := .set #[] 0 (.fresh 0 0 led) } := by rw [← e0]; exact Heap.get?_push_size _ rfl
  have up0 : ∀ b o, s.heap.get? b = some o → h0.get? b = some o := fun b o e => by rw [← e0]; exact Heap.get?_push_of_some _ e
  have sz : h0.objs.size = s.heap.objs.size + 1 := by rw [← e0]; exact Heap.size_push ..
  have is : Shared.TypeIs { s with heap := h0 } (.ref s.heap.objs.size) "set" := ⟨_, at_, rfl⟩
  have n1 : isSubtype (.type "tuple") (.type "set") = pure false := by rw [isSubtype_type]; kernel_rfl
  have n2 : isSubtype (.type "tuple") (.type "frozenset") = pure false := by rw [isSubtype_type]; kernel_rfl
  have low : l < s.heap.objs.size := let ⟨o, z, _⟩ := tup; Heap.lt_size z
  have tup' : h0.IsTuple l cells := tup.at fun o e => up0 l o e
  obtain ⟨⟨c, dct, dt, sl⟩, getT, clsT, n, datT⟩ := id tup'
  dsimp only at clsT datT
  subst clsT datT
  refine ⟨is, codeAny_call_builtin F.called_set.init.plain F.entry_set_init (check_set_init_1 is ?_)⟩
  unfold Builtin.«set.__init__»
  wp_walk using PySem.AutoSeq1.wpAny_loadPart' at_, PySem.AutoSeq1.wpAny_loadPart' getT, wpAny_pyIter_tuple tup'
  have W := Walks.tuple (prog := P) (w := w) (A := A.in1.in1.in1) calm h0.objs.size l (by rw [sz]; exact Nat.ne_of_lt (Nat.lt_succ_of_lt low)) cells
  rw [size] at W
  refine fillsD (S := s.heap.objs.size) W ?_ room (fun i v h => texts i v h) zs.length 0 _ (Nat.zero_add _) ⟨⟨_, Heap.get?_push_size _ rfl, rfl, rfl⟩, tup'.at fun o e => Heap.get?_push_of_some _ e⟩ ?_ ?_
  · simp only [List.mem_cons, List.not_mem_nil, or_false, not_or, sz]
    exact ⟨Nat.ne_of_lt (Nat.lt_succ_self _), Ne.symm (Nat.ne_of_lt low)⟩
  · exact SetOf_congr ((setObjOf_fresh led).setOf (Heap.get?_push_of_some _ at_) (by decide)) (fun y => by simp) rfl
  · intro h' tk same fin
    refine wpAny_pure (wpAny_pure ⟨rfl, go h' tk fin fun b o e => same b o ?_ (Heap.get?_push_of_some _ (up0 b o e))⟩)
    have lt := Heap.lt_size e
    simp only [List.mem_cons, List.not_mem_nil, or_false, not_or, sz]
    exact ⟨Nat.ne_of_lt lt, Nat.ne_of_lt (Nat.lt_succ_of_lt lt)⟩
/-- set(l), l a list -/
theorem call_setL {l : Addr} {cells : Array Value} {zs : List Str} {Q : Value → Shared → Prop} (calm : A.handled = none) (tup : s.heap.IsList l cells) (size : cells.size = zs.length) (texts : ∀ (i : Nat) (v : Value), cells[i]? = some v → ∃ z t, zs[i]? = some z ∧ v = Value.str z t) (room : zs.length + 1 < scanBound)
    (go : ∀ h' tk, h'.SetOf (PySem.strKind P w) s.heap.objs.size (fun z => decide (z ∈ zs)) (dst zs) → (∀ b o, s.heap.get? b = some o → h'.get? b = some o) → Q (.ref s.heap.objs.size) { s with heap := h', toks := tk }) :
    wpAny (model P w) A (call (Value.type "set") [Value.ref l]) Q E s := by
  refine callType_by F.called_set (F.typeCall_set_1 _) (code_set_new_1 (.ref l) (Q₁ := fun obj s1 => obj = .ref s.heap.objs.size ∧ ∃ led, s1 = { s with heap := s.heap.push { cls := .type "set", dict := none, data := .set #[] 0 (.fresh 0 0 led) } }) fun led => ⟨rfl, led, rfl⟩) ?_
  rintro _ _ ⟨rfl, led, rfl⟩
  generalize e0 : s.heap.push { cls := .type "set", dict := none, data := .set #[] 0 (.fresh 0 0 led) } = h0
  have at_ : h0.get? s.heap.objs.size = some { cls := .type "set", dict := none, data := .set #[] 0 (.fresh 0 0 led) } := by rw [← e0]; exact Heap.get?_push_size _ rfl
  have up0 : ∀ b o, s.heap.get? b = some o → h0.get? b = some o := fun b o e => by rw [← e0]; exact Heap.get?_push_of_some _ e
  have sz : h0.objs.size = s.heap.objs.size + 1 := by rw [← e0]; exact Heap.size_push ..
  have is : Shared.TypeIs { s with heap := h0 } (.ref s.heap.objs.size) "set" := ⟨_, at_, rfl⟩
  have n1 : isSubtype (.type "list") (.type "set") = pure false := by rw [isSubtype_type]; kernel_rfl
  have n2 : isSubtype (.type "list") (.type "frozenset") = pure false := by rw [isSubtype_type]; kernel_rfl
  have low : l < s.heap.objs.size := let ⟨o, z, _⟩ := tup; Heap.lt_size z
  have tup' : h0.IsList l cells := tup.at fun o e => up0 l o e
  obtain ⟨⟨c, dct, dt, sl⟩, getT, clsT, n, datT⟩ := id tup'
  dsimp only at clsT datT
  subst clsT datT
  refine ⟨is, codeAny_call_builtin F.called_set.init.plain F.entry_set_init (check_set_init_1 is ?_)⟩
  unfold Builtin.«set.__init__»
  wp_walk using PySem.AutoSeq1.wpAny_loadPart' at_, PySem.AutoSeq1.wpAny_loadPart' getT, wpAny_pyIter_list tup'
  have W := Walks.list (prog := P) (w := w) (A := A.in1.in1.in1) calm h0.objs.size l (by rw [sz]; exact Nat.ne_of_lt (Nat.lt_succ_of_lt low)) cells
  rw [size] at W
  refine fillsD (S := s.heap.objs.size) W ?_ room (fun i v h => texts i v h) zs.length 0 _ (Nat.zero_add _) ⟨⟨_, Heap.get?_push_size _ rfl, rfl, rfl⟩, tup'.at fun o e => Heap.get?_push_of_some _ e⟩ ?_ ?_
  · simp only [List.mem_cons, List.not_mem_nil, or_false, not_or, sz]
    exact ⟨Nat.ne_of_lt (Nat.lt_succ_self _), Ne.symm (Nat.ne_of_lt low)⟩
  · exact SetOf_congr ((setObjOf_fresh led).setOf (Heap.get?_push_of_some _ at_) (by decide)) (fun y => by simp) rfl
  · intro h' tk same fin
    refine wpAny_pure (wpAny_pure ⟨rfl, go h' tk fin fun b o e => same b o ?_ (Heap.get?_push_of_some _ (up0 b o e))⟩)
    have lt := Heap.lt_size e
    simp only [List.mem_cons, List.not_mem_nil, or_false, not_or, sz]
    exact ⟨Nat.ne_of_lt lt, Nat.ne_of_lt (Nat.lt_succ_of_lt lt)⟩
end
/-- len(set(e)), e a tuple or a list of texts -/
def tLenSetD (K : PySem.W.Frag) (te : TE) : TE := fun σ H Q => te σ H fun y H1 => ∃ (a : Addr) (zs : List Str), y = V.ref a ∧ (SqT K H1 a (zs.map V.str) ∨ SqL K H1 a (zs.map V.str)) ∧ zs.length ≤ 1000 ∧ Q (.int (dst zs)) H1
theorem texts_of {zs : List Str} {cells : List Value} (vals : Vals (zs.map V.str) cells) : cells.toArray.size = zs.length ∧ ∀ (i : Nat) (v : Value), cells.toArray[i]? = some v → ∃ z t, zs[i]? = some z ∧ v = Value.str z t := by
  have len : cells.length = zs.length := by
    have := vals.length
    simpa using this.symm
  refine ⟨by simpa using len, fun i v at_ => ?_⟩
  rw [List.getElem?_toArray] at at_
  have lt : i < zs.length := by
    have := (List.getElem?_eq_some_iff.mp at_).1
    omega
  obtain ⟨u, hu, ru⟩ := vals.get (i := i) (x := V.str zs[i]) (by simp [lt])
  rw [hu] at at_
  cases at_
  obtain ⟨t, rfl⟩ := ru
  exact ⟨zs[i], t, List.getElem?_eq_getElem lt, rfl⟩
theorem pe_lenSetD {X : Cx} (K' : PySem.W.Frag) {e : Expr} {te : TE} {p p2 q pos : Pos} (m : Bts X.mg) (arg : PE X e te) (calm : X.calm = true := by rfl) (gl : Gl X "len" := by rfl) (gs : Gl X "set" := by rfl) (one : starEach [e] X.env = (false, eval e X.env) :: starEach [] X.env := by rfl) (hK : X.K = K' := by rfl) :
    PE X (.Call (.Name "len" p) [.Call (.Name "set" p2) [e] [] q] [] pos) (tLenSetD K' te) := by
  subst hK
  constructor
  intro pn s σ H Q inv h
  refine Call_ (ld_blt inv gl m.len PySem.boot_len (PyProof.Rows.callWith_builtin1 (PyProof.Rows.args_cons (Call_ (ld_blt inv gs m.set PyProof.Rows.boot_set (PyProof.Rows.callWith_type1 (PyProof.Rows.args_cons (thn (arg.run pn s σ H _ inv h) ?_) one) one rfl))) rfl) rfl rfl))
  rintro v s1 ⟨y, H1, inv1, rel, a, zs, rfl, sq, few, q⟩
  cases rel
  have fin : ∀ h' tk, h'.SetOf (PySem.strKind X.prog X.w) s1.heap.objs.size (fun z => decide (z ∈ zs)) (dst zs) → (∀ b o, s1.heap.get? b = some o → h'.get? b = some o) →
      wpAny (model X.prog X.w) X.A (call (.builtin "len") [.ref s1.heap.objs.size]) (EP X pn σ Q) X.xe { s1 with heap := h', toks := tk } := fun h' tk has same => by
    obtain ⟨o, es, ep, tb, at_, exact_, dat, _, _, _, fits, num⟩ := has
    have inv2 : L2.Inv X pn σ H1 { s1 with heap := h', toks := tk } := inv1.kept same
    have := dst_le zs
    exact call_len_set at_ exact_ dat fits (by rw [num]; omega) ⟨V.int (dst zs), H1, inv2.tok _, ⟨_, by rw [num]⟩, q⟩
  have rm : zs.length + 1 < scanBound := by unfold scanBound; omega
  apply PyProof.Rows.args_nil
  rcases sq with sq | sq
  · obtain ⟨cells, vals, tup, _⟩ := inv1.tuple sq
    obtain ⟨size, texts⟩ := texts_of vals
    exact call_setT (inv1.ok.hd calm) tup size texts rm fun h' tk has same => PyProof.Rows.args_nil (fin h' tk has same)
  · obtain ⟨cells, vals, ⟨o, n, at_, hc, _, hd⟩, _⟩ := inv1.list sq
    obtain ⟨size, texts⟩ := texts_of vals
    exact call_setL (inv1.ok.hd calm) ⟨o, at_, hc, n, hd⟩ size texts rm fun h' tk has same => PyProof.Rows.args_nil (fin h' tk has same)
def LsD (K : PySem.W.Frag) (Q : VK) : VK := fun y H1 => ∃ (a : Addr) (zs : List Str), y = V.ref a ∧ (SqT K H1 a (zs.map V.str) ∨ SqL K H1 a (zs.map V.str)) ∧ zs.length ≤ 1000 ∧ Q (.int (dst zs)) H1
theorem g_lenSetD {K : PySem.W.Frag} {te : TE} {σ : L2.St} {H : Hp} {Q : VK} (h : te σ H (LsD K Q)) : tLenSetD K te σ H Q := h
theorem n_lenSetD {K : PySem.W.Frag} {H : Hp} {Q : VK} {a : Addr} {zs : List Str} (h1 : SqT K H a (zs.map V.str) ∨ SqL K H a (zs.map V.str)) (h3 : zs.length ≤ 1000) (h : Q (.int (dst zs)) H) : LsD K Q (.ref a) H := ⟨a, zs, rfl, h1, h3, h⟩
end HC

set_option maxHeartbeats 990000
/-! a comprehension whose element may raise -/
namespace HC
open PyProof.Rows PySem L2 PySem.Spec
theorem noteFrame_as {e : Value} {a b : Env} (h : a.frame = b.frame) : noteFrame e a = noteFrame e b := by
  unfold noteFrame PySem.frameOf
  rw [h]
theorem frames_off {B h h' : Heap} {C : Addr} (same : ∀ b, b ≠ C → h'.get? b = h.get? b) : ∀ {l : List Env}, C ∉ frs l → h.FunFrames B l → h'.FunFrames (PySem.W.hideAll B [C]) l
  | [], _, _ => trivial
  | env :: r, no, hl => by
    obtain ⟨k, ⟨L, o, fr, free, at_, nf⟩, more⟩ := hl
    have split : frs (env :: r) = L :: frs r := by unfold frs; rw [List.filterMap_cons, fr]
    rw [split] at no
    have ne : L ≠ C := fun e => no (e ▸ List.mem_cons_self)
    refine ⟨k, ⟨L, o, fr, ?_, (same L ne).trans at_, nf⟩, frames_off same (fun z => no (List.mem_cons_of_mem _ z)) more⟩
    cases q : (PySem.W.hideAll B [C]).get? L with
    | none => rfl
    | some o' => exact absurd (PySem.W.of_hideAll _ q) (by rw [free]; exact nofun)
/-- what the block of a comprehension of X wants of an exception -/
abbrev blkE (X : Cx) (s : Shared) (H : Hp) (scope : Scope) (ce : Env) (fp : List Addr) : Cx := (X.blk s H scope ce fp).wish (notedBy (model X.prog X.w) X.A ce (CompFails (model X.prog X.w) X.A X.xe ce))
section
variable {X : Cx} {W : WX} {ce : Env} {u : Value} {s' : Shared} {m : Str → Option Value}
/-- an exception in X's air lets the block's names go, and flies on -/
theorem air_block (hs : X.stack = X.env :: X.outer) (hf : X.env.frame = some X.env.locals) (hce : ce.frame = X.env.frame) (hpn : X.pn = []) (new : X.s_0.heap.objs.size ≤ ce.locals) (nL : ce.locals ≠ X.env.locals) (nc : ∀ y c, X.env.cells.lookup y = some c → c ≠ ce.locals) (nf : ce.locals ∉ frs X.stack)
    (tk : Takes X W) (ns : s'.heap.Ns ce.locals m) (x : XE X (fun cls d σ H => H ce.locals = none ∧ W cls d σ H) u s') : notedBy (model X.prog X.w) X.A ce (CompFails (model X.prog X.w) X.A X.xe ce) u s' := by
  obtain ⟨a, B, sI, pins, σ, H, cls, d, rfl, inv, nb, up, sky, na, os, ag, free, w⟩ := x
  have hfr : X.A.frames = some (X.env :: X.outer) := by rw [inv.ok.frames, hs]
  have after : ∀ h1, HandSPX.HeldZ B (X.env :: X.outer) a (Zc cls d) X.env.locals h1 → s'.heap.UpToSlots h1 → CompFails (model X.prog X.w) X.A X.xe ce (.ref a) { s' with heap := h1 } := fun h1 held up1 => by
    obtain ⟨o, es, ep, ho, hd, hm⟩ := ns
    obtain ⟨sl, ho1⟩ := up1 _ o ho (by rw [hd]; exact nofun)
    refine ⟨m, ⟨_, es, ep, ho1, hd, hm⟩, fun h2 m2 _ sb => ?_⟩
    have same := sb.2
    obtain ⟨stay, fresh, frames, oe, vs, T, oT, ts, he, hz, hde, hv, hnT, hTe, hT, hdT, h3⟩ := held
    have off : ∀ {b : Addr} {ob : Obj} {xs : Array Value}, h1.get? b = some ob → ob.data = .fields xs → b ≠ ce.locals := fun {b ob xs} hb hx e => by
      rw [e, ho1] at hb
      cases hb
      rw [hd] at hx
      cases hx
    have hide : ∀ {h : Heap} {b : Addr} {ob : Obj}, (PySem.W.hideAll h [ce.locals]).get? b = some ob → b ≠ ce.locals ∧ h.get? b = some ob := fun {h b ob} e => by
      refine ⟨fun z => ?_, PySem.W.of_hideAll _ e⟩
      rw [PySem.W.hideAll_none [ce.locals] (by rw [z]; exact List.mem_cons_self)] at e
      cases e
    have gone : ∀ {b : Addr}, B.get? b = none → (PySem.W.hideAll B [ce.locals]).get? b = none := fun {b} n => by
      cases q : (PySem.W.hideAll B [ce.locals]).get? b with
      | none => rfl
      | some ob => rw [(hide q).2] at n; cases n
    have he2 := (same a (off he hde)).trans he
    have held2 : HandSPX.HeldZ (PySem.W.hideAll B [ce.locals]) (X.env :: X.outer) a (Zc cls d) X.env.locals h2 :=
      ⟨fun b ob e => (same b (hide e).1).trans (stay b ob (hide e).2), gone fresh, frames_off same (hs ▸ nf) frames, oe, vs, T, oT, ts, he2, hz, hde, hv, gone hnT, hTe, (same T (off hT hdT)).trans hT, hdT, h3⟩
    unfold PySem.passOn
    refine wpAny_bind (wpAny_field he2 hde hv ?_)
    rw [if_neg (by simp), hce, hf]
    refine wpAny_bind (HandSPX.setFlight_onZ held2 fun h3 held3 up3 => ?_)
    refine wpAny_throw (tk (.ref a) { s' with heap := h3 } ?_)
    refine ⟨a, _, { sI with heap := PySem.W.hideAll sI.heap [ce.locals] }, [], σ, H, cls, d, rfl, ?_, fun b ob e hb => ?_, fun b ob e hx => ?_, .inr (.inr (hs ▸ held3)), na, os, ag, w⟩
    · refine (inv.pins_of (pins' := []) (fun p hp => nomatch hp)).turned (t' := sI.toks) (it := ce.locals) (fun b ob ne e => PySem.W.hideAll_get _ e (by simpa using ne)) free nL (.inr new) nc fun p hp => ?_
      rw [hpn] at hp
      cases hp
    · exact PySem.W.hideAll_get _ (nb b ob (hide e).2 hb) (by simpa using (hide e).1)
    · obtain ⟨s1, e1⟩ := up b ob (hide e).2 hx
      obtain ⟨s2, e2⟩ := up1 b _ e1 hx
      obtain ⟨s3, e3⟩ := up3 b _ ((same b (hide e).1).trans e2) hx
      exact ⟨s3, e3⟩
  unfold notedBy
  rw [noteFrame_as hce]
  rw [hs] at sky
  rcases sky with ⟨hB, hn, hl, oe, vs, he, hz, hd, h1⟩ | fl | hh
  · exact HandSPX.look_newZ Zc.steady hfr hl hf he hB hn hd h1 hz after
  · exact HandSPX.looks_onZ Zc.steady hfr hf fl after
  · exact HandSPX.againZ hf hh.2.2.2 (after s'.heap hh (Heap.UpToSlots.refl _))
theorem pz_blkE {E : XK} {s : Shared} {H : Hp} {scope : Scope} {fp : List Addr} (hs : X.stack = X.env :: X.outer) (hf : X.env.frame = some X.env.locals) (hce : ce.frame = X.env.frame) (hpn : X.pn = []) (new : X.s_0.heap.objs.size ≤ ce.locals) (nL : ce.locals ≠ X.env.locals)
    (nc : ∀ y c, X.env.cells.lookup y = some c → c ≠ ce.locals) (nf : ce.locals ∉ frs X.stack) (tk : Takes X W) (hW : ∀ cls d σ H, E cls d H → W cls d σ H) (mine : ∀ (pins' : List (Addr × Obj)) (σ' : L2.St) (H' : Hp) (s' : Shared), L2.Inv (blkE X s H scope ce fp) pins' σ' H' s' → ∃ pinsX σX, L2.Inv X pinsX σX H' s') :
    Passes (CXW X.prog X.w) (blkE X s H scope ce fp) E := by
  rintro pins' σ' H1 s1 e s2 inv ⟨a, B, H', cls, d, rfl, fl, hok, ub, na, os, ag, hE⟩
  obtain ⟨m, ⟨o, es, ep, ho, hd, hm⟩, _⟩ := inv.loc
  have free : H1 ce.locals = none := inv.free
  obtain ⟨pinsX, σX, invX⟩ := mine _ _ _ _ inv
  have at2 : s2.heap.get? ce.locals = some o := fl.1 _ _ (ub.keep _ o ho free nf)
  refine air_block hs hf hce hpn new nL nc nf tk ⟨o, es, ep, at2, hd, hm⟩ (XE.of_call (E := fun cls d H => H ce.locals = none ∧ E cls d H) invX (fun cls d H' z => ⟨z.1, hW _ _ _ _ z.2⟩) ⟨a, B, H', cls, d, rfl, fl, hok, ub, na, os, ag, ub.free _ o ho free, hE⟩)
end
section
variable {X : Cx}
theorem pe_lcE {elt tg iter : Expr} {E : XK} {W : WX} {scope : Scope} {own : List (Str × Nat)} {pos : Pos} {wi : TI} {g : TG} {te : TE} (hs : X.stack = X.env :: X.outer) (hf : X.env.frame = some X.env.locals) (hpn : X.pn = []) (tk : Takes X W) (hW : ∀ cls d σ H, E cls d H → W cls d σ H) (calm : X.calm = true) (nodup : X.N.Nodup) (hi : PI X tg iter wi) (ok : BlkOk X.N X.env.scope scope own)
    (hg : ∀ (s : Shared) (H : Hp) (C : Addr) (cl : List (Str × Addr)) (fp : List Addr), PG (X.blk s H scope (compEnvC scope cl C X.env) fp) tg g)
    (he : ∀ (s : Shared) (H : Hp) (C : Addr) (cl : List (Str × Addr)) (fp : List Addr), Passes (CXW X.prog X.w) (blkE X s H scope (compEnvC scope cl C X.env) fp) E → PE (blkE X s H scope (compEnvC scope cl C X.env) fp) elt te)
    (folds : ∀ x, foldedSetIterable iter X.env x = pure x := by intro _; rfl) :
    PE X (.ListComp elt [⟨tg, iter, [], 0⟩] scope pos) (tLc wi g tYes te (own.map (·.2))) := by
  constructor
  intro pins s σ H Q inv h
  rw [eval_ListComp]
  have closed : ∀ y ∈ scope.names, y.2 = .free → ∃ c, X.env.cells.lookup y.1 = some c := fun y hy e => (ok.free y hy e).elim (fun z => inv.ok.has _ (.inl z)) fun z => inv.ok.has _ (.inr z)
  refine comprehension_at (use := none) rfl folds (closure_ok closed) ok.kind (fun y hy e => by rw [ok.uniq y hy, e]) (thn (hi.run pins s σ H _ inv h) fun xv s1 got => thn got ?_)
  rintro _ s2 ⟨it, fp, tn, J, H2, rfl, inv2, turns, now, off, q⟩
  refine wpAny_newObj_type (newEnv_comp (show _ from ?_)) (by show 0 ≤ sizeLine; decide)
  obtain ⟨W, ⟨m0, w0⟩, turn⟩ := q s2.heap.objs.size (inv2.hok.fresh (Nat.le_refl _))
  have keep3 : ∀ b o, s2.heap.get? b = some o → (s2.heap.push { cls := .type "list", data := .seq ([] : List Value).toArray }).get? b = some o := fun b o e => Heap.get?_push_of_some _ e
  obtain ⟨s3, e3, D, eD⟩ : ∃ s3 : Shared, s3 = { s2 with heap := s2.heap.push { cls := .type "list", data := .seq ([] : List Value).toArray } } ∧ ∃ D, D = s2.heap.objs.size := ⟨_, rfl, _, rfl⟩
  rw [← e3]
  rw [← eD] at w0 turn ⊢
  have inv3 : L2.Inv X pins σ (upd H2 D (.lst [])) s3 := by
    rw [e3, eD]
    exact inv2.laid (t' := s2.toks) keep3 (Nat.le_refl _) ⟨Nat.zero_le _, [], 0, .nil, Heap.get?_push_size _ rfl⟩
  have keep3' : ∀ b o, s2.heap.get? b = some o → s3.heap.get? b = some o := by rw [e3]; exact keep3
  have low : ∀ b ∈ fp, b < s2.heap.objs.size := fun b hb => Heap.lt_size (turns.obj _ _ now b hb).choose_spec.1
  have off3 : ∀ b ∈ fp, FpOk X pins (upd H2 D (.lst [])) b ∧ b < s3.heap.objs.size := fun b hb => by
    refine ⟨⟨?_, (off b hb).2⟩, ?_⟩
    · rw [upd_ne (by rw [eD]; exact Nat.ne_of_lt (low b hb))]
      exact (off b hb).1
    · obtain ⟨o, z, _⟩ := turns.obj _ _ now b hb
      exact Heap.lt_size (keep3' b o z)
  have now3 : tn 0 s3.heap := turns.keep _ _ _ now fun b _ o e => keep3' b o e
  have blk := block_start inv3 ok nodup off3
  obtain ⟨H3, eH⟩ : ∃ H3, H3 = upd H2 D (.lst []) := ⟨_, rfl⟩
  rw [← eH] at w0 inv3 off3 blk
  obtain ⟨cl, ecl⟩ : ∃ cl, cl = cellsFrom (s3.heap.objs.size + 1) scope.names (cloFrom X.env.cells scope.names []) := ⟨_, rfl⟩
  have pg := hg s3 H3 s3.heap.objs.size cl fp
  have yes : PTs (X.blk s3 H3 scope (compEnvC scope cl s3.heap.objs.size X.env) fp) [] tYes := pts_nil
  rw [← ecl] at blk
  show codeAny _ _ (.compStart (.ListComp elt [⟨tg, iter, [], 0⟩] scope pos) 0 (.ref it) (.ref D) (compEnvC scope (cellsFrom (s3.heap.objs.size + 1) scope.names (cloFrom X.env.cells scope.names [])) s3.heap.objs.size X.env)) (compEnds (model X.prog X.w) X.A X.xe none (EP X pins σ Q) (.ref D) (compEnvC scope (cellsFrom (s3.heap.objs.size + 1) scope.names (cloFrom X.env.cells scope.names [])) s3.heap.objs.size X.env)) { s3 with heap := pushCells (s3.heap.push { cls := .type "dict", data := .dict #[] }) scope.names }
  rw [← ecl]
  have mine : ∀ {pins' : List (Addr × Obj)} {σ' : L2.St} {H' : Hp} {s' : Shared}, L2.Inv (X.blk s3 H3 scope (compEnvC scope cl s3.heap.objs.size X.env) fp) pins' σ' H' s' → L2.Inv X pins σ H' s' := fun {pins' σ' H' s'} i' => by
    refine inv3.call' (ch := fp) i'.os i'.base i'.hok i'.bare fun b hb => ?_
    obtain ⟨_, a1, a2, a3, a4, a5⟩ := (off3 b hb).1
    exact ⟨a3, a1, a4, a5⟩
  have pe := he s3 H3 s3.heap.objs.size cl fp (pz_blkE hs hf rfl hpn (Nat.le_trans inv3.ok.above (Nat.le_of_lt inv3.lt)) (fun e => absurd inv3.lt (by rw [← e]; exact Nat.lt_irrefl _)) (fun y c e q => by
      obtain ⟨v, o, ho, _⟩ := inv3.cell y c e
      have := Heap.lt_size ho
      rw [q] at this
      exact Nat.lt_irrefl _ this) (fun z => by
      have := inv3.stkSub _ z
      rcases List.mem_cons.mp this with q | q
      · exact absurd inv3.lt (by rw [← q]; exact Nat.lt_irrefl _)
      · exact inv3.nofs (Nat.le_refl _) q) tk hW fun _ _ _ _ i' => ⟨_, _, mine (Inv.unwish i')⟩)
  obtain ⟨ce, ece, cL⟩ : ∃ ce, ce = compEnvC scope cl s3.heap.objs.size X.env ∧ ce.locals = s3.heap.objs.size := ⟨_, rfl, rfl⟩
  rw [← ece] at blk pg pe yes mine ⊢
  obtain ⟨s4, e4⟩ : ∃ s4 : Shared, s4 = { s3 with heap := pushCells (s3.heap.push { cls := .type "dict", data := .dict #[] }) scope.names } := ⟨_, rfl⟩
  rw [← e4] at blk ⊢
  have now4 : tn 0 s4.heap := turns.keep _ _ _ now3 fun b _ o e => by rw [e4]; exact pushCells_keeps _ _ _ _ (Heap.get?_push_of_some _ e)
  have none3 : ∀ b ∈ fp, H3 b = none := fun b hb => (off3 b hb).1.1
  have still : ∀ {σ' : L2.St} {H' : Hp} {s' : Shared}, L2.Inv (X.blk s3 H3 scope ce fp) [] σ' H' s' → (∀ b ∈ fp, H' b = none) → ∀ b ∈ fp, FpOk (X.blk s3 H3 scope ce fp) [] H' b := fun {σ' H' s'} i' hn b hb =>
    ⟨hn b hb, (i'.ok.exf b hb).1, i'.ok.exfs b hb, .inl hb, (i'.ok.exf b hb).2, fun p hp => absurd (show p ∈ ([] : List (Addr × Obj)) ++ [] from hp) (by simp)⟩
  have back : ∀ (s6 : Shared) (H5 : Hp) (m : Str → Option Value), L2.Inv X pins σ H5 s6 → Q (.ref D) H5 → s6.heap.Ns s3.heap.objs.size m → FpOk X pins H5 s3.heap.objs.size → compEnds (model X.prog X.w) X.A X.xe none (EP X pins σ Q) (.ref D) ce (.ok .next) s6 := by
    rintro s6 H5 m i6 q6 ns ⟨f0, f1, f2, f3, f4, f5⟩
    exact ⟨m, cL ▸ ns, fun h'' sb => ⟨.ref D, H5, i6.turned (t' := s6.toks) (fun b o hb e => (sb.2 b (cL ▸ hb)).trans e) f0 f1 f3 f4 f5, rfl, q6⟩⟩
  have loop : codeAny (model X.prog X.w) X.A (.compLoop (.ListComp elt [⟨tg, iter, [], 0⟩] scope pos) 0 (.ref it) (.ref D) ce) (compEnds (model X.prog X.w) X.A X.xe none (EP X pins σ Q) (.ref D) ce) s4 := by
    refine compLoop_any (fun n s' => ∃ i H', L2.Inv (X.blk s3 H3 scope ce fp) [] (wipe σ (own.map (·.2))) H' s' ∧ tn i s'.heap ∧ (∀ b ∈ fp, H' b = none) ∧ W i n H') ?_ m0 ⟨0, H3, blk, now4, none3, w0⟩
    rintro n s5 ⟨i, H5, inv5, now5, none5, w5⟩
    rcases turn i n H5 w5 with ⟨stop, qq⟩ | ⟨go, Nx, less, step⟩
    · refine thnF (turns.done (X.blk s3 H3 scope ce fp) rfl rfl rfl calm i [] s5 _ H5 (fun _ _ => False) inv5 (still inv5 none5) now5 stop) ?_
      rintro _ s6 ⟨rfl, inv6⟩
      obtain ⟨m, ns, _⟩ := inv6.loc
      have ns : s6.heap.Ns ce.locals m := ns
      have nC : H5 ce.locals = none := inv6.free
      rw [cL] at ns nC
      refine back s6 H5 m (inv3.call' (ch := fp) inv6.os inv6.base inv6.hok inv6.bare fun b hb => ?_) qq ns (inv3.fpOk (Nat.le_refl _) nC)
      obtain ⟨_, a1, a2, a3, a4, a5⟩ := (off3 b hb).1
      exact ⟨a3, a1, a4, a5⟩
    · refine thnF (turns.item (X.blk s3 H3 scope ce fp) rfl rfl rfl calm i [] s5 _ H5 (fun _ _ => False) inv5 (still inv5 none5) now5 go) ?_
      rintro _ s6 ⟨u, rfl, h6⟩
      refine thnF h6 ?_
      rintro _ s7 ⟨x, H7, inv7, r7, y7, now7, none7⟩
      refine thnF (pg.run _ s7 _ H7 x u _ (inv7.pinned (still inv7 none7) (turns.obj _ _ now7)) r7 (step x H7 y7)) ?_
      rintro _ s8 ⟨σ8, H8, inv8, wiped, q8⟩
      refine thnF (yes.run _ s8 σ8 H8 _ inv8 q8) ?_
      rintro b s9 ⟨H9, inv9, q9⟩
      have fin : ∀ {s' : Shared} {H' : Hp}, L2.Inv (X.blk s3 H3 scope ce fp) ([] ++ pinsAt fp s7.heap) σ8 H' s' → Nx H' → ∃ m, m < n ∧ ∃ i H', L2.Inv (X.blk s3 H3 scope ce fp) [] (wipe σ (own.map (·.2))) H' s' ∧ tn i s'.heap ∧ (∀ b ∈ fp, H' b = none) ∧ W i m H' := fun {s' H'} i' nx => by
        obtain ⟨m', lt, w'⟩ := less H' nx
        have pin' : ∀ b ∈ fp, ∀ o, s7.heap.get? b = some o → s'.heap.get? b = some o ∧ H' b = none := fun b hb o e => by
          have z := i'.pin (b, o) (List.mem_append_right _ (List.mem_append_right _ (mem_pinsAt hb e)))
          exact ⟨z.1, z.2.1⟩
        have len : (wipe σ (own.map (·.2))).length = σ8.length := by rw [← wiped, wipe_length]
        refine ⟨m', lt, i + 1, H', (i'.unpinned (pins := [])).weak len (fun j v e => ?_), turns.keep _ _ _ now7 fun b hb o e => (pin' b hb o e).1, fun b hb => ?_, w'⟩
        · rw [← wiped] at e
          exact (wipe_some e).1
        · exact (pin' b hb _ (turns.obj _ _ now7 b hb).choose_spec.1).2
      cases b with
      | false =>
        rw [if_neg (by decide)] at q9
        exact fin inv9 q9
      | true =>
        rw [if_pos rfl] at q9
        refine thn (pe.run _ s9 σ8 H9 _ (inv9.wish _) q9) ?_
        rintro z s10 ⟨yv, H10, inv10, r10, acc, at10, few, nx⟩
        exact app_ok (X := X.blk s3 H3 scope ce fp) (Inv.unwish inv10) at10 few r10 fun s11 inv11 => fin inv11 nx
  exact codeAny_compStart_list loop (turns.self X.A 0 _ _ _ now4 loop)
end
end HC

/-! f-strings with a width: {x:<8} of a text, {n:>5} of an int -/
namespace HC
open PyProof.Rows PySem L2 PySem.Spec
/-- a text filled up with spaces on its right, to 8 signs -/
def padR (x : Str) : Str := ⟨(TL.tl x ++ List.replicate (8 - x.length) 32).toArray⟩
/-- a text filled up with spaces on its left, to 5 signs -/
def padL (x : Str) : Str := ⟨(List.replicate (5 - x.length) 32 ++ TL.tl x).toArray⟩
abbrev spL8 : Str := ⟨#[60, 56]⟩
abbrev spR5 : Str := ⟨#[62, 53]⟩
theorem len_tl8 (z : Str) : z.length = (TL.tl z).length := by simp [Str.length, TL.tl]
theorem pad_small {z : Str} (h : z.length ≤ 8) : (padR z).length ≤ sizeLine ∧ (padL z).length ≤ sizeLine := by
  have hs : z.cps.size ≤ 8 := h
  constructor
  · show (padR z).cps.size ≤ sizeLine
    unfold padR
    simp [sizeLine_eq, TL.tl]
    omega
  · show (padL z).cps.size ≤ sizeLine
    unfold padL
    simp [sizeLine_eq, TL.tl]
    omega
/-- the field of a text that is 8 long at most: itself, or filled up -/
theorem field8 {x : Str} (hx : x.length ≤ 8) : ∃ o, Builtin.Str.strField x { align := 60, width := some 8 } "str" = .ok o ∧ (o = none ∧ x = padR x ∨ o = some (padR x)) := by
  by_cases h8 : 8 ≤ x.length
  · refine ⟨none, by unfold Builtin.Str.strField; simp [h8, bind, Except.bind, pure, Except.pure], .inl ⟨rfl, TL.ext_tl ?_⟩⟩
    have : 8 - x.length = 0 := by omega
    unfold padR
    rw [this]
    simp [TL.tl]
  · have es : Builtin.Str.strSub x 0 x.length = x := by simp [Builtin.Str.strSub, Str.length]
    have e : Builtin.Str.padded x 0 (8 - x.length) 32 = padR x := TL.ext_tl (by unfold padR Builtin.Str.padded; simp [TL.tl])
    exact ⟨_, by unfold Builtin.Str.strField; simp [h8, es, bind, Except.bind, pure, Except.pure]; rfl, .inr (by rw [e])⟩
theorem meets_s8 {x : Str} {t : Tok} (hx : x.length ≤ 8) (u : Tok) : Meets (Builtin.«str.__format__» ⟨[.str x t, .str spL8 u], []⟩) (fun _ R s => ∀ t' k, R (.ok (.ret (.str (padR x) t'))) { s with toks := k }) := by
  intro prog w A R s done
  have hS : ∀ s : Shared, s.TypeIs (.str spL8 u) "str" := fun _ => rfl
  have hT : ∀ s : Shared, s.TypeIs (.str x t) "str" := fun _ => rfl
  repeat wp_step
  have hn : ((Manifest.find? "str").elim "str" fun x => x.tpName) = "str" := by decide +kernel
  rw [hn]
  have ht : Builtin.Str.tooLong 8 = false := by decide +kernel
  have hb : (spL8.cps.back? == some 0) = false := by decide +kernel
  have hp : Builtin.Float.parseFormatSpec spL8.cps.toList "str" 60 = .ok { align := 60, width := some 8 } := by rfl
  obtain ⟨o, hf, ho⟩ := field8 hx
  have hl := (pad_small hx).1
  rcases ho with ⟨rfl, e⟩ | rfl
  · split <;> rename_i heq <;> simp [hp, hf, ht, hb, bind, Except.bind, pure, Except.pure] at heq
    repeat wp_step
    rw [e]
    exact done _ _
  · split <;> rename_i heq <;> simp [hp, hf, ht, hb, bind, Except.bind, pure, Except.pure] at heq
    rw [← heq]
    repeat wp_step
    exact done _ _
theorem num_tl {a : Int} (h0 : 0 ≤ a) : TL.tl (numS a) = TL.numL a.natAbs := by
  have e : a = ((a.natAbs : Nat) : Int) := by omega
  rw [e]
  exact TL.tl_num _
theorem text5 {a : Int} (h0 : 0 ≤ a) : intSpecText { align := 62, width := some 5 } a = padL (numS a) := by
  have et : TL.tl (numS a) = (Nat.toDigits 10 a.natAbs).map Char.toNat := num_tl h0
  have ne : Nat.toDigits 10 a.natAbs ≠ [] := Nat.toDigits_ne_nil
  refine TL.ext_tl ?_
  unfold intSpecText intField' padL
  rw [et, len_tl8, et]
  generalize Nat.toDigits 10 a.natAbs = D at ne
  simp [TL.tl, ne, show ¬ a < 0 by omega]
theorem meets_i5 {a : Int} {t : Tok} (h0 : 0 ≤ a) (h1 : a < 10000) (u : Tok) : Meets (Builtin.«int.__format__» ⟨[.int a t, .str spR5 u], []⟩) (fun _ R s => ∀ t' k, R (.ok (.ret (.str (padL (numS a)) t'))) { s with toks := k }) := by
  intro prog w A R s done
  have hS : ∀ s : Shared, s.TypeIs (.str spR5 u) "str" := fun _ => rfl
  have hT : ∀ s : Shared, s.TypeIs (.int a t) "int" := fun _ => rfl
  have l4 : (TL.tl (numS a)).length ≤ 4 := by
    rw [num_tl h0]
    exact TL.numL_len (by decide) (by omega)
  have small : (padL (numS a)).length ≤ sizeLine := (pad_small (by rw [len_tl8]; omega)).2
  have go : ∀ X : Str, X = padL (numS a) → wpAny (model prog w) A.in1 (retStr X) (fun fin s' => match fin with | Fin.done f => R (Except.ok f) s' | Fin.again c' => c'.quiet = true ∧ codeAny (model prog w) A c' R s') (fun e s' => R (Except.error e) s') s := fun X e => PySem.W.KXf.ret_text e (by rw [e]; exact small) done
  repeat wp_step
  rw [if_pos (num_small h0 (by omega))]
  refine wpAny_pure ?_
  repeat kxf_if
  refine go _ (Eq.trans (b := intSpecText { align := 62, width := some 5 } a) ?_ (text5 h0))
  kernel_rfl
section
variable {X : Cx} {e : Expr} {te : TE} {pos p1 p2 : Pos} {j : Nat} {σ : L2.St} {H : Hp} {Q : VK}
/-- {x:<8} -/
def tFmt8 (te : TE) : TE := fun σ H Q => te σ H fun x H1 => ∃ y : Str, x = .str y ∧ y.length ≤ 8 ∧ Q (.str (padR y)) H1
theorem pe_fmt8 (he : PE X e te) : PE X (.FormattedValue e (-1) (some (.JoinedStr [.Constant (.str "<8") j p1] p2)) pos) (tFmt8 te) := by
  constructor
  intro pn s σ H Q inv h
  have hs : PE X (.JoinedStr [.Constant (.str "<8") j p1] p2) (tC (.str "<8")) := pe_joined1 pe_str
  refine wpAny_FormattedValue_spec (thn (he.run pn s σ H _ inv h) ?_)
  rintro v s1 ⟨x, H1, inv1, rx, y, rfl, le, q⟩
  obtain ⟨t, rfl⟩ := rx
  refine thn (hs.run pn s1 σ H1 (fun z H2 => z = .str "<8" ∧ H2 = H1) inv1 ⟨rfl, rfl⟩) ?_
  rintro r s2 ⟨_, H2, inv2, rr, rfl, rfl⟩
  obtain ⟨t2, rfl⟩ := rr
  exact ⟨_, t2, rfl, PySem.W.KXf.field_str (spec' := spL8) (by decide +kernel) rfl (by decide +kernel) (by decide +kernel) (fun u => meets_s8 le u) fun t' k => ⟨.str (padR y), H2, inv2.kept (t' := k) fun _ _ z => z, ⟨t', rfl⟩, q⟩⟩
/-- {n:>5} -/
def tFmt5 (te : TE) : TE := fun σ H Q => te σ H fun x H1 => ∃ i : Int, x = .int i ∧ 0 ≤ i ∧ i < 10000 ∧ Q (.str (padL (numS i))) H1
theorem pe_fmt5 (he : PE X e te) : PE X (.FormattedValue e (-1) (some (.JoinedStr [.Constant (.str ">5") j p1] p2)) pos) (tFmt5 te) := by
  constructor
  intro pn s σ H Q inv h
  have hs : PE X (.JoinedStr [.Constant (.str ">5") j p1] p2) (tC (.str ">5")) := pe_joined1 pe_str
  refine wpAny_FormattedValue_spec (thn (he.run pn s σ H _ inv h) ?_)
  rintro v s1 ⟨x, H1, inv1, rx, i, rfl, i0, i1, q⟩
  obtain ⟨t, rfl⟩ := rx
  refine thn (hs.run pn s1 σ H1 (fun z H2 => z = .str ">5" ∧ H2 = H1) inv1 ⟨rfl, rfl⟩) ?_
  rintro r s2 ⟨_, H2, inv2, rr, rfl, rfl⟩
  obtain ⟨t2, rfl⟩ := rr
  exact ⟨_, t2, rfl, PySem.W.KXf.field_int (spec' := spR5) (by decide +kernel) (by decide +kernel) (by decide +kernel) (fun u => meets_i5 i0 i1 u) fun t' k => ⟨.str (padL (numS i)), H2, inv2.kept (t' := k) fun _ _ z => z, ⟨t', rfl⟩, q⟩⟩
def Fm8 (Q : VK) : VK := fun x H1 => ∃ y : Str, x = .str y ∧ y.length ≤ 8 ∧ Q (.str (padR y)) H1
theorem g_fmt8 (h : te σ H (Fm8 Q)) : tFmt8 te σ H Q := h
theorem n_fmt8 {y : Str} (le : y.length ≤ 8) (h : Q (.str (padR y)) H) : Fm8 Q (.str y) H := ⟨y, rfl, le, h⟩
def Fm5 (Q : VK) : VK := fun x H1 => ∃ i : Int, x = .int i ∧ 0 ≤ i ∧ i < 10000 ∧ Q (.str (padL (numS i))) H1
theorem g_fmt5 (h : te σ H (Fm5 Q)) : tFmt5 te σ H Q := h
theorem n_fmt5 {i : Int} (i0 : 0 ≤ i) (i1 : i < 10000) (h : Q (.str (padL (numS i))) H) : Fm5 Q (.int i) H := ⟨i, rfl, i0, i1, h⟩
end
end HC

/-! tuple * n, n at least 1 -/
namespace HC
open PyProof.Rows PySem L2 PySem.Spec
/-- a tuple * 1 is itself -/
theorem tuple_once (l : Addr) (items : Array Value) (n : Nat) (dd : Option Addr) (sl : Array (Option Value)) (x : Int) (u : Tok) (big : (decide (x < -(2 ^ 63)) || decide (x ≥ 2 ^ 63)) = false) (once : (items.isEmpty || x == 1) = true) : Meets (Builtin.«tuple.__mul__» ⟨[.ref l, .int x u], []⟩) (fun _ R s => s.heap.get? l = some { cls := .type "tuple", dict := dd, data := .seq items n, slots := sl } ∧ R (.ok (.ret (.ref l))) s) := by
  refine .of_wp fun prog w A R sh owed => ?_
  rcases owed with ⟨there, done⟩
  rcases sh with ⟨heap, gens, drawn, toks, files⟩
  have ix := AutoSeq1.idx_int
  wp_walk using wpAny_loadPart' there
  refine wpAny_ite_false (decide_eq_false (fun e => by rw [big] at e; cases e)) ?_
  wp_walk using wpAny_loadPart' there
  exact ⟨_, rfl, done⟩
/-- tuple * n: a new one, but for n = 1 -/
def rRepB (K : PySem.W.Frag) : R2 := fun x y H Q => ∃ l k xs, x = .ref l ∧ y = .int k ∧ SqT K H l xs ∧ xs ≠ [] ∧ 1 ≤ k ∧ k ≤ 1000 ∧ xs.length ≤ 1000 ∧ (2 ≤ k → ∀ p, H p = none → Q (.ref p) (upd H p (.tup (List.replicate k.toNat xs).flatten))) ∧ (k = 1 → Q (.ref l) H)
theorem op_repB {X : Cx} : OpR X (binaryOp .Mult) (rRepB X.K) := by
  rintro pn sh σ H _ _ v u Q inv rx ry ⟨l, k, xs, rfl, rfl, sq, some_, low, high, few, q, q1⟩
  by_cases two : 2 ≤ k
  · exact op_repT pn sh σ H _ _ v u Q inv rx ry ⟨l, k, xs, rfl, rfl, sq, some_, two, high, few, q two⟩
  · obtain rfl : k = 1 := by omega
    cases rx
    obtain ⟨t, rfl⟩ := ry
    obtain ⟨its, _, ⟨ob, there, isT, n, items⟩, _⟩ := inv.tuple sq
    obtain ⟨cls, dd, data, sl⟩ := ob
    obtain rfl : cls = _ := isT
    obtain rfl : data = _ := items
    refine wpAny_binaryOp_repeat_ref (U := "int") (T := "tuple") (by decide) ⟨_, there, rfl⟩ (typeIs_int · 1 t) noFill_tuple_mul F.fills_int_mul F.slot_int_rmul repeat_tuple F.slot_int_index.lookup ?_
    refine call_meets F.slot_int_rmul (typeIs_int sh 1 t) F.entry_int_rmul (F.args_int_rmul_2 _ _) (int_rmul_tuple 1 t l its.toArray n dd sl) ⟨there, rfl, ⟨_, there, rfl⟩, ?_⟩
    exact call_meets F.slot_tuple_mul ⟨_, there, rfl⟩ F.entry_tuple_mul (F.args_tuple_mul_2 _ _) (tuple_once l its.toArray n dd sl 1 t (by decide) (by simp)) ⟨there, .ref l, H, inv, rfl, q1 rfl⟩
def rRep1 (K : PySem.W.Frag) : R2 := fun x y H Q => ∃ l k xs, x = .ref l ∧ y = .int k ∧ SqT K H l xs ∧ xs ≠ [] ∧ 1 ≤ k ∧ k ≤ 1000 ∧ xs.length ≤ 1000 ∧ ∀ p H', Same H H' → SqT K H' p (List.replicate k.toNat xs).flatten → Q (.ref p) H'
theorem op_rep1 {X : Cx} : OpR X (binaryOp .Mult) (rRep1 X.K) := by
  rintro pn sh σ H x y v u Q inv rx ry ⟨l, k, xs, e1, e2, sq, some_, low, high, few, q⟩
  refine op_repB pn sh σ H x y v u Q inv rx ry ⟨l, k, xs, e1, e2, sq, some_, low, high, few, fun _ p hp => q p _ (same_new hp) (SqT.of upd_same), fun e => q l H (Same.refl H) ?_⟩
  subst e
  simpa using sq
theorem op_repBK {X : Cx} (K : PySem.W.Frag) (hK : X.K = K := by rfl) : OpR X (binaryOp .Mult) (rRepB K) := by subst hK; exact op_repB
theorem op_rep1K {X : Cx} (K : PySem.W.Frag) (hK : X.K = K := by rfl) : OpR X (binaryOp .Mult) (rRep1 K) := by subst hK; exact op_rep1
theorem g_rep1 {K : PySem.W.Frag} {H : Hp} {Q : VK} {l : Addr} {k : Int} {x : V} (hT : SqT K H l [x]) (h1 : 1 ≤ k) (h2 : k ≤ 1000) (h : ∀ p H', Same H H' → SqT K H' p (List.replicate k.toNat x) → Q (.ref p) H') : rRep1 K (.ref l) (.int k) H Q :=
  ⟨l, k, [x], rfl, rfl, hT, by simp, h1, h2, by simp, fun p H' s hp => h p H' s (by simpa [List.flatten_replicate_singleton] using hp)⟩
end HC

/-! a tuple that was made by tuple(list): its object is told, so its methods can be called -/
namespace HC
open PyProof.Rows PySem L2 PySem.Spec
/-- a tuple whose object is known to bear no dict -/
def Bare (H : Hp) (a : Addr) (xs : List V) : Prop := ∃ o : Obj, H a = some (.frz o (.tup xs)) ∧ o.dict = none
theorem Bare.sq {K : PySem.W.Frag} {H : Hp} {a : Addr} {xs : List V} (h : Bare H a xs) : SqT K H a xs := let ⟨o, e, _⟩ := h; .inl (.inr ⟨o, e⟩)
theorem Bare.same {H H' : Hp} {a : Addr} {xs : List V} (e : Same H H') (h : Bare H a xs) : Bare H' a xs := let ⟨o, h1, h2⟩ := h; ⟨o, e _ _ h1, h2⟩
section
variable {X : Cx} {o e : Expr} {to te : TE} {apos cpos p pos : Pos}
def rTupleNew (K : PySem.W.Frag) : List V → Hp → VK → Prop := fun xs H Q => ∃ p ys, xs = [.ref p] ∧ SqL K H p ys ∧ ∀ l H', H l = none → Same H H' → Bare H' l ys → Q (.ref l) H'
theorem call_tuple_new : CallR X (.type "tuple") (rTupleNew X.K) := by
  rintro pn s σ H _ us Q inv rel ⟨p, ys, rfl, hq, q⟩
  obtain ⟨_, rfl, rfl⟩ := vals1 rel
  obtain ⟨its, rv, pl, hz⟩ := inv.list hq
  have fits : its.toArray.size ≤ sizeLine := by rw [List.size_toArray, ← rv.length]; exact hz
  refine call_tuple_list pl.isList (fun h1 kp => ?_) fits
  have step := inv.kept (t' := s.toks) kp
  have free := step.hok.fresh (Nat.le_refl _)
  refine ⟨.ref h1.objs.size, upd H h1.objs.size (.frz _ (.tup ys)), step.laid (t' := s.toks) (fun _ _ there => Heap.get?_push_of_some _ there) (Nat.le_refl _) ⟨Heap.get?_push_size _ rfl, hz, its, rv, IsTup.new _ _⟩, rfl, q _ _ free (same_new free) ⟨_, upd_same, rfl⟩⟩
theorem pe_tupNew (K : PySem.W.Frag) (m : Bts X.mg) (he : PE X e te) (hg : Gl X "tuple" := by rfl) (hs : starEach (e :: []) X.env = (false, eval e X.env) :: starEach [] X.env := by rfl) (hK : X.K = K := by rfl) : PE X (.Call (.Name "tuple" p) [e] [] pos) (tCB (rTupleNew K) (tCons te tNil)) := by
  subst hK
  exact pe_callTy call_tuple_new hg m.tuple bt_tuple (pa_cons he pa_nil hs) (by decide) (by decide) hs rfl
/-- t.index(x), t such a tuple of texts -/
def TIx (K : PySem.W.Frag) (te : TE) (σ : L2.St) (Q : VK) : VK := fun x H1 => ∃ a, ∃ ys : List Str, x = .ref a ∧ Bare H1 a (ys.map V.str) ∧ te σ H1 fun y H2 => ∃ z j, y = .str z ∧ SqT K H2 a (ys.map V.str) ∧ ys[j]? = some z ∧ (∀ m, m < j → ys[m]? ≠ some z) ∧ Q (.int (j : Nat)) H2
def tTupIx (K : PySem.W.Frag) (to te : TE) : TE := fun σ H Q => to σ H (TIx K te σ Q)
theorem g_tupIx {K : PySem.W.Frag} {σ : L2.St} {H : Hp} {Q : VK} (h : to σ H (TIx K te σ Q)) : tTupIx K to te σ H Q := h
theorem pe_tupIx (K : PySem.W.Frag) (ho : PE X o to) (ha : PE X e te) (own : attributeBase o "index" X.env (eval o X.env) = eval o X.env := by rfl)
    (few : ((backTo cpos (starEach [e] X.env)).all (fun x => !x.1) && (backToKw cpos (keywordEach [] X.env)).all (fun x => x.1.isSome) && decide ([e].length + ([] : List Keyword).length + (if ([] : List Keyword).isEmpty then 0 else 1) < 30)) = true := by rfl)
    (line : (apos.endLine == cpos.line) = true := by rfl) (star : starEach [e] X.env = (false, eval e X.env) :: starEach [] X.env := by rfl) (plain : (backTo cpos (starEach [e] X.env)).any (·.1) = false := by rfl) (hK : X.K = K := by rfl) : PE X (.Call (.Attribute o "index" apos) [e] [] cpos) (tTupIx K to te) := by
  subst hK
  constructor
  intro pn s σ H Q inv h
  refine wpAny_Call_method_late own few line rfl (thn (ho.run pn s σ H _ inv h) ?_)
  rintro v s1 ⟨x, H1, inv1, rel, a, ys, rfl, ⟨ob, at_, bare⟩, q⟩
  cases rel
  obtain ⟨there, _, its, _, ob', there', isT, _⟩ := inv1.hok a _ at_
  obtain rfl : ob = ob' := Option.some.inj (there.symm.trans there')
  have found : ∀ u s2 y H2, Inv X pn σ H2 s2 → RelV y u → (∃ z j, y = V.str z ∧ SqT X.K H2 a (ys.map V.str) ∧ ys[j]? = some z ∧ (∀ m, m < j → ys[m]? ≠ some z) ∧ Q (.int (j : Nat)) H2) → wpAny (model X.prog X.w) X.A (call (.builtin "tuple.index") ([.ref a] ++ [u]) []) (EP X pn σ Q) X.xe s2 := by
    rintro u s2 y H2 inv2 ry ⟨z, j, rfl, hT, hj, first, q2⟩
    exact mt_tup_index pn s2 σ H2 (.ref a) [.str z] _ [u] Q inv2 rfl (.cons ry .nil) ⟨a, ys, z, j, rfl, rfl, hT, hj, first, q2⟩
  refine ⟨"tuple", "tuple.index", F.plainAttrs_tuple, F.slot_tuple_index, F.type_tuple_index, ⟨ob, there, isT⟩, fun b eb => ?_, Calls.callWith_builtin plain ?_⟩
  · cases eb
    exact ⟨ob, there, bare⟩
  · have asked := one_arg (pos := cpos) (Q := fun us s2 => wpAny (model X.prog X.w) X.A (call (.builtin "tuple.index") ([.ref a] ++ us) []) (EP X pn σ Q) X.xe s2) ha inv1 q found star
    rw [star] at asked ⊢
    exact Calls.evalArgs_plain asked
theorem n_tupIx {K : PySem.W.Frag} {σ : L2.St} {H : Hp} {Q : VK} {a : Addr} {ys : List Str} (hb : Bare H a (ys.map V.str)) (h : te σ H fun y H2 => ∃ z j, y = .str z ∧ SqT K H2 a (ys.map V.str) ∧ ys[j]? = some z ∧ (∀ m, m < j → ys[m]? ≠ some z) ∧ Q (.int (j : Nat)) H2) : TIx K te σ Q (.ref a) H := ⟨a, ys, rfl, hb, h⟩
theorem g_tupNew {K : PySem.W.Frag} {H : Hp} {Q : VK} {p : Addr} {ys : List V} (h1 : SqL K H p ys) (h : ∀ l H', H l = none → Same H H' → Bare H' l ys → Q (.ref l) H') : rTupleNew K [.ref p] H Q := ⟨p, ys, rfl, h1, h⟩
end
end HC

/-! ### data, and what a piece of code does to data: the heap behind it is told once, here -/
namespace HC
open PyProof.Rows PySem L2 PySem.Spec
/-- a value with all that hangs on it -/
inductive Da where
  | non | bl (b : Bool) | int (i : Int) | str (x : Str)
  | tup (xs : List Da) | lst (xs : List Da)
  | obj (C : Addr) (fs : List (Str × Da))
  | dK (kvs : List (Key × Da)) | dT (kvs : List (List Key × Da)) | scr (xs : List Int) | btup (xs : List Da)
/-- a dict that is locked or unlocked -/
inductive Lk : HO → HO → Prop
  | refl (o : HO) : Lk o o
  | lock (ob : Obj) (kvs : List (Key × V)) : Lk (.dK kvs) (.frz ob (.dK kvs))
  | lockT (ob : Obj) (kvs : List (List Key × V)) : Lk (.dT kvs) (.frz ob (.dT kvs))
  | free (ob : Obj) (kvs : List (Key × V)) : Lk (.frz ob (.dK kvs)) (.dK kvs)
  | freeT (ob : Obj) (kvs : List (List Key × V)) : Lk (.frz ob (.dT kvs)) (.dT kvs)
/-- the list at a is written for good, or it stands and may not change -/
def ScrAt (K : PySem.W.Frag) (S : Addr → Prop) (H : Hp) (a : Addr) (vs : List V) : Prop := (¬ S a ∧ Rd H a (.lst vs)) ∨ ∀ H', SqL K H' a vs
theorem ScrAt.of {K : PySem.W.Frag} {S : Addr → Prop} {H : Hp} {a : Addr} {vs : List V} (n : ¬ S a) (h : SqL K H a vs) : ScrAt K S H a vs := h.elim (fun h => .inl ⟨n, h⟩) fun h => .inr fun _ => .inr h
theorem ScrAt.sq {K : PySem.W.Frag} {S : Addr → Prop} {H : Hp} {a : Addr} {vs : List V} (h : ScrAt K S H a vs) : SqL K H a vs := h.elim (fun h => .inl h.2) fun h => h H
mutual
/-- v stands for x; S: the addresses that may still change -/
inductive De (K : PySem.W.Frag) (S : Addr → Prop) (H : Hp) : V → Da → Prop
  | non : De K S H .non .non
  | bl (b : Bool) : De K S H (.bl b) (.bl b)
  | int (i : Int) : De K S H (.int i) (.int i)
  | str {x : Str} : PyData.strOk x = true → De K S H (.str x) (.str x)
  | tup {a : Addr} {vs : List V} {xs : List Da} : H a = some (.tup vs) → DeAll K S H vs xs → De K S H (.ref a) (.tup xs)
  | lst {a : Addr} {vs : List V} {xs : List Da} : ¬ S a → H a = some (.lst vs) → DeAll K S H vs xs → De K S H (.ref a) (.lst xs)
  | btup {a : Addr} {o : Obj} {vs : List V} {xs : List Da} : ¬ S a → H a = some (.frz o (.tup vs)) → o.dict = none → DeAll K S H vs xs → De K S H (.ref a) (.btup xs)
  | scr {a : Addr} {xs : List Int} : ScrAt K S H a (xs.map V.int) → De K S H (.ref a) (.scr xs)
  | obj {a C dx : Addr} {gs : List (Str × V)} {fs : List (Str × Da)} : ¬ S a → H a = some (.ins C dx gs) → gs.map (·.1) = fs.map (·.1) → DeAll K S H (gs.map (·.2)) (fs.map (·.2)) → De K S H (.ref a) (.obj C fs)
  | dK {a : Addr} {gs : List (Key × V)} {fs : List (Key × Da)} : ¬ S a → Rd H a (.dK gs) → gs.map (·.1) = fs.map (·.1) → DeAll K S H (gs.map (·.2)) (fs.map (·.2)) → De K S H (.ref a) (.dK fs)
  | dT {a : Addr} {gs : List (List Key × V)} {fs : List (List Key × Da)} : ¬ S a → Rd H a (.dT gs) → gs.map (·.1) = fs.map (·.1) → DeAll K S H (gs.map (·.2)) (fs.map (·.2)) → De K S H (.ref a) (.dT fs)
inductive DeAll (K : PySem.W.Frag) (S : Addr → Prop) (H : Hp) : List V → List Da → Prop
  | nil : DeAll K S H [] []
  | cons {v : V} {vs : List V} {x : Da} {xs : List Da} : De K S H v x → DeAll K S H vs xs → DeAll K S H (v :: vs) (x :: xs)
end
/-- from S, H to S', H': what S does not hold stands (but for locks), what F holds stands -/
structure Ev (K : PySem.W.Frag) (S S' : Addr → Prop) (H H' : Hp) (F : List Addr) : Prop where
  sub : ∀ b, S' b → S b ∨ H b = none
  keep : ∀ b o, ¬ S b → H b = some o → ∃ o', H' b = some o' ∧ Lk o o'
  own : ∀ b o, b ∈ F → H b = some o → H' b = some o
  tk : ∀ a xs, H a = some (.tup xs) → H' a = some (.tup xs)
theorem lk_lst {xs : List V} {o : HO} (h : Lk (.lst xs) o) : o = .lst xs := by cases h; rfl
theorem lk_flst {ob : Obj} {xs : List V} {o : HO} (h : Lk (.frz ob (.lst xs)) o) : o = .frz ob (.lst xs) := by cases h; rfl
theorem lk_ftup {ob : Obj} {xs : List V} {o : HO} (h : Lk (.frz ob (.tup xs)) o) : o = .frz ob (.tup xs) := by cases h; rfl
theorem lk_ins {C dx : Addr} {fs : List (Str × V)} {o : HO} (h : Lk (.ins C dx fs) o) : o = .ins C dx fs := by cases h; rfl
theorem lk_xd {fs : List (Str × V)} {o : HO} (h : Lk (.xd fs) o) : o = .xd fs := by cases h; rfl
section
variable {K : PySem.W.Frag} {S S' S'' : Addr → Prop} {H H' H'' : Hp} {F F' F1 F2 : List Addr} {v w : V} {vs ws : List V} {x y : Da} {xs ys : List Da}
theorem Ev.off (e : Ev K S S' H H' F) {a : Addr} {o : HO} (n : ¬ S a) (h : H a = some o) : ¬ S' a := fun z => (e.sub a z).elim n fun q => by rw [h] at q; cases q
theorem Ev.lst (e : Ev K S S' H H' F) {a : Addr} {xs : List V} (n : ¬ S a) (h : H a = some (.lst xs)) : H' a = some (.lst xs) := by
  obtain ⟨o, h1, h2⟩ := e.keep _ _ n h
  cases lk_lst h2
  exact h1
theorem Ev.scr (e : Ev K S S' H H' F) {a : Addr} {ob : Obj} {xs : List V} (n : ¬ S a) (h : H a = some (.frz ob (.lst xs))) : H' a = some (.frz ob (.lst xs)) := by
  obtain ⟨o, h1, h2⟩ := e.keep _ _ n h
  cases lk_flst h2
  exact h1
theorem Ev.scrAt (e : Ev K S S' H H' F) {a : Addr} {xs : List V} (h : ScrAt K S H a xs) : ScrAt K S' H' a xs := by
  rcases h with ⟨n, h | ⟨o, h⟩⟩ | h
  · exact .inl ⟨e.off n h, .inl (e.lst n h)⟩
  · exact .inl ⟨e.off n h, .inr ⟨o, e.scr n h⟩⟩
  · exact .inr h
theorem Ev.btup (e : Ev K S S' H H' F) {a : Addr} {ob : Obj} {xs : List V} (n : ¬ S a) (h : H a = some (.frz ob (.tup xs))) : H' a = some (.frz ob (.tup xs)) := by
  obtain ⟨o, h1, h2⟩ := e.keep _ _ n h
  cases lk_ftup h2
  exact h1
theorem Ev.ins (e : Ev K S S' H H' F) {a C dx : Addr} {fs : List (Str × V)} (n : ¬ S a) (h : H a = some (.ins C dx fs)) : H' a = some (.ins C dx fs) := by
  obtain ⟨o, h1, h2⟩ := e.keep _ _ n h
  cases lk_ins h2
  exact h1
theorem Ev.dK (e : Ev K S S' H H' F) {a : Addr} {kvs : List (Key × V)} (n : ¬ S a) (h : Rd H a (.dK kvs)) : ¬ S' a ∧ Rd H' a (.dK kvs) := by
  rcases h with h | ⟨q, h⟩
  · obtain ⟨o, h1, h2⟩ := e.keep _ _ n h
    refine ⟨e.off n h, ?_⟩
    cases h2 with
    | refl => exact .inl h1
    | lock ob => exact .inr ⟨ob, h1⟩
  · obtain ⟨o, h1, h2⟩ := e.keep _ _ n h
    refine ⟨e.off n h, ?_⟩
    cases h2 with
    | refl => exact .inr ⟨q, h1⟩
    | free => exact .inl h1
theorem Ev.dT (e : Ev K S S' H H' F) {a : Addr} {kvs : List (List Key × V)} (n : ¬ S a) (h : Rd H a (.dT kvs)) : ¬ S' a ∧ Rd H' a (.dT kvs) := by
  rcases h with h | ⟨q, h⟩
  · obtain ⟨o, h1, h2⟩ := e.keep _ _ n h
    refine ⟨e.off n h, ?_⟩
    cases h2 with
    | refl => exact .inl h1
    | lockT ob => exact .inr ⟨ob, h1⟩
  · obtain ⟨o, h1, h2⟩ := e.keep _ _ n h
    refine ⟨e.off n h, ?_⟩
    cases h2 with
    | refl => exact .inr ⟨q, h1⟩
    | freeT => exact .inl h1
theorem ev_both (e : Ev K S S' H H' F) : (∀ {v x}, De K S H v x → De K S' H' v x) ∧ ∀ {vs xs}, DeAll K S H vs xs → DeAll K S' H' vs xs := by
  have c1 := @De.rec K S H (fun v x _ => De K S' H' v x) (fun vs xs _ => DeAll K S' H' vs xs) .non (fun b => .bl b) (fun i => .int i) (fun h => .str h) (fun h _ r => .tup (e.tk _ _ h) r)
    (fun n h _ r => .lst (e.off n h) (e.lst n h) r) (fun n h d _ r => .btup (e.off n h) (e.btup n h) d r) (fun h => .scr (e.scrAt h)) (fun n h m _ r => .obj (e.off n h) (e.ins n h) m r) (fun n h m _ r => .dK (e.dK n h).1 (e.dK n h).2 m r) (fun n h m _ r => .dT (e.dT n h).1 (e.dT n h).2 m r) .nil (fun _ _ a b => .cons a b)
  have c2 := @DeAll.rec K S H (fun v x _ => De K S' H' v x) (fun vs xs _ => DeAll K S' H' vs xs) .non (fun b => .bl b) (fun i => .int i) (fun h => .str h) (fun h _ r => .tup (e.tk _ _ h) r)
    (fun n h _ r => .lst (e.off n h) (e.lst n h) r) (fun n h d _ r => .btup (e.off n h) (e.btup n h) d r) (fun h => .scr (e.scrAt h)) (fun n h m _ r => .obj (e.off n h) (e.ins n h) m r) (fun n h m _ r => .dK (e.dK n h).1 (e.dK n h).2 m r) (fun n h m _ r => .dT (e.dT n h).1 (e.dT n h).2 m r) .nil (fun _ _ a b => .cons a b)
  exact ⟨fun h => c1 h, fun h => c2 h⟩
theorem De.ev (h : De K S H v x) (e : Ev K S S' H H' F) : De K S' H' v x := (ev_both e).1 h
theorem DeAll.ev (h : DeAll K S H vs xs) (e : Ev K S S' H H' F) : DeAll K S' H' vs xs := (ev_both e).2 h
theorem Ev.mono (e : Ev K S S' H H' F) (h : ∀ b ∈ F', b ∈ F) : Ev K S S' H H' F' := ⟨e.sub, e.keep, fun b o z => e.own b o (h b z), e.tk⟩
theorem Ev.same (s : Same H H') : Ev K S S H H' F := ⟨fun _ z => .inl z, fun b o _ h => ⟨o, s b o h, .refl o⟩, fun b o _ h => s b o h, fun a _ h => s a _ h⟩
theorem Ev.less (h : ∀ b, S' b → S b) : Ev K S S' H H F := ⟨fun b z => .inl (h b z), fun b o _ h => ⟨o, h, .refl o⟩, fun b o _ h => h, fun _ _ h => h⟩
theorem DeAll.len : ∀ {vs : List V} {xs : List Da}, DeAll K S H vs xs → vs.length = xs.length
  | _, _, .nil => rfl
  | _, _, .cons _ b => congrArg Nat.succ (DeAll.len b)
theorem DeAll.app : ∀ {vs ws : List V} {xs ys : List Da}, DeAll K S H vs xs → DeAll K S H ws ys → DeAll K S H (vs ++ ws) (xs ++ ys)
  | _, _, _, _, .nil, s => s
  | _, _, _, _, .cons r t, s => .cons r (DeAll.app t s)
theorem DeAll.at {i : Nat} {vs : List V} {xs : List Da} {v : V} (h : DeAll K S H vs xs) (e : vs[i]? = some v) : ∃ x, xs[i]? = some x ∧ De K S H v x :=
  match i, h, e with
  | 0, .cons a _, e => ⟨_, rfl, Option.some.inj e ▸ a⟩
  | j + 1, .cons _ b, e => DeAll.at (i := j) b e
theorem DeAll.atD {i : Nat} {vs : List V} {xs : List Da} {x : Da} (h : DeAll K S H vs xs) (e : xs[i]? = some x) : ∃ v, vs[i]? = some v ∧ De K S H v x :=
  match i, h, e with
  | 0, .cons a _, e => ⟨_, rfl, Option.some.inj e ▸ a⟩
  | j + 1, .cons _ b, e => DeAll.atD (i := j) b e
theorem DeAll.take : ∀ {vs : List V} {xs : List Da} (n : Nat), DeAll K S H vs xs → DeAll K S H (vs.take n) (xs.take n)
  | _, _, 0, _ => .nil
  | _, _, _ + 1, .nil => .nil
  | _, _, n + 1, .cons r t => .cons r (DeAll.take n t)
theorem DeAll.drop : ∀ {vs : List V} {xs : List Da} (n : Nat), DeAll K S H vs xs → DeAll K S H (vs.drop n) (xs.drop n)
  | _, _, 0, r => r
  | _, _, _ + 1, .nil => .nil
  | _, _, n + 1, .cons _ t => DeAll.drop n t
end
/-- what a name or an item holds: nothing that is known; data; a value as it is; a tuple of such -/
inductive Sl where
  | no | da (x : Da) | raw (v : V) | tup (ys : List Sl)
mutual
inductive VOk (K : PySem.W.Frag) (S : Addr → Prop) (H : Hp) : V → Sl → Prop
  | da {v : V} {x : Da} : De K S H v x → VOk K S H v (.da x)
  | raw (v : V) : VOk K S H v (.raw v)
  | tup {a : Addr} {vs : List V} {ys : List Sl} : H a = some (.tup vs) → VAll K S H vs ys → VOk K S H (.ref a) (.tup ys)
inductive VAll (K : PySem.W.Frag) (S : Addr → Prop) (H : Hp) : List V → List Sl → Prop
  | nil : VAll K S H [] []
  | cons {v : V} {vs : List V} {y : Sl} {ys : List Sl} : VOk K S H v y → VAll K S H vs ys → VAll K S H (v :: vs) (y :: ys)
end
/-- a slot -/
inductive SlOk (K : PySem.W.Frag) (S : Addr → Prop) (H : Hp) : Option V → Sl → Prop
  | no (o : Option V) : SlOk K S H o .no
  | some {v : V} {y : Sl} : VOk K S H v y → SlOk K S H (some v) y
section
variable {K : PySem.W.Frag} {S S' S'' : Addr → Prop} {H H' H'' : Hp} {F F' F1 F2 : List Addr} {v w : V} {vs ws : List V} {y : Sl} {ys zs : List Sl} {xs : List Da}
theorem vo_both (e : Ev K S S' H H' F) : (∀ {v x}, VOk K S H v x → VOk K S' H' v x) ∧ ∀ {vs xs}, VAll K S H vs xs → VAll K S' H' vs xs := by
  have c1 := @VOk.rec K S H (fun v x _ => VOk K S' H' v x) (fun vs xs _ => VAll K S' H' vs xs) (fun h => .da (h.ev e)) (fun v => .raw v) (fun h _ r => .tup (e.tk _ _ h) r) .nil (fun _ _ a b => .cons a b)
  have c2 := @VAll.rec K S H (fun v x _ => VOk K S' H' v x) (fun vs xs _ => VAll K S' H' vs xs) (fun h => .da (h.ev e)) (fun v => .raw v) (fun h _ r => .tup (e.tk _ _ h) r) .nil (fun _ _ a b => .cons a b)
  exact ⟨fun h => c1 h, fun h => c2 h⟩
theorem VOk.ev (h : VOk K S H v y) (e : Ev K S S' H H' F) : VOk K S' H' v y := (vo_both e).1 h
theorem VAll.ev (h : VAll K S H vs ys) (e : Ev K S S' H H' F) : VAll K S' H' vs ys := (vo_both e).2 h
theorem VAll.len : ∀ {vs : List V} {ys : List Sl}, VAll K S H vs ys → vs.length = ys.length
  | _, _, .nil => rfl
  | _, _, .cons _ b => congrArg Nat.succ (VAll.len b)
theorem VAll.app : ∀ {vs ws : List V} {ys zs : List Sl}, VAll K S H vs ys → VAll K S H ws zs → VAll K S H (vs ++ ws) (ys ++ zs)
  | _, _, _, _, .nil, s => s
  | _, _, _, _, .cons r t, s => .cons r (VAll.app t s)
theorem VAll.at {i : Nat} {vs : List V} {ys : List Sl} {v : V} (h : VAll K S H vs ys) (e : vs[i]? = some v) : ∃ y, ys[i]? = some y ∧ VOk K S H v y :=
  match i, h, e with
  | 0, .cons a _, e => ⟨_, rfl, Option.some.inj e ▸ a⟩
  | j + 1, .cons _ b, e => VAll.at (i := j) b e
theorem VAll.atD {i : Nat} {vs : List V} {ys : List Sl} {y : Sl} (h : VAll K S H vs ys) (e : ys[i]? = some y) : ∃ v, vs[i]? = some v ∧ VOk K S H v y :=
  match i, h, e with
  | 0, .cons a _, e => ⟨_, rfl, Option.some.inj e ▸ a⟩
  | j + 1, .cons _ b, e => VAll.atD (i := j) b e
theorem VAll.take : ∀ {vs : List V} {ys : List Sl} (n : Nat), VAll K S H vs ys → VAll K S H (vs.take n) (ys.take n)
  | _, _, 0, _ => .nil
  | _, _, _ + 1, .nil => .nil
  | _, _, n + 1, .cons r t => .cons r (VAll.take n t)
theorem VAll.drop : ∀ {vs : List V} {ys : List Sl} (n : Nat), VAll K S H vs ys → VAll K S H (vs.drop n) (ys.drop n)
  | _, _, 0, r => r
  | _, _, _ + 1, .nil => .nil
  | _, _, n + 1, .cons _ t => VAll.drop n t
theorem VAll.set : ∀ {vs : List V} {ys : List Sl} (n : Nat) {v : V} {y : Sl}, VAll K S H vs ys → VOk K S H v y → VAll K S H (vs.set n v) (ys.set n y)
  | _, _, _, _, _, .nil, _ => .nil
  | _, _, 0, _, _, .cons _ t, h => .cons h t
  | _, _, n + 1, _, _, .cons r t, h => .cons r (VAll.set n t h)
theorem VAll.erase : ∀ {vs : List V} {ys : List Sl} (n : Nat), VAll K S H vs ys → VAll K S H (vs.eraseIdx n) (ys.eraseIdx n)
  | _, _, _, .nil => .nil
  | _, _, 0, .cons _ t => t
  | _, _, n + 1, .cons r t => .cons r (VAll.erase n t)
theorem VAll.das : ∀ {vs : List V} {xs : List Da}, VAll K S H vs (xs.map .da) → DeAll K S H vs xs
  | _, [], .nil => .nil
  | _, _ :: _, .cons (.da h) t => .cons h (VAll.das t)
theorem DeAll.vall : ∀ {vs : List V} {xs : List Da}, DeAll K S H vs xs → VAll K S H vs (xs.map .da)
  | _, _, .nil => .nil
  | _, _, .cons h t => .cons (.da h) (DeAll.vall t)
theorem SlOk.ev {o : Option V} (h : SlOk K S H o y) (e : Ev K S S' H H' F) : SlOk K S' H' o y := by
  cases h with
  | no => exact .no _
  | some h => exact .some (h.ev e)
theorem VOk.slot (h : VOk K S H v y) : SlOk K S H (some v) y := .some h
end
abbrev Slots (K : PySem.W.Frag) (S : Addr → Prop) (H : Hp) : L2.St → List Sl → Prop := Paired (SlOk K S H)
theorem paired_imp {α β : Type} {P Q : α → β → Prop} (h : ∀ a b, P a b → Q a b) : ∀ {xs : List α} {ys : List β}, Paired P xs ys → Paired Q xs ys
  | _, _, .nil => .nil
  | _, _, .cons a b => .cons (h _ _ a) (paired_imp h b)
theorem paired_get1 {α β : Type} {P : α → β → Prop} {i : Nat} {y : β} : ∀ {xs : List α} {ys : List β}, Paired P xs ys → ys[i]? = some y → ∃ x, xs[i]? = some x ∧ P x y := by
  induction i with
  | zero =>
    intro xs ys h e
    cases h with
    | nil => cases e
    | cons a b => exact ⟨_, rfl, Option.some.inj e ▸ a⟩
  | succ j ih =>
    intro xs ys h e
    cases h with
    | nil => cases e
    | cons a b => exact ih b e
theorem paired_set {α β : Type} {P : α → β → Prop} {a : α} {b : β} (p : P a b) : ∀ {xs : List α} {ys : List β} (i : Nat), Paired P xs ys → Paired P (xs.set i a) (ys.set i b)
  | _, _, _, .nil => .nil
  | _, _, 0, .cons _ t => .cons p t
  | _, _, i + 1, .cons r t => .cons r (paired_set p i t)
theorem Slots.ev {K : PySem.W.Frag} {S S' : Addr → Prop} {H H' : Hp} {F : List Addr} {σ : L2.St} {sl : List Sl} (h : Slots K S H σ sl) (e : Ev K S S' H H' F) : Slots K S' H' σ sl := paired_imp (fun _ _ z => z.ev e) h
/-! ### things that may change -/
/-- a thing that may change: what it is, and that it stands as long as its own addresses and what never changes stand -/
structure Rs (K : PySem.W.Frag) where
  p : (Addr → Prop) → Hp → List Addr → Prop
  stb : ∀ {S S' : Addr → Prop} {H H' : Hp} {F : List Addr}, p S H F → Ev K S S' H H' F → p S' H' F
def Sep (K : PySem.W.Frag) (S : Addr → Prop) (H : Hp) : List (Rs K) → List Addr → Prop
  | [], F => F = []
  | R :: rs, F => ∃ F1 F2, F = F1 ++ F2 ∧ R.p S H F1 ∧ Sep K S H rs F2
def Mu (S0 : Addr → Prop) (F : List Addr) : Addr → Prop := fun b => S0 b ∨ b ∈ F
/-- the things of rs stand, their addresses are F; S0: what the callers may change -/
structure At (K : PySem.W.Frag) (S0 : Addr → Prop) (H : Hp) (rs : List (Rs K)) (F : List Addr) : Prop where
  sep : Sep K (Mu S0 F) H rs F
  nd : F.Nodup
  off : ∀ b ∈ F, ¬ S0 b
  liv : ∀ b, Mu S0 F b → NotT (H b) ∧ H b ≠ none
structure Stp (F : List Addr) (H : Hp) (F' : List Addr) (H' : Hp) : Prop where
  keep : ∀ b o, b ∉ F → H b = some o → H' b = some o
  new : ∀ b ∈ F', b ∈ F ∨ H b = none
section
variable {K : PySem.W.Frag} {S S' S0 : Addr → Prop} {H H' H1 H2 : Hp} {F F' F1 F2 : List Addr} {rs rs' : List (Rs K)}
theorem Sep.ev : ∀ {rs : List (Rs K)} {F G : List Addr}, Sep K S H rs F → Ev K S S' H H' G → (∀ b ∈ F, b ∈ G) → Sep K S' H' rs F
  | [], _, _, h, _, _ => h
  | _ :: _, _, _, ⟨F1, F2, e, h1, h2⟩, ev, m => ⟨F1, F2, e, Rs.stb _ h1 (ev.mono fun b hb => m b (by rw [e]; exact List.mem_append_left _ hb)), Sep.ev h2 ev fun b hb => m b (by rw [e]; exact List.mem_append_right _ hb)⟩
theorem Sep.app : ∀ {rs rs' : List (Rs K)} {F F' : List Addr}, Sep K S H rs F → Sep K S H rs' F' → Sep K S H (rs ++ rs') (F ++ F')
  | [], _, F, _, h, h' => by cases h; exact h'
  | _ :: _, _, _, F', ⟨F1, F2, e, h1, h2⟩, h' => ⟨F1, F2 ++ F', by rw [e, List.append_assoc], h1, Sep.app h2 h'⟩
theorem Sep.split : ∀ {rs rs' : List (Rs K)} {F : List Addr}, Sep K S H (rs ++ rs') F → ∃ F1 F2, F = F1 ++ F2 ∧ Sep K S H rs F1 ∧ Sep K S H rs' F2
  | [], _, F, h => ⟨[], F, rfl, rfl, h⟩
  | R :: rs, _, F, ⟨F1, F2, e, h1, h2⟩ => by
    obtain ⟨G1, G2, e2, a, b⟩ := Sep.split h2
    exact ⟨F1 ++ G1, G2, by rw [e, e2, List.append_assoc], ⟨F1, G1, rfl, h1, a⟩, b⟩
theorem Sep.perm (p : rs.Perm rs') : ∀ {F : List Addr}, Sep K S H rs F → ∃ F', F.Perm F' ∧ Sep K S H rs' F' := by
  induction p with
  | nil => exact fun h => ⟨_, .refl _, h⟩
  | cons R p ih =>
    rintro F ⟨F1, F2, rfl, h1, h2⟩
    obtain ⟨F', q, h⟩ := ih h2
    exact ⟨F1 ++ F', q.append_left F1, F1, F', rfl, h1, h⟩
  | swap R R' l =>
    rintro F ⟨F1, F2, rfl, h1, G1, G2, rfl, h2, h3⟩
    refine ⟨G1 ++ (F1 ++ G2), ?_, G1, F1 ++ G2, rfl, h2, F1, G2, rfl, h1, h3⟩
    rw [← List.append_assoc]; rw [← List.append_assoc]
    exact (List.perm_append_comm).append_right G2
  | trans p q ih1 ih2 =>
    intro F h
    obtain ⟨F1, q1, h1⟩ := ih1 h
    obtain ⟨F2, q2, h2⟩ := ih2 h1
    exact ⟨F2, q1.trans q2, h2⟩
theorem mu_perm (p : F.Perm F') : Mu S0 F = Mu S0 F' := funext fun b => propext ⟨fun h => h.imp id p.mem_iff.mp, fun h => h.imp id p.mem_iff.mpr⟩
theorem mu_app : Mu (Mu S0 F2) F1 = Mu S0 (F1 ++ F2) := funext fun b => propext (by
  unfold Mu
  rw [List.mem_append]
  exact ⟨fun h => h.elim (fun z => z.imp id .inr) fun z => .inr (.inl z), fun h => h.elim (fun z => .inl (.inl z)) fun z => z.elim .inr fun q => .inl (.inr q)⟩)
theorem At.perm (A : At K S0 H rs F) (p : rs.Perm rs') : ∃ F', F.Perm F' ∧ At K S0 H rs' F' := by
  obtain ⟨F', q, h⟩ := A.sep.perm p
  refine ⟨F', q, ?_, q.nodup_iff.mp A.nd, fun b hb => A.off b (q.mem_iff.mpr hb), fun b hb => A.liv b (by rw [mu_perm q]; exact hb)⟩
  rw [← mu_perm q]; exact h
theorem Stp.refl (F : List Addr) (H : Hp) : Stp F H F H := ⟨fun _ _ _ h => h, fun _ h => .inl h⟩
theorem Stp.trans (a : Stp F H F1 H1) (b : Stp F1 H1 F2 H2) : Stp F H F2 H2 := by
  refine ⟨fun c o n h => b.keep c o (fun z => (a.new c z).elim n fun q => by rw [h] at q; cases q) (a.keep c o n h), fun c hc => ?_⟩
  rcases b.new c hc with z | z
  · exact a.new c z
  · by_cases n : c ∈ F
    · exact .inl n
    · refine .inr ?_
      cases q : H c with
      | none => rfl
      | some o => rw [a.keep c o n q] at z; cases z
theorem Stp.perm (a : Stp F H F' H') (p : F.Perm F1) (q : F'.Perm F2) : Stp F1 H F2 H' := ⟨fun b o n h => a.keep b o (fun z => n (p.mem_iff.mp z)) h, fun b hb => (a.new b (q.mem_iff.mpr hb)).imp p.mem_iff.mp id⟩
theorem Stp.less (a : Stp F H F' H') (q : ∀ b ∈ F1, b ∈ F') : Stp F H F1 H' := ⟨a.keep, fun b hb => a.new b (q b hb)⟩
theorem Stp.same (s : Same H H') : Stp F H F H' := ⟨fun b o _ h => s b o h, fun _ h => .inl h⟩
theorem At.tk (A : At K S0 H rs F) (st : Stp F H F' H') : ∀ a xs, H a = some (.tup xs) → H' a = some (.tup xs) := fun a xs h => st.keep a _ (fun m => by
  have n := (A.liv a (.inr m)).1
  rw [h] at n
  exact n) h
theorem Stp.ev (st : Stp F H F' H') (A : At K S0 H rs F) : Ev K (Mu S0 F) (Mu S0 F') H H' [] :=
  ⟨fun b h => h.elim (fun z => .inl (.inl z)) fun z => (st.new b z).imp .inr id, fun b o n h => ⟨o, st.keep b o (fun m => n (.inr m)) h, .refl o⟩, fun b o m h => (nomatch m), A.tk st⟩
theorem At.same (A : At K S0 H rs F) (s : Same H H') : At K S0 H' rs F := by
  refine ⟨A.sep.ev (Ev.same s) fun b h => h, A.nd, A.off, fun b hb => ?_⟩
  obtain ⟨n, l⟩ := A.liv b hb
  cases q : H b with
  | none => exact absurd q l
  | some o => rw [s b o q]; rw [q] at n; exact ⟨n, nofun⟩
/-- what the callers hold stands; the things of rc are handed on -/
theorem At.call {rc rf : List (Rs K)} (A : At K S0 H (rc ++ rf) F) : ∃ Fc Ff, F = Fc ++ Ff ∧ At K (Mu S0 Ff) H rc Fc ∧ Mu (Mu S0 Ff) Fc = Mu S0 F ∧ Sep K (Mu S0 F) H rf Ff := by
  obtain ⟨Fc, Ff, rfl, h1, h2⟩ := A.sep.split
  have e : Mu (Mu S0 Ff) Fc = Mu S0 (Fc ++ Ff) := mu_app
  refine ⟨Fc, Ff, rfl, ⟨by rw [e]; exact h1, (List.nodup_append.mp A.nd).1, fun b hb => ?_, fun b hb => A.liv b (by rw [← e]; exact hb)⟩, e, h2⟩
  rintro (z | z)
  · exact A.off b (List.mem_append_left _ hb) z
  · exact (List.nodup_append.mp A.nd).2.2 b hb b z rfl
theorem At.back {rc rf rc' : List (Rs K)} {Fc Ff Fc' : List Addr} (A : At K S0 H (rc ++ rf) (Fc ++ Ff)) (hf : Sep K (Mu S0 (Fc ++ Ff)) H rf Ff) (st : Stp Fc H Fc' H') (B : At K (Mu S0 Ff) H' rc' Fc') : At K S0 H' (rc' ++ rf) (Fc' ++ Ff) ∧ Stp (Fc ++ Ff) H (Fc' ++ Ff) H' := by
  have e : Mu (Mu S0 Ff) Fc' = Mu S0 (Fc' ++ Ff) := mu_app
  have dis : ∀ b, b ∈ Ff → b ∉ Fc := fun b hb hc => (List.nodup_append.mp A.nd).2.2 b hc b hb rfl
  have st2 : Stp (Fc ++ Ff) H (Fc' ++ Ff) H' := by
    refine ⟨fun b o n h => st.keep b o (fun z => n (List.mem_append_left _ z)) h, fun b hb => ?_⟩
    rcases List.mem_append.mp hb with z | z
    · exact (st.new b z).imp (List.mem_append_left _) id
    · exact .inl (List.mem_append_right _ z)
  refine ⟨⟨?_, ?_, ?_, fun b hb => B.liv b (by rw [e]; exact hb)⟩, st2⟩
  · refine Sep.app (by rw [← e]; exact B.sep) (hf.ev (G := Ff) ⟨(st2.ev A).sub, (st2.ev A).keep, fun b o n h => st.keep b o (dis b n) h, A.tk st2⟩ fun b h => h)
  · refine List.nodup_append.mpr ⟨B.nd, (List.nodup_append.mp A.nd).2.1, fun b hb c hc q => ?_⟩
    subst q
    exact B.off b hb (.inr hc)
  · intro b hb
    rcases List.mem_append.mp hb with z | z
    · exact fun q => B.off b z (.inl q)
    · exact A.off b (List.mem_append_right _ z)
/-- things are let go -/
theorem At.drop {rc rf : List (Rs K)} (A : At K S0 H (rc ++ rf) F) : ∃ Ff, (∀ b ∈ Ff, b ∈ F) ∧ At K S0 H rf Ff := by
  obtain ⟨Fc, Ff, rfl, h1, h2⟩ := A.sep.split
  have lift : ∀ b, Mu S0 Ff b → Mu S0 (Fc ++ Ff) b := fun b z => z.imp id (List.mem_append_right _)
  exact ⟨Ff, fun b hb => List.mem_append_right _ hb, h2.ev (G := Ff) (Ev.less lift) (fun b h => h), (List.nodup_append.mp A.nd).2.1, fun b hb => A.off b (List.mem_append_right _ hb), fun b hb => A.liv b (lift b hb)⟩
/-- a new thing -/
theorem At.new {R : Rs K} {G : List Addr} (A : At K S0 H rs F) (s : Same H H') (hG : ∀ b ∈ G, H b = none) (nd : G.Nodup) (lv : ∀ b ∈ G, NotT (H' b) ∧ H' b ≠ none) (hR : R.p (Mu S0 (G ++ F)) H' G) : At K S0 H' (R :: rs) (G ++ F) ∧ Stp F H (G ++ F) H' := by
  have old : ∀ b, Mu S0 F b → H b ≠ none := fun b z => (A.liv b z).2
  refine ⟨⟨⟨G, F, rfl, hR, ?_⟩, ?_, ?_, ?_⟩, fun b o _ h => s b o h, fun b hb => ?_⟩
  · refine A.sep.ev (G := F) ⟨fun b z => ?_, fun b o n h => ⟨o, s b o h, .refl o⟩, fun b o _ h => s b o h, fun a _ h => s a _ h⟩ fun b h => h
    rcases z with z | z
    · exact .inl (.inl z)
    · rcases List.mem_append.mp z with z | z
      · exact .inr (hG b z)
      · exact .inl (.inr z)
  · refine List.nodup_append.mpr ⟨nd, A.nd, fun b hb c hc q => ?_⟩
    subst q
    exact old b (.inr hc) (hG b hb)
  · intro b hb
    rcases List.mem_append.mp hb with z | z
    · exact fun q => old b (.inl q) (hG b z)
    · exact A.off b z
  · rintro b (z | z)
    · exact (A.same s).liv b (.inl z)
    · rcases List.mem_append.mp z with z | z
      · exact lv b z
      · exact (A.same s).liv b (.inr z)
  · rcases List.mem_append.mp hb with z | z
    · exact .inr (hG b z)
    · exact .inl z
end
/-- R is among rs, rs' are the others -/
inductive Ext {K : PySem.W.Frag} (R : Rs K) : List (Rs K) → List (Rs K) → Prop
  | here {rs : List (Rs K)} : Ext R (R :: rs) rs
  | there {R' : Rs K} {rs rs' : List (Rs K)} : Ext R rs rs' → Ext R (R' :: rs) (R' :: rs')
/-- R is replaced by R' -/
inductive Rep {K : PySem.W.Frag} (R R' : Rs K) : List (Rs K) → List (Rs K) → Prop
  | here {rs : List (Rs K)} : Rep R R' (R :: rs) (R' :: rs)
  | there {R1 : Rs K} {rs rs' : List (Rs K)} : Rep R R' rs rs' → Rep R R' (R1 :: rs) (R1 :: rs')
inductive Gets {K : PySem.W.Frag} : List (Rs K) → List (Rs K) → List (Rs K) → Prop
  | nil {rs : List (Rs K)} : Gets [] rs rs
  | cons {R : Rs K} {rc rs rs1 rf : List (Rs K)} : Ext R rs rs1 → Gets rc rs1 rf → Gets (R :: rc) rs rf
section
variable {K : PySem.W.Frag} {R R' : Rs K} {rs rs' rc rf : List (Rs K)}
theorem Ext.perm (h : Ext R rs rs') : rs.Perm (R :: rs') := by
  induction h with
  | here => exact .refl _
  | there _ ih => exact (ih.cons _).trans (.swap _ _ _)
theorem Gets.perm (h : Gets rc rs rf) : rs.Perm (rc ++ rf) := by
  induction h with
  | nil => exact .refl _
  | cons e _ ih => exact e.perm.trans (ih.cons _)
theorem Rep.perms (h : Rep R R' rs rs') : ∃ r, rs.Perm (R :: r) ∧ rs'.Perm (R' :: r) := by
  induction h with
  | here => exact ⟨_, .refl _, .refl _⟩
  | there _ ih =>
    obtain ⟨r, a, b⟩ := ih
    exact ⟨_ :: r, (a.cons _).trans (.swap _ _ _), (b.cons _).trans (.swap _ _ _)⟩
end
/-- an exception: its class, its fields -/
structure Exn where
  cls : Addr
  fs : Option (List (Str × Da))
def ExOk (K : PySem.W.Frag) (S : Addr → Prop) (H : Hp) (u : Value) (d : Option Addr) (x : Exn) : Prop :=
  u = .ref x.cls ∧ match x.fs with
    | none => d = none
    | some fs => ∃ a gs, d = some a ∧ H a = some (.xd gs) ∧ gs.map (·.1) = fs.map (·.1) ∧ DeAll K S H (gs.map (·.2)) (fs.map (·.2))
/-- where the code stands -/
structure Now (K : PySem.W.Frag) (S0 : Addr → Prop) (σ : L2.St) (H : Hp) (sl : List Sl) (rs : List (Rs K)) (F : List Addr) : Prop where
  at_ : At K S0 H rs F
  sl : Slots K (Mu S0 F) H σ sl
section
variable {K : PySem.W.Frag} {S S' S0 : Addr → Prop} {H H' H1 H2 : Hp} {F F' F1 F2 : List Addr} {rs rs' rc rf : List (Rs K)} {v : V} {y : Sl} {σ : L2.St} {sl : List Sl}
theorem Now.step (N : Now K S0 σ H sl rs F) (st : Stp F H F' H') (A : At K S0 H' rs' F') : Now K S0 σ H' sl rs' F' := ⟨A, N.sl.ev (st.ev N.at_)⟩
theorem Now.same (N : Now K S0 σ H sl rs F) (s : Same H H') : Now K S0 σ H' sl rs F := N.step (Stp.same s) (N.at_.same s)
theorem Now.perm (N : Now K S0 σ H sl rs F) (p : rs.Perm rs') : ∃ F', F.Perm F' ∧ Now K S0 σ H sl rs' F' := by
  obtain ⟨F', q, A⟩ := N.at_.perm p
  exact ⟨F', q, A, by rw [← mu_perm q]; exact N.sl⟩
theorem Now.set (N : Now K S0 σ H sl rs F) (h : VOk K (Mu S0 F) H v y) (i : Nat) : Now K S0 (σ.set i (some v)) H (sl.set i y) rs F := ⟨N.at_, paired_set (.some h) i N.sl⟩
end
end HC

/-! ### lists, instances, dicts that may change; letting go, freezing; readings of data -/
namespace HC
open PyProof.Rows PySem L2 PySem.Spec
section
variable {K : PySem.W.Frag} {S S' S0 : Addr → Prop} {H H' H1 H2 : Hp} {F F' F1 F2 G : List Addr} {rs rs' rc rf : List (Rs K)} {v : V} {y : Sl} {σ : L2.St} {sl : List Sl}
/-- the list at a -/
def lstR (a : Addr) (ys : List Sl) : Rs K where
  p S H F := F = [a] ∧ ∃ vs, H a = some (.lst vs) ∧ VAll K S H vs ys
  stb := fun {S S' H H' F} h e => by
    obtain ⟨rfl, vs, h1, h2⟩ := h
    exact ⟨rfl, vs, e.own _ _ (List.mem_singleton.mpr rfl) h1, h2.ev e⟩
/-- the instance at a -/
def objR (a C : Addr) (fs : List (Str × Sl)) : Rs K where
  p S H F := F = [a] ∧ ∃ dx gs, H a = some (.ins C dx gs) ∧ gs.map (·.1) = fs.map (·.1) ∧ VAll K S H (gs.map (·.2)) (fs.map (·.2))
  stb := fun {S S' H H' F} h e => by
    obtain ⟨rfl, dx, gs, h1, h2, h3⟩ := h
    exact ⟨rfl, dx, gs, e.own _ _ (List.mem_singleton.mpr rfl) h1, h2, h3.ev e⟩
/-- the dict at a -/
def dctR (a : Addr) (kvs : List (Key × Sl)) : Rs K where
  p S H F := F = [a] ∧ ∃ gs, H a = some (.dK gs) ∧ gs.map (·.1) = kvs.map (·.1) ∧ VAll K S H (gs.map (·.2)) (kvs.map (·.2))
  stb := fun {S S' H H' F} h e => by
    obtain ⟨rfl, gs, h1, h2, h3⟩ := h
    exact ⟨rfl, gs, e.own _ _ (List.mem_singleton.mpr rfl) h1, h2, h3.ev e⟩
def dctT (a : Addr) (kvs : List (List Key × Sl)) : Rs K where
  p S H F := F = [a] ∧ ∃ gs, H a = some (.dT gs) ∧ gs.map (·.1) = kvs.map (·.1) ∧ VAll K S H (gs.map (·.2)) (kvs.map (·.2))
  stb := fun {S S' H H' F} h e => by
    obtain ⟨rfl, gs, h1, h2, h3⟩ := h
    exact ⟨rfl, gs, e.own _ _ (List.mem_singleton.mpr rfl) h1, h2, h3.ev e⟩
theorem At.get {R : Rs K} (A : At K S0 H rs F) (e : Ext R rs rs') : ∃ G, R.p (Mu S0 F) H G ∧ ∀ b ∈ G, b ∈ F := by
  obtain ⟨F', q, A'⟩ := A.perm e.perm
  obtain ⟨F1, F2, rfl, h, _⟩ := A'.sep
  exact ⟨F1, by rw [mu_perm q]; exact h, fun b hb => q.mem_iff.mpr (List.mem_append_left _ hb)⟩
theorem At.lst {a : Addr} {ys : List Sl} (A : At K S0 H rs F) (e : Ext (lstR a ys) rs rs') : ∃ vs, H a = some (.lst vs) ∧ VAll K (Mu S0 F) H vs ys ∧ a ∈ F := by
  obtain ⟨G, ⟨rfl, vs, h1, h2⟩, h3⟩ := A.get e
  exact ⟨vs, h1, h2, h3 a (List.mem_singleton.mpr rfl)⟩
theorem At.obj {a C : Addr} {fs : List (Str × Sl)} (A : At K S0 H rs F) (e : Ext (objR a C fs) rs rs') : ∃ dx gs, H a = some (.ins C dx gs) ∧ gs.map (·.1) = fs.map (·.1) ∧ VAll K (Mu S0 F) H (gs.map (·.2)) (fs.map (·.2)) ∧ a ∈ F := by
  obtain ⟨G, ⟨rfl, dx, gs, h1, h2, h4⟩, h3⟩ := A.get e
  exact ⟨dx, gs, h1, h2, h4, h3 a (List.mem_singleton.mpr rfl)⟩
theorem At.dct {a : Addr} {fs : List (Key × Sl)} (A : At K S0 H rs F) (e : Ext (dctR a fs) rs rs') : ∃ gs, H a = some (.dK gs) ∧ gs.map (·.1) = fs.map (·.1) ∧ VAll K (Mu S0 F) H (gs.map (·.2)) (fs.map (·.2)) ∧ a ∈ F := by
  obtain ⟨G, ⟨rfl, gs, h1, h2, h4⟩, h3⟩ := A.get e
  exact ⟨gs, h1, h2, h4, h3 a (List.mem_singleton.mpr rfl)⟩
theorem At.dctT {a : Addr} {fs : List (List Key × Sl)} (A : At K S0 H rs F) (e : Ext (dctT a fs) rs rs') : ∃ gs, H a = some (.dT gs) ∧ gs.map (·.1) = fs.map (·.1) ∧ VAll K (Mu S0 F) H (gs.map (·.2)) (fs.map (·.2)) ∧ a ∈ F := by
  obtain ⟨G, ⟨rfl, gs, h1, h2, h4⟩, h3⟩ := A.get e
  exact ⟨gs, h1, h2, h4, h3 a (List.mem_singleton.mpr rfl)⟩
theorem not_t_lst {xs : List V} : NotT (some (.lst xs)) := trivial
/-- the object at a is written -/
theorem At.write {R R' : Rs K} {a : Addr} {o : HO} (A : At K S0 H rs F) (rep : Rep R R' rs rs') (nt : NotT (some o)) (ha : ∀ G, R.p (Mu S0 F) H G → G = [a]) (hR : Ev K (Mu S0 F) (Mu S0 F) H (upd H a o) [] → R'.p (Mu S0 F) (upd H a o) [a]) :
    ∃ F', F.Perm F' ∧ At K S0 (upd H a o) rs' F' ∧ Stp F H F' (upd H a o) := by
  obtain ⟨r, p1, p2⟩ := rep.perms
  obtain ⟨F1, q1, A1⟩ := A.perm p1
  obtain ⟨G, F2, rfl, hG, hr⟩ := A1.sep
  rw [← mu_perm q1] at hG hr
  obtain rfl := ha G hG
  have mem : a ∈ F := q1.mem_iff.mpr (List.mem_append_left _ (List.mem_singleton.mpr rfl))
  have st : Stp F H ([a] ++ F2) (upd H a o) := ⟨fun b u n h => by rw [upd_ne (fun e => n (by rw [e]; exact mem))]; exact h, fun b hb => .inl (q1.mem_iff.mpr hb)⟩
  have ev0 : Ev K (Mu S0 F) (Mu S0 F) H (upd H a o) [] := by
    have := st.ev A
    rwa [← mu_perm q1] at this
  have dis : ∀ b ∈ F2, b ≠ a := fun b hb e => (List.nodup_append.mp A1.nd).2.2 a (List.mem_singleton.mpr rfl) b hb e.symm
  have B : At K S0 (upd H a o) (R' :: r) ([a] ++ F2) := by
    refine ⟨⟨[a], F2, rfl, by rw [← mu_perm q1]; exact hR ev0, ?_⟩, A1.nd, A1.off, fun b hb => ?_⟩
    · rw [← mu_perm q1]
      exact hr.ev (G := F2) ⟨ev0.sub, ev0.keep, fun b u hb h => by rw [upd_ne (dis b hb)]; exact h, ev0.tk⟩ fun _ h => h
    · by_cases e : b = a
      · subst e; rw [upd_same]; exact ⟨nt, nofun⟩
      · rw [upd_ne e]; exact A1.liv b hb
  obtain ⟨F', q2, C⟩ := B.perm p2.symm
  exact ⟨F', q1.trans q2, C, st.perm (.refl _) q2⟩
/-! ghost steps: nothing runs, what is known is told otherwise -/
def Gh (sl : List Sl) (rs : List (Rs K)) (sl' : List Sl) (rs' : List (Rs K)) : Prop := ∀ S0 σ H F, Now K S0 σ H sl rs F → ∃ F', (∀ b ∈ F', b ∈ F) ∧ Now K S0 σ H sl' rs' F'
def GhV (y : Sl) (rs : List (Rs K)) (y' : Sl) (rs' : List (Rs K)) : Prop := ∀ S0 H F v, At K S0 H rs F → VOk K (Mu S0 F) H v y → ∃ F', (∀ b ∈ F', b ∈ F) ∧ At K S0 H rs' F' ∧ VOk K (Mu S0 F') H v y'
theorem Gh.refl {sl : List Sl} {rs : List (Rs K)} : Gh sl rs sl rs := fun _ _ _ F N => ⟨F, fun _ h => h, N⟩
theorem GhV.refl {y : Sl} {rs : List (Rs K)} : GhV y rs y rs := fun _ _ F _ A r => ⟨F, fun _ h => h, A, r⟩
theorem Gh.trans {sl sl1 sl2 : List Sl} {rs rs1 rs2 : List (Rs K)} (a : Gh sl rs sl1 rs1) (b : Gh sl1 rs1 sl2 rs2) : Gh sl rs sl2 rs2 := fun S0 σ H F N => by
  obtain ⟨F1, h1, N1⟩ := a S0 σ H F N
  obtain ⟨F2, h2, N2⟩ := b S0 σ H F1 N1
  exact ⟨F2, fun b hb => h1 b (h2 b hb), N2⟩
theorem GhV.trans {y y1 y2 : Sl} {rs rs1 rs2 : List (Rs K)} (a : GhV y rs y1 rs1) (b : GhV y1 rs1 y2 rs2) : GhV y rs y2 rs2 := fun S0 H F v A r => by
  obtain ⟨F1, h1, A1, r1⟩ := a S0 H F v A r
  obtain ⟨F2, h2, A2, r2⟩ := b S0 H F1 v A1 r1
  exact ⟨F2, fun b hb => h1 b (h2 b hb), A2, r2⟩
theorem At.gets (A : At K S0 H rs F) (g : Gets rc rs rf) : ∃ F', (∀ b ∈ F', b ∈ F) ∧ At K S0 H rc F' := by
  obtain ⟨F1, q, A1⟩ := A.perm (g.perm.trans List.perm_append_comm)
  obtain ⟨F2, h, A2⟩ := A1.drop
  exact ⟨F2, fun b hb => q.mem_iff.mpr (h b hb), A2⟩
theorem mu_less (h : ∀ b ∈ F', b ∈ F) : ∀ b, Mu S0 F' b → Mu S0 F b := fun b z => z.imp id (h b)
theorem Gh.gets (g : Gets rc rs rf) : Gh sl rs sl rc := fun S0 σ H F N => by
  obtain ⟨F', h, A⟩ := N.at_.gets g
  exact ⟨F', h, A, N.sl.ev (F := []) (Ev.less (mu_less h))⟩
theorem GhV.gets (g : Gets rc rs rf) : GhV y rs y rc := fun S0 H F v A r => by
  obtain ⟨F', h, A⟩ := A.gets g
  exact ⟨F', h, A, r.ev (F := []) (Ev.less (mu_less h))⟩
/-- what may be frozen: the thing is let go, the value v stands for x from then on -/
def Fr (R : Rs K) (v : V) (x : Da) : Prop := ∀ S0 H rs F, At K S0 H (R :: rs) F → ∃ F', (∀ b ∈ F', b ∈ F) ∧ At K S0 H rs F' ∧ De K (Mu S0 F') H v x
theorem fr_of {R : Rs K} {a : Addr} {x : Da} (h1 : ∀ S H G, R.p S H G → G = [a]) (h2 : ∀ S S' H, R.p S H [a] → (∀ b, S' b → S b) → ¬ S' a → De K S' H (.ref a) x) : Fr R (.ref a) x := fun S0 H rs F A => by
  obtain ⟨F', h, A'⟩ := (show At K S0 H ([R] ++ rs) F from A).drop
  obtain ⟨G, F2, e, hG, hs⟩ := A.sep
  have eG := h1 _ _ _ hG
  subst eG
  refine ⟨F2, fun b hb => by rw [e]; exact List.mem_append_right _ hb, ?_, ?_⟩
  · obtain ⟨Fc, Ff, e2, h1', h2'⟩ := (show Sep K (Mu S0 F) H ([R] ++ rs) F from A.sep).split
    have lift : ∀ b, Mu S0 F2 b → Mu S0 F b := mu_less fun b hb => by rw [e]; exact List.mem_append_right _ hb
    exact ⟨hs.ev (G := F2) (Ev.less lift) (fun b h => h), by have := A.nd; rw [e] at this; exact (List.nodup_append.mp this).2.1, fun b hb => A.off b (by rw [e]; exact List.mem_append_right _ hb), fun b hb => A.liv b (lift b hb)⟩
  · refine h2 (Mu S0 F) _ H hG (mu_less fun b hb => by rw [e]; exact List.mem_append_right _ hb) ?_
    have nd := A.nd
    rw [e] at nd
    rintro (z | z)
    · exact A.off a (by rw [e]; exact List.mem_append_left _ (List.mem_singleton.mpr rfl)) z
    · exact (List.nodup_append.mp nd).2.2 a (List.mem_singleton.mpr rfl) a z rfl
theorem fr_lst {a : Addr} {xs : List Da} : Fr (lstR (K := K) a (xs.map .da)) (.ref a) (.lst xs) :=
  fr_of (fun S H G h => h.1) fun S S' H h l n => by
    obtain ⟨_, vs, h1, h2⟩ := h
    exact .lst n h1 (h2.das.ev (F := []) (Ev.less l))
theorem fr_obj {a C : Addr} {fs : List (Str × Da)} : Fr (objR (K := K) a C (fs.map fun f => (f.1, .da f.2))) (.ref a) (.obj C fs) :=
  fr_of (fun S H G h => h.1) fun S S' H h l n => by
    obtain ⟨_, dx, gs, h1, h2, h3⟩ := h
    refine .obj n h1 (by rw [h2, List.map_map]; rfl) (DeAll.ev (F := []) (VAll.das ?_) (Ev.less l))
    rw [List.map_map] at h3 ⊢
    exact h3
theorem fr_dct {a : Addr} {fs : List (Key × Da)} : Fr (dctR (K := K) a (fs.map fun f => (f.1, .da f.2))) (.ref a) (.dK fs) :=
  fr_of (fun S H G h => h.1) fun S S' H h l n => by
    obtain ⟨_, gs, h1, h2, h3⟩ := h
    refine .dK n (.inl h1) (by rw [h2, List.map_map]; rfl) (DeAll.ev (F := []) (VAll.das ?_) (Ev.less l))
    rw [List.map_map] at h3 ⊢
    exact h3
theorem fr_dctT {a : Addr} {fs : List (List Key × Da)} : Fr (dctT (K := K) a (fs.map fun f => (f.1, .da f.2))) (.ref a) (.dT fs) :=
  fr_of (fun S H G h => h.1) fun S S' H h l n => by
    obtain ⟨_, gs, h1, h2, h3⟩ := h
    refine .dT n (.inl h1) (by rw [h2, List.map_map]; rfl) (DeAll.ev (F := []) (VAll.das ?_) (Ev.less l))
    rw [List.map_map] at h3 ⊢
    exact h3
/-- v told as x, or as it was -/
inductive Fz (v : V) (x : Da) : Sl → Sl → Prop
  | fz : Fz v x (.raw v) (.da x)
  | same (y : Sl) : Fz v x y y
  | no (y : Sl) : Fz v x y .no
theorem VOk.fz {u : V} {x : Da} {y' : Sl} (h : VOk K S H u y) (d : De K S H v x) (f : Fz v x y y') (hn : y' ≠ .no) : VOk K S H u y' := by
  cases f with
  | fz => cases h; exact .da d
  | same => exact h
  | no => exact absurd rfl hn
theorem SlOk.fz {o : Option V} {x : Da} {y' : Sl} (h : SlOk K S H o y) (d : De K S H v x) (f : Fz v x y y') : SlOk K S H o y' := by
  cases f with
  | fz =>
    cases h with
    | some h => cases h; exact .some (.da d)
  | same => exact h
  | no => exact .no _
theorem slots_fz {x : Da} (d : De K S H v x) : ∀ {sl sl' : List Sl} {σ : L2.St}, Slots K S H σ sl → Paired (Fz v x) sl sl' → Slots K S H σ sl'
  | _, _, _, .nil, .nil => .nil
  | _, _, _, .cons h t, .cons f g => .cons (h.fz d f) (slots_fz d t g)
theorem Gh.frz {R : Rs K} {x : Da} {sl' : List Sl} (f : Fr R v x) (e : Ext R rs rs') (z : Paired (Fz v x) sl sl') : Gh sl rs sl' rs' := fun S0 σ H F N => by
  obtain ⟨F1, q, N1⟩ := N.perm e.perm
  obtain ⟨F2, h, A, d⟩ := f S0 H rs' F1 N1.at_
  exact ⟨F2, fun b hb => q.mem_iff.mpr (h b hb), A, slots_fz d (N1.sl.ev (F := []) (Ev.less (mu_less h))) z⟩
theorem GhV.frz {R : Rs K} {x : Da} (f : Fr R v x) (e : Ext R rs rs') : GhV (.raw v) rs (.da x) rs' := fun S0 H F u A r => by
  obtain ⟨F1, q, A1⟩ := A.perm e.perm
  obtain ⟨F2, h, A2, d⟩ := f S0 H rs' F1 A1
  cases r
  exact ⟨F2, fun b hb => q.mem_iff.mpr (h b hb), A2, .da d⟩
/-- a field of an instance that may change is frozen -/
theorem Gh.forget {sl' : List Sl} (z : Paired (fun a b => b = a ∨ b = .no) sl sl') : Gh sl rs sl' rs := fun S0 σ H F N => by
  refine ⟨F, fun _ h => h, N.at_, ?_⟩
  have : ∀ {σ : L2.St} {sl sl' : List Sl}, Slots K (Mu S0 F) H σ sl → Paired (fun a b => b = a ∨ b = Sl.no) sl sl' → Slots K (Mu S0 F) H σ sl' := by
    intro σ sl sl' h z
    induction h generalizing sl' with
    | nil => cases z; exact .nil
    | cons a b ih =>
      cases z with
      | cons c d =>
        rcases c with c | c
        · subst c; exact .cons a (ih d)
        · subst c; exact .cons (.no _) (ih d)
  exact this N.sl z
/-! ### readings of data -/
variable (K) in
abbrev XD := Exn → List (Rs K) → Prop
variable (K) in
abbrev QD := Sl → List (Rs K) → Prop
variable (K) in
abbrev TD := List Sl → List (Rs K) → XD K → QD K → Prop
variable (K) in
abbrev TDb := List Sl → List (Rs K) → XD K → (Bool → List (Rs K) → Prop) → Prop
variable (K) in
abbrev TDa := List Sl → List (Rs K) → XD K → (List Sl → List (Rs K) → Prop) → Prop
variable (K) in
abbrev TDg := Sl → List Sl → List (Rs K) → (List Sl → List (Rs K) → Prop) → Prop
variable (K) in
abbrev TDgs := List Sl → List Sl → List (Rs K) → (List Sl → List (Rs K) → Prop) → Prop
variable (K) in
abbrev TDi := List Sl → List (Rs K) → XD K → (List Sl → (List (Rs K) → Prop) → List (Rs K) → Prop) → Prop
variable (K) in
abbrev TDo := List Sl → List (Rs K) → XD K → (Option Int → List (Rs K) → Prop) → Prop
variable (K) in
structure DEnds where
  nx : List Sl → List (Rs K) → Prop
  rt : QD K
  xc : XD K
  bk : List Sl → List (Rs K) → Prop := fun _ _ => False
  ct : List Sl → List (Rs K) → Prop := fun _ _ => False
variable (K) in
abbrev TDs := DEnds K → List Sl → List (Rs K) → Prop
def Out (S0 : Addr → Prop) (F : List Addr) (H : Hp) (q : QD K) (Q : VK) : Prop := ∀ v y rs' F' H', Stp F H F' H' → At K S0 H' rs' F' → VOk K (Mu S0 F') H' v y → q y rs' → Q v H'
def OutX (S0 : Addr → Prop) (F : List Addr) (H : Hp) (xc : XD K) (E : XK) : Prop := ∀ x u d rs' F' H', Stp F H F' H' → At K S0 H' rs' F' → ExOk K (Mu S0 F') H' u d x → xc x rs' → E u d H'
def OutS (S0 : Addr → Prop) (F : List Addr) (H : Hp) (q : List Sl → List (Rs K) → Prop) (Q : L2.St → Hp → Prop) : Prop := ∀ σ' sl' rs' F' H', Stp F H F' H' → Now K S0 σ' H' sl' rs' F' → q sl' rs' → Q σ' H'
def OutB {α : Type} (S0 : Addr → Prop) (F : List Addr) (H : Hp) (q : α → List (Rs K) → Prop) (Q : α → Hp → Prop) : Prop := ∀ b rs' F' H', Stp F H F' H' → At K S0 H' rs' F' → q b rs' → Q b H'
def OutA (S0 : Addr → Prop) (F : List Addr) (H : Hp) (q : List Sl → List (Rs K) → Prop) (Q : List V → Hp → Prop) : Prop := ∀ vs ys rs' F' H', Stp F H F' H' → At K S0 H' rs' F' → VAll K (Mu S0 F') H' vs ys → q ys rs' → Q vs H'
/-- the iterator J hands out ys, as long as g holds of what may change -/
def DIt (S : Addr → Prop) (H1 : Hp) (J : It) (ys : List Sl) (g : List (Rs K) → Prop) : Prop := ∀ S0 H rs F, At K S0 H rs F → Ev K S (Mu S0 F) H1 H [] → g rs → ∀ i, (∀ y, ys[i]? = some y → J.go i H ∧ ∀ x H', J.yld i H x H' → Same H H' ∧ VOk K (Mu S0 F) H' x y) ∧ (i = ys.length → J.stop i H)
def OutI (S0 : Addr → Prop) (F : List Addr) (H : Hp) (q : List Sl → (List (Rs K) → Prop) → List (Rs K) → Prop) (R : It → Hp → Prop) : Prop := ∀ J ys g rs' F' H', Stp F H F' H' → At K S0 H' rs' F' → DIt (Mu S0 F') H' J ys g → q ys g rs' → R J H'
def LE (E : XK) (t : TD K) : TE := fun σ H Q => ∃ S0 sl rs F xc q, Now K S0 σ H sl rs F ∧ t sl rs xc q ∧ Out S0 F H q Q ∧ OutX S0 F H xc E
def LT (E : XK) (t : TDb K) : TT := fun σ H Q => ∃ S0 sl rs F xc q, Now K S0 σ H sl rs F ∧ t sl rs xc q ∧ OutB S0 F H q Q ∧ OutX S0 F H xc E
def LA (E : XK) (t : TDa K) : TA := fun σ H Q => ∃ S0 sl rs F xc q, Now K S0 σ H sl rs F ∧ t sl rs xc q ∧ OutA S0 F H q Q ∧ OutX S0 F H xc E
def LO (E : XK) (t : TDo K) : TO := fun σ H Q => ∃ S0 sl rs F xc q, Now K S0 σ H sl rs F ∧ t sl rs xc q ∧ OutB S0 F H q Q ∧ OutX S0 F H xc E
def LI (E : XK) (t : TDi K) : TI := fun σ H R => ∃ S0 sl rs F xc q, Now K S0 σ H sl rs F ∧ t sl rs xc q ∧ OutI S0 F H q R ∧ OutX S0 F H xc E
def LG (t : TDg K) : TG := fun v σ H Q => ∃ S0 sl rs F y q, Now K S0 σ H sl rs F ∧ VOk K (Mu S0 F) H v y ∧ t y sl rs q ∧ OutS S0 F H q Q
def LGs (t : TDgs K) : TGs := fun vs σ H Q => ∃ S0 sl rs F ys q, Now K S0 σ H sl rs F ∧ VAll K (Mu S0 F) H vs ys ∧ t ys sl rs q ∧ OutS S0 F H q Q
def LS (E : XK) (t : TDs K) : TS := fun D σ H => ∃ S0 sl rs F d, Now K S0 σ H sl rs F ∧ t d sl rs ∧ OutS S0 F H d.nx D.nx ∧ OutS S0 F H d.bk D.bk ∧ OutS S0 F H d.ct D.ct ∧ Out S0 F H d.rt D.rt ∧ OutX S0 F H d.xc E
/-- a def's promise, by data -/
abbrev SpD (K : PySem.W.Frag) := List Sl → List (Rs K) → XD K → QD K → Prop
def spD (D : SpD K) : Sp := fun vs H Q E => ∃ S0 as rs F xc q, At K S0 H rs F ∧ VAll K (Mu S0 F) H vs as ∧ D as rs xc q ∧ Out S0 F H q Q ∧ OutX S0 F H xc E
variable {E : XK} {xc : XD K} {q : QD K} {Q : VK}
theorem OutX.after (h : OutX S0 F H xc E) (st : Stp F H F' H') : OutX S0 F' H' xc E := fun x u d rs' F2 H2 st2 => h x u d rs' F2 H2 (st.trans st2)
theorem Out.after (h : Out S0 F H q Q) (st : Stp F H F' H') : Out S0 F' H' q Q := fun x u rs' F2 H2 st2 => h x u rs' F2 H2 (st.trans st2)
theorem OutS.after {q : List Sl → List (Rs K) → Prop} {Q : L2.St → Hp → Prop} (h : OutS S0 F H q Q) (st : Stp F H F' H') : OutS S0 F' H' q Q := fun x u rs' F2 H2 st2 => h x u rs' F2 H2 (st.trans st2)
theorem OutA.after {q : List Sl → List (Rs K) → Prop} {Q : List V → Hp → Prop} (h : OutA S0 F H q Q) (st : Stp F H F' H') : OutA S0 F' H' q Q := fun x u rs' F2 H2 st2 => h x u rs' F2 H2 (st.trans st2)
theorem OutB.after {α : Type} {q : α → List (Rs K) → Prop} {Q : α → Hp → Prop} (h : OutB S0 F H q Q) (st : Stp F H F' H') : OutB S0 F' H' q Q := fun x rs' F2 H2 st2 => h x rs' F2 H2 (st.trans st2)
theorem OutI.after {q : List Sl → (List (Rs K) → Prop) → List (Rs K) → Prop} {R : It → Hp → Prop} (h : OutI S0 F H q R) (st : Stp F H F' H') : OutI S0 F' H' q R := fun x u g rs' F2 H2 st2 => h x u g rs' F2 H2 (st.trans st2)
theorem LE.use {t : TD K} (N : Now K S0 σ H sl rs F) (h : t sl rs xc q) (kx : OutX S0 F H xc E) (k : ∀ v y rs' F' H', Stp F H F' H' → Now K S0 σ H' sl rs' F' → VOk K (Mu S0 F') H' v y → q y rs' → Q v H') : LE E t σ H Q :=
  ⟨S0, sl, rs, F, xc, q, N, h, fun v y rs' F' H' st A r z => k v y rs' F' H' st (N.step st A) r z, kx⟩
theorem LT.use {t : TDb K} {q : Bool → List (Rs K) → Prop} {Q : Bool → Hp → Prop} (N : Now K S0 σ H sl rs F) (h : t sl rs xc q) (kx : OutX S0 F H xc E) (k : ∀ b rs' F' H', Stp F H F' H' → Now K S0 σ H' sl rs' F' → q b rs' → Q b H') : LT E t σ H Q :=
  ⟨S0, sl, rs, F, xc, q, N, h, fun b rs' F' H' st A z => k b rs' F' H' st (N.step st A) z, kx⟩
theorem LO.use {t : TDo K} {q : Option Int → List (Rs K) → Prop} {Q : Option Int → Hp → Prop} (N : Now K S0 σ H sl rs F) (h : t sl rs xc q) (kx : OutX S0 F H xc E) (k : ∀ b rs' F' H', Stp F H F' H' → Now K S0 σ H' sl rs' F' → q b rs' → Q b H') : LO E t σ H Q :=
  ⟨S0, sl, rs, F, xc, q, N, h, fun b rs' F' H' st A z => k b rs' F' H' st (N.step st A) z, kx⟩
theorem LA.use {t : TDa K} {q : List Sl → List (Rs K) → Prop} {Q : List V → Hp → Prop} (N : Now K S0 σ H sl rs F) (h : t sl rs xc q) (kx : OutX S0 F H xc E) (k : ∀ vs ys rs' F' H', Stp F H F' H' → Now K S0 σ H' sl rs' F' → VAll K (Mu S0 F') H' vs ys → q ys rs' → Q vs H') : LA E t σ H Q :=
  ⟨S0, sl, rs, F, xc, q, N, h, fun v y rs' F' H' st A r z => k v y rs' F' H' st (N.step st A) r z, kx⟩
theorem LI.use {t : TDi K} {q : List Sl → (List (Rs K) → Prop) → List (Rs K) → Prop} {R : It → Hp → Prop} (N : Now K S0 σ H sl rs F) (h : t sl rs xc q) (kx : OutX S0 F H xc E) (k : ∀ J ys g rs' F' H', Stp F H F' H' → Now K S0 σ H' sl rs' F' → DIt (Mu S0 F') H' J ys g → q ys g rs' → R J H') : LI E t σ H R :=
  ⟨S0, sl, rs, F, xc, q, N, h, fun v y g rs' F' H' st A r z => k v y g rs' F' H' st (N.step st A) r z, kx⟩
theorem LG.use {t : TDg K} {q : List Sl → List (Rs K) → Prop} {Q : L2.St → Hp → Prop} (N : Now K S0 σ H sl rs F) (r : VOk K (Mu S0 F) H v y) (h : t y sl rs q) (k : OutS S0 F H q Q) : LG t v σ H Q := ⟨S0, sl, rs, F, y, q, N, r, h, k⟩
theorem LS.use {t : TDs K} {d : DEnds K} {D : Ends} (N : Now K S0 σ H sl rs F) (h : t d sl rs) (k1 : OutS S0 F H d.nx D.nx) (k2 : OutS S0 F H d.bk D.bk) (k3 : OutS S0 F H d.ct D.ct) (k4 : Out S0 F H d.rt D.rt) (k5 : OutX S0 F H d.xc E) : LS E t D σ H := ⟨S0, sl, rs, F, d, N, h, k1, k2, k3, k4, k5⟩
end
end HC

/-! ### expressions of data -/
namespace HC
open PyProof.Rows PySem L2 PySem.Spec
section
variable {K : PySem.W.Frag} {S S' S0 : Addr → Prop} {H H' H1 H2 : Hp} {F F' F1 F2 G : List Addr} {rs rs' rc rf : List (Rs K)} {v u : V} {y z : Sl} {σ : L2.St} {sl : List Sl} {x : Da}
theorem At.fresh (A : At K S0 H rs F) {p : Addr} (h : H p = none) : ¬ Mu S0 F p := fun m => (A.liv p m).2 h
/-- v's own object is as x says, now -/
inductive Top (K : PySem.W.Frag) (S : Addr → Prop) (H : Hp) : V → Da → Prop
  | da {v : V} {x : Da} : De K S H v x → Top K S H v x
  | lst {a : Addr} {vs : List V} {xs : List Da} : H a = some (.lst vs) → DeAll K S H vs xs → Top K S H (.ref a) (.lst xs)
  | obj {a C dx : Addr} {gs : List (Str × V)} {fs : List (Str × Da)} : H a = some (.ins C dx gs) → gs.map (·.1) = fs.map (·.1) → DeAll K S H (gs.map (·.2)) (fs.map (·.2)) → Top K S H (.ref a) (.obj C fs)
  | dK {a : Addr} {gs : List (Key × V)} {fs : List (Key × Da)} : H a = some (.dK gs) → gs.map (·.1) = fs.map (·.1) → DeAll K S H (gs.map (·.2)) (fs.map (·.2)) → Top K S H (.ref a) (.dK fs)
  | dT {a : Addr} {gs : List (List Key × V)} {fs : List (List Key × Da)} : H a = some (.dT gs) → gs.map (·.1) = fs.map (·.1) → DeAll K S H (gs.map (·.2)) (fs.map (·.2)) → Top K S H (.ref a) (.dT fs)
/-- what y stands for, now -/
inductive See (rs : List (Rs K)) : Sl → Da → Prop
  | da (x : Da) : See rs (.da x) x
  | lst {a : Addr} {xs : List Da} {rs' : List (Rs K)} : Ext (lstR a (xs.map .da)) rs rs' → See rs (.raw (.ref a)) (.lst xs)
  | obj {a C : Addr} {fs : List (Str × Da)} {rs' : List (Rs K)} : Ext (objR a C (fs.map fun f => (f.1, .da f.2))) rs rs' → See rs (.raw (.ref a)) (.obj C fs)
  | dK {a : Addr} {fs : List (Key × Da)} {rs' : List (Rs K)} : Ext (dctR a (fs.map fun f => (f.1, .da f.2))) rs rs' → See rs (.raw (.ref a)) (.dK fs)
  | dT {a : Addr} {fs : List (List Key × Da)} {rs' : List (Rs K)} : Ext (dctT a (fs.map fun f => (f.1, .da f.2))) rs rs' → See rs (.raw (.ref a)) (.dT fs)
theorem das2 {α : Type} {vs : List V} {fs : List (α × Da)} (h : VAll K S H vs ((fs.map fun f => (f.1, Sl.da f.2)).map (·.2))) : DeAll K S H vs (fs.map (·.2)) := by
  refine VAll.das ?_
  rw [List.map_map] at h ⊢
  exact h
theorem See.top (s : See rs y x) (A : At K S0 H rs F) (r : VOk K (Mu S0 F) H v y) : Top K (Mu S0 F) H v x := by
  cases s with
  | da => cases r with | da h => exact .da h
  | lst e =>
    cases r
    obtain ⟨vs, h1, h2, _⟩ := A.lst e
    exact .lst h1 h2.das
  | obj e =>
    cases r
    obtain ⟨dx, gs, h1, h2, h3, _⟩ := A.obj e
    exact .obj h1 (by rw [h2, List.map_map]; rfl) (das2 h3)
  | dK e =>
    cases r
    obtain ⟨gs, h1, h2, h3, _⟩ := A.dct e
    exact .dK h1 (by rw [h2, List.map_map]; rfl) (das2 h3)
  | dT e =>
    cases r
    obtain ⟨gs, h1, h2, h3, _⟩ := A.dctT e
    exact .dT h1 (by rw [h2, List.map_map]; rfl) (das2 h3)
theorem Top.i {i : Int} (t : Top K S H v (.int i)) : v = .int i := by cases t with | da h => cases h; rfl
theorem Top.b {i : Bool} (t : Top K S H v (.bl i)) : v = .bl i := by cases t with | da h => cases h; rfl
theorem Top.s {i : Str} (t : Top K S H v (.str i)) : v = .str i ∧ PyData.strOk i = true := by cases t with | da h => cases h; exact ⟨rfl, by assumption⟩
theorem Top.n (t : Top K S H v .non) : v = .non := by cases t with | da h => cases h; rfl
theorem Top.t {xs : List Da} (t : Top K S H v (.tup xs)) : ∃ a vs, v = .ref a ∧ H a = some (.tup vs) ∧ DeAll K S H vs xs := by cases t with | da h => cases h with | tup h1 h2 => exact ⟨_, _, rfl, h1, h2⟩
theorem Top.bt {xs : List Da} (t : Top K S H v (.btup xs)) : ∃ a vs o, v = .ref a ∧ H a = some (.frz o (.tup vs)) ∧ o.dict = none ∧ DeAll K S H vs xs := by cases t with | da h => cases h with | btup n h1 h2 h3 => exact ⟨_, _, _, rfl, h1, h2, h3⟩
theorem Top.l {xs : List Da} (t : Top K S H v (.lst xs)) : ∃ a vs, v = .ref a ∧ H a = some (.lst vs) ∧ DeAll K S H vs xs := by
  cases t with
  | da h => cases h with | lst _ h1 h2 => exact ⟨_, _, rfl, h1, h2⟩
  | lst h1 h2 => exact ⟨_, _, rfl, h1, h2⟩
theorem Top.sc {xs : List Int} (t : Top K S H v (.scr xs)) : ∃ a, v = .ref a ∧ SqL K H a (xs.map V.int) := by cases t with | da h => cases h with | scr h => exact ⟨_, rfl, h.sq⟩
theorem Top.o {C : Addr} {fs : List (Str × Da)} (t : Top K S H v (.obj C fs)) : ∃ a dx gs, v = .ref a ∧ H a = some (.ins C dx gs) ∧ gs.map (·.1) = fs.map (·.1) ∧ DeAll K S H (gs.map (·.2)) (fs.map (·.2)) := by
  cases t with
  | da h => cases h with | obj _ h1 h2 h3 => exact ⟨_, _, _, rfl, h1, h2, h3⟩
  | obj h1 h2 h3 => exact ⟨_, _, _, rfl, h1, h2, h3⟩
theorem Top.dk {fs : List (Key × Da)} (t : Top K S H v (.dK fs)) : ∃ a gs, v = .ref a ∧ Rd H a (.dK gs) ∧ gs.map (·.1) = fs.map (·.1) ∧ DeAll K S H (gs.map (·.2)) (fs.map (·.2)) := by
  cases t with
  | da h => cases h with | dK _ h1 h2 h3 => exact ⟨_, _, rfl, h1, h2, h3⟩
  | dK h1 h2 h3 => exact ⟨_, _, rfl, .inl h1, h2, h3⟩
theorem Top.dt {fs : List (List Key × Da)} (t : Top K S H v (.dT fs)) : ∃ a gs, v = .ref a ∧ Rd H a (.dT gs) ∧ gs.map (·.1) = fs.map (·.1) ∧ DeAll K S H (gs.map (·.2)) (fs.map (·.2)) := by
  cases t with
  | da h => cases h with | dT _ h1 h2 h3 => exact ⟨_, _, rfl, h1, h2, h3⟩
  | dT h1 h2 h3 => exact ⟨_, _, rfl, .inl h1, h2, h3⟩
/-! rules of operators by data -/
/-- a pure operation of two data -/
abbrev G2 := Da → Da → (Da → Prop) → Prop
abbrev G1 := Da → (Da → Prop) → Prop
abbrev GN := List Da → (Da → Prop) → Prop
/-- nothing that may change is free -/
abbrev Liv (S : Addr → Prop) (H : Hp) : Prop := ∀ b, S b → H b ≠ none
def Pu2 (K : PySem.W.Frag) (r : R2) (g : G2) : Prop := ∀ (S : Addr → Prop) (H : Hp) (v w : V) (x y : Da) (q : Da → Prop) (Q : VK), Liv S H → Top K S H v x → Top K S H w y → g x y q → (∀ u z H', Same H H' → De K S H' u z → q z → Q u H') → r v w H Q
def Pu1 (K : PySem.W.Frag) (r : V → Hp → VK → Prop) (g : G1) : Prop := ∀ (S : Addr → Prop) (H : Hp) (v : V) (x : Da) (q : Da → Prop) (Q : VK), Liv S H → Top K S H v x → g x q → (∀ u z H', Same H H' → De K S H' u z → q z → Q u H') → r v H Q
/-- an operation of two slots' values -/
abbrev A2 (K : PySem.W.Frag) := Sl → Sl → List (Rs K) → QD K → Prop
abbrev A1 (K : PySem.W.Frag) := Sl → List (Rs K) → QD K → Prop
abbrev AN (K : PySem.W.Frag) := List Sl → List (Rs K) → QD K → Prop
def Act2 (K : PySem.W.Frag) (r : R2) (g : A2 K) : Prop := ∀ (S0 : Addr → Prop) (H : Hp) (rs : List (Rs K)) (F : List Addr) (v w : V) (y z : Sl) (q : QD K) (Q : VK), At K S0 H rs F → VOk K (Mu S0 F) H v y → VOk K (Mu S0 F) H w z → g y z rs q → Out S0 F H q Q → r v w H Q
def Act1 (K : PySem.W.Frag) (r : V → Hp → VK → Prop) (g : A1 K) : Prop := ∀ (S0 : Addr → Prop) (H : Hp) (rs : List (Rs K)) (F : List Addr) (v : V) (y : Sl) (q : QD K) (Q : VK), At K S0 H rs F → VOk K (Mu S0 F) H v y → g y rs q → Out S0 F H q Q → r v H Q
def ActN (K : PySem.W.Frag) (r : List V → Hp → VK → Prop) (g : AN K) : Prop := ∀ (S0 : Addr → Prop) (H : Hp) (rs : List (Rs K)) (F : List Addr) (vs : List V) (ys : List Sl) (q : QD K) (Q : VK), At K S0 H rs F → VAll K (Mu S0 F) H vs ys → g ys rs q → Out S0 F H q Q → r vs H Q
def p2 (g : G2) : A2 K := fun y z rs q => ∃ x1 x2, See rs y x1 ∧ See rs z x2 ∧ g x1 x2 fun x => q (.da x) rs
def p1 (g : G1) : A1 K := fun y rs q => ∃ x1, See rs y x1 ∧ g x1 fun x => q (.da x) rs
theorem pu2 {r : R2} {g : G2} (h : Pu2 K r g) : Act2 K r (p2 g) := fun S0 H rs F v w y z q Q A r1 r2 ⟨x1, x2, s1, s2, h3⟩ k =>
  h (Mu S0 F) H v w x1 x2 _ Q (fun b m => (A.liv b m).2) (s1.top A r1) (s2.top A r2) h3 fun u x H' s d z => k u (.da x) rs F H' (Stp.same s) (A.same s) (.da d) z
theorem pu1 {r : V → Hp → VK → Prop} {g : G1} (h : Pu1 K r g) : Act1 K r (p1 g) := fun S0 H rs F v y q Q A r1 ⟨x1, s1, h3⟩ k =>
  h (Mu S0 F) H v x1 _ Q (fun b m => (A.liv b m).2) (s1.top A r1) h3 fun u x H' s d z => k u (.da x) rs F H' (Stp.same s) (A.same s) (.da d) z
end
section
variable {X : Cx} {K : PySem.W.Frag} {E : XK} {a b c e o : Expr} {es : List Expr} {pos : Pos} {ta tb tc td te : TD K} {tA tB : TDb K} {ts : TDa K}
theorem pe_weak {t t' : TE} (h : PE X e t) (i : ∀ σ H Q, t' σ H Q → t σ H Q) : PE X e t' := ⟨fun pn s σ H Q inv h' => h.run pn s σ H Q inv (i σ H Q h')⟩
theorem pt_weak {t t' : TT} (h : PT X e t) (i : ∀ σ H Q, t' σ H Q → t σ H Q) : PT X e t' := ⟨fun pn s σ H Q inv h' => h.run pn s σ H Q inv (i σ H Q h')⟩
theorem pw_weak {t t' : TT} (h : PW X e t) (i : ∀ σ H Q, t' σ H Q → t σ H Q) : PW X e t' := ⟨fun wh pn s σ H Q inv h' => h.run wh pn s σ H Q inv (i σ H Q h')⟩
theorem pa_weak {t t' : TA} (h : PA X es t) (i : ∀ σ H Q, t' σ H Q → t σ H Q) : PA X es t' := ⟨fun p pn s σ H Q inv h' => h.run p pn s σ H Q inv (i σ H Q h')⟩
/-- what a slot must be to be read -/
def Kn : Sl → Prop
  | .no => False
  | _ => True
def dVar (i : Nat) : TD K := fun sl rs xc q => ∃ y, sl[i]? = some y ∧ Kn y ∧ q y rs
theorem d_var {i : Nat} (h : PE X e (tVar i)) : PE X e (LE E (dVar (K := K) i)) := pe_weak h fun σ H Q ⟨S0, sl, rs, F, xc, q, N, ⟨y, e, kn, h⟩, k, _⟩ => by
  obtain ⟨o, e1, r⟩ := paired_get1 N.sl e
  cases r with
  | no => exact kn.elim
  | some r => exact ⟨_, e1, k _ _ rs F H (Stp.refl _ _) N.at_ r h⟩
def dC (x : Da) : TD K := fun _ rs _ q => q (.da x) rs
theorem d_c {v : V} {x : Da} (h : PE X e (tC v)) (r : ∀ (S : Addr → Prop) H, De K S H v x) : PE X e (LE E (dC (K := K) x)) := pe_weak h fun σ H Q ⟨S0, sl, rs, F, xc, q, N, h, k, _⟩ => k _ _ rs F H (Stp.refl _ _) N.at_ (.da (r _ _)) h
def dR (v : V) : TD K := fun _ rs _ q => q (.raw v) rs
theorem d_r {v : V} (h : PE X e (tC v)) : PE X e (LE E (dR (K := K) v)) := pe_weak h fun σ H Q ⟨S0, sl, rs, F, xc, q, N, h, k, _⟩ => k _ _ rs F H (Stp.refl _ _) N.at_ (.raw _) h
theorem d_int {i : Int} (h : PE X e (tC (.int i))) : PE X e (LE E (dC (K := K) (.int i))) := d_c h fun _ _ => .int i
theorem d_bl {i : Bool} (h : PE X e (tC (.bl i))) : PE X e (LE E (dC (K := K) (.bl i))) := d_c h fun _ _ => .bl i
theorem d_non (h : PE X e (tC .non)) : PE X e (LE E (dC (K := K) .non)) := d_c h fun _ _ => .non
theorem d_str {x : Str} (h : PE X e (tC (.str x))) (ok : PyData.strOk x = true := by decide +kernel) : PE X e (LE E (dC (K := K) (.str x))) := d_c h fun _ _ => .str ok
/-- an operator, at a reading that is known -/
def dB (g : A2 K) (ta tb : TD K) : TD K := fun sl rs xc q => ta sl rs xc fun y rs1 => tb sl rs1 xc fun z rs2 => g y z rs2 q
theorem le_op {r : R2} {g : A2 K} (h : Act2 K r g) {σ : L2.St} {H : Hp} {Q : VK} (l : LE E (dB g ta tb) σ H Q) : tOp r (LE E ta) (LE E tb) σ H Q := by
  obtain ⟨S0, sl, rs, F, xc, q, N, t, k, kx⟩ := l
  refine LE.use N t kx fun v y rs1 F1 H1 st1 N1 r1 t1 => LE.use N1 t1 (kx.after st1) fun w z rs2 F2 H2 st2 N2 r2 t2 => ?_
  exact h S0 H2 rs2 F2 v w y z q Q N2.at_ (r1.ev (st2.ev N1.at_)) r2 t2 (k.after (st1.trans st2))
theorem d_op {op : Operator} {r : R2} {g : A2 K} (ho : OpR X (binaryOp op) r) (h : Act2 K r g) (ha : PE X a (LE E ta)) (hb : PE X b (LE E tb)) : PE X (.BinOp a op b pos) (LE E (dB g ta tb)) := pe_weak (pe_op ho ha hb) fun _ _ _ => le_op h
def dU (g : A1 K) (ta : TD K) : TD K := fun sl rs xc q => ta sl rs xc fun y rs1 => g y rs1 q
theorem d_un {op : UnaryOp} {r : V → Hp → VK → Prop} {g : A1 K} (ho : UnR X (unaryOp op) r) (h : Act1 K r g) (ha : PE X a (LE E ta)) : PE X (.UnaryOp op a pos) (LE E (dU g ta)) := pe_weak (pe_un ho ha) fun σ H Q ⟨S0, sl, rs, F, xc, q, N, t, k, kx⟩ =>
  LE.use N t kx fun v y rs1 F1 H1 st1 N1 r1 t1 => h S0 H1 rs1 F1 v y q Q N1.at_ r1 t1 (k.after st1)
theorem d_cmp {op : CmpOp} {r : R2} {g : A2 K} (ho : OpR X (compareOp op) r) (h : Act2 K r g) (ha : PE X a (LE E ta)) (hb : PE X b (LE E tb)) (hm : behindInMarks op b = false := by first | exact nobehind _ (by decide) (by decide) | rfl) : PE X (.Compare a [op] [b] pos) (LE E (dB g ta tb)) := pe_weak (pe_cmpR ho ha hb hm) fun _ _ _ => le_op h
/-- a test of a value -/
def isB (q : Bool → List (Rs K) → Prop) : QD K := fun y rs => ∃ c, y = .da (.bl c) ∧ q c rs
def dT (ta : TD K) : TDb K := fun sl rs xc q => ta sl rs xc (isB q)
theorem le_test {t : TE} (i : ∀ σ H Q, LE E ta σ H Q → t σ H Q) {σ : L2.St} {H : Hp} {Q : Bool → Hp → Prop} (l : LT E (dT ta) σ H Q) : tTest t σ H Q := by
  obtain ⟨S0, sl, rs, F, xc, q, N, t, k, kx⟩ := l
  refine i _ _ _ (LE.use N t kx fun v y rs1 F1 H1 st1 N1 r1 t1 => ?_)
  obtain ⟨c, rfl, t1⟩ := t1
  cases r1 with
  | da r1 => cases r1; exact ⟨c, rfl, k c rs1 F1 H1 st1 N1.at_ t1⟩
theorem dt_cmp {op : CmpOp} {r : R2} {g : A2 K} (ho : OpR X (compareOp op) r) (h : Act2 K r g) (ha : PE X a (LE E ta)) (hb : PE X b (LE E tb)) (hm : behindInMarks op b = false := by first | exact nobehind _ (by decide) (by decide) | rfl) : PT X (.Compare a [op] [b] pos) (LT E (dT (dB g ta tb))) := pt_weak (pt_cmpR ho ha hb hm) fun _ _ _ => le_test fun _ _ _ => le_op h
theorem dt_val (h : PE X e (LE E te)) (he : ∀ whole, isTrue e X.env whole = (do let v ← whole; standAt e.pos; holding [v] (truthy v)) := by intro _; rfl) : PT X e (LT E (dT te)) := pt_weak (pt_val h he) fun _ _ _ => le_test fun _ _ _ h => h
def dChain (g g' : A2 K) (ta tb tc : TD K) : TD K := fun sl rs xc q => ta sl rs xc fun y rs1 => tb sl rs1 xc fun z rs2 => g y z rs2 (isB fun c rs3 => if c = true then tc sl rs3 xc fun u rs4 => g' z u rs4 q else q (.da (.bl false)) rs3)
theorem le_chain {r r' : R2} {g g' : A2 K} (h : Act2 K r g) (h' : Act2 K r' g') {σ : L2.St} {H : Hp} {Q : VK} (l : LE E (dChain g g' ta tb tc) σ H Q) : tChain r r' (LE E ta) (LE E tb) (LE E tc) σ H Q := by
  obtain ⟨S0, sl, rs, F, xc, q, N, t, k, kx⟩ := l
  refine LE.use N t kx fun v y rs1 F1 H1 st1 N1 r1 t1 => LE.use N1 t1 (kx.after st1) fun w z rs2 F2 H2 st2 N2 r2 t2 => ?_
  have k2 := k.after (st1.trans st2)
  have kx2 := kx.after (st1.trans st2)
  refine h S0 H2 rs2 F2 v w y z _ _ N2.at_ (r1.ev (st2.ev N1.at_)) r2 t2 ?_
  rintro b yb rs3 F3 H3 st3 A3 rb ⟨c, rfl, t3⟩
  cases rb with
  | da rb =>
    cases rb
    refine ⟨c, rfl, ?_⟩
    have N3 := N2.step st3 A3
    cases c with
    | false => exact iteF (k2 _ _ rs3 F3 H3 st3 A3 (.da (.bl _)) (by simpa using t3))
    | true =>
      refine iteT (LE.use N3 (by simpa using t3) (kx2.after st3) fun u yu rs4 F4 H4 st4 N4 r4 t4 => ?_)
      exact h' S0 H4 rs4 F4 w u z yu q Q N4.at_ ((r2.ev (st3.ev N2.at_)).ev (st4.ev N3.at_)) r4 t4 ((k2.after st3).after st4)
theorem d_chain {op op' : CmpOp} {r r' : R2} {g g' : A2 K} (ho : OpR X (compareOp op) r) (h : Act2 K r g) (ho' : OpR X (compareOp op') r') (h' : Act2 K r' g') (ha : PE X a (LE E ta)) (hb : PE X b (LE E tb)) (hc : PE X c (LE E tc)) (hm : lastMarks [op, op'] [b, c] = false := by with_unfolding_all rfl) :
    PE X (.Compare a [op, op'] [b, c] pos) (LE E (dChain g g' ta tb tc)) := pe_weak (pe_chain ho ho' ha hb hc hm) fun _ _ _ => le_chain h h'
theorem dt_chain {op op' : CmpOp} {r r' : R2} {g g' : A2 K} (ho : OpR X (compareOp op) r) (h : Act2 K r g) (ho' : OpR X (compareOp op') r') (h' : Act2 K r' g') (ha : PE X a (LE E ta)) (hb : PE X b (LE E tb)) (hc : PE X c (LE E tc)) (hm : lastMarks [op, op'] [b, c] = false := by with_unfolding_all rfl) :
    PT X (.Compare a [op, op'] [b, c] pos) (LT E (dT (dChain g g' ta tb tc))) := pt_weak (pt_chain ho ho' ha hb hc hm) fun _ _ _ => le_test fun _ _ _ => le_chain h h'
/-! and, or, not, if -/
def dAnd (tA tB : TDb K) : TDb K := fun sl rs xc q => tA sl rs xc fun c rs1 => if c = true then tB sl rs1 xc q else q false rs1
def dOr (tA tB : TDb K) : TDb K := fun sl rs xc q => tA sl rs xc fun c rs1 => if c = true then q true rs1 else tB sl rs1 xc q
def dNot (tA : TDb K) : TDb K := fun sl rs xc q => tA sl rs xc fun c rs1 => q (!c) rs1
theorem le_and {σ : L2.St} {H : Hp} {Q : Bool → Hp → Prop} (l : LT E (dAnd tA tB) σ H Q) : tAnd (LT E tA) (LT E tB) σ H Q := by
  obtain ⟨S0, sl, rs, F, xc, q, N, t, k, kx⟩ := l
  refine LT.use N t kx fun c rs1 F1 H1 st1 N1 t1 => ?_
  cases c with
  | true => exact iteT (LT.use N1 (by simpa using t1) (kx.after st1) fun c rs2 F2 H2 st2 N2 t2 => k c rs2 F2 H2 (st1.trans st2) N2.at_ t2)
  | false => exact iteF (k false rs1 F1 H1 st1 N1.at_ (by simpa using t1))
theorem le_or {σ : L2.St} {H : Hp} {Q : Bool → Hp → Prop} (l : LT E (dOr tA tB) σ H Q) : tOr (LT E tA) (LT E tB) σ H Q := by
  obtain ⟨S0, sl, rs, F, xc, q, N, t, k, kx⟩ := l
  refine LT.use N t kx fun c rs1 F1 H1 st1 N1 t1 => ?_
  cases c with
  | false => exact iteF (LT.use N1 (by simpa using t1) (kx.after st1) fun c rs2 F2 H2 st2 N2 t2 => k c rs2 F2 H2 (st1.trans st2) N2.at_ t2)
  | true => exact iteT (k true rs1 F1 H1 st1 N1.at_ (by simpa using t1))
variable {rest : List Expr}
theorem dw_and1 (ha : PT X a (LT E tA)) : PW X (.BoolOp .And [a] pos) (LT E tA) := pw_and1 ha
theorem dw_or1 (ha : PT X a (LT E tA)) : PW X (.BoolOp .Or [a] pos) (LT E tA) := pw_or1 ha
theorem dw_and (ha : PT X a (LT E tA)) (hb : PW X (.BoolOp .And (b :: rest) pos) (LT E tB)) : PW X (.BoolOp .And (a :: b :: rest) pos) (LT E (dAnd tA tB)) := pw_weak (pw_and ha hb) fun _ _ _ => le_and
theorem dw_or (ha : PT X a (LT E tA)) (hb : PW X (.BoolOp .Or (b :: rest) pos) (LT E tB)) : PW X (.BoolOp .Or (a :: b :: rest) pos) (LT E (dOr tA tB)) := pw_weak (pw_or ha hb) fun _ _ _ => le_or
theorem dt_not (ha : PT X a (LT E tA)) : PT X (.UnaryOp .Not a pos) (LT E (dNot tA)) := pt_weak (pt_not ha) fun _ _ _ ⟨S0, sl, rs, F, xc, q, N, t, k, kx⟩ => LT.use N t kx fun c rs1 F1 H1 st1 N1 t1 => k (!c) rs1 F1 H1 st1 N1.at_ t1
def dAndV (ta tb : TD K) : TD K := fun sl rs xc q => ta sl rs xc (isB fun c rs1 => if c = true then tb sl rs1 xc q else q (.da (.bl false)) rs1)
def dOrV (ta tb : TD K) : TD K := fun sl rs xc q => ta sl rs xc (isB fun c rs1 => if c = true then q (.da (.bl true)) rs1 else tb sl rs1 xc q)
def dNotV (ta : TD K) : TD K := fun sl rs xc q => ta sl rs xc (isB fun c rs1 => q (.da (.bl (!c))) rs1)
theorem d_and (ha : PE X a (LE E ta)) (hb : PE X (.BoolOp .And (b :: rest) pos) (LE E tb)) : PE X (.BoolOp .And (a :: b :: rest) pos) (LE E (dAndV ta tb)) := pe_weak (pe_and ha hb) fun σ H Q ⟨S0, sl, rs, F, xc, q, N, t, k, kx⟩ =>
  LE.use N t kx fun v y rs1 F1 H1 st1 N1 r1 t1 => by
    obtain ⟨c, rfl, t1⟩ := t1
    cases r1 with
    | da r1 =>
      cases r1
      refine ⟨c, rfl, ?_⟩
      cases c with
      | true => exact iteT (LE.use N1 (by simpa using t1) (kx.after st1) fun v y rs2 F2 H2 st2 N2 r2 t2 => k v y rs2 F2 H2 (st1.trans st2) N2.at_ r2 t2)
      | false => exact iteF (k _ _ rs1 F1 H1 st1 N1.at_ (.da (.bl _)) (by simpa using t1))
theorem d_or (ha : PE X a (LE E ta)) (hb : PE X (.BoolOp .Or (b :: rest) pos) (LE E tb)) : PE X (.BoolOp .Or (a :: b :: rest) pos) (LE E (dOrV ta tb)) := pe_weak (pe_or ha hb) fun σ H Q ⟨S0, sl, rs, F, xc, q, N, t, k, kx⟩ =>
  LE.use N t kx fun v y rs1 F1 H1 st1 N1 r1 t1 => by
    obtain ⟨c, rfl, t1⟩ := t1
    cases r1 with
    | da r1 =>
      cases r1
      refine ⟨c, rfl, ?_⟩
      cases c with
      | false => exact iteF (LE.use N1 (by simpa using t1) (kx.after st1) fun v y rs2 F2 H2 st2 N2 r2 t2 => k v y rs2 F2 H2 (st1.trans st2) N2.at_ r2 t2)
      | true => exact iteT (k _ _ rs1 F1 H1 st1 N1.at_ (.da (.bl _)) (by simpa using t1))
theorem d_not (ha : PE X a (LE E ta)) : PE X (.UnaryOp .Not a pos) (LE E (dNotV ta)) := pe_weak (pe_not ha) fun σ H Q ⟨S0, sl, rs, F, xc, q, N, t, k, kx⟩ =>
  LE.use N t kx fun v y rs1 F1 H1 st1 N1 r1 t1 => by
    obtain ⟨c, rfl, t1⟩ := t1
    cases r1 with
    | da r1 => cases r1; exact ⟨c, rfl, k _ _ rs1 F1 H1 st1 N1.at_ (.da (.bl _)) t1⟩
def dIf (tA : TDb K) (ta tb : TD K) : TD K := fun sl rs xc q => tA sl rs xc fun c rs1 => if c = true then ta sl rs1 xc q else tb sl rs1 xc q
theorem d_if (hc : PT X c (LT E tA)) (ha : PE X a (LE E ta)) (hb : PE X b (LE E tb)) : PE X (.IfExp c a b pos) (LE E (dIf tA ta tb)) := pe_weak (pe_ifExp hc ha hb) fun σ H Q ⟨S0, sl, rs, F, xc, q, N, t, k, kx⟩ =>
  LT.use N t kx fun c rs1 F1 H1 st1 N1 t1 => by
    have k1 := k.after st1
    cases c with
    | true => exact iteT (LE.use N1 (by simpa using t1) (kx.after st1) fun v y rs2 F2 H2 st2 N2 r2 t2 => k1 v y rs2 F2 H2 st2 N2.at_ r2 t2)
    | false => exact iteF (LE.use N1 (by simpa using t1) (kx.after st1) fun v y rs2 F2 H2 st2 N2 r2 t2 => k1 v y rs2 F2 H2 st2 N2.at_ r2 t2)
/-! argument lists, displays -/
def dNil : TDa K := fun _ rs _ q => q [] rs
def dCons (ta : TD K) (tr : TDa K) : TDa K := fun sl rs xc q => ta sl rs xc fun y rs1 => tr sl rs1 xc fun ys rs2 => q (y :: ys) rs2
theorem da_nil : PA X [] (LA E (dNil (K := K))) := pa_weak pa_nil fun σ H Q ⟨S0, sl, rs, F, xc, q, N, t, k, kx⟩ => k _ _ rs F H (Stp.refl _ _) N.at_ .nil t
theorem le_cons {σ : L2.St} {H : Hp} {Q : List V → Hp → Prop} (l : LA E (dCons ta ts) σ H Q) : tCons (LE E ta) (LA E ts) σ H Q := by
  obtain ⟨S0, sl, rs, F, xc, q, N, t, k, kx⟩ := l
  exact LE.use N t kx fun v y rs1 F1 H1 st1 N1 r1 t1 => LA.use N1 t1 (kx.after st1) fun vs ys rs2 F2 H2 st2 N2 r2 t2 => k _ _ rs2 F2 H2 (st1.trans st2) N2.at_ (.cons (r1.ev (st2.ev N1.at_)) r2) t2
theorem da_cons (he : PE X e (LE E te)) (hr : PA X es (LA E ts)) (hs : starEach (e :: es) X.env = (false, eval e X.env) :: starEach es X.env := by rfl) : PA X (e :: es) (LA E (dCons te ts)) := pa_weak (pa_cons he hr hs) fun _ _ _ => le_cons
/-- the data of a list of slots' values -/
def allDa : List Sl → Option (List Da)
  | [] => some []
  | .da x :: r => (allDa r).map (x :: ·)
  | _ :: _ => none
theorem allDa_eq : ∀ {ys : List Sl} {xs : List Da}, allDa ys = some xs → ys = xs.map .da
  | [], xs, h => by cases h; rfl
  | .da x :: r, xs, h => by
    cases q : allDa r with
    | none => rw [show allDa (.da x :: r) = (allDa r).map (x :: ·) from rfl, q] at h; cases h
    | some zs =>
      rw [show allDa (.da x :: r) = (allDa r).map (x :: ·) from rfl, q] at h
      cases h
      rw [allDa_eq q]; rfl
  | .no :: _, _, h => by cases h
  | .raw _ :: _, _, h => by cases h
  | .tup _ :: _, _, h => by cases h
def mkT (ys : List Sl) : Sl := match allDa ys with
  | some xs => .da (.tup xs)
  | none => .tup ys
theorem mkT_ok {S : Addr → Prop} {H : Hp} {p : Addr} {vs : List V} {ys : List Sl} (h : H p = some (.tup vs)) (r : VAll K S H vs ys) : VOk K S H (.ref p) (mkT ys) := by
  unfold mkT
  split
  · rename_i xs e
    rw [allDa_eq e] at r
    exact .da (.tup h r.das)
  · exact .tup h r
theorem mkT_da (xs : List Da) : mkT (xs.map .da) = .da (.tup xs) := by
  have : allDa (xs.map .da) = some xs := by
    induction xs with
    | nil => rfl
    | cons x r ih => show (allDa (r.map .da)).map (x :: ·) = _; rw [ih]; rfl
  unfold mkT
  rw [this]
def dTup (ts : TDa K) : TD K := fun sl rs xc q => ts sl rs xc fun ys rs1 => ys.length ≤ sizeLine ∧ q (mkT ys) rs1
theorem d_tup {x1} (h : PA X es (LA E ts)) : PE X (.Tuple es x1 pos) (LE E (dTup ts)) := pe_weak (pe_tup h) fun σ H Q ⟨S0, sl, rs, F, xc, q, N, t, k, kx⟩ =>
  LA.use N t kx fun vs ys rs1 F1 H1 st1 N1 r1 ⟨hz, t1⟩ => ⟨by rw [r1.len]; exact hz, fun p hp => by
    have s : Same H1 (upd H1 p (.tup vs)) := same_new hp
    exact k _ _ rs1 F1 _ (st1.trans (Stp.same s)) (N1.at_.same s) (mkT_ok upd_same (r1.ev (Ev.same (F := []) s))) t1⟩
/-- a list display: data -/
def dLst (ts : TDa K) : TD K := fun sl rs xc q => ts sl rs xc fun ys rs1 => ys.length ≤ sizeLine ∧ ∃ xs, allDa ys = some xs ∧ q (.da (.lst xs)) rs1
theorem d_lst (h : PA X es (LA E ts)) : PE X (.List es pos) (LE E (dLst ts)) := pe_weak (pe_lst h) fun σ H Q ⟨S0, sl, rs, F, xc, q, N, t, k, kx⟩ =>
  LA.use N t kx fun vs ys rs1 F1 H1 st1 N1 r1 ⟨hz, xs, ex, t1⟩ => ⟨by rw [r1.len]; exact hz, fun p hp => by
    have s : Same H1 (upd H1 p (.lst vs)) := same_new hp
    rw [allDa_eq ex] at r1
    exact k _ _ rs1 F1 _ (st1.trans (Stp.same s)) (N1.at_.same s) (.da (.lst (N1.at_.fresh hp) upd_same (r1.das.ev (Ev.same (F := []) s)))) t1⟩
/-- a list display: a thing that may change -/
def dLstR (ts : TDa K) : TD K := fun sl rs xc q => ts sl rs xc fun ys rs1 => ys.length ≤ sizeLine ∧ ∀ a, q (.raw (.ref a)) (lstR a ys :: rs1)
theorem at_newL {S0 : Addr → Prop} {H : Hp} {rs : List (Rs K)} {F : List Addr} {p : Addr} {vs : List V} {ys : List Sl} (A : At K S0 H rs F) (hp : H p = none) (r : VAll K (Mu S0 F) H vs ys) : At K S0 (upd H p (.lst vs)) (lstR p ys :: rs) ([p] ++ F) ∧ Stp F H ([p] ++ F) (upd H p (.lst vs)) := by
  have s : Same H (upd H p (.lst vs)) := same_new hp
  refine A.new s (fun b hb => by rw [List.mem_singleton.mp hb]; exact hp) (by simp) (fun b hb => by rw [List.mem_singleton.mp hb, upd_same]; exact ⟨trivial, nofun⟩) ⟨rfl, vs, upd_same, r.ev (F := []) ⟨fun b z => ?_, fun b o _ h => ⟨o, s b o h, .refl o⟩, fun b o m h => (nomatch m), fun a _ h => s a _ h⟩⟩
  rcases z with z | z
  · exact .inl (.inl z)
  · rcases List.mem_append.mp z with z | z
    · rw [List.mem_singleton.mp z]; exact .inr hp
    · exact .inl (.inr z)
theorem d_lstR (h : PA X es (LA E ts)) : PE X (.List es pos) (LE E (dLstR ts)) := pe_weak (pe_lst h) fun σ H Q ⟨S0, sl, rs, F, xc, q, N, t, k, kx⟩ =>
  LA.use N t kx fun vs ys rs1 F1 H1 st1 N1 r1 ⟨hz, t1⟩ => ⟨by rw [r1.len]; exact hz, fun p hp => by
    obtain ⟨A, st⟩ := at_newL N1.at_ hp r1
    exact k _ _ _ _ _ (st1.trans st) A (.raw _) (t1 p)⟩
/-! calls of built-ins -/
def dCB (g : AN K) (ts : TDa K) : TD K := fun sl rs xc q => ts sl rs xc fun ys rs1 => g ys rs1 q
theorem d_cb {r : List V → Hp → VK → Prop} {g : AN K} (h : PE X e (tCB r (LA E ts))) (ok : ActN K r g) : PE X e (LE E (dCB g ts)) := pe_weak h fun σ H Q ⟨S0, sl, rs, F, xc, q, N, t, k, kx⟩ =>
  LA.use N t kx fun vs ys rs1 F1 H1 st1 N1 r1 t1 => ok S0 H1 rs1 F1 vs ys q Q N1.at_ r1 t1 (k.after st1)
end
end HC

/-! ### statements, targets, loops, comprehensions of data -/
namespace HC
open PyProof.Rows PySem L2 PySem.Spec
section
variable {X : Cx} {K : PySem.W.Frag} {E : XK} {a b c e o : Expr} {es : List Expr} {pos : Pos} {ta tb tc td te : TD K} {tA tB : TDb K} {ts : TDa K} {st : Stmt} {rest : List Stmt} {t u : TDs K}
theorem ps_weak {t t' : TS} (h : PS X st t) (i : ∀ D σ H, t' D σ H → t D σ H) : PS X st t' := ⟨fun pn s σ H D inv h' => h.run pn s σ H D inv (i D σ H h')⟩
theorem pss_weak {t t' : TS} (h : PSs X rest t) (i : ∀ D σ H, t' D σ H → t D σ H) : PSs X rest t' := ⟨fun pn s σ H D inv h' => h.run pn s σ H D inv (i D σ H h')⟩
theorem pi_weak {tg : Expr} {t t' : TI} (h : PI X tg e t) (i : ∀ σ H R, t' σ H R → t σ H R) : PI X tg e t' := ⟨fun pn s σ H R inv h' => h.run pn s σ H R inv (i σ H R h')⟩
/-! blocks -/
def dNext : TDs K := fun d sl rs => d.nx sl rs
def dSeq (t u : TDs K) : TDs K := fun d sl rs => t { d with nx := u d } sl rs
theorem dss_nil : PSs X [] (LS E (dNext (K := K))) := pss_weak pss_nil fun D σ H ⟨S0, sl, rs, F, d, N, h, k1, k2, k3, k4, k5⟩ => k1 σ sl rs F H (Stp.refl _ _) N h
theorem le_seq {D : Ends} {σ : L2.St} {H : Hp} (l : LS E (dSeq t u) D σ H) : tSeq (LS E t) (LS E u) D σ H := by
  obtain ⟨S0, sl, rs, F, d, N, h, k1, k2, k3, k4, k5⟩ := l
  exact LS.use (d := { d with nx := u d }) N h (fun σ' sl' rs' F' H' st N' h' => LS.use N' h' (k1.after st) (k2.after st) (k3.after st) (k4.after st) (k5.after st)) k2 k3 k4 k5
theorem dss_cons (h1 : PS X st (LS E t)) (h2 : PSs X rest (LS E u)) : PSs X (st :: rest) (LS E (dSeq t u)) := pss_weak (pss_cons h1 h2) fun _ _ _ => le_seq
theorem dss_one (h1 : PS X st (LS E t)) : PSs X [st] (LS E t) := pss_one h1
theorem ds_pass : PS X (.Pass pos) (LS E (dNext (K := K))) := ps_weak ps_pass fun D σ H ⟨S0, sl, rs, F, d, N, h, k1, k2, k3, k4, k5⟩ => k1 σ sl rs F H (Stp.refl _ _) N h
def dBreak : TDs K := fun d sl rs => d.bk sl rs
def dCont : TDs K := fun d sl rs => d.ct sl rs
theorem ds_break : PS X (.Break pos) (LS E (dBreak (K := K))) := ps_weak ps_break fun D σ H ⟨S0, sl, rs, F, d, N, h, k1, k2, k3, k4, k5⟩ => k2 σ sl rs F H (Stp.refl _ _) N h
theorem ds_continue : PS X (.Continue pos) (LS E (dCont (K := K))) := ps_weak ps_continue fun D σ H ⟨S0, sl, rs, F, d, N, h, k1, k2, k3, k4, k5⟩ => k3 σ sl rs F H (Stp.refl _ _) N h
def dDrop (te : TD K) : TDs K := fun d sl rs => te sl rs d.xc fun _ rs1 => d.nx sl rs1
theorem ds_expr (he : PE X e (LE E te)) (hs : swapsWith e none pos.line X.env = pure false := by rfl) : PS X (.Expr e pos) (LS E (dDrop te)) := ps_weak (ps_expr he hs) fun D σ H ⟨S0, sl, rs, F, d, N, h, k1, k2, k3, k4, k5⟩ =>
  LE.use N h k5 fun v y rs1 F1 H1 st1 N1 r1 t1 => k1 σ sl rs1 F1 H1 st1 N1 t1
def dRet (te : TD K) : TDs K := fun d sl rs => te sl rs d.xc d.rt
theorem ds_ret (he : PE X e (LE E te)) : PS X (.Return (some e) pos) (LS E (dRet te)) := ps_weak (ps_ret he) fun D σ H ⟨S0, sl, rs, F, d, N, h, k1, k2, k3, k4, k5⟩ =>
  LE.use N h k5 fun v y rs1 F1 H1 st1 N1 r1 t1 => k4 v y rs1 F1 H1 st1 N1.at_ r1 t1
def dRetN : TDs K := fun d _ rs => d.rt (.da .non) rs
theorem ds_retN : PS X (.Return none pos) (LS E (dRetN (K := K))) := ps_weak ps_retN fun D σ H ⟨S0, sl, rs, F, d, N, h, k1, k2, k3, k4, k5⟩ => k4 .non (.da .non) rs F H (Stp.refl _ _) N.at_ (.da .non) h
def dIfS (tA : TDb K) (t u : TDs K) : TDs K := fun d sl rs => tA sl rs d.xc fun c rs1 => if c = true then t d sl rs1 else u d sl rs1
theorem ds_if {c : Expr} {a b : List Stmt} (hc : PT X c (LT E tA)) (ha : PSs X a (LS E t)) (hb : PSs X b (LS E u)) : PS X (.If c a b pos) (LS E (dIfS tA t u)) := ps_weak (ps_if hc ha hb) fun D σ H ⟨S0, sl, rs, F, d, N, h, k1, k2, k3, k4, k5⟩ =>
  LT.use N h k5 fun c rs1 F1 H1 st1 N1 t1 => by
    cases c with
    | true => exact iteT (LS.use N1 (by simpa using t1) (k1.after st1) (k2.after st1) (k3.after st1) (k4.after st1) (k5.after st1))
    | false => exact iteF (LS.use N1 (by simpa using t1) (k1.after st1) (k2.after st1) (k3.after st1) (k4.after st1) (k5.after st1))
theorem ds_never : PS X st (LS E (fun _ _ _ => False : TDs K)) := ps_weak ps_never fun D σ H ⟨S0, sl, rs, F, d, N, h, _⟩ => h.elim
/-- ghost steps ahead of what follows -/
def Gs (p : List Sl → List (Rs K) → Prop) : List Sl → List (Rs K) → Prop := fun sl rs => ∃ sl' rs', Gh sl rs sl' rs' ∧ p sl' rs'
def Gv (q : QD K) : QD K := fun y rs => ∃ y' rs', GhV y rs y' rs' ∧ q y' rs'
theorem gs_id {p : List Sl → List (Rs K) → Prop} {sl : List Sl} {rs : List (Rs K)} (h : p sl rs) : Gs p sl rs := ⟨sl, rs, Gh.refl, h⟩
theorem gv_id {q : QD K} {y : Sl} {rs : List (Rs K)} (h : q y rs) : Gv q y rs := ⟨y, rs, GhV.refl, h⟩
theorem gs_via {p : List Sl → List (Rs K) → Prop} {sl sl' : List Sl} {rs rs' : List (Rs K)} (g : Gh sl rs sl' rs') (h : Gs p sl' rs') : Gs p sl rs := let ⟨sl2, rs2, g2, h2⟩ := h; ⟨sl2, rs2, g.trans g2, h2⟩
theorem gv_via {q : QD K} {y y' : Sl} {rs rs' : List (Rs K)} (g : GhV y rs y' rs') (h : Gv q y' rs') : Gv q y rs := let ⟨y2, rs2, g2, h2⟩ := h; ⟨y2, rs2, g.trans g2, h2⟩
theorem outS_gs {S0 : Addr → Prop} {F : List Addr} {H : Hp} {q : List Sl → List (Rs K) → Prop} {Q : L2.St → Hp → Prop} (k : OutS S0 F H q Q) : OutS S0 F H (Gs q) Q := fun σ' sl' rs' F' H' st N ⟨sl2, rs2, g, h⟩ => by
  obtain ⟨F2, hF, N2⟩ := g S0 σ' H' F' N
  exact k σ' sl2 rs2 F2 H' (st.less hF) N2 h
theorem out_gv {S0 : Addr → Prop} {F : List Addr} {H : Hp} {q : QD K} {Q : VK} (k : Out S0 F H q Q) : Out S0 F H (Gv q) Q := fun v y rs' F' H' st A r ⟨y2, rs2, g, h⟩ => by
  obtain ⟨F2, hF, A2, r2⟩ := g S0 H' F' v A r
  exact k v y2 rs2 F2 H' (st.less hF) A2 r2 h
/-- a ghost step as a statement's front -/
def dGh (t : TDs K) : TDs K := fun d sl rs => Gs (fun sl' rs' => t d sl' rs') sl rs
theorem ds_gh (h : PS X st (LS E t)) : PS X st (LS E (dGh t)) := ps_weak h fun D σ H ⟨S0, sl, rs, F, d, N, ⟨sl2, rs2, g, h⟩, k1, k2, k3, k4, k5⟩ => by
  obtain ⟨F2, hF, N2⟩ := g S0 σ H F N
  have st : Stp F H F2 H := (Stp.refl F H).less hF
  exact LS.use N2 h (k1.after st) (k2.after st) (k3.after st) (k4.after st) (k5.after st)
/-! targets -/
theorem wipe_set {σ : L2.St} {i : Nat} {v : Option V} : ∀ {vs : List Nat}, i ∈ vs → wipe (σ.set i v) vs = wipe σ vs
  | [], h => nomatch h
  | w :: vs, h => by
    unfold wipe
    by_cases e : i = w
    · subst e
      have : ∀ (us : List Nat) (τ : L2.St), (wipe (τ.set i v) us).set i none = (wipe τ us).set i none := by
        intro us
        induction us with
        | nil => intro τ; show (τ.set i v).set i none = τ.set i none; rw [List.set_set]
        | cons m us ih =>
          intro τ
          show ((wipe (τ.set i v) us).set m none).set i none = ((wipe τ us).set m none).set i none
          by_cases em : i = m
          · subst em; rw [List.set_set, List.set_set]; exact ih τ
          · rw [List.set_comm _ _ (Ne.symm em), List.set_comm _ _ (Ne.symm em), ih τ]
      exact this vs σ
    · rw [wipe_set ((List.mem_cons.mp h).resolve_left e)]
def wipeD (sl : List Sl) : List Nat → List Sl
  | [] => sl
  | v :: vs => (wipeD sl vs).set v .no
/-- a target of names: what it does to slots -/
def TgOk (g : TG) (gd : TDg K) (is : List Nat) : Prop := ∀ (S0 : Addr → Prop) (σ : L2.St) (H : Hp) (sl : List Sl) (rs : List (Rs K)) (F : List Addr) (v : V) (y : Sl) (q : List Sl → List (Rs K) → Prop) (Q : L2.St → Hp → Prop), Now K S0 σ H sl rs F → VOk K (Mu S0 F) H v y → gd y sl rs q →
  (∀ σ' sl', Now K S0 σ' H sl' rs F → (∀ vs, (∀ i ∈ is, i ∈ vs) → wipe σ' vs = wipe σ vs) → q sl' rs → Q σ' H) → g v σ H Q
def TgsOk (g : TGs) (gd : TDgs K) (is : List Nat) : Prop := ∀ (S0 : Addr → Prop) (σ : L2.St) (H : Hp) (sl : List Sl) (rs : List (Rs K)) (F : List Addr) (vs : List V) (ys : List Sl) (q : List Sl → List (Rs K) → Prop) (Q : L2.St → Hp → Prop), Now K S0 σ H sl rs F → VAll K (Mu S0 F) H vs ys → gd ys sl rs q →
  (∀ σ' sl', Now K S0 σ' H sl' rs F → (∀ vs, (∀ i ∈ is, i ∈ vs) → wipe σ' vs = wipe σ vs) → q sl' rs → Q σ' H) → g vs σ H Q
def gdName (i : Nat) : TDg K := fun y sl rs q => q (sl.set i y) rs
theorem tg_name (i : Nat) : TgOk (K := K) (gName i) (gdName i) [i] := fun S0 σ H sl rs F v y q Q N r h k => k _ _ (N.set r i) (fun vs hv => wipe_set (hv i (List.mem_singleton.mpr rfl))) h
def gdNil : TDgs K := fun ys sl rs q => ys = [] ∧ q sl rs
def gdCons (g : TDg K) (gs : TDgs K) : TDgs K := fun ys sl rs q => ∃ y r, ys = y :: r ∧ g y sl rs fun sl' rs' => gs r sl' rs' q
theorem tgs_nil : TgsOk (K := K) gNil gdNil [] := fun S0 σ H sl rs F vs ys q Q N r ⟨e, h⟩ k => by
  subst e; cases r
  exact ⟨rfl, k σ sl N (fun _ _ => rfl) h⟩
theorem tgs_cons {g : TG} {gs : TGs} {gd : TDg K} {gds : TDgs K} {is js : List Nat} (h1 : TgOk g gd is) (h2 : TgsOk gs gds js) : TgsOk (gCons g gs) (gdCons gd gds) (is ++ js) := fun S0 σ H sl rs F vs ys q Q N r ⟨y, ry, e, h⟩ k => by
  subst e
  cases r with
  | cons r rr =>
    refine ⟨_, _, rfl, h1 S0 σ H sl rs F _ y _ _ N r h fun σ' sl' N' w' h' => h2 S0 σ' H sl' rs F _ ry _ _ N' rr h' fun σ2 sl2 N2 w2 h2 => k σ2 sl2 N2 (fun us hu => ?_) h2⟩
    rw [w2 us fun i hi => hu i (List.mem_append_right _ hi), w' us fun i hi => hu i (List.mem_append_left _ hi)]
/-- the items of a tuple -/
inductive Its2 : Sl → List Sl → Prop
  | da (xs : List Da) : Its2 (.da (.tup xs)) (xs.map .da)
  | tup (ys : List Sl) : Its2 (.tup ys) ys
def gdTup (n : Nat) (g : TDgs K) : TDg K := fun y sl rs q => ∃ ys, Its2 y ys ∧ ys.length = n ∧ g ys sl rs q
theorem VOk.its {S : Addr → Prop} {H : Hp} {v : V} {y : Sl} {ys : List Sl} (r : VOk K S H v y) (i : Its2 y ys) : ∃ a vs, v = .ref a ∧ H a = some (.tup vs) ∧ VAll K S H vs ys := by
  cases i with
  | da xs => cases r with | da r => cases r with | tup h1 h2 => exact ⟨_, _, rfl, h1, h2.vall⟩
  | tup ys => cases r with | tup h1 h2 => exact ⟨_, _, rfl, h1, h2⟩
theorem tg_tup {n : Nat} {g : TGs} {gd : TDgs K} {is : List Nat} (h : TgsOk g gd is) : TgOk (gTup K n g) (gdTup n gd) is := fun S0 σ H sl rs F v y q Q N r ⟨ys, i, hn, hq⟩ k => by
  obtain ⟨a, vs, rfl, h1, h2⟩ := r.its i
  exact ⟨a, vs, rfl, SqT.of h1, h2.len.trans hn, h S0 σ H sl rs F vs ys q Q N h2 hq k⟩
/-- target = value -/
def dAsg (te : TD K) (g : TDg K) : TDs K := fun d sl rs => te sl rs d.xc fun y rs1 => g y sl rs1 d.nx
theorem ds_asg {tg : Expr} {g : TG} {gd : TDg K} {is : List Nat} (he : PE X e (LE E te)) (hg : PG X tg g) (ok : TgOk g gd is) (hs : swapsWithSole [tg] e pos.line X.env = pure false := by rfl) (hw : swappedStores [tg] e X.env = pure none := by rfl)
    (h1 : (assignEach [tg] X.env).map (·.2) = [assign tg X.env] := by rfl) : PS X (.Assign [tg] e pos) (LS E (dAsg te gd)) := ps_weak (ps_asg he hg hs hw h1) fun D σ H ⟨S0, sl, rs, F, d, N, h, k1, k2, k3, k4, k5⟩ =>
  LE.use N h k5 fun v y rs1 F1 H1 st1 N1 r1 t1 => ok S0 σ H1 sl rs1 F1 v y _ _ N1 r1 t1 fun σ' sl' N' _ h' => k1 σ' sl' rs1 F1 H1 st1 N' h'
theorem ds_set {i : Nat} {x : Str} {pos' : Pos} (hN : X.N.Nodup) (hi : X.N[i]? = some x) (hx : Loc X.env.scope x) (he : PE X e (LE E te)) (hs : swapsWith e (some (.Name x pos')) pos.line X.env = pure false := by rfl) (hf : X.fn x = true ∨ X.env.scope.names.lookup x = some .local := by first | exact .inl rfl | exact .inr rfl | assumption) :
    PS X (.Assign [.Name x pos'] e pos) (LS E (dAsg te (gdName i))) := ps_weak (ps_set (i := i) hN hi hx he hs hf) fun D σ H ⟨S0, sl, rs, F, d, N, h, k1, k2, k3, k4, k5⟩ =>
  LE.use N h k5 fun v y rs1 F1 H1 st1 N1 r1 t1 => k1 _ _ rs1 F1 H1 st1 (N1.set r1 i) t1
/-- a comprehension as a statement's value -/
theorem ds_setX {i : Nat} {st : Stmt} {t : TE} (h : PS X st (tAsg t (gName i))) (w : ∀ σ H Q, LE E te σ H Q → t σ H Q) : PS X st (LS E (dAsg te (gdName (K := K) i))) := ps_weak h fun D σ H ⟨S0, sl, rs, F, d, N, h, k1, k2, k3, k4, k5⟩ =>
  w _ _ _ (LE.use N h k5 fun v y rs1 F1 H1 st1 N1 r1 t1 => k1 _ _ rs1 F1 H1 st1 (N1.set r1 i) t1)
def dPar (is : List Nat) (ts : TDa K) : TDs K := fun d sl rs => ts sl rs d.xc fun ys rs1 => ys.length = is.length ∧ d.nx ((is.zip ys).foldl (fun s p => s.set p.1 p.2) sl) rs1
theorem ds_par {i j : Nat} (h : PS X st (tPar i j (LA E ts))) : PS X st (LS E (dPar [i, j] ts)) := ps_weak h fun D σ H ⟨S0, sl, rs, F, d, N, h, k1, k2, k3, k4, k5⟩ =>
  LA.use N h k5 fun vs ys rs1 F1 H1 st1 N1 r1 ⟨hl, t1⟩ => by
    cases r1 with
    | nil => cases hl
    | cons r1 q1 =>
      cases q1 with
      | nil => cases hl
      | cons r2 q2 =>
        cases q2 with
        | nil => exact ⟨_, _, rfl, k1 _ _ rs1 F1 H1 st1 ((N1.set r1 i).set r2 j) t1⟩
        | cons => exact absurd hl (by simp)
theorem ds_par3 {i j l : Nat} (h : PS X st (tPar3 i j l (LA E ts))) : PS X st (LS E (dPar [i, j, l] ts)) := ps_weak h fun D σ H ⟨S0, sl, rs, F, d, N, h, k1, k2, k3, k4, k5⟩ =>
  LA.use N h k5 fun vs ys rs1 F1 H1 st1 N1 r1 ⟨hl, t1⟩ => by
    cases r1 with
    | nil => cases hl
    | cons r1 q1 =>
      cases q1 with
      | nil => cases hl
      | cons r2 q2 =>
        cases q2 with
        | nil => cases hl
        | cons r3 q3 =>
          cases q3 with
          | nil => exact ⟨_, _, _, rfl, k1 _ _ rs1 F1 H1 st1 (((N1.set r1 i).set r2 j).set r3 l) t1⟩
          | cons => exact absurd hl (by simp)
/-! loops -/
def dFor (ti : TDi K) (g : TDg K) (tb : TDs K) : TDs K := fun d sl rs => ti sl rs d.xc fun ys ok rs1 => ∃ W : Nat → List Sl → List (Rs K) → Prop, Gs (W 0) sl rs1 ∧ (∀ i sl rs, W i sl rs → ok rs) ∧
  (∀ i y sl rs, ys[i]? = some y → W i sl rs → g y sl rs fun sl2 rs2 => tb { d with nx := Gs (W (i + 1)), ct := Gs (W (i + 1)), bk := Gs d.nx } sl2 rs2) ∧ ∀ sl rs, W ys.length sl rs → Gs d.nx sl rs
theorem le_for {ti : TDi K} {g : TG} {gd : TDg K} {is : List Nat} {tb : TDs K} (hg : TgOk g gd is) {D : Ends} {σ : L2.St} {H : Hp} (l : LS E (dFor ti gd tb) D σ H) : tFor (LI E ti) g (LS E tb) D σ H := by
  obtain ⟨S0, sl, rs, F, d, N, h, k1, k2, k3, k4, k5⟩ := l
  refine LI.use N h k5 fun J ys gok rs1 F1 H1 st1 N1 it t1 => ?_
  obtain ⟨W, ⟨sl0, rs0, g0, w0⟩, wok, step, done⟩ := t1
  obtain ⟨F0, hF0, N0⟩ := g0 S0 σ H1 F1 N1
  refine ⟨fun i m σ' H' => m + i = ys.length ∧ ∃ sl' rs' F', Now K S0 σ' H' sl' rs' F' ∧ Stp F1 H1 F' H' ∧ W i sl' rs', ⟨ys.length, rfl, sl0, rs0, F0, N0, (Stp.refl _ _).less hF0, w0⟩, ?_⟩
  rintro i m σ2 H2 ⟨hm, sl2, rs2, F2, N2, st2, w2⟩
  have ev := st2.ev N1.at_
  have it2 := it S0 H2 rs2 F2 N2.at_ (by
    refine ⟨fun b z => ?_, ev.keep, ev.own, ev.tk⟩
    exact z.elim (fun q => .inl (.inl q)) fun q => (st2.new b q).imp .inr id) (wok _ _ _ w2) i
  by_cases lt : i < ys.length
  · obtain ⟨go, yl⟩ := it2.1 ys[i] (List.getElem?_eq_getElem lt)
    refine .inr ⟨go, fun σ' H' => ∃ sl' rs' F', Now K S0 σ' H' sl' rs' F' ∧ Stp F1 H1 F' H' ∧ W (i + 1) sl' rs', fun σ' H' ⟨sl', rs', F', a, b, c⟩ => ⟨m - 1, by omega, by omega, sl', rs', F', a, b, c⟩, fun x H3 y3 => ?_⟩
    obtain ⟨sm, rx⟩ := yl x H3 y3
    have st3 : Stp F1 H1 F2 H3 := st2.trans (Stp.same sm)
    refine hg S0 σ2 H3 sl2 rs2 F2 x ys[i] _ _ (N2.same sm) rx (step i ys[i] sl2 rs2 (List.getElem?_eq_getElem lt) w2) fun σ4 sl4 N4 _ h4 => ?_
    have nx : OutS S0 F2 H3 (W (i + 1)) fun σ' H' => ∃ sl' rs' F', Now K S0 σ' H' sl' rs' F' ∧ Stp F1 H1 F' H' ∧ W (i + 1) sl' rs' := fun σ5 sl5 rs5 F5 H5 st5 N5 w5 => ⟨sl5, rs5, F5, N5, st3.trans st5, w5⟩
    have st03 := st1.trans st3
    exact LS.use N4 h4 (outS_gs nx) (outS_gs (k1.after st03)) (outS_gs nx) (k4.after st03) (k5.after st03)
  · obtain rfl : i = ys.length := by omega
    exact .inl ⟨it2.2 rfl, outS_gs (k1.after (st1.trans st2)) σ2 sl2 rs2 F2 H2 (Stp.refl _ _) N2 (done sl2 rs2 w2)⟩
theorem ds_for {tg iter : Expr} {body : List Stmt} {ti : TDi K} {g : TG} {gd : TDg K} {is : List Nat} (hp : PassesOwn (model X.prog X.w) X.A X.env X.xe) (hc : X.calm = true) (hi : PI X tg iter (LI E ti)) (hg : PG X tg g) (ok : TgOk g gd is) (hb : PSs X body (LS E t))
    (hs : ∀ x, foldedSetIterable iter X.env x = pure x := by intro _; rfl) : PS X (.For tg iter body [] pos) (LS E (dFor ti gd t)) := ps_weak (ps_for hp hc hi hg hb hs) fun _ _ _ => le_for ok
def dWhile (tc : TDb K) (tb : TDs K) : TDs K := fun d sl rs => ∃ W : Nat → List Sl → List (Rs K) → Prop, (∃ m, Gs (W m) sl rs) ∧ ∀ m sl rs, W m sl rs → tc sl rs d.xc fun b rs1 => if b = true then
  tb { d with nx := Gs fun sl' rs' => ∃ m', m' < m ∧ W m' sl' rs', ct := Gs fun sl' rs' => ∃ m', m' < m ∧ W m' sl' rs', bk := Gs d.nx } sl rs1 else Gs d.nx sl rs1
theorem le_while {tc : TDb K} {tb : TDs K} {D : Ends} {σ : L2.St} {H : Hp} (l : LS E (dWhile tc tb) D σ H) : tWhile (LT E tc) (LS E tb) D σ H := by
  obtain ⟨S0, sl, rs, F, d, N, ⟨W, ⟨m0, sl0, rs0, g0, w0⟩, step⟩, k1, k2, k3, k4, k5⟩ := l
  obtain ⟨F0, hF0, N0⟩ := g0 S0 σ H F N
  refine ⟨fun m σ' H' => ∃ sl' rs' F', Now K S0 σ' H' sl' rs' F' ∧ Stp F H F' H' ∧ W m sl' rs', ⟨m0, sl0, rs0, F0, N0, (Stp.refl _ _).less hF0, w0⟩, ?_⟩
  rintro m σ2 H2 ⟨sl2, rs2, F2, N2, st2, w2⟩
  refine LT.use N2 (step m sl2 rs2 w2) (k5.after st2) fun c rs3 F3 H3 st3 N3 t3 => ?_
  have st := st2.trans st3
  cases c with
  | false => exact iteF (outS_gs (k1.after st) _ _ rs3 F3 H3 (Stp.refl _ _) N3 (by simpa using t3))
  | true =>
    refine iteT ⟨fun σ' H' => ∃ m', m' < m ∧ ∃ sl' rs' F', Now K S0 σ' H' sl' rs' F' ∧ Stp F H F' H' ∧ W m' sl' rs', fun σ' H' h => h, ?_⟩
    have nx : OutS S0 F3 H3 (fun sl' rs' => ∃ m', m' < m ∧ W m' sl' rs') fun σ' H' => ∃ m', m' < m ∧ ∃ sl' rs' F', Now K S0 σ' H' sl' rs' F' ∧ Stp F H F' H' ∧ W m' sl' rs' := fun σ5 sl5 rs5 F5 H5 st5 N5 ⟨m', lt, w5⟩ => ⟨m', lt, sl5, rs5, F5, N5, st.trans st5, w5⟩
    rw [if_pos rfl] at t3
    exact LS.use N3 t3 (outS_gs nx) (outS_gs (k1.after st)) (outS_gs nx) (k4.after st) (k5.after st)
theorem ds_while {c : Expr} {body : List Stmt} (hp : PassesOwn (model X.prog X.w) X.A X.env X.xe) (hc : PT X c (LT E tA)) (hb : PSs X body (LS E t)) : PS X (.While c body [] pos) (LS E (dWhile tA t)) := ps_weak (ps_while hp hc hb) fun _ _ _ => le_while
/-! comprehensions -/
abbrev xF : XD K := fun _ _ => False
def dLc (ti : TDi K) (g : TDg K) (tt : TDb K) (te : TD K) (vs : List Nat) : TD K := fun sl rs xc q => ti sl rs xc fun ys ok rs1 => ys.length ≤ 1000000 ∧ ∃ W : Nat → List Da → List (Rs K) → Prop, W 0 [] rs1 ∧ (∀ i acc rs, W i acc rs → ok rs) ∧
  (∀ i y acc rs, ys[i]? = some y → acc.length ≤ i → W i acc rs → g y (wipeD sl vs) rs fun sl2 rs2 => tt sl2 rs2 xF fun b rs3 => if b = true then te sl2 rs3 xF fun z rs4 => ∃ x, z = .da x ∧ W (i + 1) (acc ++ [x]) rs4 else W (i + 1) acc rs3) ∧
  ∀ acc rs, acc.length ≤ ys.length → W ys.length acc rs → q (.da (.lst acc)) rs
def dYes : TDb K := fun _ rs _ q => q true rs
theorem slots_wipe {S : Addr → Prop} {H : Hp} {σ : L2.St} {sl : List Sl} (h : Slots K S H σ sl) : ∀ vs, Slots K S H (wipe σ vs) (wipeD sl vs)
  | [] => h
  | v :: vs => paired_set (.no none) v (slots_wipe h vs)
theorem outX_F {S0 : Addr → Prop} {F : List Addr} {H : Hp} {E : XK} : OutX S0 F H (xF (K := K)) E := fun _ _ _ _ _ _ _ _ _ h => h.elim
/-- the callers may change D besides -/
abbrev Plus (S0 : Addr → Prop) (D : Addr) : Addr → Prop := fun b => S0 b ∨ b = D
section
variable {S0 : Addr → Prop} {H H' : Hp} {rs : List (Rs K)} {F : List Addr} {D : Addr} {o : HO}
theorem At.ev2 {S1 : Addr → Prop} (A : At K S0 H rs F) (e : Ev K (Mu S0 F) (Mu S1 F) H H' F) (off : ∀ b ∈ F, ¬ S1 b) (lv : ∀ b, Mu S1 F b → NotT (H' b) ∧ H' b ≠ none) : At K S1 H' rs F := ⟨A.sep.ev e fun _ h => h, A.nd, off, lv⟩
theorem ev_plus (A : At K S0 H rs F) (hD : H D = none) : Ev K (Mu S0 F) (Mu (Plus S0 D) F) H (upd H D o) F := by
  have s : Same H (upd H D o) := same_new hD
  refine ⟨fun b z => ?_, fun b u _ h => ⟨u, s b u h, .refl u⟩, fun b u _ h => s b u h, fun a _ h => s a _ h⟩
  rcases z with (z | z) | z
  · exact .inl (.inl z)
  · rw [z]; exact .inr hD
  · exact .inl (.inr z)
theorem At.plus (A : At K S0 H rs F) (hD : H D = none) (nt : NotT (some o)) : At K (Plus S0 D) (upd H D o) rs F := by
  have s : Same H (upd H D o) := same_new hD
  refine A.ev2 (ev_plus A hD) (fun b hb z => ?_) fun b z => ?_
  · rcases z with z | z
    · exact A.off b hb z
    · exact (A.liv b (.inr hb)).2 (by rw [z]; exact hD)
  · by_cases e : b = D
    · rw [e, upd_same]; exact ⟨nt, nofun⟩
    · exact (A.same s).liv b (z.imp (fun q => q.resolve_right e) id)
theorem ev_write (A : At K (Plus S0 D) H rs F) : Ev K (Mu (Plus S0 D) F) (Mu (Plus S0 D) F) H (upd H D o) F := by
  have kp : Keep D H (upd H D o) := keep_upd
  exact ⟨fun b z => .inl z, fun b u n h => ⟨u, kp b u (fun e => n (.inl (.inr e))) h, .refl u⟩, fun b u hb h => kp b u (fun e => A.off b hb (.inr e)) h, fun b xs h => kp b _ (fun e => by have n := (A.liv D (.inl (.inr rfl))).1; rw [← e, h] at n; exact n) h⟩
theorem At.writeD (A : At K (Plus S0 D) H rs F) (nt : NotT (some o)) : At K (Plus S0 D) (upd H D o) rs F := A.ev2 (ev_write A) A.off fun b z => by
  by_cases e : b = D
  · rw [e, upd_same]; exact ⟨nt, nofun⟩
  · rw [upd_ne e]; exact A.liv b z
theorem ev_minus : Ev K (Mu (Plus S0 D) F) (Mu S0 F) H H F := Ev.less fun b z => z.imp .inl id
theorem At.minus (A : At K (Plus S0 D) H rs F) : At K S0 H rs F := A.ev2 ev_minus (fun b hb z => A.off b hb (.inl z)) fun b z => A.liv b (z.imp .inl id)
end
theorem wipe_in {σ : L2.St} {w : Nat} : ∀ {us : List Nat}, w ∈ us → (wipe σ us).set w none = wipe σ us
  | z :: us, h => by
    show ((wipe σ us).set z none).set w none = (wipe σ us).set z none
    by_cases e : w = z
    · subst e; rw [List.set_set]
    · rw [List.set_comm _ _ (Ne.symm e), wipe_in ((List.mem_cons.mp h).resolve_left e)]
theorem wipe_wipe (σ : L2.St) (vs : List Nat) : ∀ us : List Nat, (∀ i ∈ us, i ∈ vs) → wipe (wipe σ vs) us = wipe σ vs
  | [], _ => rfl
  | w :: us, h => by
    show (wipe (wipe σ vs) us).set w none = _
    rw [wipe_wipe σ vs us fun i hi => h i (List.mem_cons_of_mem _ hi)]
    exact wipe_in (h w List.mem_cons_self)
theorem le_lc {ti : TDi K} {g : TG} {gd : TDg K} {is vs : List Nat} {tt : TDb K} {E' E2 : XK} (hg : TgOk g gd is) (hv : ∀ i ∈ is, i ∈ vs) {σ : L2.St} {H : Hp} {Q : VK} (l : LE E (dLc ti gd tt te vs) σ H Q) : tLc (LI E ti) g (LT E2 tt) (LE E' te) vs σ H Q := by
  obtain ⟨S0, sl, rs, F, xc, q, N, h, k, kx⟩ := l
  refine LI.use N h kx fun J ys gok rs1 F1 H1 st1 N1 it ⟨few, W, w0, wok, step, done⟩ => fun D hD => ?_
  refine ⟨fun i m H' => m + i = ys.length ∧ ∃ acc vs' rs' F', acc.length ≤ i ∧ H' D = some (.lst vs') ∧ Now K (Plus S0 D) (wipe σ vs) H' (wipeD sl vs) rs' F' ∧ Stp F1 H1 F' H' ∧ DeAll K (Mu (Plus S0 D) F') H' vs' acc ∧ W i acc rs',
    ⟨ys.length, rfl, [], [], rs1, F1, Nat.le_refl _, upd_same, ⟨N1.at_.plus hD trivial, (slots_wipe N1.sl vs).ev (ev_plus N1.at_ hD)⟩, Stp.same (same_new hD), .nil, w0⟩, ?_⟩
  rintro i m H2 ⟨hm, acc, vs2, rs2, F2, hl, hD2, N2, st2, d2, w2⟩
  have ev := st2.ev N1.at_
  have it2 := it (Plus S0 D) H2 rs2 F2 N2.at_ ⟨fun b z => by
    rcases z with (z | z) | z
    · exact .inl (.inl z)
    · rw [z]; exact .inr hD
    · exact (st2.new b z).imp .inr id, ev.keep, ev.own, ev.tk⟩ (wok _ _ _ w2) i
  by_cases lt : i < ys.length
  · have hy := List.getElem?_eq_getElem lt
    obtain ⟨go, yl⟩ := it2.1 ys[i] hy
    refine .inr ⟨go, fun H' => ∃ acc vs' rs' F', acc.length ≤ i + 1 ∧ H' D = some (.lst vs') ∧ Now K (Plus S0 D) (wipe σ vs) H' (wipeD sl vs) rs' F' ∧ Stp F1 H1 F' H' ∧ DeAll K (Mu (Plus S0 D) F') H' vs' acc ∧ W (i + 1) acc rs', fun H' h => ⟨m - 1, by omega, by omega, h⟩, fun x H3 y3 => ?_⟩
    obtain ⟨sm, rx⟩ := yl x H3 y3
    have N3 := N2.same sm
    have nD : D ∉ F2 := fun z => N2.at_.off D z (.inr rfl)
    refine hg _ _ H3 _ rs2 F2 x ys[i] _ _ N3 rx (step i ys[i] acc rs2 hy hl w2) fun σ4 sl4 N4 hw h4 => ⟨by rw [hw vs hv, wipe_wipe σ vs vs fun _ h => h], ?_⟩
    have d3 := d2.ev (Ev.same (F := []) sm)
    refine LT.use N4 h4 outX_F fun b rs5 F5 H5 st5 N5 t5 => ?_
    have N5' : Now K (Plus S0 D) (wipe σ vs) H5 (wipeD sl vs) rs5 F5 := N3.step st5 N5.at_
    have d5 := d3.ev (st5.ev N3.at_)
    have b1 := st5.keep D _ nD (sm _ _ hD2)
    have b3 := (st2.trans (Stp.same sm)).trans st5
    cases b with
    | false => exact iteF ⟨acc, vs2, rs5, F5, by omega, b1, N5', b3, d5, by simpa using t5⟩
    | true =>
      refine iteT (LE.use N5 (by simpa using t5) outX_F fun v z rs6 F6 H6 st6 N6 r6 t6 => ?_)
      obtain ⟨x6, rfl, w6⟩ := t6
      cases r6 with
      | da r6 =>
        have N6' := N5'.step st6 N6.at_
        have d6 := d5.ev (st6.ev N5.at_)
        have c1 := st6.keep D _ (fun z => N5.at_.off D z (.inr rfl)) b1
        have lv : vs2.length = acc.length := d2.len
        have ew := ev_write (D := D) (o := .lst (vs2 ++ [v])) N6.at_
        have c3 := b3.trans st6
        exact ⟨vs2, c1, by rw [lv]; exact Nat.lt_of_le_of_lt (Nat.le_trans hl (Nat.le_of_lt (Nat.lt_of_lt_of_le lt few))) (by decide), acc ++ [x6], vs2 ++ [v], rs6, F6, by simp; omega, upd_same, ⟨N6.at_.writeD trivial, N6'.sl.ev ew⟩,
          ⟨fun b o n h => by rw [upd_ne (ne_of_none h hD)]; exact c3.keep b o n h, c3.new⟩, (d6.app (.cons r6 .nil)).ev ew, w6⟩
  · obtain rfl : i = ys.length := by omega
    exact .inl ⟨it2.2 rfl, k (.ref D) _ rs2 F2 H2 (st1.trans st2) N2.at_.minus (.da (.lst (fun z => z.elim (fun q => (N1.at_.liv D (.inl q)).2 hD) fun q => N2.at_.off D q (.inr rfl)) hD2 (d2.ev (F := F2) ev_minus))) (done acc rs2 hl w2)⟩
end
end HC

/-! ### what is walked; calls of defs, methods, classes; fields -/
namespace HC
open PyProof.Rows PySem L2 PySem.Spec
section
variable {X : Cx} {K : PySem.W.Frag} {E : XK} {a b c e o tg : Expr} {es : List Expr} {pos : Pos} {ta tb tc td te : TD K} {tA tB : TDb K} {ts : TDa K} {st : Stmt} {rest : List Stmt} {t u : TDs K}
/-! ### what is walked -/
theorem pi_or {t1 t2 : TI} (h1 : PI X tg e t1) (h2 : PI X tg e t2) : PI X tg e (fun σ H R => t1 σ H R ∨ t2 σ H R) := ⟨fun pn s σ H R inv h => h.elim (h1.run pn s σ H R inv) (h2.run pn s σ H R inv)⟩
def sgn (z : Str) : List Sl := z.cps.toList.map fun c => .da (.str ⟨#[c]⟩)
/-- y is walked: its items, and what must hold of what may change meanwhile -/
inductive Wk (rs : List (Rs K)) : Sl → List Sl → (List (Rs K) → Prop) → Prop
  | tup (xs : List Da) : Wk rs (.da (.tup xs)) (xs.map .da) (fun _ => True)
  | tupS (ys : List Sl) : Wk rs (.tup ys) ys (fun _ => True)
  | btup (xs : List Da) : Wk rs (.da (.btup xs)) (xs.map .da) (fun _ => True)
  | lst (xs : List Da) : Wk rs (.da (.lst xs)) (xs.map .da) (fun _ => True)
  | scr (xs : List Int) : Wk rs (.da (.scr xs)) (xs.map fun i => .da (.int i)) (fun _ => True)
  | str (z : Str) : Wk rs (.da (.str z)) (sgn z) (fun _ => True)
  | raw {a : Addr} {ys : List Sl} {rs' : List (Rs K)} : Ext (lstR a ys) rs rs' → Wk rs (.raw (.ref a)) ys (fun rs => ∃ rs', Ext (lstR a ys) rs rs')
section
variable {S0 : Addr → Prop} {H : Hp} {rs : List (Rs K)} {F : List Addr} {v : V} {y : Sl} {ys : List Sl} {g : List (Rs K) → Prop}
/-- a walk whose items stand all the time -/
theorem dit_of {J : It} {n : Nat} {G : Hp → Prop} {Y : Nat → Hp → V → Hp → Prop} (w : Walk J n G Y) (hn : n = ys.length) {S : Addr → Prop} {H1 : Hp} (hG : ∀ (S0 : Addr → Prop) H rs F, At K S0 H rs F → Ev K S (Mu S0 F) H1 H [] → g rs → G H)
    (hY : ∀ (S0 : Addr → Prop) H rs F i v H' y, At K S0 H rs F → Ev K S (Mu S0 F) H1 H [] → g rs → ys[i]? = some y → Y i H v H' → Same H H' ∧ VOk K (Mu S0 F) H' v y) : DIt S H1 J ys g := fun S0 H rs F A ev gr i => by
  have q := hG S0 H rs F A ev gr
  refine ⟨fun y hy => ?_, fun hi => ?_⟩
  · have lt : i < n := by rw [hn]; exact (List.getElem?_eq_some_iff.mp hy).1
    exact ⟨w.goes i H lt q, fun x H' yl => hY S0 H rs F i x H' y A ev gr hy (w.yields i H x H' lt q yl)⟩
  · rw [hi, ← hn]; exact w.stops H q
theorem sgn_len (z : Str) : (sgn z).length = z.cps.size := by unfold sgn; rw [List.length_map, Array.length_toList]
/-- a list, a tuple or a text, walked -/
def iSeqV (K : PySem.W.Frag) (R : It → Hp → Prop) : VK := fun x H1 => (∃ a, x = .ref a ∧ (∃ xs, SqL K H1 a xs) ∧ R (Itl K a) H1) ∨ (∃ a, x = .ref a ∧ (∃ xs, SqT K H1 a xs) ∧ R (Itt K a) H1) ∨ ∃ z, x = .str z ∧ R (Its z) H1
theorem iter_seq {X : Cx} {tg : Expr} {pins : List (Addr × Obj)} {σ : L2.St} {H : Hp} {s : Shared} {R : It → Hp → Prop} {E : Value → Shared → Prop} {x : V} {v : Value} (inv : L2.Inv X pins σ H s) (r : RelV x v) (q : iSeqV X.K R x H) : wpAny (model X.prog X.w) X.A (pyIter v) (PIE X pins σ tg R) E s := by
  rcases q with ⟨a, rfl, ⟨xs, sq⟩, q⟩ | ⟨a, rfl, ⟨xs, sq⟩, q⟩ | ⟨z, rfl, q⟩
  · cases r
    obtain ⟨cells, _, plain, _⟩ := inv.list sq
    refine wpAny_pyIter_list plain.isList ?_
    exact pi_one (tk := s.toks) inv _ (turn_list a _) ⟨_, Heap.get?_push_size _ rfl, rfl, rfl⟩ q
  · cases r
    obtain ⟨cells, _, tup, _⟩ := inv.tuple sq
    refine wpAny_pyIter_tuple (items := cells.toArray) tup ?_
    exact pi_one (tk := s.toks) inv _ (turn_tuple a _) ⟨_, Heap.get?_push_size _ rfl, rfl, rfl⟩ q
  · obtain ⟨tk, rfl⟩ := r
    by_cases low : z.cps.all (· < 128) = true
    · refine wpAny_pyIter_ascii low ?_
      exact pi_one (tk := s.toks) inv _ (turn_str _ z tk "str_ascii_iterator" (.inl rfl)) ⟨_, Heap.get?_push_size _ rfl, rfl, rfl⟩ q
    · refine wpAny_pyIter_wide (by simpa using low) ?_
      exact pi_one (tk := s.toks) inv _ (turn_str _ z tk "str_iterator" (.inr rfl)) ⟨_, Heap.get?_push_size _ rfl, rfl, rfl⟩ q
def iSeq (K : PySem.W.Frag) (tl : TE) : TI := fun σ H R => tl σ H (iSeqV K R)
theorem pi_seq {X : Cx} {K : PySem.W.Frag} {e tg : Expr} {tl : TE} (h : PE X e tl) (hK : X.K = K := by rfl) : PI X tg e (iSeq K tl) := by
  subst hK
  constructor
  intro pn s σ H R inv q
  refine thn (h.run pn s σ H _ inv q) ?_
  rintro v s1 ⟨x, H1, inv1, r, q1⟩
  exact iter_seq inv1 r q1
end
end
section
variable {K : PySem.W.Frag} {S0 : Addr → Prop} {H : Hp} {rs : List (Rs K)} {F : List Addr} {v : V} {y : Sl} {ys : List Sl} {g : List (Rs K) → Prop}
theorem vall_at {S : Addr → Prop} {H1 : Hp} {vs : List V} (h : VAll K S H1 vs ys) {i : Nat} {x : V} {y : Sl} (hy : ys[i]? = some y) (hx : vs[i]? = some x) : VOk K S H1 x y := by
  obtain ⟨v, e, r⟩ := h.atD hy
  rw [hx] at e
  cases e
  exact r
/-- a tuple is walked -/
theorem dit_tup {S : Addr → Prop} {a : Addr} {vs : List V} (h : H a = some (.tup vs)) (r : VAll K S H vs ys) : DIt (K := K) S H (Itt K a) ys (fun _ => True) :=
  dit_of (walk_tup (xs := vs)) r.len (fun S0 H' rs F A ev _ => SqT.of (ev.tk _ _ h)) fun S0 H' rs F i v H2 y A ev _ hy ⟨e, hv⟩ => by
    subst e
    exact ⟨Same.refl _, vall_at (r.ev ev) hy hv⟩
theorem dit_btup {S : Addr → Prop} {a : Addr} {o : Obj} {vs : List V} (n : ¬ S a) (h : H a = some (.frz o (.tup vs))) (r : VAll K S H vs ys) : DIt (K := K) S H (Itt K a) ys (fun _ => True) :=
  dit_of (walk_tup (xs := vs)) r.len (fun S0 H' rs F A ev _ => .inl (.inr ⟨o, ev.btup n h⟩)) fun S0 H' rs F i v H2 y A ev _ hy ⟨e, hv⟩ => by
    subst e
    exact ⟨Same.refl _, vall_at (r.ev ev) hy hv⟩
theorem dit_lst {S : Addr → Prop} {a : Addr} {vs : List V} (n : ¬ S a) (h : H a = some (.lst vs)) (r : VAll K S H vs ys) : DIt (K := K) S H (Itl K a) ys (fun _ => True) :=
  dit_of (walk_list (xs := vs)) r.len (fun S0 H' rs F A ev _ => SqL.of (ev.lst n h)) fun S0 H' rs F i v H2 y A ev _ hy ⟨e, hv⟩ => by
    subst e
    exact ⟨Same.refl _, vall_at (r.ev ev) hy hv⟩
/-- y is walked by one of the three -/
theorem Wk.seq {R : It → Hp → Prop} (w : Wk rs y ys g) (A : At K S0 H rs F) (r : VOk K (Mu S0 F) H v y) (k : ∀ J, DIt (Mu S0 F) H J ys g → R J H) : iSeqV K R v H := by
  cases w with
  | tup xs => cases r with | da r => cases r with | tup h1 h2 => exact .inr (.inl ⟨_, rfl, ⟨_, SqT.of h1⟩, k _ (dit_tup h1 h2.vall)⟩)
  | tupS ys => cases r with | tup h1 h2 => exact .inr (.inl ⟨_, rfl, ⟨_, SqT.of h1⟩, k _ (dit_tup h1 h2)⟩)
  | lst xs => cases r with | da r => cases r with | lst n h1 h2 => exact .inl ⟨_, rfl, ⟨_, SqL.of h1⟩, k _ (dit_lst n h1 h2.vall)⟩
  | btup xs => cases r with | da r => cases r with | btup n h1 hd h2 => exact .inr (.inl ⟨_, rfl, ⟨_, .inl (.inr ⟨_, h1⟩)⟩, k _ (dit_btup n h1 h2.vall)⟩)
  | scr xs =>
    cases r with | da r => cases r with | @scr a xs h1 =>
      refine .inl ⟨_, rfl, ⟨_, h1.sq⟩, k _ (dit_of (walk_list (xs := xs.map V.int)) (by simp) (fun S0 H' rs F A ev _ => (ev.scrAt h1).sq) fun S0 H' rs F i v H2 y A ev _ hy ⟨e, hv⟩ => ?_)⟩
      subst e
      rw [List.getElem?_map] at hy hv
      obtain ⟨j, ej, rfl⟩ := Option.map_eq_some_iff.mp hy
      rw [ej] at hv
      cases hv
      exact ⟨Same.refl _, .da (.int j)⟩
  | str z =>
    cases r with | da r => cases r with | str ok =>
      refine .inr (.inr ⟨z, rfl, k _ (dit_of (walk_str (z := z)) (sgn_len z).symm (fun _ _ _ _ _ _ _ => trivial) fun S0 H' rs F i v H2 y A ev _ hy ⟨e, c, hc, hv⟩ => ?_)⟩)
      subst e hv
      unfold sgn at hy
      rw [List.getElem?_map, Array.getElem?_toList, hc] at hy
      cases hy
      refine ⟨Same.refl _, .da (.str ?_)⟩
      have := Array.all_eq_true.mp ok
      obtain ⟨lt, hc'⟩ := Array.getElem?_eq_some_iff.mp hc
      have t := this i lt
      rw [hc'] at t
      show Array.all #[c] _ = true
      simpa using t
  | @raw ad ys rs' e =>
    cases r
    obtain ⟨vs, h1, h2, hm⟩ := A.lst e
    refine .inl ⟨_, rfl, ⟨_, SqL.of h1⟩, k _ fun S1 H' rs2 F2 A2 ev ⟨rs3, e3⟩ i => ?_⟩
    obtain ⟨vs2, g1, g2, _⟩ := A2.lst e3
    have w := walk_list (K := K) (a := ad) (xs := vs2)
    refine ⟨fun y hy => ?_, fun hi => ?_⟩
    · have lt : i < vs2.length := by rw [g2.len]; exact (List.getElem?_eq_some_iff.mp hy).1
      refine ⟨w.goes i H' lt (SqL.of g1), fun x H2 yl => ?_⟩
      obtain ⟨e, hv⟩ := w.yields i H' x H2 lt (SqL.of g1) yl
      subst e
      exact ⟨Same.refl _, vall_at g2 hy hv⟩
    · rw [hi, ← g2.len]; exact w.stops H' (SqL.of g1)
end
section
variable {X : Cx} {K : PySem.W.Frag} {E : XK} {a b c e o tg : Expr} {es : List Expr} {pos : Pos} {ta tb tc td te : TD K} {tA tB : TDb K} {ts : TDa K} {st : Stmt} {rest : List Stmt} {t u : TDs K}
def dIt (te : TD K) : TDi K := fun sl rs xc q => te sl rs xc fun y rs1 => ∃ ys g, Wk rs1 y ys g ∧ q ys g rs1
theorem di_seq (h : PE X e (LE E te)) (hK : X.K = K := by rfl) : PI X tg e (LI E (dIt te)) := pi_weak (pi_seq h hK) fun σ H R ⟨S0, sl, rs, F, xc, q, N, t, k, kx⟩ => by
  exact LE.use N t kx fun v y rs1 F1 H1 st1 N1 r1 ⟨ys, g, w, t1⟩ => w.seq N1.at_ r1 fun J it => k J ys g rs1 F1 H1 st1 N1.at_ it t1
end
end HC

/-! ### range, enumerate, zip; calls of defs, methods, classes; fields -/
namespace HC
open PyProof.Rows PySem L2 PySem.Spec
section
variable {K : PySem.W.Frag} {S0 S : Addr → Prop} {H H' : Hp} {rs : List (Rs K)} {F : List Addr} {v : V} {y : Sl} {ys zs : List Sl}
def rngS (lo : Int) (n : Nat) : List Sl := (List.range n).map fun i => .da (.int (lo + (i : Nat)))
theorem dit_rng {lo : Int} {n : Nat} : DIt (K := K) S H (Itr lo n) (rngS lo n) (fun _ => True) :=
  dit_of (walk_range (lo := lo) (n := n)) (by unfold rngS; simp) (fun _ _ _ _ _ _ _ => trivial) fun S0 H' rs F i v H2 y A ev _ hy ⟨e, hv⟩ => by
    subst e hv
    unfold rngS at hy
    rw [List.getElem?_map] at hy
    obtain ⟨j, ej, rfl⟩ := Option.map_eq_some_iff.mp hy
    obtain ⟨_, ej⟩ := List.getElem?_eq_some_iff.mp ej
    rw [List.getElem_range] at ej
    subst ej
    exact ⟨Same.refl _, .da (.int _)⟩
def enumS : Nat → List Sl → List Sl
  | _, [] => []
  | n, y :: r => mkT [.da (.int n), y] :: enumS (n + 1) r
theorem enumS_len : ∀ (n : Nat) (ys : List Sl), (enumS n ys).length = ys.length
  | _, [] => rfl
  | n, _ :: r => congrArg Nat.succ (enumS_len (n + 1) r)
theorem enumS_get : ∀ (n i : Nat) (ys : List Sl), (enumS n ys)[i]? = ys[i]?.map fun y => mkT [.da (.int ((n + i : Nat) : Int)), y]
  | _, _, [] => rfl
  | n, 0, y :: r => rfl
  | n, i + 1, y :: r => by
    show (enumS (n + 1) r)[i]? = _
    rw [enumS_get (n + 1) i r, show n + 1 + i = n + (i + 1) by omega]; rfl
def zipS : List Sl → List Sl → List Sl := List.zipWith fun y z => mkT [y, z]
theorem pair_ok {T : Addr} {x z : V} {y1 y2 : Sl} (h : H T = none) (r1 : VOk K S H x y1) (r2 : VOk K S H z y2) : Same H (upd H T (.tup [x, z])) ∧ VOk K S (upd H T (.tup [x, z])) (.ref T) (mkT [y1, y2]) :=
  ⟨same_new h, mkT_ok upd_same (.cons (r1.ev (Ev.same (F := []) (same_new h))) (.cons (r2.ev (Ev.same (F := []) (same_new h))) .nil))⟩
/-- the tuple at a stands for good -/
def Std (K : PySem.W.Frag) (S : Addr → Prop) (H : Hp) (a : Addr) (vs : List V) : Prop := H a = some (.tup vs) ∨ ¬ S a ∧ ∃ o, H a = some (.frz o (.tup vs))
theorem Std.sq {a : Addr} {vs : List V} (h : Std K S H a vs) : SqT K H a vs := h.elim (fun h => SqT.of h) fun ⟨_, o, h⟩ => .inl (.inr ⟨o, h⟩)
theorem Std.ev {a : Addr} {vs : List V} {S' : Addr → Prop} {H' : Hp} {G : List Addr} (h : Std K S H a vs) (e : Ev K S S' H H' G) : SqT K H' a vs := h.elim (fun h => SqT.of (e.tk _ _ h)) fun ⟨n, o, h⟩ => .inl (.inr ⟨o, e.btup n h⟩)
theorem dit_enumT {a : Addr} {vs : List V} (h : Std K S H a vs) (r : VAll K S H vs ys) : DIt (K := K) S H (IteT K a vs.length) (enumS 0 ys) (fun _ => True) :=
  dit_of (walk_enumT (K := K) (a := a) (xs := vs)) (by rw [enumS_len]; exact r.len) (fun S0 H' rs F A ev _ => h.ev ev) fun S0 H' rs F i v H2 y A ev _ hy ⟨T, x, z, e1, e2, e3, e4, e5⟩ => by
    subst e1 e3
    cases e4
    rw [enumS_get] at hy
    obtain ⟨y0, ey, rfl⟩ := Option.map_eq_some_iff.mp hy
    rw [Nat.zero_add]
    exact pair_ok e2 (.da (.int _)) (vall_at (r.ev ev) ey e5)
theorem dit_enumL {a : Addr} {vs : List V} (n : ¬ S a) (h : H a = some (.lst vs)) (r : VAll K S H vs ys) : DIt (K := K) S H (Ite K a) (enumS 0 ys) (fun _ => True) :=
  dit_of (walk_enum (K := K) (a := a) (xs := vs)) (by rw [enumS_len]; exact r.len) (fun S0 H' rs F A ev _ => SqL.of (ev.lst n h)) fun S0 H' rs F i v H2 y A ev _ hy ⟨T, x, z, e1, e2, e3, e4, e5⟩ => by
    subst e1 e3
    cases e4
    rw [enumS_get] at hy
    obtain ⟨y0, ey, rfl⟩ := Option.map_eq_some_iff.mp hy
    rw [Nat.zero_add]
    exact pair_ok e2 (.da (.int _)) (vall_at (r.ev ev) ey e5)
theorem zipS_len {ys zs : List Sl} : (zipS ys zs).length = min ys.length zs.length := List.length_zipWith
theorem zipS_get {ys zs : List Sl} {i : Nat} {y : Sl} (h : (zipS ys zs)[i]? = some y) : ∃ y1 y2, ys[i]? = some y1 ∧ zs[i]? = some y2 ∧ y = mkT [y1, y2] := by
  unfold zipS at h
  rw [List.getElem?_zipWith] at h
  cases h1 : ys[i]? with
  | none => (rw [h1] at h; cases h)
  | some y1 =>
    cases h2 : zs[i]? with
    | none => (rw [h1, h2] at h; cases h)
    | some y2 =>
      rw [h1, h2] at h
      cases h
      exact ⟨y1, y2, rfl, rfl, rfl⟩
theorem dit_zipL {a b : Addr} {vs us : List V} (n : ¬ S a) (h : H a = some (.lst vs)) (n2 : ¬ S b) (h2 : H b = some (.lst us)) (r : VAll K S H vs ys) (r2 : VAll K S H us zs) : DIt (K := K) S H (Itz K a b) (zipS ys zs) (fun _ => True) :=
  dit_of (walk_zip (K := K) (a := a) (b := b) (xs := vs) (ys := us) rfl) (by rw [zipS_len, r.len, r2.len]) (fun S0 H' rs F A ev _ => ⟨SqL.of (ev.lst n h), SqL.of (ev.lst n2 h2)⟩) fun S0 H' rs F i v H2 y A ev _ hy ⟨T, x, z, e1, e2, e3, e4, e5⟩ => by
    subst e1 e3
    obtain ⟨y1, y2, g1, g2, rfl⟩ := zipS_get hy
    exact pair_ok e2 (vall_at (r.ev ev) g1 e4) (vall_at (r2.ev ev) g2 e5)
theorem walk_zipT {a b : Addr} {xs ys : List V} : Walk (RZ.ItzT K a b) (min xs.length ys.length) (fun H => SqT K H a xs ∧ SqT K H b ys) (YPair (fun i => xs[i]?) (fun i => ys[i]?)) := by
  refine ⟨fun i H lt st => ?_, fun H st => ⟨xs, ys, st.1, st.2, by omega⟩, fun i H v H' _ st pr => ?_⟩
  · obtain ⟨lx, ly⟩ := Nat.lt_min.mp lt
    exact ⟨xs, ys, xs[i], ys[i], st.1, st.2, List.getElem?_eq_getElem lx, List.getElem?_eq_getElem ly⟩
  · obtain ⟨T, x, z, e1, e2, e3, gx, gy⟩ := pr
    exact ⟨T, x, z, e1, e2, e3, gx xs st.1, gy ys st.2⟩
theorem dit_zipT {a b : Addr} {vs us : List V} (h : Std K S H a vs) (h2 : Std K S H b us) (r : VAll K S H vs ys) (r2 : VAll K S H us zs) : DIt (K := K) S H (RZ.ItzT K a b) (zipS ys zs) (fun _ => True) :=
  dit_of (walk_zipT (K := K) (a := a) (b := b) (xs := vs) (ys := us)) (by rw [zipS_len, r.len, r2.len]) (fun S0 H' rs F A ev _ => ⟨h.ev ev, h2.ev ev⟩) fun S0 H' rs F i v H2 y A ev _ hy ⟨T, x, z, e1, e2, e3, e4, e5⟩ => by
    subst e1 e3
    obtain ⟨y1, y2, g1, g2, rfl⟩ := zipS_get hy
    exact pair_ok e2 (vall_at (r.ev ev) g1 e4) (vall_at (r2.ev ev) g2 e5)
/-- the items of a list or a tuple that stand -/
inductive TI2 : Sl → List Sl → Prop
  | da (xs : List Da) : TI2 (.da (.tup xs)) (xs.map .da)
  | tup (ys : List Sl) : TI2 (.tup ys) ys
  | btup (xs : List Da) : TI2 (.da (.btup xs)) (xs.map .da)
theorem TI2.ok (i : TI2 y ys) (r : VOk K S H v y) : ∃ a vs, v = .ref a ∧ Std K S H a vs ∧ VAll K S H vs ys := by
  cases i with
  | da xs => cases r with | da r => cases r with | tup h1 h2 => exact ⟨_, _, rfl, .inl h1, h2.vall⟩
  | tup ys => cases r with | tup h1 h2 => exact ⟨_, _, rfl, .inl h1, h2⟩
  | btup xs => cases r with | da r => cases r with | btup n h1 hd h2 => exact ⟨_, _, rfl, .inr ⟨n, _, h1⟩, h2.vall⟩
end
section
variable {X : Cx} {K : PySem.W.Frag} {E : XK} {a b c e o tg : Expr} {es : List Expr} {pos : Pos} {ta tb tc td te : TD K} {tA tB : TDb K} {ts : TDa K} {st : Stmt} {rest : List Stmt} {t u : TDs K}
def dRng1 (ts : TDa K) : TDi K := fun sl rs xc q => ts sl rs xc fun ys rs1 => ∃ j : Int, ys = [.da (.int j)] ∧ (-(2 ^ 62) ≤ j ∧ j < 2 ^ 62) ∧ q (rngS 0 j.toNat) (fun _ => True) rs1
theorem vone {S : Addr → Prop} {H : Hp} {vs : List V} {y : Sl} (h : VAll K S H vs [y]) : ∃ v, vs = [v] ∧ VOk K S H v y := by
  cases h with | cons h t => cases t; exact ⟨_, rfl, h⟩
theorem vtwo {S : Addr → Prop} {H : Hp} {vs : List V} {y z : Sl} (h : VAll K S H vs [y, z]) : ∃ v u, vs = [v, u] ∧ VOk K S H v y ∧ VOk K S H u z := by
  cases h with | cons h t => cases t with | cons h2 t => cases t; exact ⟨_, _, rfl, h, h2⟩
theorem vint {S : Addr → Prop} {H : Hp} {v : V} {i : Int} (h : VOk K S H v (.da (.int i))) : v = .int i := by
  cases h with | da h => cases h; rfl
theorem vbl {S : Addr → Prop} {H : Hp} {v : V} {i : Bool} (h : VOk K S H v (.da (.bl i))) : v = .bl i := by
  cases h with | da h => cases h; rfl
theorem di_rng1 (h : PI X tg e (iRng1 (LA E ts))) : PI X tg e (LI E (dRng1 ts)) := pi_weak h fun σ H R ⟨S0, sl, rs, F, xc, q, N, t, k, kx⟩ =>
  LA.use N t kx fun vs ys rs1 F1 H1 st1 N1 r1 ⟨j, ej, ⟨h1, h2⟩, t1⟩ => by
    subst ej
    obtain ⟨v, rfl, r⟩ := vone r1
    cases vint r
    exact ⟨j, rfl, h1, h2, k _ _ _ rs1 F1 H1 st1 N1.at_ dit_rng t1⟩
def dRng2 (ts : TDa K) : TDi K := fun sl rs xc q => ts sl rs xc fun ys rs1 => ∃ i j : Int, ys = [.da (.int i), .da (.int j)] ∧ (-(2 ^ 62) ≤ i ∧ i < 2 ^ 62 ∧ -(2 ^ 62) ≤ j ∧ j < 2 ^ 62) ∧ q (rngS i (j - i).toNat) (fun _ => True) rs1
theorem di_rng2 (h : PI X tg e (iRng2 (LA E ts))) : PI X tg e (LI E (dRng2 ts)) := pi_weak h fun σ H R ⟨S0, sl, rs, F, xc, q, N, t, k, kx⟩ =>
  LA.use N t kx fun vs ys rs1 F1 H1 st1 N1 r1 ⟨i, j, ej, h1, t1⟩ => by
    subst ej
    obtain ⟨v, u, rfl, r, r2⟩ := vtwo r1
    cases vint r
    cases vint r2
    exact ⟨i, j, rfl, h1, k _ _ _ rs1 F1 H1 st1 N1.at_ dit_rng t1⟩
def dEnT (ts : TDa K) : TDi K := fun sl rs xc q => ts sl rs xc fun ys rs1 => ∃ y zs, ys = [y] ∧ TI2 y zs ∧ q (enumS 0 zs) (fun _ => True) rs1
theorem di_enT (h : PI X tg e (iEnumT K (LA E ts))) : PI X tg e (LI E (dEnT ts)) := pi_weak h fun σ H R ⟨S0, sl, rs, F, xc, q, N, t, k, kx⟩ =>
  LA.use N t kx fun vs ys rs1 F1 H1 st1 N1 r1 ⟨y, zs, ej, i, t1⟩ => by
    subst ej
    obtain ⟨v, rfl, r⟩ := vone r1
    obtain ⟨p, us, rfl, h1, h2⟩ := i.ok r
    exact ⟨p, us, rfl, h1.sq, k _ _ _ rs1 F1 H1 st1 N1.at_ (dit_enumT h1 h2) t1⟩
def dEnL (ts : TDa K) : TDi K := fun sl rs xc q => ts sl rs xc fun ys rs1 => ∃ xs, ys = [.da (.lst xs)] ∧ q (enumS 0 (xs.map .da)) (fun _ => True) rs1
theorem di_enL (h : PI X tg e (iEnum K (LA E ts))) : PI X tg e (LI E (dEnL ts)) := pi_weak h fun σ H R ⟨S0, sl, rs, F, xc, q, N, t, k, kx⟩ =>
  LA.use N t kx fun vs ys rs1 F1 H1 st1 N1 r1 ⟨xs, ej, t1⟩ => by
    subst ej
    obtain ⟨v, rfl, r⟩ := vone r1
    cases r with | da r => cases r with | lst n h1 h2 => exact ⟨_, _, rfl, SqL.of h1, k _ _ _ rs1 F1 H1 st1 N1.at_ (dit_enumL n h1 h2.vall) t1⟩
/-- zip of two tuples, of two lists -/
inductive Zi : List Sl → List Sl → Prop
  | t {y z : Sl} {ys zs : List Sl} : TI2 y ys → TI2 z zs → Zi [y, z] (zipS ys zs)
  | l (xs ws : List Da) : Zi [.da (.lst xs), .da (.lst ws)] (zipS (xs.map .da) (ws.map .da))
def dZip (ts : TDa K) : TDi K := fun sl rs xc q => ts sl rs xc fun ys rs1 => ∃ zs, Zi ys zs ∧ q zs (fun _ => True) rs1
theorem di_zip (h : PI X tg e (RZ.iZipA K (LA E ts))) : PI X tg e (LI E (dZip ts)) := pi_weak h fun σ H R ⟨S0, sl, rs, F, xc, q, N, t, k, kx⟩ =>
  LA.use N t kx fun vs ys rs1 F1 H1 st1 N1 r1 ⟨zs, zi, t1⟩ => by
    cases zi with
    | t i1 i2 =>
      obtain ⟨v, u, rfl, r, r2⟩ := vtwo r1
      obtain ⟨p, us, rfl, h1, h2⟩ := i1.ok r
      obtain ⟨p2, us2, rfl, g1, g2⟩ := i2.ok r2
      exact ⟨p, p2, us, us2, rfl, .inr ⟨h1.sq, g1.sq, k _ _ _ rs1 F1 H1 st1 N1.at_ (dit_zipT h1 g1 h2 g2) t1⟩⟩
    | l xs ws =>
      obtain ⟨v, u, rfl, r, r2⟩ := vtwo r1
      cases r with | da r => cases r with | lst n h1 h2 =>
        cases r2 with | da r2 => cases r2 with | lst n2 g1 g2 =>
          exact ⟨_, _, _, _, rfl, .inl ⟨SqL.of h1, SqL.of g1, k _ _ _ rs1 F1 H1 st1 N1.at_ (dit_zipL n h1 n2 g1 h2.vall g2.vall) t1⟩⟩
/-! ### calls -/
/-- lent: a thing that may change is read as data, for a while -/
inductive LendS (rs : List (Rs K)) : Sl → Sl → Prop
  | same (y : Sl) : LendS rs y y
  | lst {a : Addr} {xs : List Da} {rs' : List (Rs K)} : Ext (lstR a (xs.map .da)) rs rs' → LendS rs (.raw (.ref a)) (.da (.lst xs))
  | obj {a C : Addr} {fs : List (Str × Da)} {rs' : List (Rs K)} : Ext (objR a C (fs.map fun f => (f.1, .da f.2))) rs rs' → LendS rs (.raw (.ref a)) (.da (.obj C fs))
  | dK {a : Addr} {fs : List (Key × Da)} {rs' : List (Rs K)} : Ext (dctR a (fs.map fun f => (f.1, .da f.2))) rs rs' → LendS rs (.raw (.ref a)) (.da (.dK fs))
  | dT {a : Addr} {fs : List (List Key × Da)} {rs' : List (Rs K)} : Ext (dctT a (fs.map fun f => (f.1, .da f.2))) rs rs' → LendS rs (.raw (.ref a)) (.da (.dT fs))
def scaD : Da → Bool
  | .non => true
  | .bl _ => true
  | .int _ => true
  | .str _ => true
  | _ => false
theorem das2' {α : Type} {S : Addr → Prop} {H : Hp} {vs : List V} {fs : List (α × Da)} (h : VAll K S H vs ((fs.map fun f => (f.1, Sl.da f.2)).map (·.2))) : DeAll K S H vs (fs.map (·.2)) := by
  refine VAll.das ?_
  rw [List.map_map] at h ⊢
  exact h
theorem LendS.ok {S0 : Addr → Prop} {H : Hp} {rs : List (Rs K)} {F : List Addr} {v : V} {y y' : Sl} (h : LendS rs y y') (A : At K S0 H rs F) (r : VOk K (Mu S0 F) H v y) : VOk K (Mu S0 []) H v y' := by
  have le : Ev K (Mu S0 F) (Mu S0 []) H H [] := Ev.less fun b z => z.imp id fun m => absurd m (by simp)
  have off : ∀ {a}, a ∈ F → ¬ Mu S0 [] a := fun m z => z.elim (A.off _ m) fun m => absurd m (by simp)
  cases h with
  | same => exact r.ev le
  | lst e => cases r; obtain ⟨vs, h1, h2, m⟩ := A.lst e; exact .da (.lst (off m) h1 (h2.das.ev le))
  | obj e => cases r; obtain ⟨dx, gs, h1, h2, h3, m⟩ := A.obj e; exact .da (.obj (off m) h1 (by rw [h2, List.map_map]; rfl) ((das2' h3).ev le))
  | dK e => cases r; obtain ⟨gs, h1, h2, h3, m⟩ := A.dct e; exact .da (.dK (off m) (.inl h1) (by rw [h2, List.map_map]; rfl) ((das2' h3).ev le))
  | dT e => cases r; obtain ⟨gs, h1, h2, h3, m⟩ := A.dctT e; exact .da (.dT (off m) (.inl h1) (by rw [h2, List.map_map]; rfl) ((das2' h3).ev le))
theorem lend_all {S0 : Addr → Prop} {H : Hp} {rs : List (Rs K)} {F : List Addr} (A : At K S0 H rs F) : ∀ {vs : List V} {ys ys' : List Sl}, Paired (LendS rs) ys ys' → VAll K (Mu S0 F) H vs ys → VAll K (Mu S0 []) H vs ys'
  | _, _, _, .nil, .nil => .nil
  | _, _, _, .cons h t, .cons r q => .cons (h.ok A r) (lend_all A t q)
theorem At.bare (A : At K S0 H rs F) : At K S0 H [] [] := ⟨rfl, by simp, fun b hb => absurd hb (by simp), fun b hb => A.liv b (hb.imp id fun m => absurd m (by simp))⟩
theorem VOk.scaD {S S' : Addr → Prop} {H : Hp} {v : V} {x : Da} (r : VOk K S H v (.da x)) (h : scaD x = true) : VOk K S' H v (.da x) := by
  cases r with | da r => cases r <;> first | exact .da (.non) | exact .da (.bl _) | exact .da (.int _) | (exact .da (.str (by assumption))) | cases h
/-- D is asked of some of the things, the others stand; or all things are lent, and D tells a number, a text, a truth -/
def Ask (D : SpD K) (ys : List Sl) (rs : List (Rs K)) (xc : XD K) (q : QD K) : Prop := (∃ rc rf, Gets rc rs rf ∧ D ys rc (fun x rc' => xc x (rc' ++ rf)) fun y rc' => q y (rc' ++ rf)) ∨
  ∃ ys', Paired (LendS rs) ys ys' ∧ D ys' [] (fun _ _ => False) fun y _ => ∃ x, y = .da x ∧ scaD x = true ∧ q (.da x) rs
theorem Ask.sp {D : SpD K} {ys : List Sl} {S0 : Addr → Prop} {H : Hp} {rs : List (Rs K)} {F : List Addr} {vs : List V} {xc : XD K} {q : QD K} {Q : VK} (h : Ask D ys rs xc q) (A : At K S0 H rs F) (r : VAll K (Mu S0 F) H vs ys) (k : Out S0 F H q Q) (kx : OutX S0 F H xc E) : spD D vs H Q E := by
  rcases h with ⟨rc, rf, g, h⟩ | ⟨ys', ln, h⟩
  case inr =>
    refine ⟨S0, ys', [], [], _, _, A.bare, lend_all A ln r, h, ?_, fun _ _ _ _ _ _ _ _ _ z => z.elim⟩
    rintro v y rc' Fc' H' st B' rv ⟨x, rfl, sx, hq⟩
    have s : Same H H' := fun b o e => st.keep b o (by simp) e
    exact k v _ rs F H' (Stp.same s) (A.same s) (rv.scaD sx) hq
  obtain ⟨F1, p, A1⟩ := A.perm g.perm
  obtain ⟨Fc, Ff, rfl, B, em, hf⟩ := A1.call
  have em2 : Mu (Mu S0 Ff) Fc = Mu S0 F := em.trans (mu_perm p).symm
  refine ⟨Mu S0 Ff, ys, rc, Fc, _, _, B, by rw [em2]; exact r, h, ?_, ?_⟩
  · intro v y rc' Fc' H' st B' rv hq
    obtain ⟨A2, st2⟩ := A1.back hf st B'
    exact k v y _ _ H' (st2.perm p.symm (.refl _)) A2 (by rw [← mu_app]; exact rv) hq
  · intro x u d rc' Fc' H' st B' rx hq
    obtain ⟨A2, st2⟩ := A1.back hf st B'
    exact kx x u d _ _ H' (st2.perm p.symm (.refl _)) A2 (by rw [← mu_app]; exact rx) hq
def dCall (D : SpD K) (ts : TDa K) : TD K := fun sl rs xc q => ts sl rs xc fun ys rs1 => Ask D ys rs1 xc q
theorem le_call {D : SpD K} {σ : L2.St} {H : Hp} {Q : VK} (l : LE E (dCall D ts) σ H Q) : tCallR (spD D) E (LA E ts) σ H Q := by
  obtain ⟨S0, sl, rs, F, xc, q, N, t, k, kx⟩ := l
  exact LA.use N t kx fun vs ys rs1 F1 H1 st1 N1 r1 t1 => t1.sp N1.at_ r1 (k.after st1) (kx.after st1)
theorem d_call {D : SpD K} (h : PE X e (tCallR (spD D) E (LA E ts))) : PE X e (LE E (dCall D ts)) := pe_weak h fun _ _ _ => le_call
/-- y is an instance of C with fields of these names -/
inductive IsO (rs : List (Rs K)) : Sl → Addr → List Str → Prop
  | da {C : Addr} (fs : List (Str × Da)) : IsO rs (.da (.obj C fs)) C (fs.map (·.1))
  | raw {a C : Addr} {fs : List (Str × Sl)} {rs' : List (Rs K)} : Ext (objR a C fs) rs rs' → IsO rs (.raw (.ref a)) C (fs.map (·.1))
theorem IsO.ok {rs : List (Rs K)} {y : Sl} {C : Addr} {nm : List Str} {S0 : Addr → Prop} {H : Hp} {F : List Addr} {v : V} (i : IsO rs y C nm) (A : At K S0 H rs F) (r : VOk K (Mu S0 F) H v y) : ∃ a dx gs, v = .ref a ∧ H a = some (.ins C dx gs) ∧ gs.map (·.1) = nm := by
  cases i with
  | da fs => cases r with | da r => cases r with | obj n h1 h2 h3 => exact ⟨_, _, _, rfl, h1, h2⟩
  | raw e =>
    cases r
    obtain ⟨dx, gs, h1, h2, _⟩ := A.obj e
    exact ⟨_, _, _, rfl, h1, h2⟩
theorem lookup_no {α : Type} {f : Str} : ∀ {gs : List (Str × α)}, f ∉ gs.map (·.1) → gs.lookup f = none
  | [], _ => rfl
  | (g, x) :: r, h => by
    have h1 : f ≠ g := fun e => h (by rw [e]; exact List.mem_cons_self)
    rw [List.lookup, show (f == g) = false from beq_eq_false_iff_ne.mpr h1]
    exact lookup_no fun m => h (List.mem_cons_of_mem _ m)
def dMeth (C : Addr) (m : Str) (D : SpD K) (ta : TD K) (ts : TDa K) : TD K := fun sl rs xc q => ta sl rs xc fun y rs1 => (∃ nm, IsO rs1 y C nm ∧ m ∉ nm) ∧ ts sl rs1 xc fun ys rs2 => Ask D (y :: ys) rs2 xc q
theorem d_meth {C : Addr} {m : Str} {D : SpD K} (h : PE X e (tMethR C m (spD D) E (LE E ta) (LA E ts))) : PE X e (LE E (dMeth C m D ta ts)) := pe_weak h fun σ H Q ⟨S0, sl, rs, F, xc, q, N, t, k, kx⟩ =>
  LE.use N t kx fun v y rs1 F1 H1 st1 N1 r1 ⟨⟨nm, io, no⟩, t1⟩ => by
    obtain ⟨p, dx, gs, rfl, h1, h2⟩ := io.ok N1.at_ r1
    refine ⟨p, dx, gs, rfl, h1, lookup_no (by rw [h2]; exact no), LA.use N1 t1 (kx.after st1) fun vs ys rs2 F2 H2 st2 N2 r2 t2 => ?_⟩
    exact t2.sp N2.at_ (.cons (r1.ev (st2.ev N1.at_)) r2) (k.after (st1.trans st2)) (kx.after (st1.trans st2))
def dProp (C : Addr) (D : SpD K) (ta : TD K) : TD K := fun sl rs xc q => ta sl rs xc fun y rs1 => (∃ nm, IsO rs1 y C nm) ∧ Ask D [y] rs1 xF q
theorem d_prop {C : Addr} {D : SpD K} (h : PE X e (tPropR C (spD D) (LE E ta))) : PE X e (LE E (dProp C D ta)) := pe_weak h fun σ H Q ⟨S0, sl, rs, F, xc, q, N, t, k, kx⟩ =>
  LE.use N t kx fun v y rs1 F1 H1 st1 N1 r1 ⟨⟨nm, io⟩, t1⟩ => by
    obtain ⟨p, dx, gs, rfl, h1, h2⟩ := io.ok N1.at_ r1
    exact ⟨p, dx, gs, rfl, h1, t1.sp N1.at_ (.cons r1 .nil) (k.after st1) outX_F⟩
/-- what C(..) does: its __init__ keeps D -/
def Mks (C : Addr) (D D' : SpD K) : Prop := ∀ ys rs xc q, D' ys rs xc q → ∀ a, D (.raw (.ref a) :: ys) (objR a C [] :: rs) xc fun y rs' => y = .da .non ∧ Gv q (.raw (.ref a)) rs'
theorem Ask.mk {C : Addr} {D D' : SpD K} {ys : List Sl} {S0 : Addr → Prop} {H : Hp} {rs : List (Rs K)} {F : List Addr} {vs : List V} {xc : XD K} {q : QD K} {Q : VK} (mk : Mks C D D') (h : Ask D' ys rs xc q) (A : At K S0 H rs F) (r : VAll K (Mu S0 F) H vs ys) (k : Out S0 F H q Q) (kx : OutX S0 F H xc E) :
    ∀ x dx, H x = none → H dx = none → dx ≠ x → spD D (.ref x :: vs) (upd (upd H dx (.own x)) x (.ins C dx [])) (fun v H2 => v = .non ∧ Q (.ref x) H2) E := by
  intro x dx hx hd ne
  rcases h with ⟨rc, rf, g, h⟩ | ⟨ys', ln, h⟩
  case inr =>
    have s : Same H (upd (upd H dx (.own x)) x (.ins C dx [])) := fun b o e => by rw [upd_ne (ne_of_none e hx), upd_ne (ne_of_none e hd)]; exact e
    have B := A.bare
    obtain ⟨B1, st1⟩ := B.new (R := objR x C []) (G := [x]) s (fun b hb => by rw [List.mem_singleton.mp hb]; exact hx) (by simp) (fun b hb => by rw [List.mem_singleton.mp hb, upd_same]; exact ⟨trivial, nofun⟩) ⟨rfl, dx, [], upd_same, rfl, .nil⟩
    refine ⟨S0, _, _, _, _, _, B1, .cons (.raw _) ((lend_all A ln r).ev (st1.ev B)), mk ys' [] _ _ h x, ?_, fun _ _ _ _ _ _ _ _ _ z => z.elim⟩
    rintro v y rc' Fc' H' st B' rv ⟨rfl, y2, rc2, gh, z, rfl, sz, hq⟩
    obtain ⟨F2, hF, B2, rv2⟩ := gh _ H' Fc' (.ref x) B' (.raw _)
    cases rv2 with | da d => cases d <;> cases sz
  obtain ⟨F1, p, A1⟩ := A.perm g.perm
  obtain ⟨Fc, Ff, rfl, B, em, hf⟩ := A1.call
  have em2 : Mu (Mu S0 Ff) Fc = Mu S0 F := em.trans (mu_perm p).symm
  have s : Same H (upd (upd H dx (.own x)) x (.ins C dx [])) := fun b o e => by rw [upd_ne (ne_of_none e hx), upd_ne (ne_of_none e hd)]; exact e
  have ev1 : Ev K (Mu S0 F) (Mu (Mu S0 Ff) ([x] ++ Fc)) H (upd (upd H dx (.own x)) x (.ins C dx [])) [] := ⟨fun b z => by
    rcases z with z | z
    · rw [← em2]; exact .inl (.inl z)
    · rcases List.mem_append.mp z with z | z
      · rw [List.mem_singleton.mp z]; exact .inr hx
      · rw [← em2]; exact .inl (.inr z), fun b o _ h => ⟨o, s b o h, .refl o⟩, fun b o m h => (nomatch m), fun a _ h => s a _ h⟩
  obtain ⟨B1, st1⟩ := B.new (R := objR x C []) (G := [x]) s (fun b hb => by rw [List.mem_singleton.mp hb]; exact hx) (by simp) (fun b hb => by rw [List.mem_singleton.mp hb, upd_same]; exact ⟨trivial, nofun⟩) ⟨rfl, dx, [], upd_same, rfl, .nil⟩
  refine ⟨Mu S0 Ff, _, _, _, _, _, B1, .cons (.raw _) (r.ev ev1), mk ys rc _ _ h x, ?_, ?_⟩
  · rintro v y rc' Fc' H' st B' rv ⟨rfl, y2, rc2, gh, hq⟩
    refine ⟨by cases rv with | da rv => cases rv; rfl, ?_⟩
    obtain ⟨F2, hF, B2, rv2⟩ := gh _ H' Fc' (.ref x) B' (.raw _)
    obtain ⟨A2, st2⟩ := A1.back hf ((st1.trans st).less hF) B2
    exact k (.ref x) y2 _ _ H' (st2.perm p.symm (.refl _)) A2 (by rw [← mu_app]; exact rv2) hq
  · intro x' u d rc' Fc' H' st B' rx hq
    obtain ⟨A2, st2⟩ := A1.back hf (st1.trans st) B'
    exact kx x' u d _ _ H' (st2.perm p.symm (.refl _)) A2 (by rw [← mu_app]; exact rx) hq
def dMake (D' : SpD K) (ts : TDa K) : TD K := dCall D' ts
theorem d_make {C : Addr} {D D' : SpD K} (h : PE X e (StX.tMakeR C (spD D) E (LA E ts))) (mk : Mks C D D') : PE X e (LE E (dMake D' ts)) := pe_weak h fun σ H Q ⟨S0, sl, rs, F, xc, q, N, t, k, kx⟩ =>
  LA.use N t kx fun vs ys rs1 F1 H1 st1 N1 r1 t1 => t1.mk mk N1.at_ r1 (k.after st1) (kx.after st1)
/-! ### fields -/
inductive FldOf (rs : List (Rs K)) : Sl → Addr → Str → Sl → Prop
  | da {C : Addr} {fs : List (Str × Da)} {f : Str} {x : Da} : fs.lookup f = some x → FldOf rs (.da (.obj C fs)) C f (.da x)
  | raw {a C : Addr} {fs : List (Str × Sl)} {f : Str} {y : Sl} {rs' : List (Rs K)} : Ext (objR a C fs) rs rs' → fs.lookup f = some y → FldOf rs (.raw (.ref a)) C f y
theorem lookup_v {S : Addr → Prop} {H : Hp} {f : Str} {y : Sl} : ∀ {gs : List (Str × V)} {fs : List (Str × Sl)}, gs.map (·.1) = fs.map (·.1) → VAll K S H (gs.map (·.2)) (fs.map (·.2)) → fs.lookup f = some y → ∃ v, gs.lookup f = some v ∧ VOk K S H v y
  | [], [], _, _, h => by cases h
  | (g, x) :: r, (g', z) :: r', e, a, h => by
    injection e with e1 e2
    dsimp only at e1
    subst e1
    cases a with
    | cons a1 a2 =>
      by_cases q : (f == g) = true
      · simp only [List.lookup, q] at h ⊢
        cases h
        exact ⟨x, rfl, a1⟩
      · have q' : (f == g) = false := by simpa using q
        simp only [List.lookup, q'] at h ⊢
        exact lookup_v e2 a2 h
  | [], _ :: _, e, _, _ => by cases e
  | _ :: _, [], e, _, _ => by cases e
theorem lookup_map {f : Str} {x : Da} : ∀ {fs : List (Str × Da)}, fs.lookup f = some x → (fs.map fun g => (g.1, Sl.da g.2)).lookup f = some (.da x)
  | [], h => by cases h
  | (g, z) :: r, h => by
    by_cases q : (f == g) = true
    · simp only [List.lookup, q, List.map] at h ⊢
      cases h; rfl
    · have q' : (f == g) = false := by simpa using q
      simp only [List.lookup, q', List.map] at h ⊢
      exact lookup_map h
theorem FldOf.ok {rs : List (Rs K)} {y z : Sl} {C : Addr} {f : Str} {S0 : Addr → Prop} {H : Hp} {F : List Addr} {v : V} (i : FldOf rs y C f z) (A : At K S0 H rs F) (r : VOk K (Mu S0 F) H v y) : ∃ a dx gs u, v = .ref a ∧ H a = some (.ins C dx gs) ∧ gs.lookup f = some u ∧ VOk K (Mu S0 F) H u z := by
  cases i with
  | @da C fs f x h =>
    cases r with | da r => cases r with | @obj a _ dx gs _ n h1 h2 h3 =>
      have h2' : gs.map (·.1) = (fs.map fun g => (g.1, Sl.da g.2)).map (·.1) := by rw [h2, List.map_map]; rfl
      have h3' : VAll K (Mu S0 F) H (gs.map (·.2)) ((fs.map fun g => (g.1, Sl.da g.2)).map (·.2)) := by
        have := h3.vall
        rw [List.map_map] at this ⊢
        exact this
      obtain ⟨u, e, ru⟩ := lookup_v h2' h3' (lookup_map h)
      exact ⟨_, dx, gs, u, rfl, h1, e, ru⟩
  | raw e h =>
    cases r
    obtain ⟨dx, gs, h1, h2, h3, _⟩ := A.obj e
    obtain ⟨u, e, ru⟩ := lookup_v h2 h3 h
    exact ⟨_, dx, gs, u, rfl, h1, e, ru⟩
/-- what the class C may have as a field -/
structure FN (K : PySem.W.Frag) (C : Addr) (f : Str) : Prop where
  cl : Cls K C
  no : NoAttr K C f
def dFld (f : Str) (ta : TD K) : TD K := fun sl rs xc q => ta sl rs xc fun y rs1 => ∃ C z, FldOf rs1 y C f z ∧ FN K C f ∧ Kn z ∧ q z rs1
theorem d_fld {f : Str} (h : PE X e (tFld K (LE E ta) f)) : PE X e (LE E (dFld f ta)) := pe_weak h fun σ H Q ⟨S0, sl, rs, F, xc, q, N, t, k, kx⟩ =>
  LE.use N t kx fun v y rs1 F1 H1 st1 N1 r1 ⟨C, z, fo, fn, _, t1⟩ => by
    obtain ⟨p, dx, gs, u, rfl, h1, e, ru⟩ := fo.ok N1.at_ r1
    exact ⟨p, C, dx, gs, u, rfl, h1, fn.cl, fn.no, e, k u z rs1 F1 H1 st1 N1.at_ ru t1⟩
def putS (f : Str) (v : Sl) : List (Str × Sl) → List (Str × Sl)
  | [] => [(f, v)]
  | (g, x) :: r => if g = f then (g, v) :: r else (g, x) :: putS f v r
theorem put_v {S : Addr → Prop} {H : Hp} {f : Str} {v : V} {y : Sl} (h : VOk K S H v y) : ∀ {gs : List (Str × V)} {fs : List (Str × Sl)}, gs.map (·.1) = fs.map (·.1) → VAll K S H (gs.map (·.2)) (fs.map (·.2)) → (putF f v gs).map (·.1) = (putS f y fs).map (·.1) ∧ VAll K S H ((putF f v gs).map (·.2)) ((putS f y fs).map (·.2))
  | [], [], _, _ => ⟨rfl, .cons h .nil⟩
  | (g, x) :: r, (g', z) :: r', e, a => by
    injection e with e1 e2
    dsimp only at e1
    subst e1
    cases a with
    | cons a1 a2 =>
      unfold putF putS
      by_cases q : g = f
      · rw [if_pos q, if_pos q]
        exact ⟨congrArg (g :: ·) e2, .cons h a2⟩
      · rw [if_neg q, if_neg q]
        obtain ⟨i1, i2⟩ := put_v h e2 a2
        exact ⟨congrArg (g :: ·) i1, .cons a1 i2⟩
  | [], _ :: _, e, _ => by cases e
  | _ :: _, [], e, _ => by cases e
def dSFld (f : Str) (ta tv : TD K) : TDs K := fun d sl rs => tv sl rs d.xc fun y rs1 => Kn y ∧ ta sl rs1 d.xc fun z rs2 => ∃ a C fs rs3, z = .raw (.ref a) ∧ Rep (objR a C fs) (objR a C (putS f y fs)) rs2 rs3 ∧ FN K C f ∧ fs.length < 1000 ∧ d.nx sl rs3
theorem Rep.ext {R R' : Rs K} {rs rs' : List (Rs K)} (h : Rep R R' rs rs') : ∃ r, Ext R rs r := by
  induction h with
  | here => exact ⟨_, .here⟩
  | there _ ih => exact let ⟨r, e⟩ := ih; ⟨_, .there e⟩
theorem At.fld {a C : Addr} {fs : List (Str × Sl)} {f : Str} {v : V} {y : Sl} {S0 : Addr → Prop} {H : Hp} {rs rs' : List (Rs K)} {F : List Addr} (A : At K S0 H rs F) (rep : Rep (objR a C fs) (objR a C (putS f y fs)) rs rs') (r : VOk K (Mu S0 F) H v y) :
    ∃ dx gs, H a = some (.ins C dx gs) ∧ gs.length = fs.length ∧ ∃ F', F.Perm F' ∧ At K S0 (upd H a (.ins C dx (putF f v gs))) rs' F' ∧ Stp F H F' (upd H a (.ins C dx (putF f v gs))) := by
  obtain ⟨r0, e⟩ := rep.ext
  obtain ⟨dx, gs, h1, h2, h3, _⟩ := A.obj e
  refine ⟨dx, gs, h1, by have := congrArg List.length h2; simpa using this, A.write rep trivial (fun G h => h.1) fun ev => ?_⟩
  obtain ⟨i1, i2⟩ := put_v (f := f) (r.ev ev) h2 (h3.ev ev)
  exact ⟨rfl, dx, _, upd_same, i1, i2⟩
theorem ds_fld {f : Str} (h : PS X st (sFld K (LE E ta) (LE E te) f)) : PS X st (LS E (dSFld f ta te)) := ps_weak h fun D σ H ⟨S0, sl, rs, F, d, N, t, k1, k2, k3, k4, k5⟩ =>
  LE.use N t k5 fun v y rs1 F1 H1 st1 N1 r1 ⟨_, t1⟩ => LE.use N1 t1 (k5.after st1) fun w z rs2 F2 H2 st2 N2 r2 t2 => by
    obtain ⟨p, C, fs, rs3, rfl, rep, fn, few, t3⟩ := t2
    cases r2
    obtain ⟨dx, gs, h1, hl, F3, pm, A3, st3⟩ := N2.at_.fld rep (r1.ev (st2.ev N1.at_))
    exact ⟨p, C, dx, gs, rfl, h1, fn.cl, fn.no, by rw [hl]; exact few, k1 σ sl rs3 F3 _ ((st1.trans st2).trans st3) (N2.step st3 A3) t3⟩
/-- o.f += e, numbers -/
def dFldAug (f : Str) (g : Int → Int → Int) (ta tv : TD K) : TDs K := fun d sl rs => ta sl rs d.xc fun z rs1 => ∃ a C i, z = .raw (.ref a) ∧ FldOf rs1 z C f (.da (.int i)) ∧ FN K C f ∧ tv sl rs1 d.xc fun y rs2 => ∃ j fs rs3, y = .da (.int j) ∧ Rep (objR a C fs) (objR a C (putS f (.da (.int (g i j))) fs)) rs2 rs3 ∧ fs.length < 1000 ∧ d.nx sl rs3
theorem ds_fldaug {f : Str} {g : Int → Int → Int} {rd : V → V → Hp → VK → Prop} (hr : ∀ i j H Q, Q (.int (g i j)) H → rd (.int i) (.int j) H Q) (h : PS X st (sFldAug K (LE E ta) (LE E te) rd f)) : PS X st (LS E (dFldAug f g ta te)) := ps_weak h fun D σ H ⟨S0, sl, rs, F, d, N, t, k1, k2, k3, k4, k5⟩ =>
  LE.use N t k5 fun v z rs1 F1 H1 st1 N1 r1 ⟨p, C, i, ez, fo, fn, t1⟩ => by
    subst ez
    obtain ⟨p', dx, gs, u, ev, h1, e, ru⟩ := fo.ok N1.at_ r1
    cases r1
    cases ev
    cases vint ru
    refine ⟨p, C, dx, gs, .int i, rfl, h1, fn.cl, fn.no, e, LE.use N1 t1 (k5.after st1) fun w y rs2 F2 H2 st2 N2 r2 ⟨j, fs, rs3, ey, rep, few, t3⟩ => ?_⟩
    subst ey
    cases vint r2
    obtain ⟨dx2, gs2, g1, gl, F3, pm, A3, st3⟩ := N2.at_.fld (v := .int (g i j)) rep (.da (.int _))
    exact hr i j _ _ ⟨dx2, gs2, g1, by rw [gl]; exact few, k1 σ sl rs3 F3 _ ((st1.trans st2).trans st3) (N2.step st3 A3) t3⟩
end
end HC

/-! ### operators, subscripts, methods of lists, built-ins, by data -/
namespace HC
open PyProof.Rows PySem L2 PySem.Spec
/-! data as the library's plain data -/
mutual
def pyD : Da → PyData
  | .non => .none
  | .bl b => .bool b
  | .int i => .int i
  | .str z => .str z
  | .tup xs => .tuple (pyDs xs)
  | .lst xs => .list (pyDs xs)
  | .btup xs => .tuple (pyDs xs)
  | _ => .none
def pyDs : List Da → List PyData
  | [] => []
  | x :: r => pyD x :: pyDs r
end
mutual
/-- plain, to a depth -/
def plN : Nat → Da → Bool
  | _, .non => true
  | _, .bl _ => true
  | _, .int _ => true
  | _, .str _ => true
  | n + 1, .tup xs => plNs n xs
  | n + 1, .lst xs => plNs n xs
  | n + 1, .btup xs => plNs n xs
  | _, _ => false
def plNs : Nat → List Da → Bool
  | _, [] => true
  | n, x :: r => plN n x && plNs n r
end
theorem pyDs_map : ∀ xs : List Da, pyDs xs = xs.map pyD
  | [] => rfl
  | x :: r => congrArg (pyD x :: ·) (pyDs_map r)
theorem plNs_iff : ∀ {n : Nat} {xs : List Da}, plNs n xs = true ↔ ∀ x ∈ xs, plN n x = true
  | _, [] => by simp [plNs]
  | n, x :: r => by
    rw [plNs, Bool.and_eq_true, plNs_iff]
    constructor
    · rintro ⟨a, b⟩ y hy
      rcases (List.mem_cons.mp hy) with e | hy
      · rw [e]; exact a
      · exact b y hy
    · exact fun h => ⟨h x List.mem_cons_self, fun y hy => h y (List.mem_cons_of_mem _ hy)⟩
theorem pl_tup {n : Nat} {xs : List Da} (h : ∀ x ∈ xs, plN n x = true) : plN (n + 1) (.tup xs) = true := plNs_iff.mpr h
theorem pl_lst {n : Nat} {xs : List Da} (h : ∀ x ∈ xs, plN n x = true) : plN (n + 1) (.lst xs) = true := plNs_iff.mpr h
section
variable {K : PySem.W.Frag} {S : Addr → Prop} {H : Hp}
mutual
theorem De.dp : ∀ {n : Nat} {v : V} {x : Da}, De K S H v x → plN n x = true → Dp K H v (pyD x) ∧ Sh n (pyD x)
  | n, _, .non, .non, _ => ⟨.non, sh_n.mono (Nat.zero_le _)⟩
  | n, _, .bl _, .bl b, _ => ⟨.bl b, (sh_b b).mono (Nat.zero_le _)⟩
  | n, _, .int _, .int i, _ => ⟨.int i, (sh_i i).mono (Nat.zero_le _)⟩
  | n, _, .str _, .str ok, _ => ⟨.str _, (sh_s ok).mono (Nat.zero_le _)⟩
  | n + 1, _, .tup xs, .tup h1 h2, p => ⟨.tup (SqT.of h1) (DeAll.dp h2 p).1, sh_t (DeAll.dp h2 p).2⟩
  | n + 1, _, .btup xs, .btup _ h1 _ h2, p => ⟨.tup (.inl (.inr ⟨_, h1⟩)) (DeAll.dp h2 p).1, sh_t (DeAll.dp h2 p).2⟩
  | n + 1, _, .lst xs, .lst _ h1 h2, p => ⟨.lst (SqL.of h1) (DeAll.dp h2 p).1, sh_l (DeAll.dp h2 p).2⟩
theorem DeAll.dp : ∀ {n : Nat} {vs : List V} {xs : List Da}, DeAll K S H vs xs → plNs n xs = true → DpAll K H vs (pyDs xs) ∧ ∀ d ∈ pyDs xs, Sh n d
  | _, _, [], .nil, _ => ⟨.nil, nofun⟩
  | n, _, x :: xs, .cons a b, p => by
    rw [plNs, Bool.and_eq_true] at p
    have h1 := De.dp a p.1
    have h2 := DeAll.dp b p.2
    refine ⟨.cons h1.1 h2.1, fun d hd => ?_⟩
    rcases List.mem_cons.mp hd with e | hd
    · rw [e]; exact h1.2
    · exact h2.2 d hd
end
theorem Top.dp {n : Nat} {v : V} {x : Da} (t : Top K S H v x) (p : plN n x = true) : Dp K H v (pyD x) ∧ Sh n (pyD x) := by
  cases t with
  | da h => exact h.dp p
  | lst h1 h2 =>
    cases n with
    | zero => cases p
    | succ n => exact ⟨.lst (SqL.of h1) (h2.dp p).1, sh_l (h2.dp p).2⟩
  | obj => cases n <;> cases p
  | dK => cases n <;> cases p
  | dT => cases n <;> cases p
/-! pure operators -/
theorem strOk_app {a b : Str} (h1 : PyData.strOk a = true) (h2 : PyData.strOk b = true) : PyData.strOk (a ++ b) = true := by
  show Array.all (a.cps ++ b.cps) _ = true
  rw [Array.all_append, Bool.and_eq_true]
  exact ⟨h1, h2⟩
def gAdd : G2 := fun x y q => match x, y with
  | .int a, .int b => q (.int (a + b))
  | .str a, .str b => a.length + b.length ≤ sizeLine ∧ q (.str (a ++ b))
  | .tup a, .tup b => a.length + b.length ≤ sizeLine ∧ q (.tup (a ++ b))
  | .lst a, .lst b => a.length + b.length ≤ sizeLine ∧ q (.lst (a ++ b))
  | _, _ => False
theorem pu_add : Pu2 K (uAdd K) gAdd := fun S H v w x y q Q lv t1 t2 h k => by
  cases x <;> cases y <;> first | exact h.elim | skip
  · cases t1.i; cases t2.i; exact g_add_i (k _ _ H (Same.refl _) (.int _) h)
  · obtain ⟨rfl, o1⟩ := t1.s
    obtain ⟨rfl, o2⟩ := t2.s
    exact g_add_s h.1 (k _ _ H (Same.refl _) (.str (strOk_app o1 o2)) h.2)
  · rename_i xs ys
    obtain ⟨a, vs, rfl, h1, d1⟩ := t1.t
    obtain ⟨b, us, rfl, h2, d2⟩ := t2.t
    refine .inr (.inr (.inr ⟨a, b, vs, us, rfl, rfl, SqT.of h1, SqT.of h2, by rw [d1.len, d2.len]; exact h.1, fun e => ?_, fun _ e => ?_, fun _ _ p hp => ?_⟩))
    · subst e; cases d1; exact k _ _ H (Same.refl _) (.tup h2 d2) h.2
    · subst e; cases d2; exact k _ _ H (Same.refl _) (.tup h1 d1) (by have := h.2; rwa [List.append_nil] at this)
    · have s := same_new (o := .tup (vs ++ us)) hp
      exact k _ _ _ s (.tup upd_same ((d1.app d2).ev (Ev.same (F := []) s))) h.2
  · rename_i xs ys
    obtain ⟨a, vs, rfl, h1, d1⟩ := t1.l
    obtain ⟨b, us, rfl, h2, d2⟩ := t2.l
    refine g_add_l h1 h2 (by rw [d1.len, d2.len]; exact h.1) fun p H' hp s hp' => k _ _ _ s (.lst (fun m => lv p m hp) hp' ((d1.app d2).ev (Ev.same (F := []) s))) h.2
def gI (C : Int → Int → Prop) (f : Int → Int → Da) : G2 := fun x y q => match x, y with
  | .int a, .int b => C a b ∧ q (f a b)
  | _, _ => False
theorem pu_I {C : Int → Int → Prop} {g : Int → Int → V} {f : Int → Int → Da} (hf : ∀ (S : Addr → Prop) H a b, De K S H (g a b) (f a b)) : Pu2 K (rI C g) (gI C f) := fun S H v w x y q Q lv t1 t2 h k => by
  cases x <;> cases y <;> first | exact h.elim | skip
  cases t1.i; cases t2.i; exact ⟨_, _, rfl, rfl, h.1, k _ _ H (Same.refl _) (hf _ _ _ _) h.2⟩
theorem pu_I0 {g : Int → Int → V} {f : Int → Int → Da} (hf : ∀ (S : Addr → Prop) H a b, De K S H (g a b) (f a b)) : Pu2 K (rI0 g) (gI (fun _ _ => True) f) := fun S H v w x y q Q lv t1 t2 h k => by
  cases x <;> cases y <;> first | exact h.elim | skip
  cases t1.i; cases t2.i; exact ⟨_, _, rfl, rfl, k _ _ H (Same.refl _) (hf _ _ _ _) h.2⟩
def g1I (f : Int → Da) : G1 := fun x q => match x with
  | .int a => q (f a)
  | _ => False
theorem pu_U {g : Int → V} {f : Int → Da} (hf : ∀ (S : Addr → Prop) H a, De K S H (g a) (f a)) : Pu1 K (rU g) (g1I f) := fun S H v x q Q lv t1 h k => by
  cases x <;> first | exact h.elim | skip
  cases t1.i; exact ⟨_, rfl, k _ _ H (Same.refl _) (hf _ _ _) h⟩
/-- ==; n: how deep -/
def eqD : Da → Da → (Bool → Prop) → Prop := fun x y q => match x, y with
  | .int a, .int b => q (decide (a = b))
  | .str a, .str b => q (decide (a = b))
  | .bl a, .bl b => q (decide (a = b))
  | x, y => plN 60 x = true ∧ plN 60 y = true ∧ q (PyData.eqv (pyD x) (pyD y))
def gEq (n : Bool) : G2 := fun x y q => eqD x y fun b => q (.bl (if n then !b else b))
theorem eq_D {x y : Da} {q : Bool → Prop} {v w : V} (t1 : Top K S H v x) (t2 : Top K S H w y) (h : eqD x y q) : (∃ b, scal v w = true ∧ b = decide (v = w) ∧ q b) ∨ ∃ d e, Dp K H v d ∧ Dp K H w e ∧ SeqAt.shaped d = true ∧ SeqAt.shaped e = true ∧ q (PyData.eqv d e) := by
  unfold eqD at h
  split at h
  · cases t1.i; cases t2.i; exact .inl ⟨_, rfl, dec_i.symm, h⟩
  · cases t1.s.1; cases t2.s.1; exact .inl ⟨_, rfl, dec_s.symm, h⟩
  · cases t1.b; cases t2.b; exact .inl ⟨_, rfl, dec_b.symm, h⟩
  · obtain ⟨p1, p2, h⟩ := h
    exact .inr ⟨_, _, (t1.dp p1).1, (t2.dp p2).1, (t1.dp p1).2.ok (by decide), (t2.dp p2).2.ok (by decide), h⟩
theorem pu_eq : Pu2 K (uEq K) (gEq false) := fun S H v w x y q Q lv t1 t2 h k => by
  rcases eq_D t1 t2 h with ⟨b, h1, rfl, h⟩ | ⟨d, e, h1, h2, h3, h4, h⟩
  · exact .inl ⟨h1, k _ _ H (Same.refl _) (.bl _) h⟩
  · exact .inr ⟨d, e, h1, h2, h3, h4, k _ _ H (Same.refl _) (.bl _) h⟩
theorem pu_ne : Pu2 K (uNe K) (gEq true) := fun S H v w x y q Q lv t1 t2 h k => by
  rcases eq_D t1 t2 h with ⟨b, h1, rfl, h⟩ | ⟨d, e, h1, h2, h3, h4, h⟩
  · exact .inl ⟨h1, k _ _ H (Same.refl _) (.bl _) h⟩
  · exact .inr ⟨d, e, h1, h2, h3, h4, k _ _ H (Same.refl _) (.bl _) h⟩
/-- is None -/
def isNon : Da → Bool
  | .non => true
  | _ => false
theorem Top.non {v : V} {x : Da} (t : Top K S H v x) : decide (v = .non) = isNon x := by
  cases t with
  | da h => cases h <;> rfl
  | _ => rfl
def nonS : Sl → Bool
  | .da .non => true
  | .raw .non => true
  | _ => false
theorem VOk.non {v : V} {y : Sl} (r : VOk K S H v y) : decide (v = .non) = nonS y := by
  cases r with
  | da h => cases h <;> rfl
  | raw => cases v <;> rfl
  | tup => rfl
def aIsN (n : Bool) : A2 K := fun y z rs q => z = .da .non ∧ q (.da (.bl (if n then !nonS y else nonS y))) rs
theorem act_isN : Act2 K rIsN (aIsN false) := fun S0 H rs F v w y z q Q A r1 r2 ⟨e, h⟩ k => by
  subst e
  cases r2 with | da r2 =>
    cases r2
    refine ⟨rfl, ?_⟩
    rw [r1.non]
    exact k _ _ rs F H (Stp.refl _ _) A (.da (.bl _)) h
theorem act_notN : Act2 K rNotN (aIsN true) := fun S0 H rs F v w y z q Q A r1 r2 ⟨e, h⟩ k => by
  subst e
  cases r2 with | da r2 =>
    cases r2
    refine ⟨rfl, ?_⟩
    rw [r1.non]
    exact k _ _ rs F H (Stp.refl _ _) A (.da (.bl _)) h
/-- in: a sign in a text; a plain thing in a list; a flat one in a tuple -/
def anyD (x : Da) (ys : List Da) : Bool := ys.any fun z => PyData.eqv (pyD z) (pyD x)
def inD : Da → Da → (Bool → Prop) → Prop := fun x y q => match x, y with
  | .str x, .str z => ∃ c, x = ⟨#[c]⟩ ∧ q (decide (c ∈ z.cps.toList))
  | x, .lst ys => plN 60 x = true ∧ plNs 59 ys = true ∧ q (anyD x ys)
  | x, .tup ys => plN 0 x = true ∧ plNs 0 ys = true ∧ q (anyD x ys)
  | x, .btup ys => plN 0 x = true ∧ plNs 0 ys = true ∧ q (anyD x ys)
  | _, _ => False
def gIn (n : Bool) : G2 := fun x y q => inD x y fun b => q (.bl (if n then !b else b))
theorem De.flat {v : V} {x : Da} (h : De K S H v x) (p : plN 0 x = true) : flatV v = true := by
  cases h <;> first | rfl | (cases p)
theorem eqV_D {v w : V} {x y : Da} (h : De K S H v x) (p : plN 0 x = true) (h2 : De K S H w y) (p2 : plN 0 y = true) : eqV v w = PyData.eqv (pyD x) (pyD y) := by
  cases h <;> first | (cases p; done) | (cases h2 <;> first | (cases p2; done) | (simp [eqV, pyD, PyData.eqv, Bool.beq_eq_decide_eq]; done) | rfl)
theorem inV_D {v : V} {x : Da} (h : De K S H v x) (p : plN 0 x = true) : ∀ {vs : List V} {ys : List Da}, DeAll K S H vs ys → plNs 0 ys = true → inV v vs = anyD x ys ∧ vs.all flatV = true
  | _, _, .nil, _ => ⟨rfl, rfl⟩
  | _, _, .cons a b, q => by
    rw [plNs, Bool.and_eq_true] at q
    obtain ⟨i1, i2⟩ := inV_D h p b q.2
    refine ⟨?_, ?_⟩
    · unfold inV anyD at i1 ⊢
      rw [List.any_cons, List.any_cons, i1, eqV_D a q.1 h p]
    · rw [List.all_cons, i2, a.flat q.1]; rfl
theorem anyD_py (x : Da) (ys : List Da) : ((pyDs ys).any fun z => PyData.eqv z (pyD x)) = anyD x ys := by
  rw [pyDs_map, List.any_map]; rfl
theorem in_D {v w : V} {x y : Da} {q : Bool → Prop} (t1 : Top K S H v x) (t2 : Top K S H w y) (h : inD x y q) : (∃ p us b, w = .ref p ∧ (SqL K H p us ∨ SqT K H p us) ∧ flatV v = true ∧ us.all flatV = true ∧ b = inV v us ∧ q b) ∨ (∃ c z, v = .str ⟨#[c]⟩ ∧ w = .str z ∧ q (decide (c ∈ z.cps.toList))) ∨
    ∃ d ds, Dp K H v d ∧ Dp K H w (.list ds) ∧ SeqAt.shaped d = true ∧ SeqAt.shaped (.list ds) = true ∧ q (ds.any fun z => PyData.eqv z d) := by
  unfold inD at h
  split at h
  · obtain ⟨c, rfl, h⟩ := h
    cases t1.s.1; cases t2.s.1
    exact .inr (.inl ⟨c, _, rfl, rfl, h⟩)
  · obtain ⟨p1, p2, h⟩ := h
    have h1 := t1.dp p1
    have h2 := t2.dp (n := 59 + 1) p2
    exact .inr (.inr ⟨_, _, h1.1, h2.1, h1.2.ok (by decide), h2.2.ok (by decide), by rw [anyD_py]; exact h⟩)
  · obtain ⟨p1, p2, h⟩ := h
    obtain ⟨a, us, rfl, h1, d1⟩ := t2.t
    cases t1 with
    | da d0 =>
      obtain ⟨e1, e2⟩ := inV_D d0 p1 d1 p2
      exact .inl ⟨a, us, _, rfl, .inr (SqT.of h1), d0.flat p1, e2, rfl, by rw [e1]; exact h⟩
    | _ => cases p1
  · obtain ⟨p1, p2, h⟩ := h
    obtain ⟨a, us, o, rfl, h1, _, d1⟩ := t2.bt
    cases t1 with
    | da d0 =>
      obtain ⟨e1, e2⟩ := inV_D d0 p1 d1 p2
      exact .inl ⟨a, us, _, rfl, .inr (.inl (.inr ⟨o, h1⟩)), d0.flat p1, e2, rfl, by rw [e1]; exact h⟩
    | _ => cases p1
  · exact h.elim
theorem pu_in : Pu2 K (uIn K) (gIn false) := fun S H v w x y q Q lv t1 t2 h k => by
  rcases in_D t1 t2 h with ⟨p, us, b, e, h1, h2, h3, rfl, h⟩ | ⟨c, z, rfl, rfl, h⟩ | ⟨d, ds, h1, h2, h3, h4, h⟩
  · exact .inl ⟨p, us, e, h1, h2, h3, k _ _ H (Same.refl _) (.bl _) h⟩
  · exact .inr (.inl ⟨c, z, rfl, rfl, k _ _ H (Same.refl _) (.bl _) h⟩)
  · exact .inr (.inr ⟨d, ds, h1, h2, h3, h4, k _ _ H (Same.refl _) (.bl _) h⟩)
theorem pu_notIn : Pu2 K (uNotIn K) (gIn true) := fun S H v w x y q Q lv t1 t2 h k => by
  rcases in_D t1 t2 h with ⟨p, us, b, e, h1, h2, h3, rfl, h⟩ | ⟨c, z, rfl, rfl, h⟩ | ⟨d, ds, h1, h2, h3, h4, h⟩
  · exact .inl ⟨p, us, e, h1, h2, h3, k _ _ H (Same.refl _) (.bl _) h⟩
  · exact .inr (.inl ⟨c, z, rfl, rfl, k _ _ H (Same.refl _) (.bl _) h⟩)
  · exact .inr (.inr ⟨d, ds, h1, h2, h3, h4, k _ _ H (Same.refl _) (.bl _) h⟩)
end
section
variable {K : PySem.W.Frag} {S0 S : Addr → Prop} {H : Hp} {rs rs' : List (Rs K)} {F : List Addr} {v : V} {y : Sl} {ys : List Sl}
/-- the items of a list or a tuple -/
inductive Itm (rs : List (Rs K)) : Sl → List Sl → Prop
  | tup (xs : List Da) : Itm rs (.da (.tup xs)) (xs.map .da)
  | tupS (ys : List Sl) : Itm rs (.tup ys) ys
  | btup (xs : List Da) : Itm rs (.da (.btup xs)) (xs.map .da)
  | lst (xs : List Da) : Itm rs (.da (.lst xs)) (xs.map .da)
  | scr (xs : List Int) : Itm rs (.da (.scr xs)) (xs.map fun i => .da (.int i))
  | raw {a : Addr} {ys : List Sl} {rs' : List (Rs K)} : Ext (lstR a ys) rs rs' → Itm rs (.raw (.ref a)) ys
theorem vints (xs : List Int) : VAll K S H (xs.map V.int) (xs.map fun i => .da (.int i)) := by
  induction xs with
  | nil => exact .nil
  | cons i r ih => exact .cons (.da (.int i)) ih
theorem Itm.ok (i : Itm rs y ys) (A : At K S0 H rs F) (r : VOk K (Mu S0 F) H v y) : ∃ a vs, v = .ref a ∧ (SqL K H a vs ∨ SqT K H a vs) ∧ VAll K (Mu S0 F) H vs ys := by
  cases i with
  | tup xs => cases r with | da r => cases r with | tup h1 h2 => exact ⟨_, _, rfl, .inr (SqT.of h1), h2.vall⟩
  | tupS ys => cases r with | tup h1 h2 => exact ⟨_, _, rfl, .inr (SqT.of h1), h2⟩
  | lst xs => cases r with | da r => cases r with | lst _ h1 h2 => exact ⟨_, _, rfl, .inl (SqL.of h1), h2.vall⟩
  | btup xs => cases r with | da r => cases r with | btup _ h1 _ h2 => exact ⟨_, _, rfl, .inr (.inl (.inr ⟨_, h1⟩)), h2.vall⟩
  | scr xs => cases r with | da r => cases r with | scr h1 => exact ⟨_, _, rfl, .inl h1.sq, vints xs⟩
  | raw e =>
    cases r
    obtain ⟨vs, h1, h2, _⟩ := A.lst e
    exact ⟨_, vs, rfl, .inl (SqL.of h1), h2⟩
theorem atI_len {α β : Type} {xs : List α} {zs : List β} (h : xs.length = zs.length) {i : Int} {z : β} (e : atI zs i = some z) : ∃ j : Nat, zs[j]? = some z ∧ ∀ x, xs[j]? = some x → atI xs i = some x := by
  unfold atI at e ⊢
  rw [h]
  cases q : ixN zs.length i with
  | none => (rw [q] at e; cases e)
  | some j =>
    rw [q] at e
    exact ⟨j, e, fun x hx => hx⟩
def aIx : A2 K := fun y z rs q => ∃ i, z = .da (.int i) ∧ ((∃ ys w, Itm rs y ys ∧ atI ys i = some w ∧ Kn w ∧ q w rs) ∨ ∃ s c, y = .da (.str s) ∧ s.length ≤ sizeLine ∧ c < 1114112 ∧ atI s.cps.toList i = some c ∧ q (.da (.str ⟨#[c]⟩)) rs)
theorem strOk1 {c : Nat} (h : c < 1114112) : PyData.strOk ⟨#[c]⟩ = true := by
  show Array.all #[c] _ = true
  simpa using h
theorem act_ix : Act2 K (rIx K) aIx := fun S0 H rs F v w y z q Q A r1 r2 ⟨i, e, h⟩ k => by
  subst e
  cases vint r2
  rcases h with ⟨ys, w, im, hw, _, h⟩ | ⟨s, c, rfl, hz, hc, hw, h⟩
  · obtain ⟨a, vs, rfl, sq, all⟩ := im.ok A r1
    obtain ⟨j, e1, e2⟩ := atI_len (xs := vs) all.len hw
    obtain ⟨u, e3, ru⟩ := all.atD e1
    rcases sq with sq | sq
    · exact .inl ⟨a, vs, i, u, rfl, rfl, sq, e2 u e3, k u w rs F H (Stp.refl _ _) A ru h⟩
    · exact .inr (.inl ⟨a, vs, i, u, rfl, rfl, sq, e2 u e3, k u w rs F H (Stp.refl _ _) A ru h⟩)
  · cases r1 with | da r1 =>
      cases r1
      exact .inr (.inr ⟨s, i, c, rfl, rfl, hz, hw, k _ _ rs F H (Stp.refl _ _) A (.da (.str (strOk1 hc))) h⟩)
/-! slices -/
def cutG {α : Type} (xs : List α) (lo hi : Option Int) : List α := (xs.drop (HT.sIx xs.length 0 lo)).take (HT.sIx xs.length xs.length hi - HT.sIx xs.length 0 lo)
theorem cut_all {vs : List V} {ys : List Sl} (h : VAll K S H vs ys) (lo hi : Option Int) : VAll K S H (cutV vs lo hi) (cutG ys lo hi) := by
  unfold cutV cutG
  rw [h.len]
  exact (h.drop _).take _
theorem cut_map {α β : Type} (f : α → β) (xs : List α) (lo hi : Option Int) : cutG (xs.map f) lo hi = (cutG xs lo hi).map f := by
  unfold cutG
  rw [List.length_map, List.map_take, List.map_drop]
theorem cutG_all {α : Type} (xs : List α) : cutG xs none none = xs := by unfold cutG; rw [HT.sIx_none, HT.sIx_none]; simp
theorem cutG_to {α : Type} (xs : List α) (k : Nat) : cutG xs none (some (k : Int)) = xs.take k := by
  unfold cutG
  rw [HT.sIx_none, HT.sIx_nat, Nat.sub_zero, List.drop_zero]
  rcases Nat.le_total k xs.length with le | ge
  · rw [Nat.min_eq_left le]
  · rw [Nat.min_eq_right ge, List.take_length, List.take_of_length_le ge]
theorem cutG_from {α : Type} (xs : List α) (k : Nat) : cutG xs (some (k : Int)) none = xs.drop k := by
  unfold cutG
  rw [HT.sIx_none, HT.sIx_nat]
  rcases Nat.le_total k xs.length with le | ge
  · rw [Nat.min_eq_left le, ← List.length_drop, List.take_length]
  · rw [Nat.min_eq_right ge, List.drop_length, List.drop_of_length_le ge, List.take_nil]
theorem cutG_mid {α : Type} (xs : List α) (i j : Nat) (h : j ≤ xs.length) : cutG xs (some (i : Int)) (some (j : Int)) = (xs.drop i).take (j - i) := by
  unfold cutG
  rw [HT.sIx_nat, HT.sIx_nat, Nat.min_eq_left h]
  rcases Nat.le_total i xs.length with le | ge
  · rw [Nat.min_eq_left le]
  · rw [Nat.min_eq_right ge, List.drop_length, List.drop_of_length_le ge, List.take_nil, List.take_nil]
/-- a slice of a tuple, of a list (new: data) -/
def slD (rs : List (Rs K)) (y : Sl) (lo hi : Option Int) (q : QD K) : Prop := (∃ ys, Its2 y ys ∧ q (mkT (cutG ys lo hi)) rs) ∨ ∃ xs, See rs y (.lst xs) ∧ q (.da (.lst (cutG xs lo hi))) rs
end
end HC

/-! ### slices, methods of lists, built-ins, dicts, by data -/
namespace HC
open PyProof.Rows PySem L2 PySem.Spec
section
variable {X : Cx} {K : PySem.W.Frag} {E : XK} {a b c e o tg lo hi : Expr} {es : List Expr} {pos p2 : Pos} {ta tb tc td te to : TD K} {tA tB : TDb K} {ts : TDa K} {tl th : TDo K} {st : Stmt} {rest : List Stmt} {t u : TDs K}
/-! slices -/
def rSlX (K : PySem.W.Frag) : V → Option Int → Option Int → Hp → VK → Prop := fun x lo hi H Q => rSlA K x lo hi H Q ∨ rSlL K x lo hi H Q
theorem sl_X (K) (hK : X.K = K := by rfl) : SlR X (rSlX K) := by subst hK; exact sl_tupA.or sl_list
def dNoP : TDo K := fun _ rs _ q => q none rs
def dPart (te : TD K) : TDo K := fun sl rs xc q => te sl rs xc fun y rs1 => ∃ i, y = .da (.int i) ∧ q (some i) rs1
theorem po_weak {e : Option Expr} {t t' : TO} (h : PO X e t) (i : ∀ σ H Q, t' σ H Q → t σ H Q) : PO X e t' := ⟨fun pn s σ H Q inv h' => h.run pn s σ H Q inv (i σ H Q h')⟩
theorem do_none : PO X none (LO E (dNoP (K := K))) := po_weak po_none fun σ H Q ⟨S0, sl, rs, F, xc, q, N, t, k, kx⟩ => k _ rs F H (Stp.refl _ _) N.at_ t
theorem do_some (h : PE X e (LE E te)) : PO X (some e) (LO E (dPart te)) := po_weak (po_some h) fun σ H Q ⟨S0, sl, rs, F, xc, q, N, t, k, kx⟩ =>
  LE.use N t kx fun v y rs1 F1 H1 st1 N1 r1 ⟨i, ey, t1⟩ => by
    subst ey
    cases vint r1
    exact ⟨i, rfl, k _ rs1 F1 H1 st1 N1.at_ t1⟩
def dSl (te : TD K) (tl th : TDo K) : TD K := fun sl rs xc q => te sl rs xc fun y rs1 => tl sl rs1 xc fun l rs2 => th sl rs2 xc fun h rs3 => slD rs3 y l h q
theorem cut_nil {α : Type} {lo hi : Option Int} : cutG ([] : List α) lo hi = [] := by unfold cutG; rw [List.drop_nil, List.take_nil]
theorem mkT_cutda {xs : List Da} {lo hi : Option Int} : mkT (cutG (xs.map .da) lo hi) = .da (.tup (cutG xs lo hi)) := by rw [cut_map]; exact mkT_da _
theorem sl_run {S0 : Addr → Prop} {H : Hp} {rs : List (Rs K)} {F : List Addr} {v : V} {y : Sl} {lo hi : Option Int} {q : QD K} {Q : VK} (A : At K S0 H rs F) (r : VOk K (Mu S0 F) H v y) (h : slD rs y lo hi q) (k : Out S0 F H q Q) : rSlX K v lo hi H Q := by
  rcases h with ⟨ys, ti, h⟩ | ⟨xs, see, h⟩
  · obtain ⟨p, vs, rfl, h1, all⟩ := r.its ti
    refine .inl ⟨p, vs, rfl, SqT.of h1, fun hw => ?_, fun hw p' np => ?_⟩
    · have e : cutG ys lo hi = ys := by
        unfold cutG
        rw [all.len] at hw
        rw [hw.1, hw.2]; simp
      rw [e] at h
      exact k _ _ rs F H (Stp.refl _ _) A (mkT_ok h1 all) h
    · have s := same_new (o := .tup (cutV vs lo hi)) np
      exact k _ _ rs F _ (Stp.same s) (A.same s) (mkT_ok upd_same ((cut_all all lo hi).ev (Ev.same (F := []) s))) h
  · obtain ⟨p, vs, rfl, h1, d1⟩ := (see.top A r).l
    refine .inr (g_slL (SqL.of h1) fun p' H' np s h' => k _ _ rs F H' (Stp.same s) (A.same s) (.da (.lst (A.fresh np) h' ?_)) h)
    have := (cut_all d1.vall lo hi)
    rw [cut_map] at this
    exact this.das.ev (Ev.same (F := []) s)
theorem d_sl (h : PE X e (tSl (rSlX K) (LE E te) (LO E tl) (LO E th))) : PE X e (LE E (dSl te tl th)) := pe_weak h fun σ H Q ⟨S0, sl, rs, F, xc, q, N, t, k, kx⟩ =>
  LE.use N t kx fun v y rs1 F1 H1 st1 N1 r1 t1 => LO.use N1 t1 (kx.after st1) fun l rs2 F2 H2 st2 N2 t2 => LO.use N2 t2 (kx.after (st1.trans st2)) fun h rs3 F3 H3 st3 N3 t3 =>
    sl_run N3.at_ ((r1.ev (st2.ev N1.at_)).ev (st3.ev N2.at_)) t3 (k.after ((st1.trans st2).trans st3))
/-! ### methods of lists -/
def ActM (K : PySem.W.Frag) (r : V → List V → Hp → VK → Prop) (g : Sl → List Sl → List (Rs K) → QD K → Prop) : Prop := ∀ (S0 : Addr → Prop) (H : Hp) (rs : List (Rs K)) (F : List Addr) (v : V) (y : Sl) (vs : List V) (ys : List Sl) (q : QD K) (Q : VK),
  At K S0 H rs F → VOk K (Mu S0 F) H v y → VAll K (Mu S0 F) H vs ys → g y ys rs q → Out S0 F H q Q → r v vs H Q
/-- y is a list, a text -/
inductive IsL (rs : List (Rs K)) : Sl → Prop
  | da (xs : List Da) : IsL rs (.da (.lst xs))
  | raw {a : Addr} {ys : List Sl} {rs' : List (Rs K)} : Ext (lstR a ys) rs rs' → IsL rs (.raw (.ref a))
theorem IsL.ok {S0 : Addr → Prop} {H : Hp} {rs : List (Rs K)} {F : List Addr} {v : V} {y : Sl} (i : IsL rs y) (A : At K S0 H rs F) (r : VOk K (Mu S0 F) H v y) : tyV K "list" v H := by
  cases i with
  | da xs => cases r with | da r => cases r with | lst n h1 h2 => exact .inl ⟨rfl, _, SqL.of h1⟩
  | raw e =>
    cases r
    obtain ⟨vs, h1, _⟩ := A.lst e
    exact .inl ⟨rfl, _, SqL.of h1⟩
def dBM (g : Sl → List Sl → List (Rs K) → QD K → Prop) (to : TD K) (ts : TDa K) : TD K := fun sl rs xc q => to sl rs xc fun y rs1 => IsL rs1 y ∧ ts sl rs1 xc fun ys rs2 => g y ys rs2 q
theorem d_bm {r : V → List V → Hp → VK → Prop} {g : Sl → List Sl → List (Rs K) → QD K → Prop} (h : PE X e (tBM K "list" r (LE E to) (LA E ts))) (ok : ActM K r g) : PE X e (LE E (dBM g to ts)) := pe_weak h fun σ H Q ⟨S0, sl, rs, F, xc, q, N, t, k, kx⟩ =>
  LE.use N t kx fun v y rs1 F1 H1 st1 N1 r1 ⟨i, t1⟩ => ⟨i.ok N1.at_ r1, LA.use N1 t1 (kx.after st1) fun vs ys rs2 F2 H2 st2 N2 r2 t2 =>
    ok S0 H2 rs2 F2 v y vs ys q Q N2.at_ (r1.ev (st2.ev N1.at_)) r2 t2 (k.after (st1.trans st2))⟩
def dBM0 (g : Sl → List Sl → List (Rs K) → QD K → Prop) (to : TD K) : TD K := fun sl rs xc q => to sl rs xc fun y rs1 => IsL rs1 y ∧ g y [] rs1 q
theorem d_bm0 {r : V → List V → Hp → VK → Prop} {g : Sl → List Sl → List (Rs K) → QD K → Prop} (h : PE X e (tBM0 K "list" r (LE E to))) (ok : ActM K r g) : PE X e (LE E (dBM0 g to)) := pe_weak h fun σ H Q ⟨S0, sl, rs, F, xc, q, N, t, k, kx⟩ =>
  LE.use N t kx fun v y rs1 F1 H1 st1 N1 r1 ⟨i, t1⟩ => ⟨i.ok N1.at_ r1, ok S0 H1 rs1 F1 v y [] [] q Q N1.at_ r1 .nil t1 (k.after st1)⟩
/-- the list at a becomes another -/
theorem At.putL {S0 : Addr → Prop} {H : Hp} {rs rs' : List (Rs K)} {F : List Addr} {a : Addr} {ys ys' : List Sl} {vs' : List V} (A : At K S0 H rs F) (rep : Rep (lstR a ys) (lstR a ys') rs rs') (r : VAll K (Mu S0 F) H vs' ys') : ∃ F', F.Perm F' ∧ At K S0 (upd H a (.lst vs')) rs' F' ∧ Stp F H F' (upd H a (.lst vs')) :=
  A.write rep trivial (fun G h => h.1) fun ev => ⟨rfl, vs', upd_same, r.ev ev⟩
def aApp (y : Sl) (ys : List Sl) (rs : List (Rs K)) (q : QD K) : Prop := ∃ a zs z rs', y = .raw (.ref a) ∧ ys = [z] ∧ Rep (lstR a zs) (lstR a (zs ++ [z])) rs rs' ∧ zs.length < sizeLine ∧ q (.da .non) rs'
theorem act_app : ActM K rAppend aApp := fun S0 H rs F v y vs ys q Q A r1 r2 ⟨a, zs, z, rs', e1, e2, rep, hz, h⟩ k => by
  subst e1 e2
  cases r1
  obtain ⟨u, rfl, ru⟩ := vone r2
  obtain ⟨r0, ex⟩ := rep.ext
  obtain ⟨ws, h1, all, _⟩ := A.lst ex
  obtain ⟨F', p, A', st⟩ := A.putL rep (all.app (.cons ru .nil))
  exact ⟨a, ws, u, rfl, rfl, h1, by rw [all.len]; exact hz, k _ _ rs' F' _ st A' (.da .non) h⟩
def aExt (y : Sl) (ys : List Sl) (rs : List (Rs K)) (q : QD K) : Prop := ∃ a zs xs rs', y = .raw (.ref a) ∧ ys = [.da (.lst xs)] ∧ Rep (lstR a zs) (lstR a (zs ++ xs.map .da)) rs rs' ∧ zs.length + xs.length ≤ sizeLine ∧ q (.da .non) rs'
theorem act_ext : ActM K rExtend aExt := fun S0 H rs F v y vs ys q Q A r1 r2 ⟨a, zs, xs, rs', e1, e2, rep, hz, h⟩ k => by
  subst e1 e2
  cases r1
  obtain ⟨u, rfl, ru⟩ := vone r2
  cases ru with | da ru => cases ru with | @lst b us _ n g1 g2 =>
    obtain ⟨r0, ex⟩ := rep.ext
    obtain ⟨ws, h1, all, _⟩ := A.lst ex
    obtain ⟨F', p, A', st⟩ := A.putL rep (all.app g2.vall)
    exact ⟨a, b, ws, us, rfl, rfl, h1, g1, by rw [all.len, g2.len]; exact hz, k _ _ rs' F' _ st A' (.da .non) h⟩
def aPopAt (y : Sl) (ys : List Sl) (rs : List (Rs K)) (q : QD K) : Prop := ∃ a zs i z rs', y = .raw (.ref a) ∧ ys = [.da (.int i)] ∧ 0 ≤ i ∧ zs[i.toNat]? = some z ∧ Rep (lstR a zs) (lstR a (zs.eraseIdx i.toNat)) rs rs' ∧ zs.length ≤ sizeLine ∧ q z rs'
theorem act_popAt : ActM K rPopAt aPopAt := fun S0 H rs F v y vs ys q Q A r1 r2 ⟨a, zs, i, z, rs', e1, e2, i0, hz, rep, few, h⟩ k => by
  subst e1 e2
  cases r1
  obtain ⟨u, rfl, ru⟩ := vone r2
  cases vint ru
  obtain ⟨r0, ex⟩ := rep.ext
  obtain ⟨ws, h1, all, _⟩ := A.lst ex
  obtain ⟨w, hw, rw_⟩ := all.atD hz
  obtain ⟨F', p, A', st⟩ := A.putL rep (all.erase i.toNat)
  have lt : i.toNat < ws.length := (List.getElem?_eq_some_iff.mp hw).1
  have e := all.len
  have l63 : (sizeLine : Nat) < 2 ^ 63 := line63
  exact ⟨a, ws, i, i.toNat, w, rfl, rfl, h1, by omega, by omega, seqIx_i i0 (by omega), hw, k _ _ rs' F' _ st A' (rw_.ev (st.ev A)) h⟩
def aPop (y : Sl) (ys : List Sl) (rs : List (Rs K)) (q : QD K) : Prop := ∃ a zs z rs', y = .raw (.ref a) ∧ ys = [] ∧ zs[zs.length - 1]? = some z ∧ Rep (lstR a zs) (lstR a zs.dropLast) rs rs' ∧ q z rs'
theorem VAll.dropLast {S : Addr → Prop} {H : Hp} : ∀ {vs : List V} {ys : List Sl}, VAll K S H vs ys → VAll K S H vs.dropLast ys.dropLast
  | _, _, .nil => .nil
  | _, _, .cons _ .nil => .nil
  | _, _, .cons a (.cons b c) => .cons a (VAll.dropLast (.cons b c))
theorem act_pop : ActM K rPop aPop := fun S0 H rs F v y vs ys q Q A r1 r2 ⟨a, zs, z, rs', e1, e2, hz, rep, h⟩ k => by
  subst e1 e2
  cases r1
  cases r2
  obtain ⟨r0, ex⟩ := rep.ext
  obtain ⟨ws, h1, all, _⟩ := A.lst ex
  obtain ⟨w, hw, rw_⟩ := all.atD hz
  obtain ⟨F', p, A', st⟩ := A.putL rep all.dropLast
  exact ⟨a, ws, w, rfl, rfl, h1, by rw [all.len]; exact hw, k _ _ rs' F' _ st A' (rw_.ev (st.ev A)) h⟩
/-- xs.index(x), flat things -/
def aIndex (y : Sl) (ys : List Sl) (rs : List (Rs K)) (q : QD K) : Prop := ∃ xs x j, See rs y (.lst xs) ∧ ys = [.da x] ∧ plN 0 x = true ∧ plNs 0 xs = true ∧ (∃ z, xs[j]? = some z ∧ PyData.eqv (pyD z) (pyD x) = true) ∧ (∀ m z, m < j → xs[m]? = some z → PyData.eqv (pyD z) (pyD x) = false) ∧ q (.da (.int (j : Nat))) rs
theorem act_index : ActM K (rIndex K) aIndex := fun S0 H rs F v y vs ys q Q A r1 r2 ⟨xs, x, j, see, e2, p1, p2, ⟨z, hj, he⟩, hm, h⟩ k => by
  subst e2
  obtain ⟨u, rfl, ru⟩ := vone r2
  cases ru with | da ru =>
    obtain ⟨a, ws, rfl, h1, d1⟩ := (see.top A r1).l
    obtain ⟨w, hw, dw⟩ := d1.atD hj
    have fl := (inV_D ru p1 d1 p2).2
    have all := plNs_iff.mp p2
    refine ⟨a, ws, u, j, w, rfl, rfl, SqL.of h1, ru.flat p1, fl, hw, by rw [eqV_D dw (all _ (List.mem_of_getElem? hj)) ru p1]; exact he, fun m z' lt hz' => ?_, k _ _ rs F H (Stp.refl _ _) A (.da (.int _)) h⟩
    obtain ⟨z2, e2, d2⟩ := d1.at hz'
    rw [eqV_D d2 (all _ (List.mem_of_getElem? e2)) ru p1]
    exact hm m z2 lt e2
def aCount (y : Sl) (ys : List Sl) (rs : List (Rs K)) (q : QD K) : Prop := ∃ xs x, See rs y (.lst xs) ∧ ys = [.da x] ∧ plN 0 x = true ∧ plNs 0 xs = true ∧ q (.da (.int (xs.countP fun z => PyData.eqv (pyD z) (pyD x) : Nat))) rs
theorem countP_D {S : Addr → Prop} {H : Hp} {v : V} {x : Da} (h : De K S H v x) (p : plN 0 x = true) : ∀ {vs : List V} {ys : List Da}, DeAll K S H vs ys → plNs 0 ys = true → vs.countP (fun z => eqV z v) = ys.countP fun z => PyData.eqv (pyD z) (pyD x)
  | _, _, .nil, _ => rfl
  | _, _, .cons a b, q => by
    rw [plNs, Bool.and_eq_true] at q
    rw [List.countP_cons, List.countP_cons, countP_D h p b q.2, eqV_D a q.1 h p]
theorem act_count : ActM K (rCntF K) aCount := fun S0 H rs F v y vs ys q Q A r1 r2 ⟨xs, x, see, e2, p1, p2, h⟩ k => by
  subst e2
  obtain ⟨u, rfl, ru⟩ := vone r2
  cases ru with | da ru =>
    obtain ⟨a, ws, rfl, h1, d1⟩ := (see.top A r1).l
    refine ⟨a, ws, u, rfl, rfl, SqL.of h1, ru.flat p1, (inV_D ru p1 d1 p2).2, ?_⟩
    rw [countP_D ru p1 d1 p2]
    exact k _ _ rs F H (Stp.refl _ _) A (.da (.int _)) h
/-! ### o[i] = v for lists -/
def dSetL (te to ti : TD K) : TDs K := fun d sl rs => te sl rs d.xc fun y rs1 => to sl rs1 d.xc fun z rs2 => ti sl rs2 d.xc fun i rs3 => ∃ a ys k j rs4, z = .raw (.ref a) ∧ i = .da (.int k) ∧ ixN ys.length k = some j ∧ Rep (lstR a ys) (lstR a (ys.set j y)) rs3 rs4 ∧ d.nx sl rs4
variable {ti : TD K}
theorem ds_setL (h : PS X st (tAsg (LE E te) (gSub (LE E to) (LE E ti) rSetL))) : PS X st (LS E (dSetL te to ti)) := ps_weak h fun D σ H ⟨S0, sl, rs, F, d, N, t, k1, k2, k3, k4, k5⟩ =>
  LE.use N t k5 fun v y rs1 F1 H1 st1 N1 r1 t1 => LE.use N1 t1 (k5.after st1) fun w z rs2 F2 H2 st2 N2 r2 t2 => LE.use N2 t2 (k5.after (st1.trans st2)) fun u i rs3 F3 H3 st3 N3 r3 ⟨a, ys, k, j, rs4, e1, e2, hj, rep, t3⟩ => by
    subst e1 e2
    cases r2
    cases vint r3
    have rv := (r1.ev (st2.ev N1.at_)).ev (st3.ev N2.at_)
    obtain ⟨r0, ex⟩ := rep.ext
    obtain ⟨ws, h1, all, _⟩ := N3.at_.lst ex
    obtain ⟨F4, p, A4, st4⟩ := N3.at_.putL rep (all.set j rv)
    exact ⟨a, ws, k, j, rfl, rfl, h1, by rw [all.len]; exact hj, k1 σ sl rs4 F4 _ (((st1.trans st2).trans st3).trans st4) (N3.step st4 A4) t3⟩
end
/-! ### built-ins -/
section
variable {K : PySem.W.Frag} {S0 : Addr → Prop} {H : Hp} {rs : List (Rs K)} {F : List Addr} {v : V} {y : Sl} {vs : List V} {ys : List Sl} {q : QD K} {Q : VK}
def aLen : AN K := fun ys rs q => (∃ y zs, ys = [y] ∧ Itm rs y zs ∧ q (.da (.int zs.length)) rs) ∨ ∃ s, ys = [.da (.str s)] ∧ s.length ≤ sizeLine ∧ q (.da (.int s.length)) rs
theorem act_len : ActN K (uLen K) aLen := fun S0 H rs F vs ys q Q A r h k => by
  rcases h with ⟨y, zs, rfl, im, h⟩ | ⟨s, rfl, hz, h⟩
  · obtain ⟨u, rfl, ru⟩ := vone r
    obtain ⟨a, ws, rfl, sq, all⟩ := im.ok A ru
    refine .inr ⟨a, ws, rfl, sq, ?_⟩
    rw [all.len]
    exact k _ _ rs F H (Stp.refl _ _) A (.da (.int _)) h
  · obtain ⟨u, rfl, ru⟩ := vone r
    cases ru with | da ru => cases ru; exact .inl ⟨s, rfl, hz, k _ _ rs F H (Stp.refl _ _) A (.da (.int _)) h⟩
def aTupOf : AN K := fun ys rs q => ∃ y, ys = [y] ∧ ((∃ zs, Its2 y zs ∧ q y rs) ∨ ∃ xs, See rs y (.lst xs) ∧ q (.da (.tup xs)) rs)
theorem act_tupOf : ActN K (rTupleOf K) aTupOf := fun S0 H rs F vs ys q Q A r ⟨y, e, h⟩ k => by
  subst e
  obtain ⟨u, rfl, ru⟩ := vone r
  rcases h with ⟨zs, i, h⟩ | ⟨xs, see, h⟩
  · obtain ⟨a, ws, rfl, h1, all⟩ := ru.its i
    exact g_tupOf_t (SqT.of h1) (k _ _ rs F H (Stp.refl _ _) A ru h)
  · obtain ⟨a, ws, rfl, h1, d1⟩ := (see.top A ru).l
    exact g_tupOf_l (SqL.of h1) fun l H' nl s h' => k _ _ rs F H' (Stp.same s) (A.same s) (.da (.tup h' (d1.ev (Ev.same (F := []) s)))) h
/-- tuple(list), whose methods are called -/
def aTupNew : AN K := fun ys rs q => ∃ y xs, ys = [y] ∧ See rs y (.lst xs) ∧ q (.da (.btup xs)) rs
theorem act_tupNew : ActN K (rTupleNew K) aTupNew := fun S0 H rs F vs ys q Q A r ⟨y, xs, e, see, h⟩ k => by
  subst e
  obtain ⟨u, rfl, ru⟩ := vone r
  obtain ⟨a, ws, rfl, h1, d1⟩ := (see.top A ru).l
  exact g_tupNew (SqL.of h1) fun l H' nl s ⟨o, h', hd⟩ => k _ _ rs F H' (Stp.same s) (A.same s) (.da (.btup (A.fresh nl) h' hd (d1.ev (Ev.same (F := []) s)))) h
def aList : AN K := fun ys rs q => ∃ y zs xs, ys = [y] ∧ Itm rs y zs ∧ zs = xs.map .da ∧ q (.da (.lst xs)) rs
def aListR : AN K := fun ys rs q => ∃ y zs, ys = [y] ∧ Itm rs y zs ∧ ∀ a, q (.raw (.ref a)) (lstR a zs :: rs)
theorem act_list : ActN K (rListOf K) aList := fun S0 H rs F vs ys q Q A r ⟨y, zs, xs, e, im, ez, h⟩ k => by
  subst e ez
  obtain ⟨u, rfl, ru⟩ := vone r
  obtain ⟨a, ws, rfl, sq, all⟩ := im.ok A ru
  exact g_listOf sq fun l H' nl s h' => k _ _ rs F H' (Stp.same s) (A.same s) (.da (.lst (A.fresh nl) h' (all.das.ev (Ev.same (F := []) s)))) h
theorem act_listR : ActN K (rListOf K) aListR := fun S0 H rs F vs ys q Q A r ⟨y, zs, e, im, h⟩ k => by
  subst e
  obtain ⟨u, rfl, ru⟩ := vone r
  obtain ⟨a, ws, rfl, sq, all⟩ := im.ok A ru
  refine ⟨a, ws, rfl, sq, fun l nl => ?_⟩
  obtain ⟨A', st⟩ := at_newL A nl all
  exact k _ _ _ _ _ st A' (.raw _) (h l)
theorem ints_D {S : Addr → Prop} {vs : List V} : ∀ {ns : List Int}, DeAll K S H vs (ns.map .int) → vs = ns.map V.int := by
  induction vs with
  | nil => intro ns h; cases ns with | nil => rfl | cons => cases h
  | cons w r ih =>
    intro ns h
    cases ns with
    | nil => cases h
    | cons n ns => cases h with | cons a b => cases a; rw [ih b]; rfl
theorem bls_D {S : Addr → Prop} {vs : List V} : ∀ {ns : List Bool}, DeAll K S H vs (ns.map .bl) → vs = ns.map V.bl := by
  induction vs with
  | nil => intro ns h; cases ns with | nil => rfl | cons => cases h
  | cons w r ih =>
    intro ns h
    cases ns with
    | nil => cases h
    | cons n ns => cases h with | cons a b => cases a; rw [ih b]; rfl
theorem strs_D {S : Addr → Prop} {vs : List V} : ∀ {ns : List Str}, DeAll K S H vs (ns.map .str) → vs = ns.map V.str := by
  induction vs with
  | nil => intro ns h; cases ns with | nil => rfl | cons => cases h
  | cons w r ih =>
    intro ns h
    cases ns with
    | nil => cases h
    | cons n ns => cases h with | cons a b => cases a; rw [ih b]; rfl
def aMinL (le : Int → Int → Prop) : AN K := fun ys rs q => ∃ (y : Sl) (ns : List Int), ys = [y] ∧ See rs y (.lst (ns.map .int)) ∧ 0 < ns.length ∧ ∀ m, m ∈ ns → (∀ z, z ∈ ns → le m z) → q (.da (.int m)) rs
theorem act_minL : ActN K (rMin K) (aMinL fun m z => m ≤ z) := fun S0 H rs F vs ys q Q A r ⟨y, ns, e, see, hn, h⟩ k => by
  subst e
  obtain ⟨u, rfl, ru⟩ := vone r
  obtain ⟨a, ws, rfl, h1, d1⟩ := (see.top A ru).l
  obtain rfl := ints_D d1
  exact g_minL (SqL.of h1) hn fun m h1 h2 => k _ _ rs F H (Stp.refl _ _) A (.da (.int _)) (h m h1 h2)
theorem act_maxL : ActN K (rMax K) (aMinL fun m z => z ≤ m) := fun S0 H rs F vs ys q Q A r ⟨y, ns, e, see, hn, h⟩ k => by
  subst e
  obtain ⟨u, rfl, ru⟩ := vone r
  obtain ⟨a, ws, rfl, h1, d1⟩ := (see.top A ru).l
  obtain rfl := ints_D d1
  exact g_maxL (SqL.of h1) hn fun m h1 h2 => k _ _ rs F H (Stp.refl _ _) A (.da (.int _)) (h m h1 h2)
def aSum : AN K := fun ys rs q => ∃ (y : Sl) (ns : List Int), ys = [y] ∧ See rs y (.lst (ns.map .int)) ∧ q (.da (.int ns.sum)) rs
theorem act_sum : ActN K (rSum K) aSum := fun S0 H rs F vs ys q Q A r ⟨y, ns, e, see, h⟩ k => by
  subst e
  obtain ⟨u, rfl, ru⟩ := vone r
  obtain ⟨a, ws, rfl, h1, d1⟩ := (see.top A ru).l
  obtain rfl := ints_D d1
  exact g_sumL (SqL.of h1) (k _ _ rs F H (Stp.refl _ _) A (.da (.int _)) h)
def aBls (f : List Bool → Bool) : AN K := fun ys rs q => ∃ (y : Sl) (bs : List Bool), ys = [y] ∧ See rs y (.lst (bs.map .bl)) ∧ q (.da (.bl (f bs))) rs
theorem act_all : ActN K (rAll K) (aBls fun bs => bs.all id) := fun S0 H rs F vs ys q Q A r ⟨y, ns, e, see, h⟩ k => by
  subst e
  obtain ⟨u, rfl, ru⟩ := vone r
  obtain ⟨a, ws, rfl, h1, d1⟩ := (see.top A ru).l
  obtain rfl := bls_D d1
  exact g_all (SqL.of h1) (k _ _ rs F H (Stp.refl _ _) A (.da (.bl _)) h)
theorem act_any : ActN K (rAny K) (aBls fun bs => bs.any id) := fun S0 H rs F vs ys q Q A r ⟨y, ns, e, see, h⟩ k => by
  subst e
  obtain ⟨u, rfl, ru⟩ := vone r
  obtain ⟨a, ws, rfl, h1, d1⟩ := (see.top A ru).l
  obtain rfl := bls_D d1
  exact g_any (SqL.of h1) (k _ _ rs F H (Stp.refl _ _) A (.da (.bl _)) h)
/-- built-ins of numbers -/
def aN1 (f : Int → Int) : AN K := fun ys rs q => ∃ i, ys = [.da (.int i)] ∧ q (.da (.int (f i))) rs
def aN2 (f : Int → Int → Int) : AN K := fun ys rs q => ∃ i j, ys = [.da (.int i), .da (.int j)] ∧ q (.da (.int (f i j))) rs
theorem act_abs : ActN K rAbs (aN1 fun i => if i < 0 then -i else i) := fun S0 H rs F vs ys q Q A r ⟨i, e, h⟩ k => by
  subst e
  obtain ⟨u, rfl, ru⟩ := vone r
  cases vint ru
  exact g_abs (k _ _ rs F H (Stp.refl _ _) A (.da (.int _)) h)
theorem act_min2 : ActN K rMin2 (aN2 fun i j => if j < i then j else i) := fun S0 H rs F vs ys q Q A r ⟨i, j, e, h⟩ k => by
  subst e
  obtain ⟨u, w, rfl, ru, rw_⟩ := vtwo r
  cases vint ru
  cases vint rw_
  exact g_min2 (k _ _ rs F H (Stp.refl _ _) A (.da (.int _)) h)
theorem act_max2 : ActN K Evl.rMax2 (aN2 fun i j => if j > i then j else i) := fun S0 H rs F vs ys q Q A r ⟨i, j, e, h⟩ k => by
  subst e
  obtain ⟨u, w, rfl, ru, rw_⟩ := vtwo r
  cases vint ru
  cases vint rw_
  exact g_max2 (k _ _ rs F H (Stp.refl _ _) A (.da (.int _)) h)
def aInt : AN K := fun ys rs q => (∃ i, ys = [.da (.int i)] ∧ q (.da (.int i)) rs) ∨ ∃ b, ys = [.da (.bl b)] ∧ q (.da (.int (if b then 1 else 0))) rs
theorem act_int : ActN K rInt1 aInt := fun S0 H rs F vs ys q Q A r h k => by
  rcases h with ⟨i, rfl, h⟩ | ⟨b, rfl, h⟩
  · obtain ⟨u, rfl, ru⟩ := vone r
    cases vint ru
    exact g_int_i (k _ _ rs F H (Stp.refl _ _) A (.da (.int _)) h)
  · obtain ⟨u, rfl, ru⟩ := vone r
    cases vbl ru
    exact g_int_b (k _ _ rs F H (Stp.refl _ _) A (.da (.int _)) h)
/-- isinstance of a built-in class -/
def tyD : Da → Option String
  | .non => some "NoneType"
  | .bl _ => some "bool"
  | .int _ => some "int"
  | .str _ => some "str"
  | .tup _ => some "tuple"
  | .lst _ => some "list"
  | .btup _ => some "tuple"
  | _ => none
theorem Top.ty {S : Addr → Prop} {x : Da} {t : String} (h : Top K S H v x) (e : tyD x = some t) : TyX K H v (.type t) := by
  cases h with
  | da h =>
    cases h <;> first | (cases e; done) | skip
    all_goals cases e
    · exact .base .non
    · exact .base (.bl _)
    · exact .base (.int _)
    · exact .base (.str _)
    · rename_i h1 _; exact .base (.tup h1)
    · rename_i h1 _; exact .base (.lst h1)
    · rename_i h1 _ _; exact .fTuple h1
  | lst h1 _ => cases e; exact .base (.lst h1)
  | _ => cases e
def aIsi : AN K := fun ys rs q => ∃ y T x t b, ys = [y, .raw (.ty T)] ∧ See rs y x ∧ tyD x = some t ∧ kitB t T = some b ∧ q (.da (.bl b)) rs
theorem act_isi : ActN K (rIsi K) aIsi := fun S0 H rs F vs ys q Q A r ⟨y, T, x, t, b, e, see, ht, hb, h⟩ k => by
  subst e
  obtain ⟨u, w, rfl, ru, rw_⟩ := vtwo r
  cases rw_
  exact g_isi ((see.top A ru).ty ht) hb (k _ _ rs F H (Stp.refl _ _) A (.da (.bl _)) h)
end
end HC

/-! ### raise, star arguments, own classes asked; the steps -/
namespace HC
open PyProof.Rows PySem L2 PySem.Spec
section
variable {X : Cx} {K : PySem.W.Frag} {E : XK} {a b c e o tg lo hi : Expr} {es : List Expr} {pos p2 : Pos} {ta tb tc td te to : TD K} {tA tB : TDb K} {ts tk : TDa K} {st : Stmt} {rest : List Stmt} {t u : TDs K} {kws : List Keyword}
theorem pk_weak {t t' : TA} (h : PK X kws t) (i : ∀ σ H Q, t' σ H Q → t σ H Q) : PK X kws t' := ⟨fun p pn s σ H Q inv h' => h.run p pn s σ H Q inv (i σ H Q h')⟩
theorem dk_nil : PK X [] (LA E (dNil (K := K))) := pk_weak pk_nil fun σ H Q ⟨S0, sl, rs, F, xc, q, N, t, k, kx⟩ => k _ _ rs F H (Stp.refl _ _) N.at_ .nil t
theorem dk_cons {nm : Option Str} {kpos : Pos} (he : PE X e (LE E te)) (hr : PK X kws (LA E ts)) : PK X (⟨nm, e, kpos⟩ :: kws) (LA E (dCons te ts)) := pk_weak (pk_cons he hr) fun _ _ _ => le_cons
theorem new_xd {S0 : Addr → Prop} {H : Hp} {rs : List (Rs K)} {F : List Addr} {d C : Addr} {gs : List (Str × V)} {fs : List (Str × Da)} (A : At K S0 H rs F) (hd : H d = none) (e : gs.map (·.1) = fs.map (·.1)) (r : DeAll K (Mu S0 F) H (gs.map (·.2)) (fs.map (·.2))) :
    Stp F H F (upd H d (.xd gs)) ∧ At K S0 (upd H d (.xd gs)) rs F ∧ ExOk K (Mu S0 F) (upd H d (.xd gs)) (.ref C) (some d) ⟨C, some fs⟩ := by
  have s := same_new (o := .xd gs) hd
  exact ⟨Stp.same s, A.same s, rfl, d, gs, rfl, upd_same, e, r.ev (Ev.same (F := []) s)⟩
/-- raise C(f=v) -/
def dRaise (C : Addr) (flds : List Str) (ts : TDa K) : TDs K := fun d sl rs => ts sl rs d.xc fun ys rs1 => ys.length = flds.length ∧ ∃ xs, allDa ys = some xs ∧ d.xc ⟨C, some (flds.zip xs)⟩ rs1
theorem ds_raise1 {C : Addr} {f : Str} (h : PS X st (fun _ σ H => tMkX C f (LA E ts) σ H fun cls d H' => E cls d H')) : PS X st (LS E (dRaise C [f] ts)) := ps_weak h fun D σ H ⟨S0, sl, rs, F, d, N, t, k1, k2, k3, k4, k5⟩ =>
  LA.use N t k5 fun vs ys rs1 F1 H1 st1 N1 r1 ⟨hl, xs, ex, t1⟩ => by
    have e := allDa_eq ex
    subst e
    match xs, r1, hl, t1 with
    | [x], .cons (.da r) .nil, _, t1 =>
      refine ⟨_, rfl, fun p hp => ?_⟩
      obtain ⟨s1, A1, x1⟩ := new_xd (C := C) (gs := [(f, _)]) (fs := [(f, x)]) N1.at_ hp rfl (.cons r .nil)
      exact k5 ⟨C, some [(f, x)]⟩ _ _ rs1 F1 _ (st1.trans s1) A1 x1 t1
def dRaise0 (C : Addr) : TDs K := fun d _ rs => d.xc ⟨C, none⟩ rs
theorem ds_raise0 {C : Addr} (h : PS X st (fun _ _ H => E (.ref C) none H)) : PS X st (LS E (dRaise0 (K := K) C)) := ps_weak h fun D σ H ⟨S0, sl, rs, F, d, N, t, k1, k2, k3, k4, k5⟩ =>
  k5 ⟨C, none⟩ _ _ rs F H (Stp.refl _ _) N.at_ ⟨rfl, rfl⟩ t
/-! star arguments: f( *e, ..) -/
def dStar1 (te : TD K) : TDa K := fun sl rs xc q => te sl rs xc fun y rs1 => ∃ zs, Itm rs1 y zs ∧ q zs rs1
theorem da_star1 {σ : L2.St} {H : Hp} {Q : List V → Hp → Prop} (l : LA E (dStar1 te) σ H Q) : tStar1 K (LE E te) σ H Q := by
  obtain ⟨S0, sl, rs, F, xc, q, N, t, k, kx⟩ := l
  refine LE.use N t kx fun v y rs1 F1 H1 st1 N1 r1 ⟨zs, im, t1⟩ => ?_
  obtain ⟨p, vs, rfl, sq, all⟩ := im.ok N1.at_ r1
  exact ⟨p, vs, rfl, sq.symm, k vs zs rs1 F1 H1 st1 N1.at_ all t1⟩
/-- isinstance(e, C), C an own class -/
def aIsiC (Cs : Addr → Addr → Option Bool) : AN K := fun ys rs q => ∃ y C C' nm b, ys = [y, .raw (.ref C')] ∧ IsO rs y C nm ∧ Cs C C' = some b ∧ q (.da (.bl b)) rs
end
section
variable {mg : Str → Option Value} {base : Heap} {P : Program} {w : World} {K : PySem.W.Frag} {k : Nat} {x m : Str} {C : Addr} {sp sp' : Sp}
end
theorem mkT0 : mkT [] = .da (.tup []) := rfl
theorem mkT1 {a : Da} : mkT [.da a] = .da (.tup [a]) := rfl
theorem mkT2 {a b : Da} : mkT [.da a, .da b] = .da (.tup [a, b]) := rfl
theorem mkT3 {a b c : Da} : mkT [.da a, .da b, .da c] = .da (.tup [a, b, c]) := rfl
theorem mkT4 {a b c d : Da} : mkT [.da a, .da b, .da c, .da d] = .da (.tup [a, b, c, d]) := rfl
theorem allDa0 : allDa [] = some [] := rfl
theorem allDa1 {a : Da} : allDa [.da a] = some [a] := rfl
theorem allDa2 {a b : Da} : allDa [.da a, .da b] = some [a, b] := rfl
theorem allDa3 {a b c : Da} : allDa [.da a, .da b, .da c] = some [a, b, c] := rfl
theorem allDa4 {a b c d : Da} : allDa [.da a, .da b, .da c, .da d] = some [a, b, c, d] := rfl
theorem allDa5 {a b c d e : Da} : allDa [.da a, .da b, .da c, .da d, .da e] = some [a, b, c, d, e] := rfl
def isSc : Da → Da → Bool
  | .int _, .int _ => true
  | .str _, .str _ => true
  | .bl _, .bl _ => true
  | _, _ => false
/-! steps: what comes behind has a name -/
section
variable {K : PySem.W.Frag} {sl : List Sl} {rs rs1 rs2 rs' : List (Rs K)} {xc : XD K} {q : QD K} {ta tb tc te to tv : TD K} {tA tB : TDb K} {ts : TDa K} {t u : TDs K} {d : DEnds K} {y z : Sl} {x x1 x2 : Da}
def TupK (q : QD K) : List Sl → List (Rs K) → Prop := fun ys rs => ys.length ≤ sizeLine ∧ q (mkT ys) rs
def LstK (q : QD K) : List Sl → List (Rs K) → Prop := fun ys rs => ys.length ≤ sizeLine ∧ ∃ xs, allDa ys = some xs ∧ q (.da (.lst xs)) rs
def LstRK (q : QD K) : List Sl → List (Rs K) → Prop := fun ys rs => ys.length ≤ sizeLine ∧ ∀ a, q (.raw (.ref a)) (lstR a ys :: rs)
def PartK (r : Option Int → List (Rs K) → Prop) : QD K := fun y rs => ∃ i, y = .da (.int i) ∧ r (some i) rs
def FldK (f : Str) (q : QD K) : QD K := fun y rs => ∃ C z, FldOf rs y C f z ∧ FN K C f ∧ Kn z ∧ q z rs
def PropK (C : Addr) (D : SpD K) (q : QD K) : QD K := fun y rs => (∃ nm, IsO rs y C nm) ∧ Ask D [y] rs xF q
def MethK (C : Addr) (m : Str) (D : SpD K) (ts : TDa K) (sl : List Sl) (xc : XD K) (q : QD K) : QD K := fun y rs => (∃ nm, IsO rs y C nm ∧ m ∉ nm) ∧ ts sl rs xc fun ys rs2 => Ask D (y :: ys) rs2 xc q
def SFldV (f : Str) (ta : TD K) (d : DEnds K) (sl : List Sl) : QD K := fun y rs => Kn y ∧ ta sl rs d.xc fun z rs2 => ∃ a C fs rs3, z = .raw (.ref a) ∧ Rep (objR a C fs) (objR a C (putS f y fs)) rs2 rs3 ∧ FN K C f ∧ fs.length < 1000 ∧ d.nx sl rs3
def SFldK (f : Str) (y : Sl) (d : DEnds K) (sl : List Sl) : QD K := fun z rs => ∃ a C fs rs3, z = .raw (.ref a) ∧ Rep (objR a C fs) (objR a C (putS f y fs)) rs rs3 ∧ FN K C f ∧ fs.length < 1000 ∧ d.nx sl rs3
def FAugK (f : Str) (g : Int → Int → Int) (tv : TD K) (d : DEnds K) (sl : List Sl) : QD K := fun z rs1 => ∃ a C i, z = .raw (.ref a) ∧ FldOf rs1 z C f (.da (.int i)) ∧ FN K C f ∧ tv sl rs1 d.xc fun y rs2 => ∃ j fs rs3, y = .da (.int j) ∧ Rep (objR a C fs) (objR a C (putS f (.da (.int (g i j))) fs)) rs2 rs3 ∧ fs.length < 1000 ∧ d.nx sl rs3
def FAugV (f : Str) (g : Int → Int → Int) (a C : Addr) (i : Int) (d : DEnds K) (sl : List Sl) : QD K := fun y rs => ∃ j fs rs3, y = .da (.int j) ∧ Rep (objR a C fs) (objR a C (putS f (.da (.int (g i j))) fs)) rs rs3 ∧ fs.length < 1000 ∧ d.nx sl rs3
def BMK (g : Sl → List Sl → List (Rs K) → QD K → Prop) (ts : TDa K) (sl : List Sl) (xc : XD K) (q : QD K) : QD K := fun y rs1 => IsL rs1 y ∧ ts sl rs1 xc fun ys rs2 => g y ys rs2 q
def BMK0 (g : Sl → List Sl → List (Rs K) → QD K → Prop) (q : QD K) : QD K := fun y rs1 => IsL rs1 y ∧ g y [] rs1 q
def ParK' (is : List Nat) (d : DEnds K) (sl : List Sl) : List Sl → List (Rs K) → Prop := fun ys rs1 => ys.length = is.length ∧ d.nx ((is.zip ys).foldl (fun s p => s.set p.1 p.2) sl) rs1
def RaiseK (C : Addr) (fl : List Str) (d : DEnds K) : List Sl → List (Rs K) → Prop := fun ys rs1 => ys.length = fl.length ∧ ∃ xs, allDa ys = some xs ∧ d.xc ⟨C, some (fl.zip xs)⟩ rs1
def ItK (r : List Sl → (List (Rs K) → Prop) → List (Rs K) → Prop) : QD K := fun y rs1 => ∃ ys g, Wk rs1 y ys g ∧ r ys g rs1
def Star1K (r : List Sl → List (Rs K) → Prop) : QD K := fun y rs1 => ∃ zs, Itm rs1 y zs ∧ r zs rs1
def IfK (tA tB : Prop) (c : Bool) : Prop := if c = true then tA else tB
theorem s_seq (h : t { d with nx := u d } sl rs) : dSeq t u d sl rs := h
theorem s_next (h : d.nx sl rs) : dNext d sl rs := h
theorem s_drop (h : te sl rs d.xc fun _ rs1 => d.nx sl rs1) : dDrop te d sl rs := h
theorem s_ret (h : te sl rs d.xc d.rt) : dRet te d sl rs := h
theorem s_retN (h : d.rt (.da .non) rs) : dRetN d sl rs := h
theorem s_ifS (h : tA sl rs d.xc fun c rs1 => if c = true then t d sl rs1 else u d sl rs1) : dIfS tA t u d sl rs := h
theorem s_asg {g : TDg K} (h : te sl rs d.xc fun y rs1 => g y sl rs1 d.nx) : dAsg te g d sl rs := h
theorem s_name {i : Nat} {sl' : List Sl} {q : List Sl → List (Rs K) → Prop} (e : sl.set i y = sl') (h : q sl' rs) : gdName i y sl rs q := by subst e; exact h
theorem s_gtup {n : Nat} {g : TDgs K} {ys : List Sl} {q : List Sl → List (Rs K) → Prop} (i : Its2 y ys) (hn : ys.length = n) (h : g ys sl rs q) : gdTup n g y sl rs q := ⟨ys, i, hn, h⟩
theorem s_gcons {g : TDg K} {gs : TDgs K} {r : List Sl} {q : List Sl → List (Rs K) → Prop} (h : g y sl rs fun sl' rs' => gs r sl' rs' q) : gdCons g gs (y :: r) sl rs q := ⟨y, r, rfl, h⟩
theorem s_gnil {q : List Sl → List (Rs K) → Prop} (h : q sl rs) : gdNil [] sl rs q := ⟨rfl, h⟩
theorem s_var {i : Nat} (e : sl[i]? = some y) (h : q y rs) (kn : Kn y) : dVar i sl rs xc q := ⟨y, e, kn, h⟩
theorem s_c (h : q (.da x) rs) : dC x sl rs xc q := h
theorem s_r {v : V} (h : q (.raw v) rs) : dR v sl rs xc q := h
theorem s_b {g : A2 K} (h : ta sl rs xc fun y rs1 => tb sl rs1 xc fun z rs2 => g y z rs2 q) : dB g ta tb sl rs xc q := h
theorem s_u {g : A1 K} (h : ta sl rs xc fun y rs1 => g y rs1 q) : dU g ta sl rs xc q := h
theorem s_p2 {g : G2} (h : g x1 x2 fun x => q (.da x) rs) : p2 g (.da x1) (.da x2) rs q := ⟨x1, x2, .da _, .da _, h⟩
theorem s_p2' {g : G2} (h1 : See rs y x1) (h2 : See rs z x2) (h : g x1 x2 fun x => q (.da x) rs) : p2 g y z rs q := ⟨x1, x2, h1, h2, h⟩
theorem s_p1 {g : G1} (h : g x fun x => q (.da x) rs) : p1 g (.da x) rs q := ⟨x, .da _, h⟩
section
variable {r : Da → Prop} {i j : Int} {s s' : Str} {b b' : Bool} {xs ys : List Da}
theorem s_add_i (h : r (.int (i + j))) : gAdd (.int i) (.int j) r := h
theorem s_add_s (hz : s.length + s'.length ≤ sizeLine) (h : r (.str (s ++ s'))) : gAdd (.str s) (.str s') r := ⟨hz, h⟩
theorem s_add_t (hz : xs.length + ys.length ≤ sizeLine) (h : r (.tup (xs ++ ys))) : gAdd (.tup xs) (.tup ys) r := ⟨hz, h⟩
theorem s_add_l (hz : xs.length + ys.length ≤ sizeLine) (h : r (.lst (xs ++ ys))) : gAdd (.lst xs) (.lst ys) r := ⟨hz, h⟩
theorem s_I {C : Int → Int → Prop} {f : Int → Int → Da} (hc : C i j) (h : r (f i j)) : gI C f (.int i) (.int j) r := ⟨hc, h⟩
theorem s_1I {f : Int → Da} (h : r (f i)) : g1I f (.int i) r := h
theorem s_eq_i (h : r (.bl (decide (i = j)))) : gEq false (.int i) (.int j) r := h
theorem s_eq_s (h : r (.bl (decide (s = s')))) : gEq false (.str s) (.str s') r := h
theorem s_eq_b (h : r (.bl (decide (b = b')))) : gEq false (.bl b) (.bl b') r := h
theorem s_ne_i (h : r (.bl (!decide (i = j)))) : gEq true (.int i) (.int j) r := h
theorem s_ne_s (h : r (.bl (!decide (s = s')))) : gEq true (.str s) (.str s') r := h
theorem s_ne_b (h : r (.bl (!decide (b = b')))) : gEq true (.bl b) (.bl b') r := h
theorem s_eq_d (e : isSc x x1 = false) (h1 : plN 60 x = true) (h2 : plN 60 x1 = true) (h : r (.bl (PyData.eqv (pyD x) (pyD x1)))) : gEq false x x1 r := by
  cases x <;> cases x1 <;> first | (cases e; done) | exact ⟨h1, h2, h⟩
theorem s_ne_d (e : isSc x x1 = false) (h1 : plN 60 x = true) (h2 : plN 60 x1 = true) (h : r (.bl (!PyData.eqv (pyD x) (pyD x1)))) : gEq true x x1 r := by
  cases x <;> cases x1 <;> first | (cases e; done) | exact ⟨h1, h2, h⟩
end
theorem s_isN (h : q (.da (.bl (nonS y))) rs) : aIsN false y (.da .non) rs q := ⟨rfl, h⟩
theorem s_notN (h : q (.da (.bl (!nonS y))) rs) : aIsN true y (.da .non) rs q := ⟨rfl, h⟩
theorem s_isB {b : Bool} {r : Bool → List (Rs K) → Prop} (h : r b rs) : isB r (.da (.bl b)) rs := ⟨b, rfl, h⟩
theorem s_t {r : Bool → List (Rs K) → Prop} (h : te sl rs xc (isB r)) : dT te sl rs xc r := h
theorem s_chain {g g' : A2 K} (h : ta sl rs xc fun y rs1 => tb sl rs1 xc fun z rs2 => g y z rs2 (isB fun c rs3 => if c = true then tc sl rs3 xc fun u rs4 => g' z u rs4 q else q (.da (.bl false)) rs3)) : dChain g g' ta tb tc sl rs xc q := h
theorem s_and {r : Bool → List (Rs K) → Prop} (h : tA sl rs xc fun c rs1 => if c = true then tB sl rs1 xc r else r false rs1) : dAnd tA tB sl rs xc r := h
theorem s_or {r : Bool → List (Rs K) → Prop} (h : tA sl rs xc fun c rs1 => if c = true then r true rs1 else tB sl rs1 xc r) : dOr tA tB sl rs xc r := h
theorem s_not {r : Bool → List (Rs K) → Prop} (h : tA sl rs xc fun c rs1 => r (!c) rs1) : dNot tA sl rs xc r := h
theorem s_andV (h : ta sl rs xc (isB fun c rs1 => if c = true then tb sl rs1 xc q else q (.da (.bl false)) rs1)) : dAndV ta tb sl rs xc q := h
theorem s_orV (h : ta sl rs xc (isB fun c rs1 => if c = true then q (.da (.bl true)) rs1 else tb sl rs1 xc q)) : dOrV ta tb sl rs xc q := h
theorem s_notV (h : ta sl rs xc (isB fun c rs1 => q (.da (.bl (!c))) rs1)) : dNotV ta sl rs xc q := h
theorem s_if (h : tA sl rs xc fun c rs1 => if c = true then ta sl rs1 xc q else tb sl rs1 xc q) : dIf tA ta tb sl rs xc q := h
theorem s_yes {r : Bool → List (Rs K) → Prop} (h : r true rs) : dYes sl rs xc r := h
theorem s_nil {r : List Sl → List (Rs K) → Prop} (h : r [] rs) : dNil sl rs xc r := h
theorem s_cons {r : List Sl → List (Rs K) → Prop} (h : ta sl rs xc fun y rs1 => ts sl rs1 xc fun ys rs2 => r (y :: ys) rs2) : dCons ta ts sl rs xc r := h
theorem s_tup (h : ts sl rs xc (TupK q)) : dTup ts sl rs xc q := h
theorem s_lst (h : ts sl rs xc (LstK q)) : dLst ts sl rs xc q := h
theorem s_lstR (h : ts sl rs xc (LstRK q)) : dLstR ts sl rs xc q := h
theorem s_mkT {ys : List Sl} (e : mkT ys = z) (hz : ys.length ≤ sizeLine) (h : q z rs) : TupK q ys rs := ⟨hz, by rw [e]; exact h⟩
theorem s_mkL {ys : List Sl} {xs : List Da} (e : allDa ys = some xs) (hz : ys.length ≤ sizeLine) (h : q (.da (.lst xs)) rs) : LstK q ys rs := ⟨hz, xs, e, h⟩
theorem s_mkR {ys : List Sl} (hz : ys.length ≤ sizeLine) (h : ∀ a, q (.raw (.ref a)) (lstR a ys :: rs)) : LstRK q ys rs := ⟨hz, h⟩
theorem s_cb {g : AN K} (h : ts sl rs xc fun ys rs1 => g ys rs1 q) : dCB g ts sl rs xc q := h
theorem s_sl {tl th : TDo K} (h : te sl rs xc fun y rs1 => tl sl rs1 xc fun l rs2 => th sl rs2 xc fun h rs3 => slD rs3 y l h q) : dSl te tl th sl rs xc q := h
theorem s_noP {r : Option Int → List (Rs K) → Prop} (h : r none rs) : dNoP sl rs xc r := h
theorem s_part {r : Option Int → List (Rs K) → Prop} (h : te sl rs xc (PartK r)) : dPart te sl rs xc r := h
theorem s_partI {i : Int} {r : Option Int → List (Rs K) → Prop} (h : r (some i) rs) : PartK r (.da (.int i)) rs := ⟨i, rfl, h⟩
theorem s_slT {xs : List Da} {l h : Option Int} (g : q (.da (.tup (cutG xs l h))) rs) : slD rs (.da (.tup xs)) l h q := .inl ⟨_, .da xs, by rw [mkT_cutda]; exact g⟩
theorem s_slL {xs : List Da} {l h : Option Int} (s : See rs y (.lst xs)) (g : q (.da (.lst (cutG xs l h))) rs) : slD rs y l h q := .inr ⟨xs, s, g⟩
theorem s_call {D : SpD K} (h : ts sl rs xc fun ys rs1 => Ask D ys rs1 xc q) : dCall D ts sl rs xc q := h
theorem s_make {D : SpD K} (h : ts sl rs xc fun ys rs1 => Ask D ys rs1 xc q) : dMake D ts sl rs xc q := h
theorem s_lend {D : SpD K} {ys ys' : List Sl} (ln : Paired (LendS rs) ys ys') (h : D ys' [] (fun _ _ => False) fun y _ => ∃ x, y = .da x ∧ scaD x = true ∧ q (.da x) rs) : Ask D ys rs xc q := .inr ⟨ys', ln, h⟩
theorem s_ask {D : SpD K} {ys : List Sl} {rc rf : List (Rs K)} (g : Gets rc rs rf) (h : D ys rc (fun x rc' => xc x (rc' ++ rf)) fun y rc' => q y (rc' ++ rf)) : Ask D ys rs xc q := .inl ⟨rc, rf, g, h⟩
theorem s_prop {C : Addr} {D : SpD K} (h : ta sl rs xc (PropK C D q)) : dProp C D ta sl rs xc q := h
theorem s_propD {C : Addr} {D : SpD K} {fs : List (Str × Da)} (h : Ask D [.da (.obj C fs)] rs xF q) : PropK C D q (.da (.obj C fs)) rs := ⟨⟨_, .da fs⟩, h⟩
theorem s_propR {a C : Addr} {D : SpD K} {fs : List (Str × Sl)} (e : Ext (objR a C fs) rs rs') (h : Ask D [.raw (.ref a)] rs xF q) : PropK C D q (.raw (.ref a)) rs := ⟨⟨_, .raw e⟩, h⟩
theorem s_meth {C : Addr} {m : Str} {D : SpD K} (h : ta sl rs xc (MethK C m D ts sl xc q)) : dMeth C m D ta ts sl rs xc q := h
theorem s_methD {C : Addr} {m : Str} {D : SpD K} {fs : List (Str × Da)} (n : m ∉ fs.map (·.1)) (h : ts sl rs xc fun ys rs2 => Ask D (.da (.obj C fs) :: ys) rs2 xc q) : MethK C m D ts sl xc q (.da (.obj C fs)) rs := ⟨⟨_, .da fs, n⟩, h⟩
theorem s_methR {a C : Addr} {m : Str} {D : SpD K} {fs : List (Str × Sl)} (e : Ext (objR a C fs) rs rs') (n : m ∉ fs.map (·.1)) (h : ts sl rs xc fun ys rs2 => Ask D (.raw (.ref a) :: ys) rs2 xc q) : MethK C m D ts sl xc q (.raw (.ref a)) rs := ⟨⟨_, .raw e, n⟩, h⟩
theorem s_fld {f : Str} (h : ta sl rs xc (FldK f q)) : dFld f ta sl rs xc q := h
theorem s_fldD {C : Addr} {fs : List (Str × Da)} {f : Str} {x : Da} (e : fs.lookup f = some x) (fn : FN K C f) (h : q (.da x) rs) : FldK f q (.da (.obj C fs)) rs := ⟨C, .da x, .da e, fn, trivial, h⟩
theorem s_fldR {a C : Addr} {fs : List (Str × Sl)} {f : Str} {z : Sl} (ex : Ext (objR a C fs) rs rs') (e : fs.lookup f = some z) (fn : FN K C f) (kn : Kn z) (h : q z rs) : FldK f q (.raw (.ref a)) rs := ⟨C, z, .raw ex e, fn, kn, h⟩
theorem s_sfld {f : Str} (h : tv sl rs d.xc (SFldV f ta d sl)) : dSFld f ta tv d sl rs := h
theorem s_sfldV {f : Str} (kn : Kn y) (h : ta sl rs d.xc (SFldK f y d sl)) : SFldV f ta d sl y rs := ⟨kn, h⟩
theorem s_sfldR {a C : Addr} {f : Str} {fs fs' : List (Str × Sl)} (rep : Rep (objR a C fs) (objR a C fs') rs rs') (e : putS f y fs = fs') (fn : FN K C f) (few : fs.length < 1000) (h : d.nx sl rs') : SFldK f y d sl (.raw (.ref a)) rs := ⟨a, C, fs, rs', rfl, by rw [e]; exact rep, fn, few, h⟩
theorem s_faug {f : Str} {g : Int → Int → Int} (h : ta sl rs d.xc (FAugK f g tv d sl)) : dFldAug f g ta tv d sl rs := h
theorem s_faugK {a C : Addr} {f : Str} {g : Int → Int → Int} {fs : List (Str × Sl)} {i : Int} (ex : Ext (objR a C fs) rs rs') (e : fs.lookup f = some (.da (.int i))) (fn : FN K C f) (h : tv sl rs d.xc (FAugV f g a C i d sl)) : FAugK f g tv d sl (.raw (.ref a)) rs := ⟨a, C, i, rfl, .raw ex e, fn, h⟩
theorem s_faugV {a C : Addr} {f : Str} {g : Int → Int → Int} {fs fs' : List (Str × Sl)} {i j : Int} (rep : Rep (objR a C fs) (objR a C fs') rs rs') (e : putS f (.da (.int (g i j))) fs = fs') (few : fs.length < 1000) (h : d.nx sl rs') : FAugV f g a C i d sl (.da (.int j)) rs := ⟨j, fs, rs', rfl, by rw [e]; exact rep, few, h⟩
theorem s_bm {g : Sl → List Sl → List (Rs K) → QD K → Prop} (h : to sl rs xc (BMK g ts sl xc q)) : dBM g to ts sl rs xc q := h
theorem s_bm0 {g : Sl → List Sl → List (Rs K) → QD K → Prop} (h : to sl rs xc (BMK0 g q)) : dBM0 g to sl rs xc q := h
theorem s_bmK {g : Sl → List Sl → List (Rs K) → QD K → Prop} (i : IsL rs y) (h : ts sl rs xc fun ys rs2 => g y ys rs2 q) : BMK g ts sl xc q y rs := ⟨i, h⟩
theorem s_bmK0 {g : Sl → List Sl → List (Rs K) → QD K → Prop} (i : IsL rs y) (h : g y [] rs q) : BMK0 g q y rs := ⟨i, h⟩
theorem s_app {a : Addr} {zs : List Sl} (rep : Rep (lstR a zs) (lstR a (zs ++ [z])) rs rs') (hz : zs.length < sizeLine) (h : q (.da .non) rs') : aApp (.raw (.ref a)) [z] rs q := ⟨a, zs, z, rs', rfl, rfl, rep, hz, h⟩
theorem s_ext {a : Addr} {zs : List Sl} {xs : List Da} (rep : Rep (lstR a zs) (lstR a (zs ++ xs.map .da)) rs rs') (hz : zs.length + xs.length ≤ sizeLine) (h : q (.da .non) rs') : aExt (.raw (.ref a)) [.da (.lst xs)] rs q := ⟨a, zs, xs, rs', rfl, rfl, rep, hz, h⟩
theorem s_popAt {a : Addr} {zs : List Sl} {i : Int} (rep : Rep (lstR a zs) (lstR a (zs.eraseIdx i.toNat)) rs rs') (h0 : 0 ≤ i) (hi : zs[i.toNat]? = some z) (hz : zs.length ≤ sizeLine) (h : q z rs') : aPopAt (.raw (.ref a)) [.da (.int i)] rs q := ⟨a, zs, i, z, rs', rfl, rfl, h0, hi, rep, hz, h⟩
theorem s_pop {a : Addr} {zs : List Sl} (rep : Rep (lstR a zs) (lstR a zs.dropLast) rs rs') (hi : zs[zs.length - 1]? = some z) (h : q z rs') : aPop (.raw (.ref a)) [] rs q := ⟨a, zs, z, rs', rfl, rfl, hi, rep, h⟩
theorem s_par {is : List Nat} (h : ts sl rs d.xc (ParK' is d sl)) : dPar is ts d sl rs := h
theorem s_parK {is : List Nat} {ys sl' : List Sl} (e : (is.zip ys).foldl (fun s p => s.set p.1 p.2) sl = sl') (hl : ys.length = is.length) (h : d.nx sl' rs) : ParK' is d sl ys rs := ⟨hl, by rw [e]; exact h⟩
theorem s_raise0 {C : Addr} (h : d.xc ⟨C, none⟩ rs) : dRaise0 C d sl rs := h
theorem s_raise {C : Addr} {fl : List Str} (h : ts sl rs d.xc (RaiseK C fl d)) : dRaise C fl ts d sl rs := h
theorem s_raiseK {C : Addr} {fl : List Str} {ys : List Sl} {xs : List Da} (e : allDa ys = some xs) (hl : ys.length = fl.length) (h : d.xc ⟨C, some (fl.zip xs)⟩ rs) : RaiseK C fl d ys rs := ⟨hl, xs, e, h⟩
theorem s_lenI {zs : List Sl} (i : Itm rs y zs) (h : q (.da (.int zs.length)) rs) : aLen [y] rs q := .inl ⟨y, zs, rfl, i, h⟩
theorem s_lenS {s : Str} (hz : s.length ≤ sizeLine) (h : q (.da (.int s.length)) rs) : aLen [.da (.str s)] rs q := .inr ⟨s, rfl, hz, h⟩
theorem s_tupOfT {xs : List Da} (h : q (.da (.tup xs)) rs) : aTupOf [.da (.tup xs)] rs q := ⟨_, rfl, .inl ⟨_, .da xs, h⟩⟩
theorem s_tupOfL {xs : List Da} (s : See rs y (.lst xs)) (h : q (.da (.tup xs)) rs) : aTupOf [y] rs q := ⟨_, rfl, .inr ⟨xs, s, h⟩⟩
theorem s_tupNew {xs : List Da} (s : See rs y (.lst xs)) (h : q (.da (.btup xs)) rs) : aTupNew [y] rs q := ⟨_, _, rfl, s, h⟩
theorem s_list {xs : List Da} {zs : List Sl} (i : Itm rs y zs) (e : zs = xs.map .da) (h : q (.da (.lst xs)) rs) : aList [y] rs q := ⟨y, zs, xs, rfl, i, e, h⟩
theorem s_listR {zs : List Sl} (i : Itm rs y zs) (h : ∀ a, q (.raw (.ref a)) (lstR a zs :: rs)) : aListR [y] rs q := ⟨y, zs, rfl, i, h⟩
theorem s_int {i : Int} (h : q (.da (.int i)) rs) : aInt [.da (.int i)] rs q := .inl ⟨i, rfl, h⟩
theorem s_intB {b : Bool} (h : q (.da (.int (if b then 1 else 0))) rs) : aInt [.da (.bl b)] rs q := .inr ⟨b, rfl, h⟩
theorem s_n1 {f : Int → Int} {i : Int} (h : q (.da (.int (f i))) rs) : aN1 f [.da (.int i)] rs q := ⟨i, rfl, h⟩
theorem s_n2 {f : Int → Int → Int} {i j : Int} (h : q (.da (.int (f i j))) rs) : aN2 f [.da (.int i), .da (.int j)] rs q := ⟨i, j, rfl, h⟩
theorem s_isi {x : Da} {T t : String} {b : Bool} (ht : tyD x = some t) (hb : kitB t T = some b) (h : q (.da (.bl b)) rs) : aIsi [.da x, .raw (.ty T)] rs q := ⟨_, T, x, t, b, rfl, .da x, ht, hb, h⟩
theorem s_star1 {r : List Sl → List (Rs K) → Prop} (h : te sl rs xc (Star1K r)) : dStar1 te sl rs xc r := h
theorem s_star1K {r : List Sl → List (Rs K) → Prop} {zs : List Sl} (i : Itm rs y zs) (h : r zs rs) : Star1K r y rs := ⟨zs, i, h⟩
/-! loops -/
def ForK (g : TDg K) (tb : TDs K) (d : DEnds K) (sl : List Sl) : List Sl → (List (Rs K) → Prop) → List (Rs K) → Prop := fun ys ok rs1 => ∃ W : Nat → List Sl → List (Rs K) → Prop, Gs (W 0) sl rs1 ∧ (∀ i sl rs, W i sl rs → ok rs) ∧
  (∀ i y sl rs, ys[i]? = some y → W i sl rs → g y sl rs fun sl2 rs2 => tb { d with nx := Gs (W (i + 1)), ct := Gs (W (i + 1)), bk := Gs d.nx } sl2 rs2) ∧ ∀ sl rs, W ys.length sl rs → Gs d.nx sl rs
theorem s_for {ti : TDi K} {g : TDg K} {tb : TDs K} (h : ti sl rs d.xc (ForK g tb d sl)) : dFor ti g tb d sl rs := h
theorem s_it {r : List Sl → (List (Rs K) → Prop) → List (Rs K) → Prop} (h : te sl rs xc (ItK r)) : dIt te sl rs xc r := h
theorem s_itK {r : List Sl → (List (Rs K) → Prop) → List (Rs K) → Prop} {ys : List Sl} {g : List (Rs K) → Prop} (w : Wk rs y ys g) (h : r ys g rs) : ItK r y rs := ⟨ys, g, w, h⟩
def RngK (r : List Sl → (List (Rs K) → Prop) → List (Rs K) → Prop) : List Sl → List (Rs K) → Prop := fun ys rs1 => ∃ j : Int, ys = [.da (.int j)] ∧ (-(2 ^ 62) ≤ j ∧ j < 2 ^ 62) ∧ r (rngS 0 j.toNat) (fun _ => True) rs1
def Rng2K (r : List Sl → (List (Rs K) → Prop) → List (Rs K) → Prop) : List Sl → List (Rs K) → Prop := fun ys rs1 => ∃ i j : Int, ys = [.da (.int i), .da (.int j)] ∧ (-(2 ^ 62) ≤ i ∧ i < 2 ^ 62 ∧ -(2 ^ 62) ≤ j ∧ j < 2 ^ 62) ∧ r (rngS i (j - i).toNat) (fun _ => True) rs1
def EnTK (r : List Sl → (List (Rs K) → Prop) → List (Rs K) → Prop) : List Sl → List (Rs K) → Prop := fun ys rs1 => ∃ y zs, ys = [y] ∧ TI2 y zs ∧ r (enumS 0 zs) (fun _ => True) rs1
def EnLK (r : List Sl → (List (Rs K) → Prop) → List (Rs K) → Prop) : List Sl → List (Rs K) → Prop := fun ys rs1 => ∃ xs, ys = [.da (.lst xs)] ∧ r (enumS 0 (xs.map .da)) (fun _ => True) rs1
def ZipK (r : List Sl → (List (Rs K) → Prop) → List (Rs K) → Prop) : List Sl → List (Rs K) → Prop := fun ys rs1 => ∃ zs, Zi ys zs ∧ r zs (fun _ => True) rs1
section
variable {r : List Sl → (List (Rs K) → Prop) → List (Rs K) → Prop}
theorem s_rng1 (h : ts sl rs xc (RngK r)) : dRng1 ts sl rs xc r := h
theorem s_rng1K {j : Int} (h1 : -(2 ^ 62) ≤ j ∧ j < 2 ^ 62) (h : r (rngS 0 j.toNat) (fun _ => True) rs) : RngK r [.da (.int j)] rs := ⟨j, rfl, h1, h⟩
theorem s_rng2 (h : ts sl rs xc (Rng2K r)) : dRng2 ts sl rs xc r := h
theorem s_rng2K {i j : Int} (h1 : -(2 ^ 62) ≤ i ∧ i < 2 ^ 62 ∧ -(2 ^ 62) ≤ j ∧ j < 2 ^ 62) (h : r (rngS i (j - i).toNat) (fun _ => True) rs) : Rng2K r [.da (.int i), .da (.int j)] rs := ⟨i, j, rfl, h1, h⟩
theorem s_enT (h : ts sl rs xc (EnTK r)) : dEnT ts sl rs xc r := h
theorem s_enTK {zs : List Sl} (i : TI2 y zs) (h : r (enumS 0 zs) (fun _ => True) rs) : EnTK r [y] rs := ⟨y, zs, rfl, i, h⟩
theorem s_enL (h : ts sl rs xc (EnLK r)) : dEnL ts sl rs xc r := h
theorem s_enLK {xs : List Da} (h : r (enumS 0 (xs.map .da)) (fun _ => True) rs) : EnLK r [.da (.lst xs)] rs := ⟨xs, rfl, h⟩
theorem s_zip (h : ts sl rs xc (ZipK r)) : dZip ts sl rs xc r := h
theorem s_zipT {z : Sl} {ys zs : List Sl} (i : TI2 y ys) (j : TI2 z zs) (h : r (zipS ys zs) (fun _ => True) rs) : ZipK r [y, z] rs := ⟨_, .t i j, h⟩
theorem s_zipL {xs ws : List Da} (h : r (zipS (xs.map .da) (ws.map .da)) (fun _ => True) rs) : ZipK r [.da (.lst xs), .da (.lst ws)] rs := ⟨_, .l xs ws, h⟩
end
/-- a loop, by a word about data and place -/
theorem s_forK {g : TDg K} {tb : TDs K} {ys : List Sl} {ok : List (Rs K) → Prop} (W : Nat → List Sl → List (Rs K) → Prop) (h0 : Gs (W 0) sl rs) (hok : ∀ i sl rs, W i sl rs → ok rs) (hs : ∀ i y sl rs, ys[i]? = some y → W i sl rs → g y sl rs fun sl2 rs2 => tb { d with nx := Gs (W (i + 1)), ct := Gs (W (i + 1)), bk := Gs d.nx } sl2 rs2)
    (hd : ∀ sl rs, W ys.length sl rs → Gs d.nx sl rs) : ForK g tb d sl ys ok rs := ⟨W, h0, hok, hs, hd⟩
def LcKD (g : TDg K) (tt : TDb K) (te : TD K) (vs : List Nat) (sl : List Sl) (q : QD K) : List Sl → (List (Rs K) → Prop) → List (Rs K) → Prop := fun ys ok rs1 => ys.length ≤ 1000000 ∧ ∃ W : Nat → List Da → List (Rs K) → Prop, W 0 [] rs1 ∧ (∀ i acc rs, W i acc rs → ok rs) ∧
  (∀ i y acc rs, ys[i]? = some y → acc.length ≤ i → W i acc rs → g y (wipeD sl vs) rs fun sl2 rs2 => tt sl2 rs2 xF fun b rs3 => if b = true then te sl2 rs3 xF fun z rs4 => ∃ x, z = .da x ∧ W (i + 1) (acc ++ [x]) rs4 else W (i + 1) acc rs3) ∧
  ∀ acc rs, acc.length ≤ ys.length → W ys.length acc rs → q (.da (.lst acc)) rs
def LcEl (W : Nat → List Da → List (Rs K) → Prop) (i : Nat) (acc : List Da) : QD K := fun z rs4 => ∃ x, z = .da x ∧ W (i + 1) (acc ++ [x]) rs4
theorem s_lcEl {W : Nat → List Da → List (Rs K) → Prop} {i : Nat} {acc : List Da} (h : W (i + 1) (acc ++ [x]) rs) : LcEl W i acc (.da x) rs := ⟨x, rfl, h⟩
theorem s_lc {ti : TDi K} {g : TDg K} {tt : TDb K} {vs : List Nat} (h : ti sl rs xc (LcKD g tt te vs sl q)) : dLc ti g tt te vs sl rs xc q := h
end
end HC

/-! ### a def's body by data -/
namespace HC
open PyProof.Rows PySem L2 PySem.Spec
section
variable {P : Program} {w : World} {K : PySem.W.Frag} {mg : Str → Option Value} {base : Heap} {k : Nat} {f : Addr} {fd : FuncData} {N ps : List Str} {x qual : Str} {params : Arguments} {body : List Stmt} {scope : Scope} {t : TDs K} {D : SpD K}
def startD (n : Nat) (as : List Sl) : List Sl := as ++ List.replicate (n - as.length) .no
theorem start_ok {S : Addr → Prop} {H : Hp} {vs : List V} {as : List Sl} (r : VAll K S H vs as) : Slots K S H (L2.start N vs) (startD N.length as) := by
  unfold L2.start startD
  rw [r.len]
  have tail : ∀ n : Nat, Slots K S H (List.replicate n none) (List.replicate n .no) := by
    intro n
    induction n with
    | zero => exact .nil
    | succ n ih => exact .cons (.no _) ih
  have : ∀ {vs : List V} {as : List Sl} {n : Nat}, VAll K S H vs as → Slots K S H (vs.map some ++ List.replicate n none) (as ++ List.replicate n .no) := by
    intro vs
    induction vs with
    | nil => intro as n r; cases r; exact tail n
    | cons v vs ih => intro as n r; cases r with | cons a b => exact .cons (.some a) (ih b)
  exact this r
/-- an exception, what may change let go -/
def Gx (xc : XD K) : XD K := fun x rs => ∃ rc rf, Gets rc rs rf ∧ xc x rc
theorem outX_gx {S0 : Addr → Prop} {F : List Addr} {H : Hp} {xc : XD K} {E : XK} (k : OutX S0 F H xc E) : OutX S0 F H (Gx xc) E := fun x u d rs' F' H' st A r ⟨rc, rf, g, h⟩ => by
  obtain ⟨F2, hF, A2⟩ := A.gets g
  refine k x u d rc F2 H' (st.less hF) A2 ?_ h
  obtain ⟨e, r⟩ := r
  refine ⟨e, ?_⟩
  obtain ⟨cls, fs⟩ := x
  cases fs with
  | none => exact r
  | some fs =>
    obtain ⟨a, gs, e1, e2, e3, e4⟩ := r
    exact ⟨a, gs, e1, e2, e3, e4.ev (F := []) (Ev.less (mu_less hF))⟩
theorem gx_id {xc : XD K} {x : Exn} {rs : List (Rs K)} (h : xc x rs) : Gx xc x rs := ⟨rs, [], by
  have : ∀ rs : List (Rs K), Gets rs rs [] := by
    intro rs
    induction rs with
    | nil => exact .nil
    | cons R r ih => exact .cons .here ih
  exact this rs, h⟩
def dEnds (q : QD K) (xc : XD K) : DEnds K := { nx := fun _ rs => Gv q (.da .non) rs, rt := Gv q, xc := Gx xc }
/-- a body that does what t says keeps D -/
theorem body_ok {E : XK} {X : Cx} {vs : List V} {H : Hp} {Q : VK} (run : PSs X body (LS E t)) (walk : ∀ as rs xc q, D as rs xc q → t (dEnds q xc) (startD N.length as) rs) (h : spD D vs H Q E) : ∃ t', PSs X body t' ∧ t' { nx := fun _ H' => Q .non H', rt := Q } (L2.start N vs) H := by
  obtain ⟨S0, as, rs, F, xc, q, A, r, h, k, kx⟩ := h
  refine ⟨_, run, LS.use ⟨A, start_ok r⟩ (walk as rs xc q h) ?_ ?_ ?_ (out_gv k) (outX_gx kx)⟩
  · exact fun σ' sl' rs' F' H' st N' g => out_gv k .non (.da .non) rs' F' H' st N'.at_ (.da .non) g
  · exact fun _ _ _ _ _ _ _ h => h.elim
  · exact fun _ _ _ _ _ _ _ h => h.elim
theorem spD_len {n : Nat} (ar : ∀ as rs xc q, D as rs xc q → as.length = n) {vs : List V} {H : Hp} {Q : VK} {E : XK} (h : spD D vs H Q E) : vs.length = n := by
  obtain ⟨S0, as, rs, F, xc, q, A, r, h, k, kx⟩ := h
  rw [r.len]; exact ar _ _ _ _ h
theorem dfn_ok (F : FunD K x qual params body scope [] [] f fd) (S : FnScope N ps scope) (ar : ∀ as rs xc q, D as rs xc q → as.length = ps.length)
    (run : ∀ (cdv : Value) (A : Around) (outer : List Env) (s : Shared) (H : Hp) (E : XK), Room k (A.deeper (envOfC qual scope s.heap.objs.size f cdv)) → PSs (cxOf (CXW P w) P w K mg base N qual scope f cdv A outer s H E) body (LS E t))
    (walk : ∀ as rs xc q, D as rs xc q → t (dEnds q xc) (startD N.length as) rs) : FnOk P w K mg base (CXW P w) (k + 1) f fd ps (spD D) :=
  F.ok S (fun vs H Q E h => spD_len ar h) fun cdv A outer s H vs Q E hr h => body_ok (run cdv A outer s H E hr) walk h
/-- a promise by data of a def whose promise is known -/
theorem FnU.data {sp : Sp} (F : FnU P w K mg base k f sp) (im : ∀ vs H Q E, spD D vs H Q E → sp vs H Q E) : FnU P w K mg base k f (spD D) := by
  obtain ⟨fd, ps, F, B⟩ := F
  refine ⟨fd, ps, ?_, B⟩
  exact F.imp im
end
end HC

/-! ### more terms by data -/
namespace HC
open PyProof.Rows PySem L2 PySem.Spec
theorem ar_eq {as bs : List Sl} {p : Prop} {n : Nat} (h : bs.length = n) : (as = bs ∧ p) → as.length = n := fun ⟨e, _⟩ => by rw [e]; exact h
theorem ar_ex {α : Sort _} {p : α → Prop} {c : Prop} (h : ∀ a, p a → c) : (∃ a, p a) → c := fun ⟨a, k⟩ => h a k
section
variable {X : Cx} {K : PySem.W.Frag} {E : XK} {a b c e o tg lo hi : Expr} {es : List Expr} {pos p2 : Pos} {ta tb tc td te to : TD K} {tA tB : TDb K} {ts tk : TDa K} {st : Stmt} {rest : List Stmt} {t u : TDs K} {kws : List Keyword}
theorem d_ix (ha : PE X a (LE E ta)) (hb : PE X b (LE E tb)) (hs : PlainIx b := by exact fun _ _ => rfl) (hK : X.K = K := by rfl) : PE X (.Subscript a b pos) (LE E (dB aIx ta tb)) := pe_weak (pe_ix (ix_K K hK) ha hb hs) fun _ _ _ => le_op act_ix
theorem d_cb1 {r : List V → Hp → VK → Prop} {g : AN K} (h : PE X e (tCB r (tCons (LE E te) tNil))) (ok : ActN K r g) : PE X e (LE E (dCB g (dCons te dNil))) := d_cb (pe_weak h fun σ H Q h' => by
  obtain ⟨S0, sl, rs, F, xc, q, N, t, k, kx⟩ := h'
  exact LE.use N t kx fun v y rs1 F1 H1 st1 N1 r1 t1 => k [v] [y] rs1 F1 H1 st1 N1.at_ (.cons r1 .nil) t1) ok
theorem d_isi {T : String} (h : PE X e (tCB (rIsi K) (tCons (LE E te) (tCons (tC (.ty T)) tNil)))) : PE X e (LE E (dCB aIsi (dCons te (dCons (dR (.ty T)) dNil)))) := d_cb (pe_weak h fun σ H Q h' => by
  obtain ⟨S0, sl, rs, F, xc, q, N, t, k, kx⟩ := h'
  exact LE.use N t kx fun v y rs1 F1 H1 st1 N1 r1 t1 => k [v, .ty T] [y, .raw (.ty T)] rs1 F1 H1 st1 N1.at_ (.cons r1 (.cons (.raw _) .nil)) t1) act_isi
theorem dts_nil : PTs X [] (LT E (dYes (K := K))) := ⟨fun pn s σ H Q inv ⟨S0, sl, rs, F, xc, q, N, t, k, kx⟩ => pts_nil.run pn s σ H Q inv (k true rs F H (Stp.refl _ _) N.at_ t)⟩
theorem dts_one (h : PT X c (LT E tA)) : PTs X [c] (LT E tA) := pts_one h
theorem d_lc {ti : TDi K} {g : TG} {gd : TDg K} {is vs : List Nat} {tt : TDb K} {E' E2 : XK} (h : PE X e (tLc (LI E ti) g (LT E2 tt) (LE E' te) vs)) (hg : TgOk g gd is) (hv : ∀ i ∈ is, i ∈ vs) : PE X e (LE E (dLc ti gd tt te vs)) := pe_weak h fun _ _ _ => le_lc hg hv
theorem ds_setLc {ti : TDi K} {g : TG} {gd : TDg K} {is vs : List Nat} {tt : TDb K} {E' E2 : XK} {i : Nat} (h : PS X st (tAsg (tLc (LI E ti) g (LT E2 tt) (LE E' te) vs) (gName i))) (hg : TgOk g gd is) (hv : ∀ i ∈ is, i ∈ vs) : PS X st (LS E (dAsg (dLc ti gd tt te vs) (gdName i))) := ds_setX h fun _ _ _ => le_lc hg hv
/-- x op= e, ints -/
def dAug (i : Nat) (f : Int → Int → Int) (te : TD K) : TDs K := fun d sl rs => ∃ a, sl[i]? = some (.da (.int a)) ∧ te sl rs d.xc fun y rs1 => ∃ b, y = .da (.int b) ∧ d.nx (sl.set i (.da (.int (f a b)))) rs1
theorem ds_aug {i : Nat} {f : Int → Int → Int} (h : PS X st (tAug i (LE E te) (ipI f))) : PS X st (LS E (dAug i f te)) := ps_weak h fun D σ H ⟨S0, sl, rs, F, d, N, ⟨a, e, t⟩, k1, k2, k3, k4, k5⟩ => by
  obtain ⟨o, e1, r⟩ := paired_get1 N.sl e
  cases r with
  | some r =>
    cases vint r
    refine ⟨_, e1, LE.use N t k5 fun v y rs1 F1 H1 st1 N1 r1 ⟨b, ey, t1⟩ => ?_⟩
    subst ey
    cases vint r1
    exact ⟨a, b, rfl, rfl, k1 _ _ rs1 F1 H1 st1 (N1.set (.da (.int (f a b))) i) t1⟩
theorem as_bm0 (K) {c : Expr} {T : String} {r : V → List V → Hp → VK → Prop} {to : TE} (h : PE X c (tBM0 X.K T r to)) (hK : X.K = K := by rfl) : PE X c (tBM0 K T r to) := by subst hK; exact h
theorem mt_indexK (K) (hK : X.K = K := by rfl) : MtR X "list.index" (rIndex K) := by subst hK; exact mt_index
theorem mt_cntK' (K) (hK : X.K = K := by rfl) : MtR X "list.count" (rCntF K) := by subst hK; exact mt_cntF
/-- t.index(x) for a tuple of texts -/
def dTupIx (to te : TD K) : TD K := fun sl rs xc q => to sl rs xc fun y rs1 => ∃ ys : List Str, y = .da (.btup (ys.map .str)) ∧ te sl rs1 xc fun z rs2 => ∃ s j, z = .da (.str s) ∧ ys[j]? = some s ∧ (∀ m, m < j → ys[m]? ≠ some s) ∧ q (.da (.int (j : Nat))) rs2
theorem d_tupIx (h : PE X e (tTupIx K (LE E to) (LE E te))) : PE X e (LE E (dTupIx to te)) := pe_weak h fun σ H Q ⟨S0, sl, rs, F, xc, q, N, t, k, kx⟩ =>
  LE.use N t kx fun v y rs1 F1 H1 st1 N1 r1 ⟨ys, ey, t1⟩ => by
    subst ey
    cases r1 with | da r1 => cases r1 with | @btup p ob vs _ n h1 hd d1 =>
      obtain rfl := strs_D d1
      refine ⟨p, ys, rfl, ⟨ob, h1, hd⟩, LE.use N1 t1 (kx.after st1) fun w z rs2 F2 H2 st2 N2 r2 ⟨s, j, ez, hj, hm, t2⟩ => ?_⟩
      subst ez
      cases r2 with | da r2 => cases r2 with | str ok =>
        exact ⟨s, j, rfl, .inl (.inr ⟨ob, (st2.ev N1.at_).btup n h1⟩), hj, hm, k _ _ rs2 F2 H2 (st1.trans st2) N2.at_ (.da (.int _)) t2⟩
end
section
variable {P : Program} {w : World} {K : PySem.W.Frag} {mg : Str → Option Value} {base : Heap} {k : Nat}
/-- a method, called without arguments -/
structure MethU (P : Program) (w : World) (K : PySem.W.Frag) (mg : Str → Option Value) (base : Heap) (C : Addr) (m : Str) (k : Nat) (sp : Sp) : Prop where
  cl : Cls K C
  ex : ∃ f, Meth K C m f ∧ FnU P w K mg base k f sp
theorem MethU.r {C : Addr} {m : Str} {sp : Sp} (M : MethU P w K mg base C m k sp) : MethR P w K mg base C m k sp := ⟨M.cl, let ⟨f, h, F⟩ := M.ex; ⟨f, h, F.raw⟩⟩
/-- a class: its __init__ keeps D, C(..) keeps D' -/
structure MakeD (P : Program) (w : World) (K : PySem.W.Frag) (mg : Str → Option Value) (base : Heap) (x : Str) (C : Addr) (k : Nat) (D D' : SpD K) : Prop where
  mkr : MakeR P w K mg base x C k (spD D)
  it : Mks C D D'
end
section
variable {X : Cx} {K : PySem.W.Frag} {E : XK} {e o : Expr} {pos apos : Pos} {ta : TD K} {C : Addr} {m : Str} {k : Nat}
theorem pe_methU {sp : Sp} {t : TE} {pl : Sem Bool} (he : PE X o t) (M : MethU X.prog X.w X.K X.mg X.base C m k sp) (hr : Room k X.A) (hx : Passes (CXW X.prog X.w) X E)
    (ht : eval (.Call (.Attribute o m apos) [] [] pos) X.env = (do let ov ← eval o X.env; standAt apos.atName; let (f, first) ← holding [ov] (getMethod ov m pl)
                                                                   callWith pos f first (backTo pos (starEach [] X.env)) (backToKw pos (keywordEach [] X.env))) := by rfl) : PE X (.Call (.Attribute o m apos) [] [] pos) (tMeth C m sp [] E t tNil) := by
  obtain ⟨f, hm, fd, ps, F, B⟩ := M.ex
  exact pe_meth0 he M.cl hm F hr B .nil hx ht
def dMeth0 (C : Addr) (m : Str) (D : SpD K) (ta : TD K) : TD K := fun sl rs xc q => ta sl rs xc fun y rs1 => (∃ nm, IsO rs1 y C nm ∧ m ∉ nm) ∧ Ask D [y] rs1 xc q
theorem d_meth0 {D : SpD K} (h : PE X e (tMeth C m (spD D) [] E (LE E ta) tNil)) : PE X e (LE E (dMeth0 C m D ta)) := pe_weak h fun σ H Q ⟨S0, sl, rs, F, xc, q, N, t, k, kx⟩ =>
  LE.use N t kx fun v y rs1 F1 H1 st1 N1 r1 ⟨⟨nm, io, no⟩, t1⟩ => by
    obtain ⟨p, dx, gs, rfl, h1, h2⟩ := io.ok N1.at_ r1
    exact ⟨p, dx, gs, rfl, h1, lookup_no (by rw [h2]; exact no), t1.sp N1.at_ (.cons r1 .nil) (k.after st1) (kx.after st1)⟩
end
end HC

/-! ### more operators and subscripts by data -/
namespace HC
open PyProof.Rows PySem L2 PySem.Spec
section
variable {K : PySem.W.Frag} {sl : List Sl} {rs rs1 rs2 rs' : List (Rs K)} {xc : XD K} {q : QD K} {y z w : Sl} {x : Da}
/-- tuple * n, list * n -/
def gRepT : G2 := fun x y q => match x, y with
  | .tup xs, .int k => xs ≠ [] ∧ 1 ≤ k ∧ k ≤ 1000 ∧ xs.length ≤ 1000 ∧ q (.tup (List.replicate k.toNat xs).flatten)
  | _, _ => False
theorem rep_D {S : Addr → Prop} {H : Hp} {vs : List V} {xs : List Da} (h : DeAll K S H vs xs) : ∀ n : Nat, DeAll K S H (List.replicate n vs).flatten (List.replicate n xs).flatten
  | 0 => .nil
  | n + 1 => by
    rw [List.replicate_succ, List.replicate_succ]; rw [List.flatten_cons, List.flatten_cons]
    exact h.app (rep_D h n)
theorem pu_repT : Pu2 K (rRepB K) gRepT := fun S H v w x y q Q lv t1 t2 h k => by
  cases x <;> cases y <;> first | exact h.elim | skip
  rename_i xs n
  obtain ⟨h1, h2, h3, h4, h⟩ := h
  obtain ⟨a, vs, rfl, g1, d1⟩ := t1.t
  cases t2.i
  refine ⟨a, _, vs, rfl, rfl, SqT.of g1, fun e => h1 (by subst e; cases d1; rfl), h2, h3, by rw [d1.len]; exact h4, fun _ p hp => ?_, fun e => ?_⟩
  · have s := same_new (o := .tup (List.replicate n.toNat vs).flatten) hp
    exact k _ _ _ s (.tup upd_same ((rep_D d1 _).ev (Ev.same (F := []) s))) h
  · subst e
    have h' : q (.tup _) := h
    rw [show (1 : Int).toNat = 1 from rfl, List.replicate_succ, List.replicate_zero, List.flatten_cons, List.flatten_nil, List.append_nil] at h'
    exact k _ _ H (Same.refl _) (.tup g1 d1) h'
def gRepL : G2 := fun x y q => match x, y with
  | .lst xs, .int k => -(2 ^ 63) ≤ k ∧ k < 2 ^ 63 ∧ xs.length * k.toNat ≤ sizeLine ∧ q (.lst (List.replicate k.toNat xs).flatten)
  | _, _ => False
theorem pu_repL : Pu2 K rRep gRepL := fun S H v w x y q Q lv t1 t2 h k => by
  cases x <;> cases y <;> first | exact h.elim | skip
  rename_i xs n
  obtain ⟨h1, h2, h3, h⟩ := h
  obtain ⟨a, vs, rfl, g1, d1⟩ := t1.l
  cases t2.i
  refine ⟨a, _, vs, rfl, rfl, g1, h1, h2, by rw [d1.len]; exact h3, fun p hp => ?_⟩
  have s := same_new (o := .lst (List.replicate n.toNat vs).flatten) hp
  exact k _ _ _ s (.lst (fun m => lv p m hp) upd_same ((rep_D d1 _).ev (Ev.same (F := []) s))) h
theorem s_repT {x : Da} {k : Int} {r : Da → Prop} (h1 : 1 ≤ k) (h2 : k ≤ 1000) (h : r (.tup (List.replicate k.toNat x))) : gRepT (.tup [x]) (.int k) r := ⟨nofun, h1, h2, by show 1 ≤ 1000; decide, by rw [List.flatten_replicate_singleton]; exact h⟩
theorem s_repL {x : Da} {k : Int} {r : Da → Prop} (h1 : 0 ≤ k) (h2 : k ≤ 1000) (h : r (.lst (List.replicate k.toNat x))) : gRepL (.lst [x]) (.int k) r := ⟨by omega, by omega, by simp [sizeLine_eq]; omega, by rw [List.flatten_replicate_singleton]; exact h⟩
theorem its2_1 {a : Da} : Its2 (.da (.tup [a])) [.da a] := .da _
theorem its2_2 {a b : Da} : Its2 (.da (.tup [a, b])) [.da a, .da b] := .da _
theorem its2_3 {a b c : Da} : Its2 (.da (.tup [a, b, c])) [.da a, .da b, .da c] := .da _
theorem its2_4 {a b c d : Da} : Its2 (.da (.tup [a, b, c, d])) [.da a, .da b, .da c, .da d] := .da _
/-! subscripts -/
theorem s_ix {ys : List Sl} {i : Int} (im : Itm rs y ys) (e : atI ys i = some w) (kn : Kn w) (h : q w rs) : aIx y (.da (.int i)) rs q := ⟨i, rfl, .inl ⟨ys, w, im, e, kn, h⟩⟩
theorem s_ixS {s : Str} {i : Int} {c : Nat} (e : atI s.cps.toList i = some c) (hc : c < 1114112) (hz : s.length ≤ sizeLine) (h : q (.da (.str ⟨#[c]⟩)) rs) : aIx (.da (.str s)) (.da (.int i)) rs q := ⟨i, rfl, .inr ⟨s, c, rfl, hz, hc, e, h⟩⟩
theorem atI_mm {α : Type} {f : α → Da} {cs : List α} {i : Nat} {c : α} (h : cs[i]? = some c) : atI ((cs.map f).map Sl.da) ((i : Nat) : Int) = some (.da (f c)) := atI_nat (by rw [List.getElem?_map, List.getElem?_map, h]; rfl)
theorem atI_m {cs : List Da} {i : Nat} {c : Da} (h : cs[i]? = some c) : atI (cs.map Sl.da) ((i : Nat) : Int) = some (.da c) := atI_nat (by rw [List.getElem?_map, h]; rfl)
theorem atI_last {α : Type} {xs : List α} {x : α} (h : xs.getLast? = some x) : atI xs (-1) = some x := by
  unfold atI ixN
  have ne : xs ≠ [] := fun e => by rw [e] at h; cases h
  have hl : 0 < xs.length := List.length_pos_iff.mpr ne
  rw [if_neg (by omega), if_pos (by omega)]
  rw [List.getLast?_eq_getElem?] at h
  show xs[(-1 + (xs.length : Int)).toNat]? = some x
  rw [show (-1 + (xs.length : Int)).toNat = xs.length - 1 by omega]
  exact h
theorem enumS_mm {α : Type} {f : α → Da} {cs : List α} {i : Nat} {y : Sl} (h : (enumS 0 ((cs.map f).map Sl.da))[i]? = some y) : ∃ c, cs[i]? = some c ∧ y = .da (.tup [.int (i : Nat), f c]) := by
  rw [enumS_get] at h
  obtain ⟨y0, e, rfl⟩ := Option.map_eq_some_iff.mp h
  obtain ⟨x, e1, rfl⟩ := getm e
  obtain ⟨c, e2, rfl⟩ := getm e1
  exact ⟨c, e2, by rw [Nat.zero_add]; rfl⟩
theorem mm_get {α : Type} {f : α → Da} {cs : List α} {i : Nat} {y : Sl} (h : ((cs.map f).map Sl.da)[i]? = some y) : ∃ c, cs[i]? = some c ∧ y = .da (f c) := by
  obtain ⟨x, e1, rfl⟩ := getm h
  obtain ⟨c, e2, rfl⟩ := getm e1
  exact ⟨c, e2, rfl⟩
theorem rngS_get {lo : Int} {n i : Nat} {y : Sl} (h : (rngS lo n)[i]? = some y) : i < n ∧ y = .da (.int (lo + (i : Nat))) := by
  unfold rngS at h
  obtain ⟨j, e, rfl⟩ := getm h
  obtain ⟨lt, e⟩ := List.getElem?_eq_some_iff.mp e
  rw [List.getElem_range] at e
  rw [List.length_range] at lt
  subst e
  exact ⟨lt, rfl⟩
theorem rngS_len (lo : Int) (n : Nat) : (rngS lo n).length = n := by unfold rngS; simp
theorem take_succ_map {α β : Type} {f : α → β} {cs : List α} {i : Nat} {c : α} (h : cs[i]? = some c) : (cs.take (i + 1)).map f = (cs.take i).map f ++ [f c] := by
  rw [List.take_succ, h, List.map_append]; rfl
/-- a comprehension that changes nothing: the items of cs for which p holds, by f -/
theorem s_lcP {α : Type} {g : TDg K} {tt : TDb K} {te : TD K} {vs : List Nat} {ok : List (Rs K) → Prop} {ys : List Sl} (cs : List α) (e : α → Sl) (p : α → Bool) (f : α → Da) (hy : ys = cs.map e) (few : cs.length ≤ 1000000) (hok : ok rs)
    (hs : ∀ (i : Nat) (c : α) (T : QD K) (N : List (Rs K) → Prop), cs[i]? = some c → (p c = true → T (.da (f c)) rs) → (p c = false → N rs) → g (e c) (wipeD sl vs) rs fun sl2 rs2 => tt sl2 rs2 xF fun b rs3 => if b = true then te sl2 rs3 xF T else N rs3)
    (h : q (.da (.lst ((cs.filter p).map f))) rs) : LcKD g tt te vs sl q ys ok rs := by
  subst hy
  refine ⟨by rw [List.length_map]; exact few, fun i acc rs' => rs' = rs ∧ acc = ((cs.take i).filter p).map f, ⟨rfl, rfl⟩, fun i acc rs' hw => hw.1 ▸ hok, ?_, ?_⟩
  · rintro i y acc rs' hy _ ⟨rfl, rfl⟩
    obtain ⟨c, hc, rfl⟩ := getm hy
    have tk : (cs.take (i + 1)).filter p = (cs.take i).filter p ++ (if p c = true then [c] else []) := by
      rw [List.take_succ, hc, List.filter_append]
      by_cases q : p c = true <;> simp [q]
    refine hs i c _ _ hc (fun hp => ⟨_, rfl, rfl, ?_⟩) fun hp => ⟨rfl, ?_⟩
    · rw [tk, if_pos hp, List.map_append]; rfl
    · rw [tk, if_neg (by rw [hp]; decide), List.append_nil]
  · rintro acc rs' _ ⟨rfl, rfl⟩
    rw [List.length_map]; rw [List.take_length]
    exact h
theorem s_lcM {α : Type} {g : TDg K} {te : TD K} {vs : List Nat} {ok : List (Rs K) → Prop} {ys : List Sl} (cs : List α) (e : α → Sl) (f : α → Da) (hy : ys = cs.map e) (few : cs.length ≤ 1000000) (hok : ok rs)
    (hs : ∀ (i : Nat) (c : α) (T : QD K), cs[i]? = some c → T (.da (f c)) rs → g (e c) (wipeD sl vs) rs fun sl2 rs2 => te sl2 rs2 xF T) (h : q (.da (.lst (cs.map f))) rs) : LcKD g dYes te vs sl q ys ok rs :=
  s_lcP cs e (fun _ => true) f hy few hok (fun i c T N hc ht _ => by
    have := hs i c T hc (ht rfl)
    exact this) (by rw [List.filter_eq_self.mpr fun _ _ => rfl]; exact h)
/-- a call that is handed nothing that may change -/
theorem s_ask0 {D : SpD K} {ys : List Sl} (h : D ys [] (fun x rc' => xc x (rc' ++ rs)) fun y rc' => q y (rc' ++ rs)) : Ask D ys rs xc q := .inl ⟨[], rs, .nil, h⟩
/-- nothing that may change is kept -/
theorem gv_nil {y : Sl} (h : q y []) : Gv q y rs := gv_via (GhV.gets (rc := []) .nil) (gv_id h)
theorem gs_gets {p : List Sl → List (Rs K) → Prop} {rc rf : List (Rs K)} (g : Gets rc rs rf) (h : p sl rc) : Gs p sl rs := ⟨sl, rc, Gh.gets g, h⟩
theorem gv_gets {rc rf : List (Rs K)} (g : Gets rc rs rf) (h : q y rc) : Gv q y rs := ⟨y, rc, GhV.gets g, h⟩
theorem gx_gets {X : XD K} {e : Exn} {rc rf : List (Rs K)} (g : Gets rc rs rf) (h : X e rc) : Gx X e rs := ⟨rc, rf, g, h⟩
theorem gx_nil {X : XD K} {e : Exn} (h : X e []) : Gx X e rs := ⟨[], rs, .nil, h⟩
theorem pls_map {α : Type} {n : Nat} {f : α → Da} {xs : List α} (h : ∀ a, plN n (f a) = true) : plNs n (xs.map f) = true := plNs_iff.mpr fun x hx => by
  obtain ⟨a, -, rfl⟩ := List.mem_map.mp hx
  exact h a
theorem pl_lm {α : Type} {n : Nat} {f : α → Da} {xs : List α} (h : ∀ a, plN n (f a) = true) : plN (n + 1) (.lst (xs.map f)) = true := pls_map h
theorem pl_tm {α : Type} {n : Nat} {f : α → Da} {xs : List α} (h : ∀ a, plN n (f a) = true) : plN (n + 1) (.tup (xs.map f)) = true := pls_map h
section
variable {r : Da → Prop} {x : Da} {ys : List Da}
theorem s_notIn_bt (h1 : plN 0 x = true) (h2 : plNs 0 ys = true) (h : r (.bl (!anyD x ys))) : gIn true x (.btup ys) r := by
  cases x <;> first | exact ⟨h1, h2, h⟩ | (cases h1; done)
theorem s_in_bt (h1 : plN 0 x = true) (h2 : plNs 0 ys = true) (h : r (.bl (anyD x ys))) : gIn false x (.btup ys) r := by
  cases x <;> first | exact ⟨h1, h2, h⟩ | (cases h1; done)
theorem s_notIn_t (h1 : plN 0 x = true) (h2 : plNs 0 ys = true) (h : r (.bl (!anyD x ys))) : gIn true x (.tup ys) r := by
  cases x <;> first | exact ⟨h1, h2, h⟩ | (cases h1; done)
theorem s_in_t (h1 : plN 0 x = true) (h2 : plNs 0 ys = true) (h : r (.bl (anyD x ys))) : gIn false x (.tup ys) r := by
  cases x <;> first | exact ⟨h1, h2, h⟩ | (cases h1; done)
theorem s_notIn_l (h1 : plN 60 x = true) (h2 : plNs 59 ys = true) (h : r (.bl (!anyD x ys))) : gIn true x (.lst ys) r := by
  cases x <;> exact ⟨h1, h2, h⟩
theorem s_in_l (h1 : plN 60 x = true) (h2 : plNs 59 ys = true) (h : r (.bl (anyD x ys))) : gIn false x (.lst ys) r := by
  cases x <;> exact ⟨h1, h2, h⟩
theorem s_in_sg {c : Nat} {z : Str} (h : r (.bl (decide (c ∈ z.cps.toList)))) : gIn false (.str ⟨#[c]⟩) (.str z) r := ⟨c, rfl, h⟩
end
end
end HC

/-! ### a list against [], whatever stands in it -/
namespace HC
open PyProof.Rows PySem L2 PySem.Spec
/-- xs == [], xs != [] -/
def rEqNil (K : PySem.W.Frag) (n : Bool) : R2 := fun x y H Q => ∃ l b xs, x = .ref l ∧ y = .ref b ∧ SqL K H l xs ∧ SqL K H b [] ∧ Q (.bl (if n then !xs.isEmpty else xs.isEmpty)) H
section
variable {X : Cx} {k : Nat}
theorem emp_size {xs : List V} {its : List Value} (r : Vals xs its) : (its.toArray.size != (([] : List Value).toArray).size) = !xs.isEmpty := by
  cases r with
  | nil => rfl
  | cons a b => simp
theorem op_eqNil (room : Room k X.A) : OpR X (compareOp .Eq) (rEqNil X.K false) := by
  rintro pn s σ H x y v u Q inv rx ry ⟨l, b, xs, rfl, rfl, sl, sb, q⟩
  cases rx
  cases ry
  obtain ⟨its, r, p, _⟩ := inv.list sl
  obtain ⟨none_, r0, p0, _⟩ := inv.list sb
  cases r0
  have few := units65 room
  by_cases e : xs.isEmpty = true
  · have z : its.toArray.size = (([] : List Value).toArray).size := by
      have := emp_size r
      rw [e] at this
      simpa using this
    refine SeqAt.eq_listAt (e := fun _ => true) p.isList p0.isList z (by omega) (fun j h1 h2 => absurd h2 (Nat.not_lt_zero j)) ⟨.bl _, H, inv, ?_, q⟩
    rw [z, e]; rfl
  · have z : (its.toArray.size != (([] : List Value).toArray).size) = true := by rw [emp_size r]; simpa using e
    refine SeqAt.eq_list_lengthsAt p.isList p0.isList z (by omega) ⟨.bl _, H, inv, ?_, q⟩
    rw [show xs.isEmpty = false by simpa using e]; rfl
theorem op_neNil (room : Room k X.A) : OpR X (compareOp .NotEq) (rEqNil X.K true) := by
  rintro pn s σ H x y v u Q inv rx ry ⟨l, b, xs, rfl, rfl, sl, sb, q⟩
  cases rx
  cases ry
  obtain ⟨its, r, p, _⟩ := inv.list sl
  obtain ⟨none_, r0, p0, _⟩ := inv.list sb
  cases r0
  have few := units65 room
  by_cases e : xs.isEmpty = true
  · have z : its.toArray.size = (([] : List Value).toArray).size := by
      have := emp_size r
      rw [e] at this
      simpa using this
    refine SeqAt.RcNeAt.lists (e := fun _ => true) p.isList p0.isList z (by omega) (fun j h1 h2 => absurd h2 (Nat.not_lt_zero j)) _ _ _ _ ⟨.bl _, H, inv, ?_, q⟩
    rw [z, e]; rfl
  · have z : (its.toArray.size != (([] : List Value).toArray).size) = true := by rw [emp_size r]; simpa using e
    refine SeqAt.RcNeAt.lists_lengths p.isList p0.isList z (by omega) _ _ _ _ ⟨.bl _, H, inv, ?_, q⟩
    rw [show xs.isEmpty = false by simpa using e]; rfl
end
section
variable {K : PySem.W.Frag} {rs : List (Rs K)} {q : QD K} {y : Sl}
/-- the items of a list -/
inductive NlL (rs : List (Rs K)) : Sl → List Sl → Prop
  | lst (xs : List Da) : NlL rs (.da (.lst xs)) (xs.map .da)
  | raw {a : Addr} {ys : List Sl} {rs' : List (Rs K)} : Ext (lstR a ys) rs rs' → NlL rs (.raw (.ref a)) ys
def aNil (n : Bool) : A2 K := fun y z rs q => z = .da (.lst []) ∧ ∃ ys, NlL rs y ys ∧ q (.da (.bl (if n then !ys.isEmpty else ys.isEmpty))) rs
theorem act_nil {n : Bool} : Act2 K (rEqNil K n) (aNil n) := fun S0 H rs F v w y z q Q A r1 r2 ⟨e, ys, i, h⟩ k => by
  subst e
  cases r2 with | da r2 => cases r2 with | @lst b us _ _ h0 d0 =>
    cases d0
    cases i with
    | lst xs =>
      cases r1 with | da r1 => cases r1 with | @lst l vs _ _ h1 d1 =>
        refine ⟨l, b, vs, rfl, rfl, SqL.of h1, SqL.of h0, ?_⟩
        rw [show vs.isEmpty = (xs.map Sl.da).isEmpty by cases d1 <;> rfl]
        exact k _ _ rs F H (Stp.refl _ _) A (.da (.bl _)) h
    | raw ex =>
      cases r1
      obtain ⟨vs, h1, all, _⟩ := A.lst ex
      refine ⟨_, b, vs, rfl, rfl, SqL.of h1, SqL.of h0, ?_⟩
      rw [show vs.isEmpty = ys.isEmpty by cases all <;> rfl]
      exact k _ _ rs F H (Stp.refl _ _) A (.da (.bl _)) h
theorem s_popE {a : Addr} {zs : List Sl} {z : Sl} (rep : Rep (lstR a (zs ++ [z])) (lstR a zs) rs rs') (h : q z rs') : aPop (.raw (.ref a)) [] rs q :=
  s_pop (zs := zs ++ [z]) (by rw [List.dropLast_concat]; exact rep) (by simp) h
theorem s_nilEq {n : Bool} {ys : List Sl} (i : NlL rs y ys) (h : q (.da (.bl (if n then !ys.isEmpty else ys.isEmpty))) rs) : aNil n y (.da (.lst [])) rs q := ⟨rfl, ys, i, h⟩
theorem op_eqNilK (K) {X : Cx} {k : Nat} (room : Room k X.A) (hK : X.K = K := by rfl) : OpR X (compareOp .Eq) (rEqNil K false) := by subst hK; exact op_eqNil room
theorem op_neNilK (K) {X : Cx} {k : Nat} (room : Room k X.A) (hK : X.K = K := by rfl) : OpR X (compareOp .NotEq) (rEqNil K true) := by subst hK; exact op_neNil room
end
section
variable {X : Cx} {K : PySem.W.Frag} {E : XK} {e : Expr} {st : Stmt} {te : TD K}
/-- a comprehension whose list may change later -/
def rawQ (q : QD K) : QD K := fun y rs => ∃ acc, y = .da (.lst acc) ∧ ∀ a, q (.raw (.ref a)) (lstR a (acc.map .da) :: rs)
def dLcR (ti : TDi K) (g : TDg K) (tt : TDb K) (te : TD K) (vs : List Nat) : TD K := fun sl rs xc q => ti sl rs xc (LcKD g tt te vs sl (rawQ q))
theorem s_lcR {ti : TDi K} {g : TDg K} {tt : TDb K} {vs : List Nat} {sl : List Sl} {rs : List (Rs K)} {xc : XD K} {q : QD K} (h : ti sl rs xc (LcKD g tt te vs sl (rawQ q))) : dLcR ti g tt te vs sl rs xc q := h
theorem s_rawQ {acc : List Da} {rs : List (Rs K)} {q : QD K} (h : ∀ a, q (.raw (.ref a)) (lstR a (acc.map .da) :: rs)) : rawQ q (.da (.lst acc)) rs := ⟨acc, rfl, h⟩
theorem at_rawD {S0 : Addr → Prop} {H : Hp} {rs : List (Rs K)} {F : List Addr} {D : Addr} {vs : List V} {acc : List Da} (A : At K (Plus S0 D) H rs F) (nD : D ∉ F) (n0 : ¬ S0 D) (hD : H D = some (.lst vs)) (d : DeAll K (Mu (Plus S0 D) F) H vs acc) : At K S0 H (lstR D (acc.map .da) :: rs) (D :: F) := by
  have ls : ∀ b, Mu S0 (D :: F) b → Mu (Plus S0 D) F b := fun b z => z.elim (fun z => .inl (.inl z)) fun z => (List.mem_cons.mp z).elim (fun e => .inl (.inr e)) .inr
  refine ⟨⟨[D], F, rfl, ⟨rfl, vs, hD, (d.ev (F := []) (Ev.less ls)).vall⟩, A.sep.ev (G := F) (Ev.less ls) fun _ h => h⟩, List.nodup_cons.mpr ⟨nD, A.nd⟩, fun b hb z => ?_, fun b z => A.liv b (ls b z)⟩
  rcases List.mem_cons.mp hb with rfl | m
  · exact n0 z
  · exact A.off b m (.inl z)
theorem le_lcR {ti : TDi K} {g : TG} {gd : TDg K} {is vs : List Nat} {tt : TDb K} {E' E2 : XK} (hg : TgOk g gd is) (hv : ∀ i ∈ is, i ∈ vs) {σ : L2.St} {H : Hp} {Q : VK} (l : LE E (dLcR ti gd tt te vs) σ H Q) : tLc (LI E ti) g (LT E2 tt) (LE E' te) vs σ H Q := by
  obtain ⟨S0, sl, rs, F, xc, q, N, h, k, kx⟩ := l
  refine LI.use N h kx fun J ys gok rs1 F1 H1 st1 N1 it ⟨few, W, w0, wok, step, done⟩ => fun D hD => ?_
  refine ⟨fun i m H' => m + i = ys.length ∧ ∃ acc vs' rs' F', acc.length ≤ i ∧ H' D = some (.lst vs') ∧ Now K (Plus S0 D) (wipe σ vs) H' (wipeD sl vs) rs' F' ∧ Stp F1 H1 F' H' ∧ DeAll K (Mu (Plus S0 D) F') H' vs' acc ∧ W i acc rs',
    ⟨ys.length, rfl, [], [], rs1, F1, Nat.le_refl _, upd_same, ⟨N1.at_.plus hD trivial, (slots_wipe N1.sl vs).ev (ev_plus N1.at_ hD)⟩, Stp.same (same_new hD), .nil, w0⟩, ?_⟩
  rintro i m H2 ⟨hm, acc, vs2, rs2, F2, hl, hD2, N2, st2, d2, w2⟩
  have ev := st2.ev N1.at_
  have it2 := it (Plus S0 D) H2 rs2 F2 N2.at_ ⟨fun b z => by
    rcases z with (z | z) | z
    · exact .inl (.inl z)
    · rw [z]; exact .inr hD
    · exact (st2.new b z).imp .inr id, ev.keep, ev.own, ev.tk⟩ (wok _ _ _ w2) i
  by_cases lt : i < ys.length
  · have hy := List.getElem?_eq_getElem lt
    obtain ⟨go, yl⟩ := it2.1 ys[i] hy
    refine .inr ⟨go, fun H' => ∃ acc vs' rs' F', acc.length ≤ i + 1 ∧ H' D = some (.lst vs') ∧ Now K (Plus S0 D) (wipe σ vs) H' (wipeD sl vs) rs' F' ∧ Stp F1 H1 F' H' ∧ DeAll K (Mu (Plus S0 D) F') H' vs' acc ∧ W (i + 1) acc rs', fun H' h => ⟨m - 1, by omega, by omega, h⟩, fun x H3 y3 => ?_⟩
    obtain ⟨sm, rx⟩ := yl x H3 y3
    have N3 := N2.same sm
    have nD : D ∉ F2 := fun z => N2.at_.off D z (.inr rfl)
    refine hg _ _ H3 _ rs2 F2 x ys[i] _ _ N3 rx (step i ys[i] acc rs2 hy hl w2) fun σ4 sl4 N4 hw h4 => ⟨by rw [hw vs hv, wipe_wipe σ vs vs fun _ h => h], ?_⟩
    have d3 := d2.ev (Ev.same (F := []) sm)
    refine LT.use N4 h4 outX_F fun b rs5 F5 H5 st5 N5 t5 => ?_
    have N5' : Now K (Plus S0 D) (wipe σ vs) H5 (wipeD sl vs) rs5 F5 := N3.step st5 N5.at_
    have d5 := d3.ev (st5.ev N3.at_)
    have b1 := st5.keep D _ nD (sm _ _ hD2)
    have b3 := (st2.trans (Stp.same sm)).trans st5
    cases b with
    | false => exact iteF ⟨acc, vs2, rs5, F5, by omega, b1, N5', b3, d5, by simpa using t5⟩
    | true =>
      refine iteT (LE.use N5 (by simpa using t5) outX_F fun v z rs6 F6 H6 st6 N6 r6 t6 => ?_)
      obtain ⟨x6, rfl, w6⟩ := t6
      cases r6 with
      | da r6 =>
        have N6' := N5'.step st6 N6.at_
        have d6 := d5.ev (st6.ev N5.at_)
        have c1 := st6.keep D _ (fun z => N5.at_.off D z (.inr rfl)) b1
        have lv : vs2.length = acc.length := d2.len
        have ew := ev_write (D := D) (o := .lst (vs2 ++ [v])) N6.at_
        have c3 := b3.trans st6
        exact ⟨vs2, c1, by rw [lv]; exact Nat.lt_of_le_of_lt (Nat.le_trans hl (Nat.le_of_lt (Nat.lt_of_lt_of_le lt few))) (by decide), acc ++ [x6], vs2 ++ [v], rs6, F6, by simp; omega, upd_same, ⟨N6.at_.writeD trivial, N6'.sl.ev ew⟩,
          ⟨fun b o n h => by rw [upd_ne (ne_of_none h hD)]; exact c3.keep b o n h, c3.new⟩, (d6.app (.cons r6 .nil)).ev ew, w6⟩
  · obtain rfl : i = ys.length := by omega
    obtain ⟨_, e0, fin⟩ := done acc rs2 hl w2
    cases e0
    have nD : D ∉ F2 := fun z => N2.at_.off D z (.inr rfl)
    have A3 := at_rawD N2.at_ nD (fun q => (N1.at_.liv D (.inl q)).2 hD) hD2 d2
    exact .inl ⟨it2.2 rfl, k (.ref D) _ _ _ H2 (st1.trans ⟨st2.keep, fun b z => (List.mem_cons.mp z).elim (fun e => .inr (e ▸ hD)) (st2.new b)⟩) A3 (.raw _) (fin D)⟩
theorem d_lcR {ti : TDi K} {g : TG} {gd : TDg K} {is vs : List Nat} {tt : TDb K} {E' E2 : XK} (h : PE X e (tLc (LI E ti) g (LT E2 tt) (LE E' te) vs)) (hg : TgOk g gd is) (hv : ∀ i ∈ is, i ∈ vs) : PE X e (LE E (dLcR ti gd tt te vs)) := pe_weak h fun _ _ _ => le_lcR hg hv
theorem ds_setLcR {ti : TDi K} {g : TG} {gd : TDg K} {is vs : List Nat} {tt : TDb K} {E' E2 : XK} {i : Nat} (h : PS X st (tAsg (tLc (LI E ti) g (LT E2 tt) (LE E' te) vs) (gName i))) (hg : TgOk g gd is) (hv : ∀ i ∈ is, i ∈ vs) : PS X st (LS E (dAsg (dLcR ti gd tt te vs) (gdName i))) := ds_setX h fun _ _ _ => le_lcR hg hv
end
section
variable {X : Cx} {K : PySem.W.Frag} {E : XK} {e : Expr} {C : Addr} {D : SpD K} {rs : List (Rs K)} {q : QD K} {y : Sl} {ts : TDa K} {k : Nat}
/-- len(o) by an own __len__ -/
def LenQ (q : QD K) : QD K := fun z rs' => ∃ n : Int, z = .da (.int n) ∧ 0 ≤ n ∧ n < 2 ^ 63 ∧ q z rs'
def aLenO (C : Addr) (D : SpD K) : AN K := fun ys rs q => ∃ y nm, ys = [y] ∧ IsO rs y C nm ∧ Ask D [y] rs xF (LenQ q)
theorem act_lenO : ActN K (rLenO C (spD D)) (aLenO C D) := fun S0 H rs F vs ys q Q A r ⟨y, nm, e, io, t⟩ k => by
  subst e
  obtain ⟨u, rfl, ru⟩ := vone r
  obtain ⟨p, dx, gs, rfl, h1, h2⟩ := io.ok A ru
  refine ⟨p, dx, gs, rfl, h1, t.sp A (.cons ru .nil) (fun v z rs' F' H' st A' rz ⟨n, e, n0, n1, hq⟩ => ?_) outX_F⟩
  subst e
  have rz' := rz
  cases rz with | da rz => cases rz; exact ⟨n, rfl, n0, n1, k _ _ rs' F' H' st A' rz' hq⟩
theorem s_lenOD {fs : List (Str × Da)} (h : Ask D [.da (.obj C fs)] rs xF (LenQ q)) : aLenO C D [.da (.obj C fs)] rs q := ⟨_, _, rfl, .da _, h⟩
theorem s_lenOR {a : Addr} {fs : List (Str × Sl)} {rs' : List (Rs K)} (hx : Ext (objR a C fs) rs rs') (h : Ask D [.raw (.ref a)] rs xF (LenQ q)) : aLenO C D [.raw (.ref a)] rs q := ⟨_, _, rfl, .raw hx, h⟩
theorem s_lenQ {n : Nat} (hn : n ≤ 1000000) (h : q (.da (.int (n : Nat))) rs) : LenQ q (.da (.int (n : Nat))) rs := ⟨_, rfl, by omega, by omega, h⟩
end
section
variable {K : PySem.W.Frag} {to te : TD K} {sl : List Sl} {rs : List (Rs K)} {xc : XD K} {q : QD K}
def TupIxQ (ys : List Str) (q : QD K) : QD K := fun z rs2 => ∃ s j, z = .da (.str s) ∧ ys[j]? = some s ∧ (∀ m, m < j → ys[m]? ≠ some s) ∧ q (.da (.int (j : Nat))) rs2
def TupIxK (te : TD K) (sl : List Sl) (xc : XD K) (q : QD K) : QD K := fun y rs1 => ∃ ys : List Str, y = .da (.btup (ys.map .str)) ∧ te sl rs1 xc (TupIxQ ys q)
theorem s_tupIx (h : to sl rs xc (TupIxK te sl xc q)) : dTupIx to te sl rs xc q := h
theorem s_tupIxK {zs : List Da} (ys : List Str) (e : zs = ys.map .str) (h : te sl rs xc (TupIxQ ys q)) : TupIxK te sl xc q (.da (.btup zs)) rs := ⟨ys, by rw [e], h⟩
theorem s_tupIxQ {ys : List Str} {s : Str} (j : Nat) (h1 : ys[j]? = some s) (h2 : ∀ m, m < j → ys[m]? ≠ some s) (h : q (.da (.int (j : Nat))) rs) : TupIxQ ys q (.da (.str s)) rs := ⟨s, j, rfl, h1, h2, h⟩
end
section
variable {K : PySem.W.Frag} {y z : Sl} {rs : List (Rs K)} {q : QD K}
/-- xs + ys, a list that may change later -/
def aAddR : A2 K := fun y z rs q => ∃ xs zs, See rs y (.lst xs) ∧ See rs z (.lst zs) ∧ xs.length + zs.length ≤ sizeLine ∧ ∀ a, q (.raw (.ref a)) (lstR a ((xs ++ zs).map .da) :: rs)
theorem act_addR : Act2 K (uAdd K) aAddR := fun S0 H rs F v w y z q Q A r1 r2 ⟨xs, zs, s1, s2, hz, h⟩ k => by
  obtain ⟨a, vs, rfl, h1, d1⟩ := (s1.top A r1).l
  obtain ⟨b, us, rfl, h2, d2⟩ := (s2.top A r2).l
  refine .inr (.inr (.inl ⟨a, b, vs, us, rfl, rfl, h1, h2, by rw [d1.len, d2.len]; exact hz, fun p hp => ?_⟩))
  obtain ⟨A', st⟩ := at_newL A hp (d1.app d2).vall
  exact k _ _ _ _ _ st A' (.raw _) (h p)
theorem s_addR {xs zs : List Da} (s1 : See rs y (.lst xs)) (s2 : See rs z (.lst zs)) (hz : xs.length + zs.length ≤ sizeLine) (h : ∀ a, q (.raw (.ref a)) (lstR a ((xs ++ zs).map .da) :: rs)) : aAddR y z rs q := ⟨xs, zs, s1, s2, hz, h⟩
end
section
variable {K : PySem.W.Frag} {te to ti : TD K} {d : DEnds K} {sl : List Sl} {rs rs4 : List (Rs K)} {y z : Sl}
/-- xs[i] = v -/
def SetL3 (d : DEnds K) (sl : List Sl) (y z : Sl) : QD K := fun i rs3 => ∃ a ys k j rs4, z = .raw (.ref a) ∧ i = .da (.int k) ∧ ixN ys.length k = some j ∧ Rep (lstR a ys) (lstR a (ys.set j y)) rs3 rs4 ∧ d.nx sl rs4
def SetL2 (ti : TD K) (d : DEnds K) (sl : List Sl) (y : Sl) : QD K := fun z rs2 => ti sl rs2 d.xc (SetL3 d sl y z)
def SetL1 (to ti : TD K) (d : DEnds K) (sl : List Sl) : QD K := fun y rs1 => to sl rs1 d.xc (SetL2 ti d sl y)
theorem s_setL (h : te sl rs d.xc (SetL1 to ti d sl)) : dSetL te to ti d sl rs := h
theorem s_setL1 (h : to sl rs d.xc (SetL2 ti d sl y)) : SetL1 to ti d sl y rs := h
theorem s_setL2 (h : ti sl rs d.xc (SetL3 d sl y z)) : SetL2 ti d sl y z rs := h
theorem s_setL3 {a : Addr} {ys : List Sl} {k : Int} (j : Nat) (e : ixN ys.length k = some j) (r : Rep (lstR a ys) (lstR a (ys.set j y)) rs rs4) (h : d.nx sl rs4) : SetL3 d sl y (.raw (.ref a)) (.da (.int k)) rs := ⟨a, ys, k, j, rs4, rfl, rfl, e, r, h⟩
end
section
variable {K : PySem.W.Frag} {tc : TDb K} {tb : TDs K} {d : DEnds K} {sl : List Sl} {rs : List (Rs K)} {b : Bool}
/-- a while's turn; m falls -/
def DWhK (W : Nat → List Sl → List (Rs K) → Prop) (m : Nat) (tb : TDs K) (d : DEnds K) (sl : List Sl) : Bool → List (Rs K) → Prop := fun b rs1 => if b = true then
  tb { d with nx := Gs fun sl' rs' => ∃ m', m' < m ∧ W m' sl' rs', ct := Gs fun sl' rs' => ∃ m', m' < m ∧ W m' sl' rs', bk := Gs d.nx } sl rs1 else Gs d.nx sl rs1
theorem s_while (W : Nat → List Sl → List (Rs K) → Prop) (m : Nat) (h0 : Gs (W m) sl rs) (hs : ∀ m sl rs, W m sl rs → tc sl rs d.xc (DWhK W m tb d sl)) : dWhile tc tb d sl rs := ⟨W, ⟨m, h0⟩, hs⟩
theorem s_whT {W : Nat → List Sl → List (Rs K) → Prop} {m : Nat} (e : b = true) (h : tb { d with nx := Gs fun sl' rs' => ∃ m', m' < m ∧ W m' sl' rs', ct := Gs fun sl' rs' => ∃ m', m' < m ∧ W m' sl' rs', bk := Gs d.nx } sl rs) : DWhK W m tb d sl b rs := by subst e; exact h
theorem s_whF {W : Nat → List Sl → List (Rs K) → Prop} {m : Nat} (e : b = false) (h : Gs d.nx sl rs) : DWhK W m tb d sl b rs := by subst e; exact h
end
end HC

/-! ### methods of texts, by data -/
namespace HC
open PyProof.Rows PySem L2 PySem.Spec
section
variable {X : Cx} {K : PySem.W.Frag} {E : XK} {e : Expr} {to te : TD K} {sl : List Sl} {rs : List (Rs K)} {xc : XD K} {q : QD K}
def M1Q (g : Sl → List Sl → List (Rs K) → QD K → Prop) (s : Str) (q : QD K) : QD K := fun z rs2 => g (.da (.str s)) [z] rs2 q
def M1K (g : Sl → List Sl → List (Rs K) → QD K → Prop) (te : TD K) (sl : List Sl) (xc : XD K) (q : QD K) : QD K := fun y rs1 => ∃ s, y = .da (.str s) ∧ te sl rs1 xc (M1Q g s q)
def dM1 (g : Sl → List Sl → List (Rs K) → QD K → Prop) (to te : TD K) : TD K := fun sl rs xc q => to sl rs xc (M1K g te sl xc q)
theorem d_m1 {r : V → List V → Hp → VK → Prop} {g : Sl → List Sl → List (Rs K) → QD K → Prop} (h : PE X e (tM1 r (LE E to) (LE E te))) (ok : ActM K r g) : PE X e (LE E (dM1 g to te)) := pe_weak h fun σ H Q ⟨S0, sl, rs, F, xc, q, N, t, k, kx⟩ =>
  LE.use N t kx fun v y rs1 F1 H1 st1 N1 r1 ⟨s, ey, t1⟩ => by
    subst ey
    have r0 := r1
    cases r1 with | da r1 => cases r1 with | str o =>
      refine ⟨⟨s, rfl⟩, LE.use N1 t1 (kx.after st1) fun w z rs2 F2 H2 st2 N2 r2 t2 => ?_⟩
      exact ok S0 H2 rs2 F2 (.str s) (.da (.str s)) [w] [z] q Q N2.at_ (r0.ev (st2.ev N1.at_)) (.cons r2 .nil) t2 (k.after (st1.trans st2))
theorem s_m1 {g : Sl → List Sl → List (Rs K) → QD K → Prop} (h : to sl rs xc (M1K g te sl xc q)) : dM1 g to te sl rs xc q := h
theorem s_m1K {g : Sl → List Sl → List (Rs K) → QD K → Prop} {s : Str} (h : te sl rs xc (M1Q g s q)) : M1K g te sl xc q (.da (.str s)) rs := ⟨s, rfl, h⟩
theorem s_m1Q {g : Sl → List Sl → List (Rs K) → QD K → Prop} {s : Str} {z : Sl} (h : g (.da (.str s)) [z] rs q) : M1Q g s q z rs := h
/-- a.index(b) -/
def aSIndex (y : Sl) (ys : List Sl) (rs : List (Rs K)) (q : QD K) : Prop := ∃ a b i rest, y = .da (.str a) ∧ ys = [.da (.str b)] ∧ Builtin.Str.occurrences a b 0 a.length 1 = i :: rest ∧ q (.da (.int (i : Nat))) rs
theorem act_sindex : ActM K (fun x xs H Q => ∃ a b i rest, x = .str a ∧ xs = [.str b] ∧ Builtin.Str.occurrences a b 0 a.length 1 = i :: rest ∧ Q (.int (i : Nat)) H) aSIndex := fun S0 H rs F v y vs ys q Q A r1 r2 ⟨a, b, i, rest, e1, e2, ho, h⟩ k => by
  subst e1 e2
  obtain ⟨u, rfl, ru⟩ := vone r2
  cases r1 with | da r1 => cases r1 with | str o1 =>
    cases ru with | da ru => cases ru with | str o2 =>
      exact ⟨a, b, i, rest, rfl, rfl, ho, k _ _ rs F H (Stp.refl _ _) A (.da (.int _)) h⟩
theorem s_sindex {a b : Str} {i : Nat} {rest : List Nat} (ho : Builtin.Str.occurrences a b 0 a.length 1 = i :: rest) (h : q (.da (.int (i : Nat))) rs) : aSIndex (.da (.str a)) [.da (.str b)] rs q := ⟨a, b, i, rest, rfl, rfl, ho, h⟩
/-- a.join(list of texts) -/
def aJoin (y : Sl) (ys : List Sl) (rs : List (Rs K)) (q : QD K) : Prop := ∃ a z, ∃ zs : List Str, y = .da (.str a) ∧ ys = [z] ∧ See rs z (.lst (zs.map .str)) ∧ (zs.map (·.length)).sum + zs.length * a.length ≤ 16777216 ∧ PyData.strOk (Txt.join a zs) = true ∧ q (.da (.str (Txt.join a zs))) rs
theorem as_join {to' te' : TE} (K) (h : PE X e (tM1 (fun x xs H Q => ∃ a p, ∃ ys : List Str, x = .str a ∧ xs = [.ref p] ∧ (SqL X.K H p (ys.map V.str) ∨ SqT X.K H p (ys.map V.str)) ∧ (ys.map (·.length)).sum + ys.length * a.length ≤ 16777216 ∧ Q (.str (Txt.join a ys)) H) to' te')) (hK : X.K = K := by rfl) : PE X e (tM1 (fun x xs H Q => ∃ a p, ∃ ys : List Str, x = .str a ∧ xs = [.ref p] ∧ (SqL K H p (ys.map V.str) ∨ SqT K H p (ys.map V.str)) ∧ (ys.map (·.length)).sum + ys.length * a.length ≤ 16777216 ∧ Q (.str (Txt.join a ys)) H) to' te') := by subst hK; exact h
theorem act_join : ActM K (fun x xs H Q => ∃ a p, ∃ ys : List Str, x = .str a ∧ xs = [.ref p] ∧ (SqL K H p (ys.map V.str) ∨ SqT K H p (ys.map V.str)) ∧ (ys.map (·.length)).sum + ys.length * a.length ≤ 16777216 ∧ Q (.str (Txt.join a ys)) H) aJoin := fun S0 H rs F v y vs ys q Q A r1 r2 ⟨a, z, zs, e1, e2, see, hz, so, h⟩ k => by
  subst e1 e2
  obtain ⟨u, rfl, ru⟩ := vone r2
  cases r1 with | da r1 => cases r1 with | str o1 =>
    obtain ⟨p, ws, rfl, h1, d1⟩ := (see.top A ru).l
    obtain rfl := strs_D d1
    exact ⟨a, p, zs, rfl, rfl, .inl (SqL.of h1), hz, k _ _ rs F H (Stp.refl _ _) A (.da (.str so)) h⟩
theorem s_join {a : Str} {zs : List Str} {z : Sl} (see : See rs z (.lst (zs.map .str))) (hz : (zs.map (·.length)).sum + zs.length * a.length ≤ 16777216) (so : PyData.strOk (Txt.join a zs) = true) (h : q (.da (.str (Txt.join a zs))) rs) : aJoin (.da (.str a)) [z] rs q := ⟨a, z, zs, rfl, rfl, see, hz, so, h⟩
end
end HC

/-! ### a def with *fields, by data -/
namespace HC
open PyProof.Rows PySem L2 PySem.Spec
section
variable {P : Program} {w : World} {K : PySem.W.Frag} {mg : Str → Option Value} {base : Heap} {k : Nat} {f : Addr}
/-- the promise towards the callers: the arguments behind the first are handed over one by one -/
def starD (D : SpD K) : SpD K := fun as rs xc q => ∃ y xs, as = y :: xs.map .da ∧ xs.length ≤ sizeLine ∧ D [y, .da (.tup xs)] rs xc q
theorem starD_ok {D : SpD K} {vs : List V} {H : Hp} {Q : VK} {E : XK} (h : spD (starD D) vs H Q E) : ∃ w0 rest, vs = w0 :: rest ∧ rest.length ≤ sizeLine ∧ ∀ p, H p = none → spD D [w0, V.ref p] (upd H p (.tup rest)) Q E := by
  obtain ⟨S0, as, rs, F, xc, q, A, r, ⟨y, xs, rfl, hz, h⟩, k, kx⟩ := h
  match vs, r with
  | w0 :: rest, .cons r0 r =>
    refine ⟨w0, rest, rfl, by rw [r.len, List.length_map]; exact hz, fun p hp => ?_⟩
    have s : Same H (upd H p (.tup rest)) := same_new hp
    have st := Stp.same (F := F) s
    have ev := st.ev A
    exact ⟨S0, _, rs, F, xc, q, A.same s, .cons (r0.ev ev) (.cons (.da (.tup upd_same (r.das.ev ev))) .nil), h, k.after st, kx.after st⟩
theorem star_ok {x qual : Str} {params : Arguments} {body : List Stmt} {scope : Scope} {fd : FuncData} {N : List Str} {p1 pv : Str} {D : SpD K} {t : TDs K} (F : FunD K x qual params body scope [] [] f fd) (S : FnScope N ([p1] ++ [pv]) scope)
    (h0 : ∀ (kV doc pm : Value) (an : Option Addr) (cdv ct : Value) (a : Value), bindArgs (PySem.W.fnOf x qual params body scope .none kV doc pm an cdv ct) ⟨[a], []⟩ = (newTuple [] >>= fun t => pure [(p1, a), (pv, t)]))
    (h1 : ∀ (kV doc pm : Value) (an : Option Addr) (cdv ct : Value) (a r : Value) (rs : List Value), bindArgs (PySem.W.fnOf x qual params body scope .none kV doc pm an cdv ct) ⟨a :: r :: rs, []⟩ = (newTuple (r :: rs) >>= fun t => pure [(p1, a), (pv, t)]))
    (run : ∀ (cdv : Value) (A : Around) (outer : List Env) (s : Shared) (H : Hp) (E : XK), Room k (A.deeper (envOfC qual scope s.heap.objs.size f cdv)) → PSs (cxOf (CXW P w) P w K mg base N qual scope f cdv A outer s H E) body (LS E t))
    (walk : ∀ as rs xc q, D as rs xc q → t (dEnds q xc) (startD N.length as) rs) : FnR P w K mg base (CXW P w) (k + 1) f (spD (starD D)) :=
  FnR.imp (fnr_star1 F S h0 h1 fun cdv A outer s H vs Q E hr h => body_ok (run cdv A outer s H E hr) walk h) fun vs H Q E h => starD_ok h
end
end HC

/-! ### x *= e, C( *xs) by data -/
namespace HC
open PyProof.Rows PySem L2 PySem.Spec
section
variable {X : Cx} {K : PySem.W.Frag} {E : XK} {a b c e o tg : Expr} {es : List Expr} {pos : Pos} {ta tb tc td te to : TD K} {ts : TDa K} {st : Stmt} {t u : TDs K} {sl : List Sl} {rs : List (Rs K)} {d : DEnds K} {q : QD K} {xc : XD K}
def AugV (i : Nat) (C : Int → Int → Prop) (f : Int → Int → Int) (a : Int) (d : DEnds K) (sl : List Sl) : QD K := fun y rs1 => ∃ b, y = .da (.int b) ∧ C a b ∧ d.nx (sl.set i (.da (.int (f a b)))) rs1
def dAugI (i : Nat) (C : Int → Int → Prop) (f : Int → Int → Int) (te : TD K) : TDs K := fun d sl rs => ∃ a, sl[i]? = some (.da (.int a)) ∧ te sl rs d.xc (AugV i C f a d sl)
theorem ds_augM {i : Nat} {C : Int → Int → Prop} {f : Int → Int → Int} (h : PS X st (tAug i (LE E te) (rI C fun a b => .int (f a b)))) : PS X st (LS E (dAugI i C f te)) := ps_weak h fun D σ H ⟨S0, sl, rs, F, d, N, ⟨a, e, t⟩, k1, k2, k3, k4, k5⟩ => by
  obtain ⟨o, e1, r⟩ := paired_get1 N.sl e
  cases r with
  | some r =>
    cases vint r
    refine ⟨_, e1, LE.use N t k5 fun v y rs1 F1 H1 st1 N1 r1 ⟨b, ey, hc, t1⟩ => ?_⟩
    subst ey
    cases vint r1
    exact ⟨a, b, rfl, rfl, hc, k1 _ _ rs1 F1 H1 st1 (N1.set (.da (.int (f a b))) i) t1⟩
theorem s_augI {i : Nat} {C : Int → Int → Prop} {f : Int → Int → Int} {a : Int} (e : sl[i]? = some (.da (.int a))) (h : te sl rs d.xc (AugV i C f a d sl)) : dAugI i C f te d sl rs := ⟨a, e, h⟩
theorem s_augV {i : Nat} {C : Int → Int → Prop} {f : Int → Int → Int} {a b : Int} {sl' : List Sl} (hc : C a b) (e : sl.set i (.da (.int (f a b))) = sl') (h : d.nx sl' rs) : AugV i C f a d sl (.da (.int b)) rs := ⟨b, rfl, hc, by rw [e]; exact h⟩
def Aug0V (i : Nat) (f : Int → Int → Int) (a : Int) (d : DEnds K) (sl : List Sl) : QD K := fun y rs1 => ∃ b, y = .da (.int b) ∧ d.nx (sl.set i (.da (.int (f a b)))) rs1
theorem s_aug0 {i : Nat} {f : Int → Int → Int} {a : Int} (e : sl[i]? = some (.da (.int a))) (h : te sl rs d.xc (Aug0V i f a d sl)) : dAug i f te d sl rs := ⟨a, e, h⟩
theorem s_aug0V {i : Nat} {f : Int → Int → Int} {a b : Int} {sl' : List Sl} (e : sl.set i (.da (.int (f a b))) = sl') (h : d.nx sl' rs) : Aug0V i f a d sl (.da (.int b)) rs := ⟨b, rfl, by rw [e]; exact h⟩
/-- C( *xs) -/
theorem d_makeS {C : Addr} {D D' : SpD K} (h : PE X e (StX.tMakeR C (spD D) E (tStar1 K (LE E te)))) (mk : Mks C D D') : PE X e (LE E (dMake D' (dStar1 te))) :=
  d_make (pe_weak h fun σ H Q h' => da_star1 h') mk
end
end HC

/-! ### dict(zip(..)) of tuples: a zip whose pair is still out, over any two that are drawn from -/
namespace HC
open PyProof.Rows PySem L2 PySem.Spec
section
variable {prog : Program} {w : World} {A : Around} {E : Value → Shared → Prop} {s : Shared} {z TI TO T i1 i2 : Addr} {fp1 fp2 : List Addr} {n1 n2 i : Nat} {P1 P2 : Nat → Value → Prop} {St1 St2 : Nat → Heap → Prop} {f : Bool} {oT : Obj}
/-- what is off the three cells that turn stands -/
abbrev OffZ (z i1 i2 : Addr) (h h' : Heap) : Prop := ∀ c o, c ≠ z → c ≠ i1 → c ≠ i2 → h.get? c = some o → h'.get? c = some o
theorem held_item {Q : Value → Shared → Prop} (S : ZipSep2 z TI TO i1 i2 fp1 fp2) (D1 : Draws prog w A i1 fp1 n1 P1 St1) (D2 : Draws prog w A i2 fp2 n2 P2 St2) (hz : IsZipHeld s.heap z TI TO T f) (hT : s.heap.get? T = some oT) (hI : IsTupOf2 s.heap TI (.ref i1) (.ref i2)) (q1 : St1 i s.heap) (q2 : St2 i s.heap) (l1 : i < n1) (l2 : i < n2)
    (k : ∀ x y h' tk, P1 i x → P2 i y → IsZipHeld h' z TI TO T true → St1 (i + 1) h' → St2 (i + 1) h' → IsTupOf2 h' s.heap.objs.size x y → OffZ z i1 i2 s.heap h' → Q (.ref s.heap.objs.size) { s with heap := h', toks := tk }) : wpAny (model prog w) A (Builtin.«zip.__next__» ⟨[.ref z], []⟩) (fun fin s' => ∃ v, fin = .done (.ret v) ∧ Q v s') E s := by
  obtain ⟨hp, gg, dr, t0, so⟩ := s
  refine show wpAny _ _ (field (.ref z) 2 >>= _) _ _ _ from wpAny_bind (wpAny_field hz rfl (x := .bool false) rfl ?_)
  refine show wpAny _ _ (field (.ref z) 3 >>= _) _ _ _ from wpAny_bind (wpAny_field hz rfl (x := .ref TI) rfl (wpAny_bind (wpAny_seqItems hI rfl ?_)))
  refine show wpAny _ _ (Builtin.SmallTypes.ownedTupleIsFree (.ref z) >>= _) _ _ _ from wpAny_bind (wpAny_tupleHeld_zip hz hT fun h1 z1 (e1 : Heap.SameBut z hp h1) => ?_)
  rw [if_neg (Bool.false_ne_true)]
  refine wpAny_bind ?_; rw [← Array.forIn_toList]; simp only [List.forIn_cons, List.forIn_nil]; refine wpAny_bind (wpAny_bind (wpAny_holding ?_))
  refine show wpAny _ _ (Builtin.SmallTypes.nextOf (.ref i1) >>= _) _ _ ⟨h1, gg, dr, t0, so⟩ from wpAny_bind (D1.item i _ _ _ l1 (D1.over q1 e1 S.zf1) fun x h2 t2 px s2 (e2 : Heap.SameBut i1 h1 h2) => wpAny_pure (wpAny_pure (wpAny_bind (wpAny_bind (wpAny_holding ?_)))))
  refine show wpAny _ _ (Builtin.SmallTypes.nextOf (.ref i2) >>= _) _ _ ⟨h2, gg, dr, t2, so⟩ from wpAny_bind (D2.item i _ _ _ l2 (D2.over (D2.over q2 e1 S.zf2) e2 S.sep1_2) fun y h3 t3 py s3 (e3 : Heap.SameBut i2 h2 h3) => wpAny_pure (wpAny_pure (wpAny_pure ?_)))
  have size : h3.objs.size = hp.objs.size := e3.1.trans (e2.1.trans e1.1)
  have up : ∀ {c o}, h3.get? c = some o → (h3.push { cls := .type "tuple", data := .seq #[x, y] }).get? c = some o := fun e => Heap.get?_push_of_some _ e
  refine show wpAny _ _ (newTuple [x, y] >>= _) _ _ ⟨h3, gg, dr, t3, so⟩ from wpAny_bind (wpAny_newTuple (wpAny_pure ⟨_, rfl, ?_⟩))
  show Q (.ref h3.objs.size) ⟨h3.push { cls := .type "tuple", data := .seq #[x, y] }, gg, dr, t3, so⟩
  have new : IsTupOf2 (h3.push { cls := .type "tuple", data := .seq #[x, y] }) h3.objs.size x y := Heap.get?_push_size _ rfl
  rw [size] at new ⊢
  refine k x y _ t3 px py (up (e3.extBut _ _ S.zi2 (e2.extBut _ _ S.zi1 z1))) (D1.frame _ _ _ (D1.over s2 e3 S.sep2_1) fun b _ o e => up e) (D2.frame _ _ _ s3 fun b _ o e => up e) new fun c o a1 a2 a3 e => up (e3.extBut _ _ a3 (e2.extBut _ _ a2 (e1.extBut _ _ a1 e)))
theorem held_end {Q : Fin → Shared → Prop} (S : ZipSep2 z TI TO i1 i2 fp1 fp2) (D1 : Draws prog w A i1 fp1 n1 P1 St1) (D2 : Draws prog w A i2 fp2 n2 P2 St2) (hz : IsZipHeld s.heap z TI TO T f) (hT : s.heap.get? T = some oT) (hI : IsTupOf2 s.heap TI (.ref i1) (.ref i2)) (q1 : St1 i s.heap) (q2 : St2 i s.heap) (m1 : i ≤ n1) (m2 : i ≤ n2) (end_ : i = n1 ∨ i = n2)
    (k : ∀ h' tk e, OffZ z i1 i2 s.heap h' → (∃ o, h'.get? e = some o ∧ o.cls = .type "StopIteration") → E (.ref e) { s with heap := h', toks := tk }) : wpAny (model prog w) A (Builtin.«zip.__next__» ⟨[.ref z], []⟩) Q E s := by
  obtain ⟨hp, gg, dr, t0, so⟩ := s
  refine show wpAny _ _ (field (.ref z) 2 >>= _) _ _ _ from wpAny_bind (wpAny_field hz rfl (x := .bool false) rfl ?_)
  refine show wpAny _ _ (field (.ref z) 3 >>= _) _ _ _ from wpAny_bind (wpAny_field hz rfl (x := .ref TI) rfl (wpAny_bind (wpAny_seqItems hI rfl ?_)))
  refine show wpAny _ _ (Builtin.SmallTypes.ownedTupleIsFree (.ref z) >>= _) _ _ _ from wpAny_bind (wpAny_tupleHeld_zip hz hT fun h1 z1 (e1 : Heap.SameBut z hp h1) => ?_)
  rw [if_neg (Bool.false_ne_true)]
  refine wpAny_bind ?_; rw [← Array.forIn_toList]; simp only [List.forIn_cons, List.forIn_nil]; refine wpAny_bind (wpAny_bind (wpAny_holding ?_))
  by_cases l1 : i < n1
  · have e : i = n2 := by omega
    subst e
    refine show wpAny _ _ (Builtin.SmallTypes.nextOf (.ref i1) >>= _) _ _ ⟨h1, gg, dr, t0, so⟩ from wpAny_bind (D1.item i _ _ _ l1 (D1.over q1 e1 S.zf1) fun x h2 t2 px s2 (e2 : Heap.SameBut i1 h1 h2) => wpAny_pure (wpAny_pure (wpAny_bind (wpAny_bind (wpAny_holding ?_)))))
    exact show wpAny _ _ (Builtin.SmallTypes.nextOf (.ref i2) >>= _) _ _ ⟨h2, gg, dr, t2, so⟩ from wpAny_bind (D2.done _ _ _ (D2.over (D2.over q2 e1 S.zf2) e2 S.sep1_2) fun h3 e (e3 : Heap.ExtBut i2 h2 h3) he => k h3 t2 e (fun c o a1 a2 a3 q => e3 _ _ a3 (e2.extBut _ _ a2 (e1.extBut _ _ a1 q))) he)
  · have e : i = n1 := by omega
    subst e
    exact show wpAny _ _ (Builtin.SmallTypes.nextOf (.ref i1) >>= _) _ _ ⟨h1, gg, dr, t0, so⟩ from wpAny_bind (D1.done _ _ _ (D1.over q1 e1 S.zf1) fun h2 e (e2 : Heap.ExtBut i1 h1 h2) he => k h2 t0 e (fun c o a1 a2 _ q => e2 _ _ a2 (e1.extBut _ _ a1 q)) he)
theorem zip_entry {Q : Option Value → Shared → Prop} {o : Obj} (hz : s.heap.get? z = some o) (hc : o.cls = .type "zip") (h : wpAny (model prog w) A.in1 (Builtin.«zip.__next__» ⟨[.ref z], []⟩) (fun fin s' => ∃ v, fin = .done (.ret v) ∧ Q (some v) s') (fun e s' => (∃ o, ∃ a, e = .ref a ∧ s'.heap.get? a = some o ∧ o.cls = .type "StopIteration") ∧ Q none s') s) : wpAny (model prog w) A (pyNext (.ref z)) Q E s := by
  have ty : s.TypeIs (.ref z) "zip" := ⟨o, hz, hc⟩
  unfold pyNext
  refine wpAny_bind (wpAny_attempt (wpAny_callSpecial?_slot (name := Str.ofString "__next__") ty F.slot_zip_next (wpAny_call_entry F.slot_zip_next ty F.entry_zip_next (wpAny_mono h (fun fin s' ⟨v, e, q⟩ => ⟨v, e, wpAny_pure q⟩) ?_) (F.args_zip_next_1 _))))
  rintro _ s' ⟨⟨oe, a, rfl, ho, he⟩, q⟩
  exact wpAny_bind (wpAny_isInstance (T := "StopIteration") (b := true) ⟨oe, ho, he⟩ isSubtype_stop (wpAny_pure q))
end
/-! zip of two tuples, as the argument of dict() -/
section
variable {prog : Program} {w : World} {z TI TO i1 i2 l1 l2 : Addr} {xs ys : Array Value}
theorem sep_of (D : ZipApart z TI TO i1 i2 l1 l2) : ZipSep2 z TI TO i1 i2 [i1, l1] [i2, l2] where
  TIz := D.TIz
  TOz := D.TOz
  TITO := D.TITO
  TIi1 := D.TIi1
  mem1 := List.mem_cons_self
  zf1 := by simp [D.i1z.symm, D.l1z.symm]
  Tf1 := by simp [D.TOi1, D.l1TO.symm]
  TIi2 := D.TIi2
  mem2 := List.mem_cons_self
  zf2 := by simp [D.i2z.symm, D.l2z.symm]
  Tf2 := by simp [D.TOi2, D.l2TO.symm]
  sep1_2 := by simp [D.i12, D.l2i1.symm]
  sep2_1 := by simp [D.i12.symm, D.l1i2.symm]
/-- the tuple that was handed out, or none yet -/
def ZipAt (z TI TO i1 i2 d : Addr) (h : Heap) : Prop := (IsZip h z TI TO .none ∧ ∃ a b, IsPair h TO a b) ∨ ∃ T f oT, IsZipHeld h z TI TO T f ∧ h.get? T = some oT ∧ T ≠ z ∧ T ≠ i1 ∧ T ≠ i2 ∧ T ≠ d
structure ZipSt (z TI TO i1 i2 l1 l2 d : Addr) (xs ys : Array Value) (i : Nat) (h : Heap) : Prop where
  pr : IsPair h TI (.ref i1) (.ref i2)
  a1 : h.IsTupleIter i1 l1 i
  a2 : h.IsTupleIter i2 l2 i
  b1 : h.IsTuple l1 xs
  b2 : h.IsTuple l2 ys
  zp : ZipAt z TI TO i1 i2 d h
theorem zip_src {A : Around} {d : Addr} (hh : A.handled = none) (D : ZipApart z TI TO i1 i2 l1 l2) (off : d ∉ [z, TI, TO, i1, i2, l1, l2]) : PairSrc prog w A z d [z, TO, i1, i2] (min xs.size ys.size) (fun i k v => xs[i]? = some k ∧ ys[i]? = some v) (ZipSt z TI TO i1 i2 l1 l2 d xs ys) := by
  simp only [List.mem_cons, List.not_mem_nil, or_false, not_or] at off
  obtain ⟨dz, dTI, dTO, d1, d2, e1, e2⟩ := off
  have S := sep_of D
  have C1 := Draws.tuple (prog := prog) (w := w) (A := A.in1) hh i1 l1 D.l1i1 xs
  have C2 := Draws.tuple (prog := prog) (w := w) (A := A.in1) hh i2 l2 D.l2i2 ys
  refine ⟨by simp [dz, dTO, d1, d2], fun i h h' st k => ?_, fun i s Q E hi st hd q => ?_, fun s Q E st q => ?_⟩
  · refine ⟨k _ _ (Ne.symm dTI) st.pr, st.a1.at fun o e => k _ o (Ne.symm d1) e, st.a2.at fun o e => k _ o (Ne.symm d2) e, st.b1.at fun o e => k _ o (Ne.symm e1) e, st.b2.at fun o e => k _ o (Ne.symm e2) e, ?_⟩
    rcases st.zp with ⟨g, a, b, p⟩ | ⟨T, f, oT, g, gT, r⟩
    · exact .inl ⟨k _ _ (Ne.symm dz) g, a, b, k _ _ (Ne.symm dTO) p⟩
    · exact .inr ⟨T, f, oT, k _ _ (Ne.symm dz) g, k _ _ r.2.2.2 gT, r⟩
  · have x1 : i < xs.size := by omega
    have x2 : i < ys.size := by omega
    have lt {c : Addr} {o : Obj} (at_ : s.heap.get? c = some o) : s.heap.objs.size ≠ c := Nat.ne_of_gt (Heap.lt_size at_)
    rcases st.zp with ⟨g, a, b, p⟩ | ⟨T, f, oT, g, gT, r1, r2, r3, r4⟩
    · refine RZ.pyNext_zipT_item D g st.pr p st.a1 st.a2 st.b1 st.b2 (Array.getElem?_eq_getElem x1) (Array.getElem?_eq_getElem x2) fun h' y1 y2 y3 y4 y5 y6 k => ?_
      refine q _ _ _ h' s.toks ⟨Array.getElem?_eq_getElem x1, Array.getElem?_eq_getElem x2⟩ (.inl ⟨_, y5, rfl, _, rfl⟩) ⟨k _ _ D.TIz D.TITO D.TIi1 D.TIi2 st.pr, y3, y4, st.b1.at fun o e => k _ o D.l1z D.l1TO D.l1i1 D.l1i2 e, st.b2.at fun o e => k _ o D.l2z D.l2TO D.l2i1 D.l2i2 e, ?_⟩ fun c o hc e => ?_
      · exact .inr ⟨_, false, _, y1, y5, lt g, (let ⟨_, e, _⟩ := st.a1; lt e), (let ⟨_, e, _⟩ := st.a2; lt e), Nat.ne_of_gt hd⟩
      · simp only [List.mem_cons, List.not_mem_nil, or_false, not_or] at hc
        exact k c o hc.1 hc.2.1 hc.2.2.1 hc.2.2.2 e
    · refine zip_entry g rfl (held_item S C1 C2 g gT st.pr ⟨st.a1, st.b1⟩ ⟨st.a2, st.b2⟩ x1 x2 fun x y h' tk p1 p2 y1 y2 y3 y4 k => ?_)
      refine q _ x y h' tk ⟨p1, p2⟩ (.inl ⟨_, y4, rfl, _, rfl⟩) ⟨k _ _ D.TIz D.TIi1 D.TIi2 st.pr, y2.1, y3.1, y2.2, y3.2, .inr ⟨T, true, oT, y1, k _ _ r1 r2 r3 gT, r1, r2, r3, r4⟩⟩ fun c o hc e => ?_
      simp only [List.mem_cons, List.not_mem_nil, or_false, not_or] at hc
      exact k c o hc.1 hc.2.2.1 hc.2.2.2 e
  · have m1 : min xs.size ys.size ≤ xs.size := Nat.min_le_left ..
    have m2 : min xs.size ys.size ≤ ys.size := Nat.min_le_right ..
    have en : min xs.size ys.size = xs.size ∨ min xs.size ys.size = ys.size := by omega
    have off4 : ∀ {c : Addr}, c ∉ [z, TO, i1, i2] → c ≠ z ∧ c ≠ TO ∧ c ≠ i1 ∧ c ≠ i2 := fun hc => by simpa only [List.mem_cons, List.not_mem_nil, or_false, not_or] using hc
    rcases st.zp with ⟨g, a, b, p⟩ | ⟨T, f, oT, g, gT, r1, r2, r3, r4⟩
    · refine RZ.pyNext_zipT_end hh D g st.pr p st.a1 st.a2 st.b1 st.b2 (en.imp (fun e => Array.getElem?_eq_none (by omega)) fun e => Array.getElem?_eq_none (by omega)) fun h' k => q h' s.toks fun c o hc e => ?_
      obtain ⟨c1, c2, c3, c4⟩ := off4 hc
      exact k c o c1 c2 c3 c4 e
    · refine zip_entry g rfl (held_end S C1 C2 g gT st.pr ⟨st.a1, st.b1⟩ ⟨st.a2, st.b2⟩ m1 m2 en fun h' tk e k he => ⟨?_, q h' tk fun c o hc e => ?_⟩)
      · obtain ⟨o, h1, h2⟩ := he
        exact ⟨o, e, rfl, h1, h2⟩
      · obtain ⟨c1, c2, c3, c4⟩ := off4 hc
        exact k c o c1 c3 c4 e
theorem zipT_arg (D : ZipApart z TI TO i1 i2 l1 l2) : PairArg prog w "zip" z [z, TI, TO, i1, i2, l1, l2] [z, TO, i1, i2] (min xs.size ys.size) (fun i k v => xs[i]? = some k ∧ ys[i]? = some v)
    (fun h => IsZip h z TI TO .none ∧ (∃ a b, IsPair h TO a b) ∧ IsPair h TI (.ref i1) (.ref i2) ∧ h.IsTupleIter i1 l1 0 ∧ h.IsTupleIter i2 l2 0 ∧ h.IsTuple l1 xs ∧ h.IsTuple l2 ys) := by
  refine ⟨fun s ok => ⟨_, ok.1, rfl⟩, by decide, ?_, ?_, ?_, fun A s Q E hA ok q => getAttrOr_miss_zip ok.1 rfl rfl rfl zip_no_keys (by decide +kernel) hA q, fun A s d Q E hA ok hd off q => ?_⟩
  · rintro h h' ⟨g, ⟨a, b, p⟩, pr, a1, a2, b1, b2⟩ k
    exact ⟨k _ _ g, ⟨a, b, k _ _ p⟩, k _ _ pr, a1.at fun o e => k _ o e, a2.at fun o e => k _ o e, b1.at fun o e => k _ o e, b2.at fun o e => k _ o e⟩
  · rintro h ⟨g, ⟨a, b, p⟩, pr, ⟨o1, a1, _⟩, ⟨o2, a2, _⟩, ⟨o3, b1, _⟩, ⟨o4, b2, _⟩⟩ c hc
    simp only [List.mem_cons, List.not_mem_nil, or_false] at hc
    rcases hc with rfl | rfl | rfl | rfl | rfl | rfl | rfl
    · exact ⟨_, g⟩
    · exact ⟨_, pr⟩
    · exact ⟨_, p⟩
    · exact ⟨_, a1⟩
    · exact ⟨_, a2⟩
    · exact ⟨_, b1⟩
    · exact ⟨_, b2⟩
  · intro c hc
    simp only [List.mem_cons, List.not_mem_nil, or_false] at hc ⊢
    rcases hc with h | h | h | h <;> simp [h]
  · obtain ⟨g, p, pr, a1, a2, b1, b2⟩ := ok
    exact wpAny_pyIter_zip g (q z [z, TO, i1, i2] _ s.heap s.toks (zip_src hA D off) ⟨pr, a1, a2, b1, b2, .inl ⟨g, p⟩⟩ (fun _ _ e => e) fun c hc => .inl hc)
end
/-! ### dict(zip(a, b)) as an expression -/
section
variable {X : Cx} {e1 e2 : Expr} {ta : TA} {p p2 pos zpos : Pos}
def rDictZip (K : PySem.W.Frag) : List V → Hp → VK → Prop := fun vs H Q => ∃ a b, ∃ (ks : List Key) (ys : List V), vs = [.ref a, .ref b] ∧ SqT K H a (ks.map kV) ∧ SqT K H b ys ∧ ∀ p, H p = none → Q (.ref p) (upd H p (.dK (mergeK [] (ks.zip ys))))
theorem zip_kv {P : Program} {w : World} : ∀ {ks : List Key} {ys : List V} {us vs : List Value}, Vals (ks.map kV) us → Vals ys vs → KV (ks.zip ys) (ks.zip vs) ∧ (ks.zip vs).length = min us.length vs.length ∧ ∀ (i : Nat) (k v : Value), us[i]? = some k → vs[i]? = some v → ∃ key, (ks.zip vs)[i]? = some (key, v) ∧ (mixKind P w).is key k = true
  | [], _, _, _, .nil, r2 => ⟨.nil, by simp, fun i k v h => by simp at h⟩
  | _ :: _, [], _, _, _, .nil => ⟨.nil, by simp, fun i k v _ h => by simp at h⟩
  | key :: ks, y :: ys, _, _, .cons (b := u) r1 t1, .cons (b := v) r2 t2 => by
    obtain ⟨h1, h2, h3⟩ := zip_kv (P := P) (w := w) t1 t2
    refine ⟨.cons ⟨rfl, r2⟩ h1, by simp only [List.zip_cons_cons, List.length_cons, h2]; omega, fun i k v hk hv => ?_⟩
    cases i with
    | zero =>
      simp only [List.getElem?_cons_zero, Option.some.injEq] at hk hv
      subst hk hv
      exact ⟨key, rfl, kV_is r1⟩
    | succ i => exact h3 i k v (by simpa using hk) (by simpa using hv)
theorem pe_dictZipT (K) (m : Bts X.mg) (ha : PA X [e1, e2] ta) (hK : X.K = K := by rfl) (calm : X.calm = true := by rfl) (g1 : Gl X "dict" := by rfl) (g2 : Gl X "zip" := by rfl) (s2 : starEach [e1, e2] X.env = (false, eval e1 X.env) :: starEach [e2] X.env := by rfl) (l2 : (backTo zpos (starEach [e2] X.env)).any (·.1) = false := by rfl)
    (s1 : starEach [.Call (.Name "zip" p2) [e1, e2] [] zpos] X.env = [(false, eval (.Call (.Name "zip" p2) [e1, e2] [] zpos) X.env)] := by rfl) : PE X (.Call (.Name "dict" p) [.Call (.Name "zip" p2) [e1, e2] [] zpos] [] pos) (tCB (rDictZip K) ta) := by
  subst hK
  constructor
  intro pn s σ H Q inv h
  refine wpAny_Call_Name_kw (ld_blt inv g1 m.dict PyProof.Rows.boot_dict ?_ (by decide) (by decide))
  refine PyProof.Rows.callWith_type1 ?_ (by rw [s1]; rfl) (by rfl)
  rw [s1]
  refine show wpAny _ _ (spliced ((false, eval (.Call (.Name "zip" p2) [e1, e2] [] zpos) X.env) :: [])) _ _ s from PySem.Calls.spliced_cons ?_
  refine wpAny_Call_Name_kw (ld_blt inv g2 m.zip PyProof.Rows.boot_zip (PyProof.Rows.callWith_type1 (thn (ha.run zpos pn s σ H _ inv h) ?_) s2 l2) (by decide) (by decide))
  rintro us s3 ⟨vs, H1, inv1, rel, a, b, ks, ys, rfl, sa, sb, q⟩
  match us, rel with
  | [_, _], .cons rfl (.cons rfl .nil) =>
    obtain ⟨c1, r1, p1, z1⟩ := inv1.tuple sa
    obtain ⟨c2, r2, p2, _⟩ := inv1.tuple sb
    obtain ⟨o1, ho1, _⟩ := id p1
    obtain ⟨o2, ho2, _⟩ := id p2
    refine RZ.call_zipT (show s3.heap.IsTuple a c1.toArray from p1) (show s3.heap.IsTuple b c2.toArray from p2) fun h' hz hI hO x1 x2 size keep => PySem.Calls.spliced_nil ?_
    obtain ⟨kv, len, pr⟩ := zip_kv (P := X.prog) (w := X.w) r1 r2
    have P := zipT_arg (prog := X.prog) (w := X.w) (xs := c1.toArray) (ys := c2.toArray) (PySem.W.ktu_apart s3.heap.objs.size a b (Heap.lt_size ho1) (Heap.lt_size ho2))
    have few : min c1.toArray.size c2.toArray.size ≤ sizeLine := Nat.le_trans (Nat.min_le_left ..) (by simpa [r1.length] using z1)
    have t1 : s3.heap.IsTuple a c1.toArray := p1
    have t2 : s3.heap.IsTuple b c2.toArray := p2
    refine PySem.call_dict_pairs (s := { s3 with heap := h' }) (knd := mixKind X.prog X.w) (kvs := ks.zip c2) P (inv1.ok.hd calm) ⟨hz, ⟨_, _, hO⟩, hI, x1, x2, t1.at fun o e => keep _ o e, t2.at fun o e => keep _ o e⟩ ⟨by simpa using len, fun i k v hv => pr i k v (by simpa using hv.1) (by simpa using hv.2)⟩ few fun h2 tk dd kp => ?_
    have up : ∀ c o, s3.heap.get? c = some o → h2.get? c = some o := fun c o e => kp c o (fun hc => by
      have lt : @LT.lt Nat _ c s3.heap.objs.size := Heap.lt_size e
      have hc' : c = s3.heap.objs.size + 4 ∨ c = s3.heap.objs.size + 3 ∨ c = s3.heap.objs.size ∨ c = s3.heap.objs.size + 1 := by simpa using hc
      rcases hc' with z | z | z | z <;> (rw [z] at lt; first | exact absurd lt (by simp) | exact absurd lt (Nat.lt_irrefl _) | (exact absurd lt (Nat.not_lt.mpr (Nat.le_add_right _ _))))) (keep c o e)
    have above : s3.heap.objs.size ≤ h'.objs.size := by rw [size]; exact Nat.le_add_right _ _
    have hm : (h'.objs.size == sysModules) = false := beq_eq_false_iff_ne.mpr (Nat.ne_of_gt (Nat.lt_of_lt_of_le inv1.big above))
    have hl : (mergeK [] (ks.zip ys)).length ≤ sizeLine := by
      refine Nat.le_trans (length_mergeK _ []) ?_
      rw [List.length_nil, Nat.zero_add, kv.length, len]
      simpa using few
    exact ⟨.ref h'.objs.size, _, inv1.laid (t' := tk) up above (show ObjOk X.prog X.w _ _ _ (.dK (mergeK [] (ks.zip ys))) from ⟨hl, hm, merged [] (ks.zip c2), KV.merge kv .nil, dd⟩), rfl, q _ (inv1.hok.fresh above)⟩
end
end HC

/-! ### dicts by data -/
namespace HC
open PyProof.Rows PySem L2 PySem.Spec
section
variable {X : Cx} {K : PySem.W.Frag} {E : XK} {e o : Expr} {ta tb te to : TD K} {ts : TDa K} {sl : List Sl} {rs rs' : List (Rs K)} {q : QD K} {xc : XD K} {y z : Sl}
theorem at_newD {S0 : Addr → Prop} {H : Hp} {F : List Addr} {p : Addr} {gs : List (Key × V)} {fs : List (Key × Sl)} (A : At K S0 H rs F) (hp : H p = none) (e : gs.map (·.1) = fs.map (·.1)) (r : VAll K (Mu S0 F) H (gs.map (·.2)) (fs.map (·.2))) : At K S0 (upd H p (.dK gs)) (dctR p fs :: rs) ([p] ++ F) ∧ Stp F H ([p] ++ F) (upd H p (.dK gs)) := by
  have s := same_new (o := .dK gs) hp
  have one : ∀ {b}, b ∈ [p] → b = p := fun h => List.mem_singleton.mp h
  refine A.new s (fun b hb => by rw [one hb]; exact hp) (by simp) (fun b hb => by rw [one hb, upd_same]; exact ⟨trivial, nofun⟩) ⟨rfl, gs, upd_same, e, r.ev (F := []) ⟨fun b m => ?_, fun b o _ h => ⟨o, s b o h, .refl o⟩, fun b o m _ => absurd m (by simp), fun a _ h => s a _ h⟩⟩
  rcases m with m | m
  · exact .inl (.inl m)
  · exact (List.mem_append.mp m).elim (fun m => .inr (by rw [one m]; exact hp)) fun m => .inl (.inr m)
theorem merge_nd : ∀ {kvs acc : List (Key × V)}, ((acc ++ kvs).map (·.1)).Nodup → mergeK acc kvs = acc ++ kvs
  | [], acc, _ => (List.append_nil acc).symm
  | (k, v) :: r, acc, h => by
    have fresh : (acc.any fun kv => decide (kv.1 = k)) = false := by
      rw [List.any_eq_false]
      intro p hp hk
      have hk := of_decide_eq_true hk
      rw [List.map_append, List.nodup_append] at h
      exact h.2.2 p.1 (List.mem_map.mpr ⟨p, hp, rfl⟩) k (by simp) hk
    show mergeK (putK acc k v) r = _
    rw [putK, if_neg (by rw [fresh]; decide), merge_nd (by rwa [List.append_assoc, List.singleton_append]), List.append_assoc, List.singleton_append]
theorem zip_fst {α β : Type} : ∀ {ks : List α} {ys : List β}, ks.length = ys.length → (ks.zip ys).map (·.1) = ks
  | [], [], _ => rfl
  | k :: ks, y :: ys, h => congrArg (k :: ·) (zip_fst (by simpa using h))
theorem zip_snd {α β : Type} : ∀ {ks : List α} {ys : List β}, ks.length = ys.length → (ks.zip ys).map (·.2) = ys
  | [], [], _ => rfl
  | k :: ks, y :: ys, h => congrArg (y :: ·) (zip_snd (by simpa using h))
def kvS (ks : List Str) (xs : List Da) : List (Key × Sl) := (ks.map Sum.inr).zip (xs.map .da)
/-- dict(zip(names, values)) -/
def DictZipK (q : QD K) : List Sl → List (Rs K) → Prop := fun ys rs1 => ∃ y z ks xs, ys = [y, z] ∧ TI2 y ((ks.map Da.str).map .da) ∧ TI2 z (xs.map .da) ∧ ks.Nodup ∧ ks.length = xs.length ∧ ∀ p, q (.raw (.ref p)) (dctR p (kvS ks xs) :: rs1)
def dDictZip (ts : TDa K) : TD K := fun sl rs xc q => ts sl rs xc (DictZipK q)
theorem d_dictZip (h : PE X e (tCB (rDictZip K) (LA E ts))) : PE X e (LE E (dDictZip ts)) := pe_weak h fun σ H Q ⟨S0, sl, rs, F, xc, q, N, t, k, kx⟩ =>
  LA.use N t kx fun vs ys rs1 F1 H1 st1 N1 r1 ⟨y, z, ks, xs, ey, i1, i2, nd, hl, t1⟩ => by
    subst ey
    obtain ⟨v, u, rfl, rv, ru⟩ := vtwo r1
    obtain ⟨a, as, rfl, s1, all1⟩ := i1.ok rv
    obtain ⟨b, bs, rfl, s2, all2⟩ := i2.ok ru
    have e1 : as = (ks.map Sum.inr).map kV := by rw [strs_D all1.das, List.map_map]; rfl
    have lb : bs.length = xs.length := by rw [all2.len, List.length_map]
    subst e1
    refine ⟨a, b, ks.map Sum.inr, bs, rfl, s1.sq, s2.sq, fun p hp => ?_⟩
    have l3 : (ks.map (Sum.inr : Str → Key)).length = bs.length := by rw [List.length_map, hl, lb]
    have l4 : (ks.map (Sum.inr : Str → Key)).length = (xs.map Sl.da).length := by rw [List.length_map, List.length_map, hl]
    have ndK : (ks.map (Sum.inr : Str → Key)).Nodup := List.Pairwise.map _ (fun _ _ h e => h (Sum.inr.inj e)) nd
    rw [merge_nd (acc := []) (by rw [List.nil_append, zip_fst l3]; exact ndK), List.nil_append]
    obtain ⟨A, st⟩ := at_newD (fs := kvS ks xs) N1.at_ hp (by rw [zip_fst l3, kvS, zip_fst l4]) (by rw [zip_snd l3, kvS, zip_snd l4]; exact all2)
    exact k _ _ _ _ _ (st1.trans st) A (.raw _) (t1 p)
theorem s_dictZip (h : ts sl rs xc (DictZipK q)) : dDictZip ts sl rs xc q := h
theorem s_dictZipK {ks : List Str} {xs : List Da} (i1 : TI2 y ((ks.map Da.str).map .da)) (i2 : TI2 z (xs.map .da)) (nd : ks.Nodup) (hl : ks.length = xs.length) (h : ∀ p, q (.raw (.ref p)) (dctR p (kvS ks xs) :: rs)) : DictZipK q [y, z] rs := ⟨y, z, ks, xs, rfl, i1, i2, nd, hl, h⟩
/-- list(d.items()) -/
def kD : Key → Da
  | .inl i => .int i
  | .inr s => .str s
def ItemsK (q : QD K) : QD K := fun y rs => ∃ (a : Addr) (fs : List (Key × Da)) (rs' : List (Rs K)), y = .raw (.ref a) ∧ Ext (dctR a (fs.map fun f => (f.1, .da f.2))) rs rs' ∧ (∀ f ∈ fs, ∀ s, f.1 = .inr s → PyData.strOk s = true) ∧ q (.da (.lst (fs.map fun f => .tup [kD f.1, f.2]))) rs
def dItems (te : TD K) : TD K := fun sl rs xc q => te sl rs xc (ItemsK q)
theorem items_D {S : Addr → Prop} {H : Hp} (no : ∀ b, H b = none → ¬ S b) : ∀ {gs : List (Key × V)} {fs : List (Key × Da)} {ts : List Addr}, gs.map (·.1) = fs.map (·.1) → DeAll K S H (gs.map (·.2)) (fs.map (·.2)) → (∀ f ∈ fs, ∀ s, f.1 = .inr s → PyData.strOk s = true) → Paired (fun (t : Addr) (p : Key × V) => H t = some (.tup [kV p.1, p.2])) ts gs → DeAll K S H (ts.map V.ref) (fs.map fun f => .tup [kD f.1, f.2])
  | [], [], _, _, _, _, .nil => .nil
  | (g, v) :: gs, (f, x) :: fs, _, e, .cons d ds, ok, .cons h t => by
    injection e with e1 e2
    dsimp only at e1
    subst e1
    refine .cons (.tup h (.cons ?_ (.cons d .nil))) (items_D no e2 ds (fun f hf => ok f (List.mem_cons_of_mem _ hf)) t)
    cases g with
    | inl i => exact .int i
    | inr s => exact .str (ok _ List.mem_cons_self s rfl)
  | [], _ :: _, _, e, _, _, _ => by cases e
  | _ :: _, [], _, e, _, _, _ => by cases e
theorem d_items (h : PE X e (LiI.tListItems (LE E te))) : PE X e (LE E (dItems te)) := pe_weak h fun σ H Q ⟨S0, sl, rs, F, xc, q, N, t, k, kx⟩ =>
  LE.use N t kx fun v y rs1 F1 H1 st1 N1 r1 ⟨a, fs, rs', ey, ex, ok, t1⟩ => by
    subst ey
    cases r1
    obtain ⟨gs, h1, h2, h3, _⟩ := N1.at_.dct ex
    refine ⟨a, gs, rfl, h1, fun H' p ts same np nts off hp pr => ?_⟩
    have s : Same H1 H' := same
    have A := N1.at_.same s
    have d := (das2 h3).ev (Ev.same (F := []) s)
    refine k (.ref p) _ rs1 F1 H' (st1.trans (Stp.same s)) A (.da (.lst (N1.at_.fresh np) hp ?_)) t1
    exact items_D (fun b hb m => (A.liv b m).2 hb) (by rw [h2, List.map_map]; rfl) d ok pr
theorem s_items (h : te sl rs xc (ItemsK q)) : dItems te sl rs xc q := h
theorem s_itemsK {a : Addr} {ks : List Str} {xs : List Da} (ex : Ext (dctR a (kvS ks xs)) rs rs') (ok : ∀ s ∈ ks, PyData.strOk s = true) (h : q (.da (.lst ((ks.zip xs).map fun f => .tup [.str f.1, f.2]))) rs) : ItemsK q (.raw (.ref a)) rs := by
  have e : ∀ (ks : List Str) (xs : List Da), kvS ks xs = ((ks.zip xs).map fun f => ((Sum.inr f.1 : Key), f.2)).map fun f => (f.1, Sl.da f.2) := by
    intro ks
    induction ks with
    | nil => intro xs; rfl
    | cons k ks ih =>
      intro xs
      cases xs with
      | nil => rfl
      | cons x xs => exact congrArg (_ :: ·) (ih xs)
  refine ⟨a, (ks.zip xs).map fun f => (.inr f.1, f.2), rs', rfl, by rw [← e]; exact ex, fun f hf s hs => ?_, by rw [List.map_map]; exact h⟩
  obtain ⟨g, hg, rfl⟩ := List.mem_map.mp hf
  cases hs
  exact ok _ (List.of_mem_zip hg).1
end
end HC

/-! ### lambdas by data: the table of the maker's code objects, the lambda's value, a def that is given a lambda -/
namespace HC
open PyProof.Rows PySem L2 PySem.Spec LamX
theorem lk_ext {φ : Heap → Prop} {o : HO} (h : Lk (.ext φ) o) : o = .ext φ := by cases h; rfl
section
variable {X : Cx} {K : PySem.W.Frag} {E : XK} {e : Expr} {te tb : TD K} {sl : List Sl} {rs rs' : List (Rs K)} {q : QD K} {xc : XD K} {S S' S0 : Addr → Prop} {H H' H1 : Hp} {F G : List Addr} {P : Addr} {nm : Str}
theorem Ev.ext (e : Ev K S S' H H' F) {a : Addr} {φ : Heap → Prop} (n : ¬ S a) (h : H a = some (.ext φ)) : ¬ S' a ∧ H' a = some (.ext φ) := by
  obtain ⟨o, h1, h2⟩ := e.keep _ _ n h
  cases lk_ext h2
  exact ⟨e.off n h, h1⟩
/-- the table at P of the code objects of the name nm -/
def tabR (P : Addr) (nm : Str) : Rs K where
  p S H F := F = [P] ∧ ∃ ps : Array Value, H P = some (.tbl ps) ∧ TriplesOk ps.toList ∧ ∀ pos cv, codeAmong pos ps.toList = some cv → ∃ c, cv = .ref c ∧ ¬ S c ∧ H c = some (CodeO c nm)
  stb := fun {S S' H H' F} h e => by
    obtain ⟨rfl, ps, h1, h2, h3⟩ := h
    refine ⟨rfl, ps, e.own _ _ (List.mem_singleton.mpr rfl) h1, h2, fun pos cv hc => ?_⟩
    obtain ⟨c, e1, n, at_⟩ := h3 pos cv hc
    exact ⟨c, e1, e.ext n at_⟩
/-- f is the lambda l of the frame env -/
def lamR (env : Env) (f : Addr) (l : LF) (d : Option V) : Rs K where
  p S H F := F = [] ∧ ∃ (c : Addr) (dV : Value), ¬ S f ∧ ¬ S c ∧ H f = some (LamO f (env.qual ++ "<lambda>") l (cloFrom env.cells l.scope.names []) dV c) ∧ H c = some (CodeO c (env.qual ++ "<lambda>")) ∧ (d = none ∧ dV = .none ∨ ∃ v T0, d = some v ∧ dV = .ref T0 ∧ H T0 = some (.tup [v]))
  stb := fun {S S' H H' F} h e => by
    obtain ⟨rfl, c, dV, n1, n2, h1, h2, h3⟩ := h
    obtain ⟨m1, g1⟩ := e.ext n1 h1
    obtain ⟨m2, g2⟩ := e.ext n2 h2
    exact ⟨rfl, c, dV, m1, m2, g1, g2, h3.imp id fun ⟨v, T0, a, b, z⟩ => ⟨v, T0, a, b, e.tk _ _ z⟩⟩
theorem At.tabS (A : At K S0 H rs F) (ex : Ext (tabR P nm) rs rs') : TabS H P nm ∧ P ∈ F := by
  obtain ⟨G, ⟨rfl, ps, h1, h2, h3⟩, hm⟩ := A.get ex
  exact ⟨⟨ps, h1, h2, fun pos cv hc => let ⟨c, e, _, at_⟩ := h3 pos cv hc; ⟨c, e, at_⟩⟩, hm P (List.mem_singleton.mpr rfl)⟩
theorem ext_notS (A : At K S0 H rs F) {c : Addr} {φ : Heap → Prop} (h : H c = none ∨ H c = some (.ext φ)) : ¬ Mu S0 F c := fun m => by
  obtain ⟨n, l⟩ := A.liv c m
  rcases h with h | h
  · exact l h
  · rw [h] at n; exact n
/-- the table at P is written, all else stands -/
theorem At.tab (A : At K S0 H rs F) (ex : Ext (tabR P nm) rs rs') (kp : ∀ b o, b ≠ P → H b = some o → H1 b = some o) (tab : TabS H1 P nm) : ∃ F', F.Perm F' ∧ At K S0 H1 rs F' ∧ Stp F H F' H1 := by
  obtain ⟨ps, t1, t2, t3⟩ := tab
  obtain ⟨F1, p, A1⟩ := A.perm ex.perm
  obtain ⟨G, F2, rfl, ⟨rfl, ps0, g1, g2, g3⟩, hs⟩ := A1.sep
  have dis : ∀ b ∈ F2, b ≠ P := fun b hb e => (List.nodup_append.mp A1.nd).2.2 P (List.mem_singleton.mpr rfl) b hb e.symm
  have mine : ∀ {b}, b = P → b ∈ [P] ++ F2 := fun e => List.mem_append_left _ (List.mem_singleton.mpr e)
  have st : Stp ([P] ++ F2) H ([P] ++ F2) H1 := ⟨fun b o n h => kp b o (fun e => n (mine e)) h, fun b hb => .inl hb⟩
  have ev : Ev K (Mu S0 ([P] ++ F2)) (Mu S0 ([P] ++ F2)) H H1 F2 := ⟨fun b z => .inl z, fun b o n h => ⟨o, kp b o (fun e => n (.inr (mine e))) h, .refl o⟩, fun b o hb h => kp b o (dis b hb) h, fun a xs h => kp a _ (fun e => by rw [e, g1] at h; cases h) h⟩
  have B : At K S0 H1 (tabR P nm :: rs') ([P] ++ F2) := by
    refine ⟨⟨[P], F2, rfl, ⟨rfl, ps, t1, t2, fun pos cv hc => ?_⟩, hs.ev ev fun _ h => h⟩, A1.nd, A1.off, fun b hb => ?_⟩
    · obtain ⟨c, e, at_⟩ := t3 pos cv hc
      refine ⟨c, e, ?_, at_⟩
      cases z : H c with
      | none => exact ext_notS A1 (φ := fun _ => True) (.inl z)
      | some o =>
        by_cases cp : c = P
        · rw [cp, t1] at at_; cases at_
        · have := kp c o cp z
          rw [at_] at this
          cases this
          exact ext_notS A1 (.inr z)
    · by_cases e : b = P
      · rw [e, t1]; exact ⟨trivial, nofun⟩
      · obtain ⟨n, l⟩ := A1.liv b hb
        cases z : H b with
        | none => exact absurd z l
        | some o => rw [kp b o e z]; rw [z] at n; exact ⟨n, nofun⟩
  obtain ⟨F3, p3, C⟩ := B.perm ex.perm.symm
  exact ⟨F3, p.trans p3, C, st.perm p.symm p3⟩
/-- a resource that holds no address -/
theorem At.pure (A : At K S0 H rs F) {R : Rs K} (h : R.p (Mu S0 F) H []) : At K S0 H (R :: rs) F := ⟨⟨[], F, rfl, h, A.sep⟩, A.nd, A.off, A.liv⟩
/-- a lambda -/
def dLam (P : Addr) (nm : Str) (env : Env) (l : LF) (d : Option V) : TD K := fun _ rs _ q => (∃ rs', Ext (tabR P nm) rs rs') ∧ ∀ f, q (.raw (.ref f)) (lamR env f l d :: rs)
theorem d_lam {env : Env} {l : LF} {d : Option V} (h : PE X e (tLamK P nm env l d)) : PE X e (LE E (dLam (K := K) P nm env l d)) := pe_weak h fun σ H Q ⟨S0, sl, rs, F, xc, q, N, ⟨⟨rs', ex⟩, t⟩, k, kx⟩ => by
  refine ⟨(N.at_.tabS ex).1, fun f H1 nf kp tab isl => ?_⟩
  obtain ⟨F', p, A, st⟩ := N.at_.tab ex kp tab
  obtain ⟨c, dV, g1, g2, g3⟩ := isl
  exact k (.ref f) _ _ F' H1 st (A.pure (R := lamR env f l d) ⟨rfl, c, dV, ext_notS A (.inr g1), ext_notS A (.inr g2), g1, g2, g3⟩) (.raw _) (t f)
/-! a def that is given a lambda, in the maker's own frame -/
/-- it asks for the lambda's outcome: EE, what becomes of an exception, QQ, of a value -/
abbrev TTof (EE : VK → XK) (QQ : VK → VK) : (XK → Hp → VK → Prop) → Hp → VK → Prop := fun tl H Q => tl (EE Q) H (QQ Q)
structure Tells (K : PySem.W.Frag) (EE : VK → XK) (QQ : VK → VK) (xD : QD K → XD K) (qD : QD K → QD K) : Prop where
  x : ∀ {S0 : Addr → Prop} {F : List Addr} {H : Hp} {q : QD K} {Q : VK}, Out S0 F H q Q → OutX S0 F H (xD q) (EE Q)
  q : ∀ {S0 : Addr → Prop} {F : List Addr} {H : Hp} {q : QD K} {Q : VK}, Out S0 F H q Q → Out S0 F H (qD q) (QQ Q)
def dOutD (P : Addr) (nm : Str) (xD : QD K → XD K) (qD : QD K → QD K) (tb : TD K) : TD K := fun sl rs _ q => (∃ rs', Ext (tabR P nm) rs rs') ∧ tb sl rs (xD q) (qD q)
theorem d_outD {EE : VK → XK} {QQ : VK → VK} {xD : QD K → XD K} {qD : QD K → QD K} {k : Nat} {l : LF} {d : Option V} (tl : Tells K EE QQ xD qD) (h : PE X e (fun σ H Q => tOut X k (TTof EE QQ) (tLamK P nm X.env l d) σ σ H Q)) (B : BodyR X k l d fun E => LE E tb) : PE X e (LE E (dOutD P nm xD qD tb)) := pe_weak h fun σ H Q ⟨S0, sl, rs, F, xc, q, N, ⟨⟨rs', ex⟩, t⟩, kq, kx⟩ => by
  refine ⟨(N.at_.tabS ex).1, fun f H1 nf kp tab isl => ?_⟩
  obtain ⟨F', p, A, st⟩ := N.at_.tab ex kp tab
  refine ⟨f, l, d, _, rfl, B, isl, ⟨S0, sl, rs, F', xD q, qD q, ⟨A, N.sl.ev (st.ev N.at_)⟩, t, tl.q (kq.after st), tl.x (kq.after st)⟩⟩
theorem s_outD {xD : QD K → XD K} {qD : QD K → QD K} {tb : TD K} (ex : Ext (tabR P nm) rs rs') (h : tb sl rs (xD q) (qD q)) : dOutD P nm xD qD tb sl rs xc q := ⟨⟨rs', ex⟩, h⟩
end
end HC
namespace HC
open PyProof.Rows PySem L2 PySem.Spec LamX
section
variable {X : Cx} {K : PySem.W.Frag} {E : XK} {e : Expr} {te : TD K} {sl : List Sl} {rs : List (Rs K)} {q : QD K} {xc : XD K}
/-- a ghost step behind an expression -/
def dGv (te : TD K) : TD K := fun sl rs xc q => te sl rs xc (Gv q)
theorem d_gv (h : PE X e (LE E te)) : PE X e (LE E (dGv te)) := pe_weak h fun σ H Q ⟨S0, sl, rs, F, xc, q, N, t, k, kx⟩ => ⟨S0, sl, rs, F, xc, Gv q, N, t, out_gv k, kx⟩
theorem s_gv (h : te sl rs xc (Gv q)) : dGv te sl rs xc q := h
end
end HC

/-! ### a list taken apart -/
namespace HC
open PyProof.Rows PySem L2 PySem.Spec
section
variable {X : Cx} {K : PySem.W.Frag} {E : XK} {es : List Expr} {pos : Pos} {sl : List Sl} {rs : List (Rs K)} {y : Sl} {ys : List Sl}
theorem pg_unlK (K) {k : Nat} {t : TGs} {n : Nat} (hc : X.calm = true) (h : PGs X es t) (hn : (assignEach es X.env).length = n := by rfl) (hst : (assignEach es X.env).findIdx? (·.1) = none := by rfl) (hK : X.K = K := by rfl) : PG X (.Tuple es k pos) (gUnl K n t) := by subst hK; exact pg_unl hc h hn hst
theorem NlL.ok {S0 : Addr → Prop} {H : Hp} {F : List Addr} {v : V} (i : NlL rs y ys) (A : At K S0 H rs F) (r : VOk K (Mu S0 F) H v y) : ∃ a vs, v = .ref a ∧ H a = some (.lst vs) ∧ VAll K (Mu S0 F) H vs ys := by
  cases i with
  | lst xs => cases r with | da r => cases r with | lst _ h1 h2 => exact ⟨_, _, rfl, h1, h2.vall⟩
  | raw e => cases r; obtain ⟨vs, h1, h2, _⟩ := A.lst e; exact ⟨_, vs, rfl, h1, h2⟩
def gdUnl (n : Nat) (g : TDgs K) : TDg K := fun y sl rs q => ∃ ys, NlL rs y ys ∧ ys.length = n ∧ g ys sl rs q
theorem tg_unl {n : Nat} {g : TGs} {gd : TDgs K} {is : List Nat} (h : TgsOk g gd is) : TgOk (gUnl K n g) (gdUnl n gd) is := fun S0 σ H sl rs F v y q Q N r ⟨ys, i, hn, hq⟩ k => by
  obtain ⟨a, vs, rfl, h1, h2⟩ := i.ok N.at_ r
  exact ⟨a, vs, rfl, SqL.of h1, h2.len.trans hn, h S0 σ H sl rs F vs ys q Q N h2 hq k⟩
theorem s_gunl {n : Nat} {g : TDgs K} {q : List Sl → List (Rs K) → Prop} (i : NlL rs y ys) (hn : ys.length = n) (h : g ys sl rs q) : gdUnl n g y sl rs q := ⟨ys, i, hn, h⟩
end
end HC

/-! ### more steps by data -/
namespace HC
open PyProof.Rows PySem L2 PySem.Spec
section
variable {K : PySem.W.Frag} {rs : List (Rs K)} {a b c d e : Da}
theorem nl2 : NlL rs (.da (.lst [a, b])) [.da a, .da b] := .lst _
theorem nl3 : NlL rs (.da (.lst [a, b, c])) [.da a, .da b, .da c] := .lst _
theorem nl4 : NlL rs (.da (.lst [a, b, c, d])) [.da a, .da b, .da c, .da d] := .lst _
theorem nl5 : NlL rs (.da (.lst [a, b, c, d, e])) [.da a, .da b, .da c, .da d, .da e] := .lst _
theorem its2_5 : Its2 (.da (.tup [a, b, c, d, e])) [.da a, .da b, .da c, .da d, .da e] := .da _
end
section
variable {K : PySem.W.Frag} {rs rs' : List (Rs K)} {ta : TD K} {sl : List Sl} {xc : XD K} {q : QD K} {C : Addr} {m : Str} {D : SpD K}
def Meth0K (C : Addr) (m : Str) (D : SpD K) (xc : XD K) (q : QD K) : QD K := fun y rs => (∃ nm, IsO rs y C nm ∧ m ∉ nm) ∧ Ask D [y] rs xc q
theorem s_meth0 (h : ta sl rs xc (Meth0K C m D xc q)) : dMeth0 C m D ta sl rs xc q := h
theorem s_meth0D {fs : List (Str × Da)} (n : m ∉ fs.map (·.1)) (h : Ask D [.da (.obj C fs)] rs xc q) : Meth0K C m D xc q (.da (.obj C fs)) rs := ⟨⟨_, .da fs, n⟩, h⟩
theorem s_meth0R {a : Addr} {fs : List (Str × Sl)} (e : Ext (objR a C fs) rs rs') (n : m ∉ fs.map (·.1)) (h : Ask D [.raw (.ref a)] rs xc q) : Meth0K C m D xc q (.raw (.ref a)) rs := ⟨⟨_, .raw e, n⟩, h⟩
end
section
variable {α : Type} {xs : List α}
theorem cutG_dropLast : cutG xs none (some (-1)) = xs.dropLast := by
  unfold cutG HT.sIx
  rw [List.dropLast_eq_take]
  simp only [Nat.sub_zero, List.drop_zero]
  rw [if_pos (by decide)]
  congr 1
  omega
end
end HC

/-! ### what a lambda's body lets out, its maker given -/
namespace HC
open PyProof.Rows PySem L2 PySem.Spec LamX
theorem pz_lamL {X : Cx} {A : Around} {outer : List Env} {s : Shared} {H : Hp} {E : XK} {scope : Scope} {f c' : Addr} : Passes (CXW (lamCx X A outer s H E scope f c').prog (lamCx X A outer s H E scope f c').w) (lamCx X A outer s H E scope f c') E := pz_lam (X := X)
end HC

namespace HC
open PyProof.Rows PySem L2 PySem.Spec
section
variable {P : Program} {w : World} {K : PySem.W.Frag}
variable {mg : Str → Option Value} {base : Heap}
def top (i : Nat) : Stmt := PySem.Challenge.pw_harvestcarts_k35_live_farms.main.body.getD i (.Pass ⟨0, 0, 0, 0⟩)
/-- the module's constants, classes -/
structure Md (K : PySem.W.Frag) (mg : Str → Option Value) where
  b : Bts mg
  g_LETTERS : GStr mg "LETTERS" "abcdefghijklmnopqrstuvwxyz"
  g_HARVEST : GStr mg "HARVEST" "harvest"
  g_WAIT : GStr mg "WAIT" "wait"
  g_CHANGE : GStr mg "CHANGE" "change_limit"
  g_MAX_LETTERS : GInt mg "MAX_LETTERS" 8
  g_MAX_LIMIT : GInt mg "MAX_LIMIT" 30
  g_MAX_WAIT : GInt mg "MAX_WAIT" 1000
  g_TAG : GInt mg "TAG" 72
  g_MODULUS : GInt mg "MODULUS" 233
  k_Farm_MAX_FIELDS : GCon K mg "Farm" "MAX_FIELDS" (.int 6)
  k_Farm_MAX_STATES : GCon K mg "Farm" "MAX_STATES" (.int 4000)
  a_Farm : Addr
  a_Moment : Addr
  a_LiveFarm : Addr
  a_Decoder : Addr
  a_InvalidNumber : Addr
  a_UnknownField : Addr
  f_Farm : FN K a_Farm "rows"
  f_Moment : FN K a_Moment "day" ∧ FN K a_Moment "spans" ∧ FN K a_Moment "left" ∧ FN K a_Moment "done" ∧ FN K a_Moment "gone"
  f_Live : FN K a_LiveFarm "farm" ∧ FN K a_LiveFarm "moment" ∧ FN K a_LiveFarm "past" ∧ FN K a_LiveFarm "undone"
  f_Decoder : FN K a_Decoder "data" ∧ FN K a_Decoder "place"
abbrev FnD (K : PySem.W.Frag) (x q : Str) (st : Stmt) (f : Addr) (fd : FuncData) : Prop := FunD K x q (defArgs st) (defBody st) (defScope st) [] [] f fd
/-- a def of the module; a method; a class; a property's getter -/
def Gd (K : PySem.W.Frag) (mg : Str → Option Value) (x : Str) (st : Stmt) : Prop := ∃ f fd, mg x = some (.ref f) ∧ FnD K x x st f fd
def Gm (K : PySem.W.Frag) (C : Addr) (m q : Str) (st : Stmt) : Prop := Cls K C ∧ ∃ f fd, Meth K C m f ∧ FnD K m q st f fd
def Gk (K : PySem.W.Frag) (mg : Str → Option Value) (x : Str) (C : Addr) (q : Str) (st : Stmt) : Prop := mg x = some (.ref C) ∧ ∃ f fd, Mk K C f ∧ FnD K "__init__" q st f fd
def Gp (K : PySem.W.Frag) (C : Addr) (f q : Str) (st : Stmt) : Prop := Cls K C ∧ ∃ p g fd, PropOf K C f p g ∧ FnD K f q st g fd
theorem def_mk {x : Str} {st : Stmt} {k : Nat} {sp : Sp} (G : Gd K mg x st) (h : ∀ f fd, FnD K x x st f fd → FnU P w K mg base k f sp) : DefR P w K mg base x k sp := by
  obtain ⟨f, fd, h1, h2⟩ := G
  exact ⟨f, h1, h2.kp, h f fd h2⟩
theorem meth_mk {C : Addr} {m q : Str} {st : Stmt} {k : Nat} {sp : Sp} (G : Gm K C m q st) (h : ∀ f fd, FnD K m q st f fd → FnR P w K mg base (CXW P w) k f sp) : MethR P w K mg base C m k sp := by
  obtain ⟨c, f, fd, h1, h2⟩ := G
  exact ⟨c, f, h1, h f fd h2⟩
theorem methU_mk {C : Addr} {m q : Str} {st : Stmt} {k : Nat} {sp : Sp} (G : Gm K C m q st) (h : ∀ f fd, FnD K m q st f fd → FnU P w K mg base k f sp) : MethU P w K mg base C m k sp := by
  obtain ⟨c, f, fd, h1, h2⟩ := G
  exact ⟨c, f, h1, h f fd h2⟩
theorem make_mk {x : Str} {C : Addr} {q : Str} {st : Stmt} {k : Nat} {sp : Sp} (G : Gk K mg x C q st) (h : ∀ f fd, FnD K "__init__" q st f fd → FnR P w K mg base (CXW P w) k f sp) : MakeR P w K mg base x C k sp := by
  obtain ⟨c, f, fd, h1, h2⟩ := G
  exact ⟨c, f, h1, h f fd h2⟩
theorem prop_mk {C : Addr} {f q : Str} {st : Stmt} {k : Nat} {sp : Sp} (G : Gp K C f q st) (h : ∀ g fd, FnD K f q st g fd → FnU P w K mg base k g sp) : PropR P w K mg base C f k sp := by
  obtain ⟨c, p, g, fd, h1, h2⟩ := G
  exact ⟨c, p, g, h1, h g fd h2⟩

end
abbrev s_require_field : Stmt := top 19
abbrev N_require_field : List Str := ["farm", "name"]
theorem sc_require_field : FnScope N_require_field ["farm", "name"] (defScope s_require_field) := ⟨rfl, rfl, rfl, by decide +kernel, rfl, by decide +kernel, by decide +kernel⟩
abbrev s_Farm_names : Stmt := inClass (top 18) 5
abbrev N_Farm_names : List Str := ["self", "name", "limit"]
theorem sc_Farm_names : FnScope N_Farm_names ["self"] (defScope s_Farm_names) := ⟨rfl, rfl, rfl, by decide +kernel, rfl, by decide +kernel, by decide +kernel⟩
abbrev s_Farm_limits : Stmt := inClass (top 18) 6
abbrev N_Farm_limits : List Str := ["self", "name", "limit"]
theorem sc_Farm_limits : FnScope N_Farm_limits ["self"] (defScope s_Farm_limits) := ⟨rfl, rfl, rfl, by decide +kernel, rfl, by decide +kernel, by decide +kernel⟩
abbrev s_Farm___len__ : Stmt := inClass (top 18) 8
abbrev N_Farm___len__ : List Str := ["self"]
theorem sc_Farm___len__ : FnScope N_Farm___len__ ["self"] (defScope s_Farm___len__) := ⟨rfl, rfl, rfl, by decide +kernel, rfl, by decide +kernel, by decide +kernel⟩
abbrev s_validate_number : Stmt := top 16
abbrev N_validate_number : List Str := ["number", "smallest", "largest"]
theorem sc_validate_number : FnScope N_validate_number ["number", "smallest", "largest"] (defScope s_validate_number) := ⟨rfl, rfl, rfl, by decide +kernel, rfl, by decide +kernel, by decide +kernel⟩
abbrev s_replaced : Stmt := top 25
abbrev N_replaced : List Str := ["values", "place", "value"]
theorem sc_replaced : FnScope N_replaced ["values", "place", "value"] (defScope s_replaced) := ⟨rfl, rfl, rfl, by decide +kernel, rfl, by decide +kernel, by decide +kernel⟩
abbrev s_Moment___init__ : Stmt := inClass (top 26) 0
abbrev N_Moment___init__ : List Str := ["self", "day", "spans", "left", "done", "gone"]
theorem sc_Moment___init__ : FnScope N_Moment___init__ ["self", "day", "spans", "left", "done", "gone"] (defScope s_Moment___init__) := ⟨rfl, rfl, rfl, by decide +kernel, rfl, by decide +kernel, by decide +kernel⟩
abbrev s_Moment_later : Stmt := inClass (top 26) 1
abbrev N_Moment_later : List Str := ["self", "names", "left", "gone", "place", "name", "is_rotten"]
theorem sc_Moment_later : FnScope N_Moment_later ["self", "names"] (defScope s_Moment_later) := ⟨rfl, rfl, rfl, by decide +kernel, rfl, by decide +kernel, by decide +kernel⟩
abbrev s_LiveFarm_enter : Stmt := inClass (top 27) 7
abbrev N_LiveFarm_enter : List Str := ["self", "operation", "moment"]
theorem sc_LiveFarm_enter : FnScope N_LiveFarm_enter ["self", "operation", "moment"] (defScope s_LiveFarm_enter) := ⟨rfl, rfl, rfl, by decide +kernel, rfl, by decide +kernel, by decide +kernel⟩
abbrev s_LiveFarm_now : Stmt := inClass (top 27) 2
abbrev N_LiveFarm_now : List Str := ["self"]
theorem sc_LiveFarm_now : FnScope N_LiveFarm_now ["self"] (defScope s_LiveFarm_now) := ⟨rfl, rfl, rfl, by decide +kernel, rfl, by decide +kernel, by decide +kernel⟩
abbrev s_LiveFarm_rotten : Stmt := inClass (top 27) 5
abbrev N_LiveFarm_rotten : List Str := ["self"]
theorem sc_LiveFarm_rotten : FnScope N_LiveFarm_rotten ["self"] (defScope s_LiveFarm_rotten) := ⟨rfl, rfl, rfl, by decide +kernel, rfl, by decide +kernel, by decide +kernel⟩
abbrev s_LiveFarm_history : Stmt := inClass (top 27) 6
abbrev N_LiveFarm_history : List Str := ["self", "entry"]
theorem sc_LiveFarm_history : FnScope N_LiveFarm_history ["self"] (defScope s_LiveFarm_history) := ⟨rfl, rfl, rfl, by decide +kernel, rfl, by decide +kernel, by decide +kernel⟩
abbrev s_LiveFarm_undo : Stmt := inClass (top 27) 11
abbrev N_LiveFarm_undo : List Str := ["self", "entry"]
theorem sc_LiveFarm_undo : FnScope N_LiveFarm_undo ["self"] (defScope s_LiveFarm_undo) := ⟨rfl, rfl, rfl, by decide +kernel, rfl, by decide +kernel, by decide +kernel⟩
abbrev s_LiveFarm_redo : Stmt := inClass (top 27) 12
abbrev N_LiveFarm_redo : List Str := ["self", "entry"]
theorem sc_LiveFarm_redo : FnScope N_LiveFarm_redo ["self"] (defScope s_LiveFarm_redo) := ⟨rfl, rfl, rfl, by decide +kernel, rfl, by decide +kernel, by decide +kernel⟩
abbrev s_LiveFarm___init__ : Stmt := inClass (top 27) 0
abbrev N_LiveFarm___init__ : List Str := ["self", "farm"]
theorem sc_LiveFarm___init__ : FnScope N_LiveFarm___init__ ["self", "farm"] (defScope s_LiveFarm___init__) := ⟨rfl, rfl, rfl, by decide +kernel, rfl, by decide +kernel, by decide +kernel⟩
abbrev s_LiveFarm_harvest : Stmt := inClass (top 27) 8
abbrev N_LiveFarm_harvest : List Str := ["self", "name", "place", "now", "done"]
theorem sc_LiveFarm_harvest : FnScope N_LiveFarm_harvest ["self", "name"] (defScope s_LiveFarm_harvest) := ⟨rfl, rfl, rfl, by decide +kernel, rfl, by decide +kernel, by decide +kernel⟩
abbrev s_LiveFarm_wait : Stmt := inClass (top 27) 9
abbrev N_LiveFarm_wait : List Str := ["self", "days", "moment", "before", "turn"]
theorem sc_LiveFarm_wait : FnScope N_LiveFarm_wait ["self", "days"] (defScope s_LiveFarm_wait) := ⟨rfl, rfl, rfl, by decide +kernel, rfl, by decide +kernel, by decide +kernel⟩
abbrev s_LiveFarm_change_limit : Stmt := inClass (top 27) 10
abbrev N_LiveFarm_change_limit : List Str := ["self", "name", "limit", "place", "now", "spans", "left"]
theorem sc_LiveFarm_change_limit : FnScope N_LiveFarm_change_limit ["self", "name", "limit"] (defScope s_LiveFarm_change_limit) := ⟨rfl, rfl, rfl, by decide +kernel, rfl, by decide +kernel, by decide +kernel⟩
abbrev s_LiveFarm_days_left : Stmt := inClass (top 27) 3
abbrev N_LiveFarm_days_left : List Str := ["self"]
theorem sc_LiveFarm_days_left : FnScope N_LiveFarm_days_left ["self"] (defScope s_LiveFarm_days_left) := ⟨rfl, rfl, rfl, by decide +kernel, rfl, by decide +kernel, by decide +kernel⟩
abbrev s_LiveFarm_limits_now : Stmt := inClass (top 27) 4
abbrev N_LiveFarm_limits_now : List Str := ["self"]
theorem sc_LiveFarm_limits_now : FnScope N_LiveFarm_limits_now ["self"] (defScope s_LiveFarm_limits_now) := ⟨rfl, rfl, rfl, by decide +kernel, rfl, by decide +kernel, by decide +kernel⟩
abbrev s_law_random : Stmt := top 35
abbrev N_law_random : List Str := ["_law_script", "_law_salt", "_law_seed", "_law_cell"]
theorem sc_law_random : FnScope N_law_random ["_law_script", "_law_salt"] (defScope s_law_random) := ⟨rfl, rfl, rfl, by decide +kernel, rfl, by decide +kernel, by decide +kernel⟩
abbrev s_law_below : Stmt := top 36
abbrev N_law_below : List Str := ["_law_d", "_law_limit", "_law_result"]
theorem sc_law_below : FnScope N_law_below ["_law_d", "_law_limit"] (defScope s_law_below) := ⟨rfl, rfl, rfl, by decide +kernel, rfl, by decide +kernel, by decide +kernel⟩
abbrev s_law_shuffled : Stmt := top 37
abbrev N_law_shuffled : List Str := ["_law_d", "_law_items", "_law_pool", "_law_result"]
theorem sc_law_shuffled : FnScope N_law_shuffled ["_law_d", "_law_items"] (defScope s_law_shuffled) := ⟨rfl, rfl, rfl, by decide +kernel, rfl, by decide +kernel, by decide +kernel⟩
abbrev s_law_fields : Stmt := top 38
abbrev N_law_fields : List Str := ["_law_d", "_law_most", "_law_names", "_law_top", "_law_found", "_law_states", "_law_k", "_law_limit"]
theorem sc_law_fields : FnScope N_law_fields ["_law_d", "_law_most"] (defScope s_law_fields) := ⟨rfl, rfl, rfl, by decide +kernel, rfl, by decide +kernel, by decide +kernel⟩
abbrev s_law_bytes : Stmt := top 41
abbrev N_law_bytes : List Str := ["_law_fields_here", "_law_found", "_law_total", "_law_name", "_law_limit", "_law_letter", "_law_value"]
theorem sc_law_bytes : FnScope N_law_bytes ["_law_fields_here"] (defScope s_law_bytes) := ⟨rfl, rfl, rfl, by decide +kernel, rfl, by decide +kernel, by decide +kernel⟩
abbrev s_checksum : Stmt := top 31
abbrev N_checksum : List Str := ["values", "found", "value"]
theorem sc_checksum : FnScope N_checksum ["values"] (defScope s_checksum) := ⟨rfl, rfl, rfl, by decide +kernel, rfl, by decide +kernel, by decide +kernel⟩
abbrev s_Decoder___init__ : Stmt := inClass (top 32) 0
abbrev N_Decoder___init__ : List Str := ["self", "data"]
theorem sc_Decoder___init__ : FnScope N_Decoder___init__ ["self", "data"] (defScope s_Decoder___init__) := ⟨rfl, rfl, rfl, by decide +kernel, rfl, by decide +kernel, by decide +kernel⟩
abbrev s_Decoder_take : Stmt := inClass (top 32) 1
abbrev N_Decoder_take : List Str := ["self", "low", "high"]
theorem sc_Decoder_take : FnScope N_Decoder_take ["self", "low", "high"] (defScope s_Decoder_take) := ⟨rfl, rfl, rfl, by decide +kernel, rfl, by decide +kernel, by decide +kernel⟩
abbrev s_Decoder_take_field : Stmt := inClass (top 32) 2
abbrev N_Decoder_take_field : List Str := ["self", "names", "most", "limit", "start", "length", "name", "letter"]
theorem sc_Decoder_take_field : FnScope N_Decoder_take_field ["self", "names", "most"] (defScope s_Decoder_take_field) := ⟨rfl, rfl, rfl, by decide +kernel, rfl, by decide +kernel, by decide +kernel⟩
abbrev s_is_name : Stmt := top 17
abbrev N_is_name : List Str := ["name", "letter"]
theorem sc_is_name : FnScope N_is_name ["name"] (defScope s_is_name) := ⟨rfl, rfl, rfl, by decide +kernel, rfl, by decide +kernel, by decide +kernel⟩
abbrev s_Farm___init__ : Stmt := inClass (top 18) 2
abbrev N_Farm___init__ : List Str := ["self", "fields", "states", "index", "name", "limit", "earlier", "other"]
theorem sc_Farm___init__ : FnScope N_Farm___init__ ["self", "fields"] (defScope s_Farm___init__) := ⟨rfl, rfl, rfl, by decide +kernel, rfl, by decide +kernel, by decide +kernel⟩
abbrev s_decode_farm : Stmt := top 33
abbrev N_decode_farm : List Str := ["data", "decoder", "fields", "states", "number", "most", "name", "limit", "expected"]
theorem sc_decode_farm : FnScope N_decode_farm ["data"] (defScope s_decode_farm) := ⟨rfl, rfl, rfl, by decide +kernel, rfl, by decide +kernel, by decide +kernel⟩
abbrev s_law_farm : Stmt := top 42
abbrev N_law_farm : List Str := ["_law_fields_here"]
theorem sc_law_farm : FnScope N_law_farm ["_law_fields_here"] (defScope s_law_farm) := ⟨rfl, rfl, rfl, by decide +kernel, rfl, by decide +kernel, by decide +kernel⟩
abbrev s_law_error_of : Stmt := top 47
abbrev N_law_error_of : List Str := ["_law_call", "e", "_law_kinds", "_law_name"]
theorem sc_law_error_of : FnScope N_law_error_of ["_law_call"] (defScope s_law_error_of) := ⟨rfl, rfl, rfl, by decide +kernel, rfl, by decide +kernel, by decide +kernel⟩
abbrev s_UnknownField___init__ : Stmt := inClass (top 5) 0
abbrev N_UnknownField___init__ : List Str := ["self", "name"]
theorem sc_UnknownField___init__ : FnScope N_UnknownField___init__ ["self", "name"] (defScope s_UnknownField___init__) := ⟨rfl, rfl, rfl, by decide +kernel, rfl, by decide +kernel, by decide +kernel⟩
abbrev s_law_first : Stmt := top 39
abbrev N_law_first : List Str := ["_law_fields_here", "_law_limits", "_law_name", "_law_limit"]
theorem sc_law_first : FnScope N_law_first ["_law_fields_here"] (defScope s_law_first) := ⟨rfl, rfl, rfl, by decide +kernel, rfl, by decide +kernel, by decide +kernel⟩
abbrev s_law_small : Stmt := top 40
abbrev N_law_small : List Str := ["_law_d", "_law_fields_here", "_law_name", "_law_limit"]
theorem sc_law_small : FnScope N_law_small ["_law_d"] (defScope s_law_small) := ⟨rfl, rfl, rfl, by decide +kernel, rfl, by decide +kernel, by decide +kernel⟩
abbrev s_law_later : Stmt := top 44
abbrev N_law_later : List Str := ["_law_fields_here", "_law_now", "_law_number", "_law_limits", "_law_left", "_law_done", "_law_gone", "_law_rotten", "_law_k", "_law_later_here"]
theorem sc_law_later : FnScope N_law_later ["_law_fields_here", "_law_now"] (defScope s_law_later) := ⟨rfl, rfl, rfl, by decide +kernel, rfl, by decide +kernel, by decide +kernel⟩
abbrev s_law_operation : Stmt := top 43
abbrev N_law_operation : List Str := ["_law_d", "_law_fields_here", "_law_kind", "_law_name"]
theorem sc_law_operation : FnScope N_law_operation ["_law_d", "_law_fields_here"] (defScope s_law_operation) := ⟨rfl, rfl, rfl, by decide +kernel, rfl, by decide +kernel, by decide +kernel⟩
abbrev s_law_changed : Stmt := top 45
abbrev N_law_changed : List Str := ["_law_fields_here", "_law_now", "_law_operation_here", "_law_word", "_law_names", "_law_name", "_law_limit", "_law_later_here", "_law_turn", "_law_k", "_law_number", "_law_limits", "_law_left", "_law_done", "_law_gone"]
theorem sc_law_changed : FnScope N_law_changed ["_law_fields_here", "_law_now", "_law_operation_here"] (defScope s_law_changed) := ⟨rfl, rfl, rfl, by decide +kernel, rfl, by decide +kernel, by decide +kernel⟩
abbrev s_law_worked : Stmt := top 46
abbrev N_law_worked : List Str := ["_law_w", "_law_operation_here", "_law_fields_here", "_law_now", "_law_past", "_law_undone", "_law_entry", "_law_after", "_law_error", "_law_value"]
theorem sc_law_worked : FnScope N_law_worked ["_law_w", "_law_operation_here"] (defScope s_law_worked) := ⟨rfl, rfl, rfl, by decide +kernel, rfl, by decide +kernel, by decide +kernel⟩
abbrev s_law_do : Stmt := top 48
abbrev N_law_do : List Str := ["_law_live", "_law_operation_here", "_law_word"]
theorem sc_law_do : FnScope N_law_do ["_law_live", "_law_operation_here"] (defScope s_law_do) := ⟨rfl, rfl, rfl, by decide +kernel, rfl, by decide +kernel, by decide +kernel⟩
abbrev s_law_equal : Stmt := top 49
abbrev N_law_equal : List Str := ["_law_actual", "_law_expected", "_law_k"]
theorem sc_law_equal : FnScope N_law_equal ["_law_actual", "_law_expected"] (defScope s_law_equal) := ⟨rfl, rfl, rfl, by decide +kernel, rfl, by decide +kernel, by decide +kernel⟩
abbrev s_law_stands : Stmt := top 50
abbrev N_law_stands : List Str := ["_law_live", "_law_w", "_law_fields_here", "_law_now", "_law_past", "_law_undone", "_law_names", "_law_name", "_law_limit", "_law_found", "_law_left", "_law_k", "_law_limits", "_law_entry"]
theorem sc_law_stands : FnScope N_law_stands ["_law_live", "_law_w"] (defScope s_law_stands) := ⟨rfl, rfl, rfl, by decide +kernel, rfl, by decide +kernel, by decide +kernel⟩
abbrev s_law : Stmt := top 51
abbrev N_law : List Str := ["_law_script", "_law_d", "_law_w", "_law_live", "_law_turn", "_law_operation_here", "_law_error", "_law_value", "_law_after", "_law_found"]
theorem sc_law : FnScope N_law ["_law_script"] (defScope s_law) := ⟨rfl, rfl, rfl, by decide +kernel, rfl, by decide +kernel, by decide +kernel⟩
end HC
namespace HC
open PyProof.Rows PySem L2 PySem.Spec
local macro_rules | `(tactic| walk_at "ext") => `(tactic| first | exact .here | exact .there .here | exact .there (.there .here) | exact .there (.there (.there .here)) | exact .there (.there (.there (.there .here))) | exact .there (.there (.there (.there (.there .here)))))
local macro_rules | `(tactic| walk_at "gets") => `(tactic| first | exact Gets.nil | ((refine' Gets.cons ?he ?hr); (case he => walk_at "ext"); (case hr => walk_at "gets")))
local macro_rules | `(tactic| walk_at "ar") => `(tactic| first | exact ar_eq rfl | (refine ar_ex fun _ => ?_; walk_at "ar"))
local macro_rules | `(tactic| walk_at "rep") => `(tactic| first | exact .here | exact .there .here | exact .there (.there .here) | exact .there (.there (.there .here)) | exact .there (.there (.there (.there .here))))
local macro_rules | `(tactic| walk_at "see") => `(tactic| first | exact .da _ | exact .lst (by walk_at "ext"))
local macro_rules | `(tactic| walk_at "itm") => `(tactic| first | exact .tup _ | exact .tupS _ | exact .lst _ | exact .scr _ | exact .btup _ | exact .raw (by walk_at "ext"))
local macro_rules | `(tactic| walk_at "wk") => `(tactic| first | exact .tup _ | exact .tupS _ | exact .lst _ | exact .scr _ | exact .btup _ | exact .str _ | exact .raw (by walk_at "ext"))
local macro_rules | `(tactic| walk_at "alld") => `(tactic| first | exact allDa0 | exact allDa1 | exact allDa2 | exact allDa3 | exact allDa4 | exact allDa5 | rfl)
local macro_rules | `(tactic| walk_at "put") => `(tactic| (simp (config := { decide := true }) only [putS, if_true, if_false]; try rfl))
local macro_rules | `(tactic| walk_at "pl") => `(tactic| first | rfl | assumption | exact pls_map (fun _ => rfl) | exact pl_lm (fun _ => rfl) | exact pl_tm (fun _ => rfl))
local macro_rules | `(tactic| walk_at "size") => `(tactic| first | exact (by decide : _ ≤ sizeLine) | (simp [sizeLine_eq]; done) | (simp [sizeLine_eq]; omega))
local macro_rules | `(tactic| walk_at "d1") => `(tactic| first
  | with_reducible refine s_seq ?_ | with_reducible refine s_asg ?_ | ((with_reducible refine' s_var ?hv ?_ ?kn); (case hv => exact rfl); (case kn => trivial)) | with_reducible refine s_c ?_ | with_reducible refine s_r ?_
  | ((with_reducible refine' s_name ?hv ?_); (case hv => first | (simp only [List.set]; rfl) | (simp only [wipeD, List.set]; rfl)))
  | with_reducible refine s_b ?_ | with_reducible refine s_u ?_ | with_reducible refine s_t ?_ | with_reducible refine s_isB ?_ | with_reducible refine s_cons ?_ | with_reducible refine s_nil ?_
  | with_reducible refine s_p2 ?_ | with_reducible refine s_p1 ?_ | with_reducible refine s_add_i ?_ | ((with_reducible refine' s_I ?hc ?_); (case hc => first | trivial | (show (0 : Int) < _; omega) | (unfold CMul; omega) | (unfold CPow; decide) | (unfold CDiv; omega))) | with_reducible refine s_1I ?_
  | with_reducible refine s_eq_i ?_ | with_reducible refine s_eq_s ?_ | with_reducible refine s_eq_b ?_ | with_reducible refine s_ne_i ?_ | with_reducible refine s_ne_s ?_ | with_reducible refine s_ne_b ?_ | with_reducible refine s_isN ?_ | with_reducible refine s_notN ?_
  | with_reducible refine s_call ?_ | with_reducible refine s_make ?_ | with_reducible refine s_fld ?_ | with_reducible refine s_prop ?_ | with_reducible refine s_meth ?_ | with_reducible refine s_ret ?_ | with_reducible refine s_retN ?_ | with_reducible refine s_drop ?_ | with_reducible refine s_ifS ?_ | with_reducible refine s_next ?_
  | with_reducible refine s_and ?_ | with_reducible refine s_or ?_ | with_reducible refine s_not ?_ | with_reducible refine s_andV ?_ | with_reducible refine s_orV ?_ | with_reducible refine s_notV ?_ | with_reducible refine s_if ?_ | with_reducible refine s_chain ?_
  | ((with_reducible refine' s_mkT ?he ?hz ?_); (case he => first | exact mkT2 | exact mkT1 | exact mkT3 | exact mkT4 | exact mkT0 | rfl); (case hz => walk_at "size")) | ((with_reducible refine' s_mkL ?he ?hz ?_); (case he => walk_at "alld"); (case hz => walk_at "size"))
  | with_reducible refine s_partI ?_ | with_reducible refine s_slT ?_ | ((with_reducible refine' s_sfldV ?kn ?_); (case kn => trivial)) | ((with_reducible refine' s_lenI ?hi ?_); (case hi => walk_at "itm")) | with_reducible refine s_lenS ?_
  | ((with_reducible refine' s_fldD ?he ?fn ?_); (case he => rfl); (case fn => assumption)) | ((with_reducible refine' s_fldR ?hx ?he ?fn ?kn ?_); (case hx => walk_at "ext"); (case he => rfl); (case fn => assumption); (case kn => trivial))
  | ((with_reducible refine' s_sfldR ?hr ?he ?fn ?hf ?_); (case hr => walk_at "rep"); (case he => walk_at "put"); (case fn => assumption); (case hf => simp)) | ((with_reducible refine' s_add_t ?hz ?_); (case hz => walk_at "size")) | ((with_reducible refine' s_add_l ?hz ?_); (case hz => walk_at "size"))
  | ((with_reducible refine' s_parK ?he ?hl ?_); (case he => first | (simp only [List.zip_cons_cons, List.zip_nil_right, List.zip_nil_left, List.foldl_cons, List.foldl_nil, List.set_cons_succ, List.set_cons_zero]; rfl) | rfl); (case hl => rfl)) | ((with_reducible refine' s_raiseK ?he ?hl ?_); (case he => walk_at "alld"); (case hl => rfl)) | ((with_reducible refine' s_gtup ?hi ?hn ?_); (case hi => first | exact its2_2 | exact its2_3 | exact its2_4 | exact its2_1 | exact .tup _ | exact .da _); (case hn => rfl)) | with_reducible refine s_gcons ?_ | with_reducible refine s_gnil ?_
  | with_reducible refine s_for ?_ | with_reducible refine s_it ?_ | with_reducible refine s_rng1 ?_ | with_reducible refine s_rng2 ?_ | with_reducible refine s_enT ?_ | with_reducible refine s_enL ?_ | with_reducible refine s_enLK ?_ | with_reducible refine s_zip ?_ | with_reducible refine s_zipL ?_ | with_reducible refine s_lc ?_ | with_reducible refine s_yes ?_
  | with_reducible refine s_faug ?_ | with_reducible refine s_int ?_ | with_reducible refine s_intB ?_ | with_reducible refine s_n1 ?_ | with_reducible refine s_n2 ?_ | with_reducible refine s_star1 ?_ | with_reducible refine s_dictZip ?_ | with_reducible refine s_items ?_ | ((with_reducible refine' s_star1K ?hi ?_); (case hi => walk_at "itm")) | ((with_reducible refine' s_augI ?he ?_); (case he => rfl)) | ((with_reducible refine' s_augV ?hc ?he ?_); (case hc => (unfold CMul; omega)); (case he => first | (simp only [List.set_cons_succ, List.set_cons_zero]; rfl) | rfl)) | ((with_reducible refine' s_aug0 ?he ?_); (case he => rfl)) | ((with_reducible refine' s_aug0V ?he ?_); (case he => first | (simp only [List.set_cons_succ, List.set_cons_zero]; rfl) | rfl)) | with_reducible refine s_tupOfT ?_
  | ((with_reducible refine' s_ix ?him ?hat ?kn ?_); (case him => walk_at "itm"); (case hat => first | exact atI_mm (by assumption) | exact atI_c0 | exact atI_c1 | exact atI_c2 | exact atI_c3 | exact atI_c4); (case kn => trivial)) | ((with_reducible refine' s_bmK ?hi ?_); (case hi => first | exact .da _ | exact .raw (by walk_at "ext"))) | ((with_reducible refine' s_bmK0 ?hi ?_); (case hi => first | exact .da _ | exact .raw (by walk_at "ext")))
  | ((with_reducible refine' s_app ?hr ?hz ?_); (case hr => walk_at "rep"); (case hz => walk_at "size")) | ((with_reducible refine' s_itK ?hw ?_); (case hw => walk_at "wk")) | with_reducible refine s_propD ?_ | ((with_reducible refine' s_propR ?hx ?_); (case hx => walk_at "ext"))
  | ((with_reducible refine' s_methD ?hn ?_); (case hn => (simp (config := { decide := true }) only [List.map, List.mem_cons, List.not_mem_nil, or_false, not_or, not_false_eq_true, and_self])))
  | ((with_reducible refine' s_methR ?hx ?hn ?_); (case hx => walk_at "ext"); (case hn => (simp (config := { decide := true }) only [List.map, List.mem_cons, List.not_mem_nil, or_false, not_or, not_false_eq_true, and_self])))
  | ((with_reducible refine' s_enTK ?hi ?_); (case hi => first | exact .da _ | exact .btup _ | exact .tup _)) | ((with_reducible refine' s_zipT ?hi ?hj ?_); (case hi => first | exact .da _ | exact .btup _ | exact .tup _); (case hj => first | exact .da _ | exact .btup _ | exact .tup _))
  | ((with_reducible refine' s_tupOfL ?hs ?_); (case hs => walk_at "see")) | ((with_reducible refine' s_tupNew ?hs ?_); (case hs => walk_at "see")) | ((with_reducible refine' s_slL ?hs ?_); (case hs => walk_at "see"))
  | ((with_reducible refine' s_notIn_bt ?h1 ?h2 ?_); (case h1 => walk_at "pl"); (case h2 => walk_at "pl")) | ((with_reducible refine' s_in_bt ?h1 ?h2 ?_); (case h1 => walk_at "pl"); (case h2 => walk_at "pl")) | ((with_reducible refine' s_notIn_t ?h1 ?h2 ?_); (case h1 => walk_at "pl"); (case h2 => walk_at "pl")) | ((with_reducible refine' s_in_t ?h1 ?h2 ?_); (case h1 => walk_at "pl"); (case h2 => walk_at "pl")) | ((with_reducible refine' s_notIn_l ?h1 ?h2 ?_); (case h1 => walk_at "pl"); (case h2 => walk_at "pl")) | ((with_reducible refine' s_in_l ?h1 ?h2 ?_); (case h1 => walk_at "pl"); (case h2 => walk_at "pl"))
  | ((with_reducible refine' s_nilEq ?hi ?_); (case hi => first | exact .lst _ | exact .raw (by walk_at "ext"))) | ((with_reducible refine' s_popE ?hr ?_); (case hr => walk_at "rep"))
  | with_reducible refine s_setL ?_ | with_reducible refine s_setL1 ?_ | with_reducible refine s_setL2 ?_ | ((with_reducible refine' s_addR ?h1 ?h2 ?hz ?_); (case h1 => walk_at "see"); (case h2 => walk_at "see"); (case hz => walk_at "size")) | with_reducible refine s_m1 ?_ | with_reducible refine s_m1K ?_ | with_reducible refine s_m1Q ?_ | with_reducible refine s_lcR ?_ | with_reducible refine s_tupIx ?_ | with_reducible refine s_lenOD ?_ | ((with_reducible refine' s_lenOR ?hx ?_); (case hx => walk_at "ext")) | with_reducible refine s_raise0 ?_ | with_reducible refine s_raise ?_ | with_reducible refine s_tup ?_ | with_reducible refine s_lst ?_ | with_reducible refine s_lstR ?_ | with_reducible refine s_cb ?_ | with_reducible refine s_sl ?_ | with_reducible refine s_noP ?_ | with_reducible refine s_part ?_ | with_reducible refine s_bm ?_ | with_reducible refine s_bm0 ?_ | with_reducible refine s_sfld ?_ | with_reducible refine s_par ?_)
local macro_rules | `(tactic| walk_at "side") => `(tactic| first | assumption | omega | trivial | (decide; done))
local macro_rules | `(tactic| walk_at "wit") => `(tactic| ((repeat apply Exists.intro); (refine' And.intro (rfl : @Eq (List Sl) _ _) ?_); (first | (refine' And.intro (rfl : @Eq (List (Rs _)) _ _) ?_) | (fail_if_success (refine' And.intro (?_ : @Eq (List (Rs _)) _ _) ?_))); (repeat refine' And.intro (by walk_at "side") ?_)))
local macro_rules | `(tactic| walk_at "ask") => `(tactic| first | ((with_reducible refine' s_ask0 ?kk); (case' kk => walk_at "wit")) | ((with_reducible refine' s_ask ?gg ?kk); (case' kk => walk_at "wit"); (case' gg => walk_at "gets")))
local macro_rules | `(tactic| walk_at "d") => `(tactic| repeat walk_at "d1")
local macro_rules | `(tactic| walk_at "in") => `(tactic| simp only [startD, List.length_cons, List.length_nil, Nat.zero_add, Nat.reduceAdd, Nat.reduceSub, List.replicate_succ, List.replicate_zero, List.cons_append, List.nil_append])
local macro_rules | `(tactic| walk_at "yes") => `(tactic| refine if_T (by first | rfl | exact decide_eq_true (by first | assumption | omega) | assumption) ?_)
local macro_rules | `(tactic| walk_at "no") => `(tactic| refine if_F (by first | rfl | exact decide_eq_false (by first | assumption | omega) | assumption) ?_)
local macro_rules | `(tactic| walk_at "nyes") => `(tactic| refine if_T (by first | rfl | (rw [decide_eq_false (by first | assumption | omega)]; rfl)) ?_)
local macro_rules | `(tactic| walk_at "nno") => `(tactic| refine if_F (by first | rfl | (rw [decide_eq_true (by first | assumption | omega)]; rfl)) ?_)
local macro_rules | `(tactic| walk_at "dec") => `(tactic| first | rfl | assumption | (simp (config := { failIfUnchanged := false }) only [*, decide_true, decide_false, decide_eq_true_eq, decide_eq_false_iff_not, Bool.not_true, Bool.not_false, Bool.and_true, Bool.and_false, Bool.true_and, Bool.false_and, Bool.or_true, Bool.or_false, Bool.true_or, Bool.false_or, not_false_eq_true, Bool.not_eq_true']; done))
local macro_rules | `(tactic| walk_at "di") => `(tactic| repeat first | walk_at "d1" | ((with_reducible refine' if_T ?hc ?_); (case hc => walk_at "dec")) | ((with_reducible refine' if_F ?hc ?_); (case hc => walk_at "dec")))
local macro_rules | `(tactic| walk_at "wipe") => `(tactic| simp only [List.map_cons, List.map_nil, wipeD, List.set_cons_zero, List.set_cons_succ])
local macro_rules | `(tactic| walk_at "sm") => `(tactic| first | assumption | exact Same.refl _ | (refine Same.trans ?_ (by assumption); walk_at "sm"))
local macro_rules | `(tactic| walk_at "hp") => `(tactic| first
  | assumption | exact upd_same
  | ((with_reducible refine same_at (by assumption) ?_); walk_at "hp") | ((with_reducible refine same_t (by assumption) ?_); walk_at "hp") | ((with_reducible refine same_l (by assumption) ?_); walk_at "hp")
  | ((with_reducible refine Same.dp (by assumption) ?_); walk_at "hp") | ((with_reducible refine Same.dpa (by assumption) ?_); walk_at "hp")
  | ((with_reducible refine SqT.of ?_); walk_at "hp") | ((with_reducible refine SqL.of ?_); walk_at "hp"))
local macro_rules | `(tactic| walk_at "go1") => `(tactic| first
  | with_reducible refine g_seq ?_ | with_reducible refine g_asg ?_ | with_reducible refine g_op ?_ | ((with_reducible refine' g_var ?hv ?_); (case hv => exact rfl))
  | with_reducible refine g_c ?_ | with_reducible refine g_cons ?_ | with_reducible refine g_nil ?_ | with_reducible refine g_cb ?_ | with_reducible refine g_callR ?_
  | ((with_reducible refine' g_name ?hv ?_); (case hv => first | (simp only [List.set]; rfl) | (simp only [wipe, List.map, List.set]; rfl)))
  | with_reducible refine g_ret ?_ | with_reducible refine g_drop ?_ | with_reducible refine g_ifS ?_ | with_reducible refine g_test ?_ | with_reducible refine g_tB ?_ | with_reducible refine g_bl ?_
  | with_reducible refine g_add_i ?_ | with_reducible refine g_sub ?_ | with_reducible refine g_lt ?_ | with_reducible refine g_le ?_ | with_reducible refine g_gt ?_ | with_reducible refine g_ge ?_
  | with_reducible refine g_eq_i ?_ | with_reducible refine g_ne_i ?_ | with_reducible refine g_eq_s ?_ | with_reducible refine g_ne_s ?_ | with_reducible refine g_eq_b ?_ | with_reducible refine g_ne_b ?_ | with_reducible refine g_isN ?_ | with_reducible refine g_notN ?_
  | with_reducible refine g_and ?_ | with_reducible refine g_or ?_ | with_reducible refine g_not ?_ | with_reducible refine g_andV ?_ | with_reducible refine g_orV ?_ | with_reducible refine g_notV ?_ | with_reducible refine g_if ?_ | with_reducible refine g_chain ?_
  | with_reducible refine g_tup ?_ | with_reducible refine g_lst ?_ | with_reducible refine g_un ?_ | with_reducible refine g_next ?_
  | with_reducible refine g_bm ?_ | with_reducible refine g_bm0 ?_ | with_reducible refine g_m1 ?_ | with_reducible refine g_m0 ?_ | with_reducible refine g_tyS ?_ | with_reducible refine g_gsub ?_
  | with_reducible refine g_fld ?_ | with_reducible refine g_prop ?_ | with_reducible refine g_meth ?_ | with_reducible refine g_make ?_ | with_reducible refine g_star1 ?_ | with_reducible refine g_star ?_ | with_reducible refine g_sfld ?_
  | with_reducible refine g_forL ?_ | with_reducible refine g_forT ?_ | with_reducible refine g_forS ?_ | with_reducible refine g_forR1 ?_ | with_reducible refine g_forR2 ?_ | with_reducible refine g_forET ?_
  | with_reducible refine g_lcL ?_ | with_reducible refine g_lcT ?_ | with_reducible refine g_lcS ?_ | with_reducible refine g_lcR1 ?_ | with_reducible refine g_yes ?_ | with_reducible refine g_lcIfT ?_ | with_reducible refine g_lcIfF ?_
  | with_reducible refine g_isTT ?_ | with_reducible refine g_mkw ?_ | with_reducible refine g_lenSet ?_ | with_reducible refine g_mskw ?_
  | with_reducible refine g_gcons ?_ | with_reducible refine g_gnil ?_ | with_reducible refine g_sl ?_ | with_reducible refine g_noPart ?_ | with_reducible refine g_part ?_ | with_reducible refine g_partI ?_
  | with_reducible refine g_par ?_ | with_reducible refine g_par3 ?_ | ((with_reducible refine' n_par ?hv ?_); (case hv => (simp only [List.set]; rfl))) | ((with_reducible refine' n_par3 ?hv ?_); (case hv => (simp only [List.set]; rfl)))
  | ((with_reducible refine' g_aug ?hv ?_); (case hv => exact rfl)) | ((with_reducible refine' n_aug ?hv ?_); (case hv => (simp only [List.set]; rfl))) | with_reducible refine g_ipI ?_ | with_reducible refine g_rAdd ?_ | with_reducible refine g_rSub ?_ | with_reducible refine g_fldaug ?_
  | with_reducible refine g_ownIx ?_ | with_reducible refine g_callI ?_ | with_reducible refine g_listM ?_ | with_reducible refine g_fs ?_ | with_reducible refine g_fmt ?_ | with_reducible refine g_gthen ?_ | with_reducible refine g_gplain ?_ | with_reducible refine g_gif ?_ | with_reducible refine g_g0 ?_ | with_reducible refine g_gforR2 ?_
  | with_reducible refine g_dget ?_ | with_reducible refine g_dput ?_ | with_reducible refine g_neg ?_ | with_reducible refine g_abs ?_ | with_reducible refine g_min2 ?_ | with_reducible refine g_max2 ?_ | with_reducible refine g_int_i ?_ | with_reducible refine g_int_b ?_ | with_reducible refine g_in_sign ?_
  | ((with_reducible refine' g_mod ?hv ?_); (case hv => first | assumption | omega | decide)) | ((with_reducible refine' g_fdiv ?hv ?hw ?_); (case hv => first | assumption | omega | decide); (case hw => first | assumption | omega | decide))
  | ((with_reducible refine' g_mul ?hv ?_); (case hv => first | assumption | (unfold CMul; omega)))
  | ((with_reducible refine' g_ix_l ?hv ?hw ?_); (case hv => exact SqL.of (by walk_at "hp")); (case hw => first | exact atI_c0 | exact atI_c1 | exact atI_c2 | exact atI_c3))
  | ((with_reducible refine' g_tyL ?hv ?_); (case hv => exact SqL.of (by walk_at "hp")))
  | ((with_reducible refine' g_len_l ?hv ?_); (case hv => exact SqL.of (by walk_at "hp"))))
local macro_rules | `(tactic| walk_at "go") => `(tactic| repeat walk_at "go1")
section
variable {P : Program} {w : World} {K : PySem.W.Frag}
variable {mg : Str → Option Value} {base : Heap}
/-! ### what _law_error_of tells -/
theorem bt_ValueError : bootBuiltins "ValueError" = some (.type "ValueError") := by decide +kernel
inductive ErrK where
  | cart (z : Str) | oper (i : Int) | text (r w : Int) | dec (o : Int) | field (z : Str) | num | plan (i : Int)
def ErrK.ix : ErrK → Fin 7
  | .cart _ => 0 | .oper _ => 1 | .text _ _ => 2 | .dec _ => 3 | .field _ => 4 | .num => 5 | .plan _ => 6
def ErrK.dat : ErrK → PyData
  | .cart z => .tuple [.str "cart", .str z]
  | .oper i => .tuple [.str "operation", .int i]
  | .text r w => .tuple [.str "text", .tuple [.int r, .int w]]
  | .dec o => .tuple [.str "decode", .int o]
  | .field z => .tuple [.str "field", .str z]
  | .num => .tuple [.str "number", .int 0]
  | .plan i => .tuple [.str "plan", .int i]
def ErrK.flds : ErrK → Option (List (Str × V))
  | .cart z => some [("part", .str z)]
  | .oper i => some [("index", .int i)]
  | .text r w => some [("word", .int w), ("row", .int r)]
  | .dec o => some [("offset", .int o)]
  | .field z => some [("name", .str z)]
  | .num => none
  | .plan i => some [("index", .int i)]
/-- an exception of the kind kd: its class, its dict -/
structure ErrAt (c : Fin 7 → Addr) (H : Hp) (cls : Value) (d : Option Addr) (kd : ErrK) : Prop where
  cls : cls = .ref (c kd.ix)
  fl : ∀ fs, kd.flds = some fs → ∃ dd, d = some dd ∧ H dd = some (.xd fs)
  no : kd.flds = none → d = none
structure ErrF (K : PySem.W.Frag) (mg : Str → Option Value) (c : Fin 7 → Addr) (CE : Addr) : Prop where
  a_FarmError : mg "FarmError" = some (.ref CE)
  a_InvalidCart : mg "InvalidCart" = some (.ref (c 0))
  a_InvalidOperation : mg "InvalidOperation" = some (.ref (c 1))
  a_InvalidText : mg "InvalidText" = some (.ref (c 2))
  a_DecodeError : mg "DecodeError" = some (.ref (c 3))
  a_UnknownField : mg "UnknownField" = some (.ref (c 4))
  a_InvalidNumber : mg "InvalidNumber" = some (.ref (c 5))
  a_InvalidPlan : mg "InvalidPlan" = some (.ref (c 6))
  n_ValueError : mg "ValueError" = none
  exc : ∀ j, ExcC K (c j)
  exm : ∀ j, PySem.W.exmOne K (.ref (c j)) (.ref CE) = some true
  kit : ∀ i j : Fin 7, PySem.W.kitOne K (.ref (c i)) (.ref (c j)) = some (decide (i.val = j.val))
  kitV : ∀ j, PySem.W.kitOne K (.ref (c j)) (.type "ValueError") = some true
  xf : ∀ j, XfC K (c j)
  no0 : PySem.W.findIn K (.ref (c 0)) "part" = some none
  no1 : PySem.W.findIn K (.ref (c 1)) "index" = some none
  no2r : PySem.W.findIn K (.ref (c 2)) "row" = some none
  no2w : PySem.W.findIn K (.ref (c 2)) "word" = some none
  no3 : PySem.W.findIn K (.ref (c 3)) "offset" = some none
  no4 : PySem.W.findIn K (.ref (c 4)) "name" = some none
  no6 : PySem.W.findIn K (.ref (c 6)) "index" = some none
/-- the tuple that tells it -/
def ErrK.da : ErrK → Da
  | .cart z => .tup [.str "cart", .str z]
  | .oper i => .tup [.str "operation", .int i]
  | .text r w => .tup [.str "text", .tup [.int r, .int w]]
  | .dec o => .tup [.str "decode", .int o]
  | .field z => .tup [.str "field", .str z]
  | .num => .tup [.str "number", .int 0]
  | .plan i => .tup [.str "plan", .int i]
def ErrV (H : Hp) (v : V) : ErrK → Prop
  | .cart z => ∃ t, v = .ref t ∧ H t = some (.tup [.str "cart", .str z])
  | .oper i => ∃ t, v = .ref t ∧ H t = some (.tup [.str "operation", .int i])
  | .text r w => ∃ t u, v = .ref t ∧ H t = some (.tup [.str "text", .ref u]) ∧ H u = some (.tup [.int r, .int w])
  | .dec o => ∃ t, v = .ref t ∧ H t = some (.tup [.str "decode", .int o])
  | .field z => ∃ t, v = .ref t ∧ H t = some (.tup [.str "field", .str z])
  | .num => ∃ t, v = .ref t ∧ H t = some (.tup [.str "number", .int 0])
  | .plan i => ∃ t, v = .ref t ∧ H t = some (.tup [.str "plan", .int i])
def eeE (c : Fin 7 → Addr) : VK → XK := fun Q cls d H' => ∃ kd, ErrAt c H' cls d kd ∧ ∀ H2 v, Same H' H2 → ErrV H2 v kd → Q v H2
def qqE : VK → VK := fun Q _ H' => Q .non H'
abbrev TTe (_ : PySem.W.Frag) (c : Fin 7 → Addr) : (XK → Hp → VK → Prop) → Hp → VK → Prop := TTof (eeE c) qqE
/-- the exception -/
def ErrK.fldD : ErrK → Option (List (Str × Da))
  | .cart z => some [("part", .str z)]
  | .oper i => some [("index", .int i)]
  | .text r w => some [("word", .int w), ("row", .int r)]
  | .dec o => some [("offset", .int o)]
  | .field z => some [("name", .str z)]
  | .num => none
  | .plan i => some [("index", .int i)]
def ErrK.exn (c : Fin 7 → Addr) (kd : ErrK) : Exn := ⟨c kd.ix, kd.fldD⟩
def xE (c : Fin 7 → Addr) (q : QD K) : XD K := fun x rs => ∃ kd, x = ErrK.exn c kd ∧ q (.da kd.da) rs
def qE (q : QD K) : QD K := fun _ rs => q (.da .non) rs
theorem de_t1 {S : Addr → Prop} {H : Hp} {t : Addr} {a b : V} {x y : Da} (h : H t = some (.tup [a, b])) (d1 : De K S H a x) (d2 : De K S H b y) : De K S H (.ref t) (.tup [x, y]) := .tup h (.cons d1 (.cons d2 .nil))
theorem ErrV.de {S : Addr → Prop} {H : Hp} {v : V} {kd : ErrK} (h : ErrV H v kd) (ok : ∀ fs, kd.fldD = some fs → ∀ f ∈ fs, ∀ z, f.2 = .str z → PyData.strOk z = true) : De K S H v kd.da := by
  cases kd with
  | cart z => obtain ⟨t, rfl, h⟩ := h; exact de_t1 h (.str (by decide +kernel)) (.str (ok _ rfl _ List.mem_cons_self z rfl))
  | field z => obtain ⟨t, rfl, h⟩ := h; exact de_t1 h (.str (by decide +kernel)) (.str (ok _ rfl _ List.mem_cons_self z rfl))
  | text r w => obtain ⟨t, u, rfl, h, h2⟩ := h; exact de_t1 h (.str (by decide +kernel)) (de_t1 h2 (.int _) (.int _))
  | oper i => obtain ⟨t, rfl, h⟩ := h; exact de_t1 h (.str (by decide +kernel)) (.int _)
  | dec i => obtain ⟨t, rfl, h⟩ := h; exact de_t1 h (.str (by decide +kernel)) (.int _)
  | num => obtain ⟨t, rfl, h⟩ := h; exact de_t1 h (.str (by decide +kernel)) (.int _)
  | plan i => obtain ⟨t, rfl, h⟩ := h; exact de_t1 h (.str (by decide +kernel)) (.int _)
theorem exn_at {c : Fin 7 → Addr} {S : Addr → Prop} {H : Hp} {u : Value} {d : Option Addr} {kd : ErrK} (h : ExOk K S H u d (ErrK.exn c kd)) : ErrAt c H u d kd ∧ ∀ fs, kd.fldD = some fs → ∀ f ∈ fs, ∀ z, f.2 = .str z → PyData.strOk z = true := by
  obtain ⟨e, h⟩ := h
  have go : ∀ {fs : List (Str × Da)} {gs : List (Str × V)}, gs.map (·.1) = fs.map (·.1) → DeAll K S H (gs.map (·.2)) (fs.map (·.2)) → ∀ f ∈ fs, ∀ z, f.2 = .str z → PyData.strOk z = true := by
    intro fs
    induction fs with
    | nil => intro gs _ _ f hf; cases hf
    | cons f0 r ih =>
      intro gs e a f hf z hz
      cases gs with
      | nil => cases e
      | cons g gs =>
        cases a with
        | cons a1 a2 =>
          rcases List.mem_cons.mp hf with hf | hf
          · subst hf
            obtain ⟨g1, g2⟩ := g
            have a1' : De K S H g2 f.2 := a1
            rw [hz] at a1'
            cases a1'
            assumption
          · exact ih (List.cons.inj e).2 a2 f hf z hz
  have one : ∀ {n : Str} {x : Da} {gs : List (Str × V)}, gs.map (·.1) = [n] → DeAll K S H (gs.map (·.2)) [x] → ∃ v, gs = [(n, v)] ∧ De K S H v x := by
    intro n x gs e a
    match gs, e, a with
    | [(m, v)], e, .cons a .nil => exact ⟨v, by injection e with e1; dsimp only at e1; rw [e1], a⟩
  refine ⟨⟨e, fun fs hf => ?_, fun hn => ?_⟩, fun fs hf f m z hz => ?_⟩
  · cases kd with
    | num => cases hf
    | text r w =>
      cases hf
      obtain ⟨a, gs, e1, h1, h2, h3⟩ := h
      match gs, h2, h3 with
      | [(m1, v1), (m2, v2)], h2, .cons a1 (.cons a2 .nil) =>
        injection h2 with q1 q2
        injection q2 with q2 _
        dsimp only at q1 q2
        subst q1 q2
        cases a1
        cases a2
        exact ⟨a, e1, h1⟩
    | _ =>
      cases hf
      obtain ⟨a, gs, e1, h1, h2, h3⟩ := h
      obtain ⟨v, rfl, dv⟩ := one h2 h3
      cases dv
      exact ⟨a, e1, h1⟩
  · cases kd <;> first | exact h | cases hn
  · have h' : ∃ a gs, d = some a ∧ H a = some (.xd gs) ∧ gs.map (·.1) = fs.map (·.1) ∧ DeAll K S H (gs.map (·.2)) (fs.map (·.2)) := by
      simp only [ErrK.exn, hf] at h
      exact h
    obtain ⟨a, gs, _, _, h2, h3⟩ := h'
    exact go h2 h3 f m z hz
theorem tells_err {c : Fin 7 → Addr} : Tells K (eeE c) qqE (xE c) qE := by
  refine ⟨fun {S0 F H q Q} k => ?_, fun {S0 F H q Q} k => ?_⟩
  · rintro x u d rs F' H' st A ex ⟨kd, rfl, hq⟩
    obtain ⟨ea, ok⟩ := exn_at ex
    exact ⟨kd, ea, fun H2 v s ev => k v _ rs F' H2 (st.trans (Stp.same s)) (A.same s) (.da (ev.de ok)) hq⟩
  · exact fun v y rs F' H' st A r hq => k .non (.da .non) rs F' H' st A (.da .non) hq
section
variable {H : Hp} {Q : VK}
theorem inV_strs (z : Str) (zs : List Str) : inV (.str z) (zs.map V.str) = decide (z ∈ zs) := by
  unfold inV
  induction zs with
  | nil => rfl
  | cons a r ih =>
    rw [List.map_cons, List.any_cons, ih]
    have h1 : eqV (.str a) (.str z) = decide (a = z) := by
      show (a == z) = decide (a = z)
      exact Bool.beq_eq_decide_eq a z
    rw [h1]
    by_cases h : a = z
    · subst h; simp
    · have h' : ¬ z = a := fun q => h q.symm
      simp [h, h']
theorem g_rEq_s {i j : Str} (h : Q (.bl (decide (i = j))) H) : rEq (.str i) (.str j) H Q := ⟨rfl, by rw [dec_s]; exact h⟩
theorem g_rNe_i {i j : Int} (h : Q (.bl (!decide (i = j))) H) : rNe (.int i) (.int j) H Q := ⟨rfl, by rw [dec_i]; exact h⟩
theorem g_rIn_s {z : Str} {p : Addr} {zs : List Str} (h1 : SqL K H p (zs.map V.str)) (h : Q (.bl (decide (z ∈ zs))) H) : rIn K false (.str z) (.ref p) H Q := ⟨p, zs.map V.str, rfl, .inl h1, rfl, flat_strs zs, by simp only [Bool.false_eq_true, if_false]; rw [inV_strs]; exact h⟩
end
theorem op_inF {X : Cx} (K) (hK : X.K = K := by rfl) : OpR X (compareOp .In) (rIn K false) := by subst hK; exact op_in_seq
def sevenN : List Str := ["cart", "operation", "text", "decode", "field", "number", "plan"]
theorem ErrAt.dct {c : Fin 7 → Addr} {H H' : Hp} {cls : Value} {d : Option Addr} {kd : ErrK} (h : ErrAt c H cls d kd) (s : Same H H') : DctAt d H' := by
  intro dd e
  cases q : kd.flds with
  | none => rw [h.no q] at e; cases e
  | some fs =>
    obtain ⟨d2, e2, at_⟩ := h.fl fs q
    rw [e] at e2
    cases e2
    exact ⟨fs, s _ _ at_⟩
/-- which of the seven it is -/
def bs7 (j : Nat) : List V := (List.range 7).map fun i => V.bl (decide (j = i))
theorem bs7_cnt : ∀ j : Fin 7, (bs7 j.val).countP (fun z => eqV z (.bl true)) = 1 := by decide +kernel
theorem bs7_flat (j : Nat) : (bs7 j).all flatV = true := by
  rw [List.all_eq_true]
  intro x hx
  obtain ⟨i, _, rfl⟩ := List.mem_map.mp hx
  rfl
theorem g_ix7 {H : Hp} {Q : VK} {p : Addr} {j : Nat} (hj : j < 7) (h1 : SqL K H p (bs7 j)) (h : Q (.int (j : Nat)) H) : rIndex K (.ref p) [.bl true] H Q := by
  refine ⟨p, bs7 j, .bl true, j, .bl true, rfl, rfl, h1, rfl, bs7_flat j, ?_, rfl, fun m z lt hz => ?_, h⟩
  · unfold bs7
    rw [List.getElem?_map, List.getElem?_range hj]
    simp
  · obtain ⟨i, hi, rfl⟩ := getm hz
    have e : i = m := by
      rw [List.getElem?_range (by omega)] at hi
      exact (Option.some.inj hi).symm
    subst e
    rw [decide_eq_false (by omega)]; rfl
theorem gives_err {X : Cx} {c : Fin 7 → Addr} {CE g : Addr} (M : Bts X.mg) (EF : ErrF X.K X.mg c CE) (cdg : Value) : Gives X N_law_error_of "_law_error_of" (defScope s_law_error_of) g cdg (defBody s_law_error_of) "_law_call" (TTe X.K c) := by
  intro f s H Q IsL tl act isl h
  have nd := sc_law_error_of.nd
  refine ⟨_, pss_cons (ps_try_as (x := "FarmError") (n := "e") (i := 1) (c := .ref CE) (X := (cxOf C8.CX0 X.prog X.w X.K X.mg X.base N_law_error_of "_law_error_of" (defScope s_law_error_of) g cdg X.A X.stack s H C8.E0).nox)
    (tb := fun W D σ H => ∃ Ech : XK, (∀ cls d H', Ech cls d H' → W cls d σ H') ∧ σ[0]? = some (some (.ref f)) ∧ IsL H ∧ tl Ech H (fun _ H' => D.nx σ H')) rfl rfl sc_law_error_of.nd rfl rfl ⟨rfl, by decide, .inl EF.a_FarmError⟩ LamX.takes0 (fun W pn xe tk _ => ⟨fun pins s' σ H' D I h' => ?_⟩)
    (fun a oe cls d pn hz hf => (pss_cons (ps_set (i := 2) nd rfl (by first | exact Or.inl rfl | exact Or.inr rfl) (pe_lst (pa_cons (pe_isX M hz hf (pv 1) (pe_glob (v := .ref _) rfl EF.a_InvalidCart rfl (by decide))) (pa_cons (pe_isX M hz hf (pv 1) (pe_glob (v := .ref _) rfl EF.a_InvalidOperation rfl (by decide))) (pa_cons (pe_isX M hz hf (pv 1) (pe_glob (v := .ref _) rfl EF.a_InvalidText rfl (by decide))) pa_nil)))))
    (pss_cons (ps_set (i := 2) nd rfl (by first | exact Or.inl rfl | exact Or.inr rfl) (pe_op (op_addK X.K) (pv 2) (pe_lst (pa_cons (pe_isX M hz hf (pv 1) (pe_glob (v := .ref _) rfl EF.a_DecodeError rfl (by decide))) (pa_cons (pe_isX M hz hf (pv 1) (pe_glob (v := .ref _) rfl EF.a_UnknownField rfl (by decide))) (pa_cons (pe_isX M hz hf (pv 1) (pe_glob (v := .ref _) rfl EF.a_InvalidNumber rfl (by decide))) pa_nil))))))
    (pss_cons (ps_set (i := 2) nd rfl (by first | exact Or.inl rfl | exact Or.inr rfl) (pe_op (op_addK X.K) (pv 2) (pe_lst (pa_cons (pe_isX M hz hf (pv 1) (pe_glob (v := .ref _) rfl EF.a_InvalidPlan rfl (by decide))) pa_nil))))
    (pss_cons (ps_if (PW.pt (pw_or (pt_cmpR op_ne (as_bm X.K (pe_bm PySem.F.plainAttrs_list PySem.F.slot_list_count PySem.F.type_list_count (mt_cntK' X.K) (pv 2) (pa_cons pe_bl pa_nil))) pe_int (nomark _)) (pw_or1 (pt_not (pt_val (pe_isX M hz hf (pv 1) (pe_bltn (v := .ty "ValueError") rfl EF.n_ValueError bt_ValueError rfl (by decide) (by decide)))))))) (pss_one (ps_ret (pe_tup (pa_cons pe_str (pa_cons pe_int pa_nil))))) pss_nil)
    (pss_cons (ps_set (i := 3) nd rfl (by first | exact Or.inl rfl | exact Or.inr rfl) (pe_ix (ix_K X.K) (pe_lst (pa_cons pe_str (pa_cons pe_str (pa_cons pe_str (pa_cons pe_str (pa_cons pe_str (pa_cons pe_str (pa_cons pe_str pa_nil)))))))) (as_bm X.K (pe_bm PySem.F.plainAttrs_list PySem.F.slot_list_index PySem.F.type_list_index (mt_indexK X.K) (pv 2) (pa_cons pe_bl pa_nil))) (fun _ _ => rfl)))
    (pss_cons (ps_if (pt_cmpR (op_inF X.K) (pv 3) (pe_lst (pa_cons pe_str (pa_cons pe_str pa_nil))) rfl) (pss_one (ps_ret (pe_tup (pa_cons (pv 3) (pa_cons (pe_either (pe_xf (EF.xf 6) EF.no6 hz hf (pv 1)) (pe_xf (EF.xf 1) EF.no1 hz hf (pv 1))) pa_nil))))) pss_nil)
    (pss_cons (ps_if (pt_cmpR (op_inF X.K) (pv 3) (pe_lst (pa_cons pe_str (pa_cons pe_str pa_nil))) rfl) (pss_one (ps_ret (pe_tup (pa_cons (pv 3) (pa_cons (pe_ifExp (pt_cmpR op_eq (pv 3) pe_str (nomark _)) (pe_xf (EF.xf 0) EF.no0 hz hf (pv 1)) (pe_xf (EF.xf 4) EF.no4 hz hf (pv 1))) pa_nil))))) pss_nil)
    (pss_one (ps_ret (pe_tup (pa_cons (pv 3) (pa_cons (pe_ifExp (pt_cmpR op_eq (pv 3) pe_str (nomark _)) (pe_tup (pa_cons (pe_xf (EF.xf 2) EF.no2r hz hf (pv 1)) (pa_cons (pe_xf (EF.xf 2) EF.no2w hz hf (pv 1)) pa_nil))) (pe_ifExp (pt_cmpR op_eq (pv 3) pe_str (nomark _)) (pe_xf (EF.xf 3) EF.no3 hz hf (pv 1)) pe_int)) pa_nil)))))))))))))) (pss_one (ps_ret pe_non)), ?_⟩
  · obtain ⟨Ech, hW, h1, h2, h3⟩ := h'
    exact (pss_one (ps_expr (act W pn xe Ech _ _ tk))).run pins s' σ H' D I ⟨hW, h1, h2, h3⟩
  · refine g_seq ?_
    refine ⟨eeE c Q, ?_, rfl, isl, h⟩
    rintro cls d H' ⟨kd, ea, k⟩
    refine ⟨true, by rw [ea.cls]; exact EF.exm _, fun _ a na => ?_, fun z => absurd z (by decide)⟩
    obtain rfl := ea.cls
    show (_ : TS) _ [some (.ref f), some (.ref a), none, none] H'
    have jlt : kd.ix.val < 7 := kd.ix.isLt
    generalize ej : kd.ix.val = j at jlt
    have kit : ∀ (i : Fin 7), PySem.W.kitOne X.K (.ref (c kd.ix)) (.ref (c i)) = some (decide (j = i.val)) := fun i => by rw [← ej]; exact EF.kit _ _
    have ex := EF.exc kd.ix
    walk_at "go"
    refine n_isX ex (ea.dct (Same.refl _)) (kit 0) ?_
    walk_at "go"
    refine n_isX ex (ea.dct (Same.refl _)) (kit 1) ?_
    walk_at "go"
    refine n_isX ex (ea.dct (Same.refl _)) (kit 2) ?_
    walk_at "go"
    refine n_lst (by simp [sizeLine_eq]) fun l1 H1 nl1 s1 hl1 => ?_
    walk_at "go"
    refine n_isX ex (ea.dct s1) (kit 3) ?_
    walk_at "go"
    refine n_isX ex (ea.dct s1) (kit 4) ?_
    walk_at "go"
    refine n_isX ex (ea.dct s1) (kit 5) ?_
    walk_at "go"
    refine n_lst (by simp [sizeLine_eq]) fun l2 H2 nl2 s2 hl2 => ?_
    refine g_add_l (s2 _ _ hl1) hl2 (by simp [sizeLine_eq]) fun l3 H3 nl3 s3 hl3 => ?_
    have s13 := s1.trans (s2.trans s3)
    walk_at "go"
    refine n_isX ex (ea.dct s13) (kit 6) ?_
    walk_at "go"
    refine n_lst (by simp [sizeLine_eq]) fun l4 H4 nl4 s4 hl4 => ?_
    refine g_add_l (s4 _ _ hl3) hl4 (by simp [sizeLine_eq]) fun l5 H5 nl5 s5 hl5 => ?_
    have s15 := s13.trans (s4.trans s5)
    have hl5' : H5 l5 = some (.lst (bs7 j)) := hl5
    walk_at "go"
    try refine g_tyL (SqL.of hl5') ?_
    walk_at "go"
    refine g_cntF (SqL.of hl5') rfl (bs7_flat j) ?_
    rw [bs7_cnt ⟨j, jlt⟩]
    refine g_rNe_i ?_
    walk_at "go"
    refine if_F (by decide) ?_
    walk_at "go"
    refine n_isXT ex (ea.dct s15) (EF.kitV _) ?_
    walk_at "go"
    refine if_F rfl ?_
    walk_at "go"
    refine n_lst (by simp [sizeLine_eq]) fun l6 H6 nl6 s6 hl6 => ?_
    have hl6' : H6 l6 = some (.lst (sevenN.map V.str)) := hl6
    walk_at "go"
    try refine g_tyL (SqL.of (s6 _ _ hl5')) ?_
    walk_at "go"
    refine g_ix7 jlt (SqL.of (s6 _ _ hl5')) ?_
    have l7 : sevenN.length = 7 := by decide +kernel
    refine g_ix_l (SqL.of hl6') (atI_nat (j := j) (v := V.str (sevenN[j]'(by omega))) (by rw [List.getElem?_map, List.getElem?_eq_getElem (by omega)]; rfl)) ?_
    generalize enm : sevenN[j]'(by omega) = nm
    walk_at "go"
    refine n_lst (by simp [sizeLine_eq]) fun l7 H7 nl7 s7 hl7 => ?_
    have s17 := s15.trans (s6.trans s7)
    refine g_rIn_s (zs := ["operation", "plan"]) (SqL.of hl7) ?_
    walk_at "go"
    subst ej
    cases kd with
    | oper i =>
      obtain rfl : nm = ("operation" : Str) := enm ▸ rfl
      obtain ⟨dd, ed, at_⟩ := ea.fl _ rfl
      refine if_T (by decide +kernel) ?_
      walk_at "go"
      refine .inr ⟨_, rfl, rfl, rfl, dd, _, _, ed, s17 _ _ at_, rfl, ?_⟩
      walk_at "go"
      refine n_tup (by simp [sizeLine_eq]) fun t H8 nt s8 ht => ?_
      exact k H8 _ (s17.trans s8) ⟨t, rfl, ht⟩
    | plan i =>
      obtain rfl : nm = ("plan" : Str) := enm ▸ rfl
      obtain ⟨dd, ed, at_⟩ := ea.fl _ rfl
      refine if_T (by decide +kernel) ?_
      walk_at "go"
      refine .inl ⟨_, rfl, rfl, rfl, dd, _, _, ed, s17 _ _ at_, rfl, ?_⟩
      walk_at "go"
      refine n_tup (by simp [sizeLine_eq]) fun t H8 nt s8 ht => ?_
      exact k H8 _ (s17.trans s8) ⟨t, rfl, ht⟩
    | cart z =>
      obtain rfl : nm = ("cart" : Str) := enm ▸ rfl
      obtain ⟨dd, ed, at_⟩ := ea.fl _ rfl
      refine if_F (by decide +kernel) ?_
      walk_at "go"
      refine n_lst (by simp [sizeLine_eq]) fun l8 H8 nl8 s8 hl8 => ?_
      refine g_rIn_s (zs := ["cart", "field"]) (SqL.of hl8) ?_
      walk_at "go"
      refine if_T (by decide +kernel) ?_
      walk_at "go"
      refine g_rEq_s ?_
      walk_at "go"
      refine if_T (by decide +kernel) ?_
      refine ⟨_, rfl, rfl, rfl, dd, _, _, ed, (s17.trans s8) _ _ at_, rfl, ?_⟩
      walk_at "go"
      refine n_tup (by simp [sizeLine_eq]) fun t H9 nt s9 ht => ?_
      exact k H9 _ (s17.trans (s8.trans s9)) ⟨t, rfl, ht⟩
    | field z =>
      obtain rfl : nm = ("field" : Str) := enm ▸ rfl
      obtain ⟨dd, ed, at_⟩ := ea.fl _ rfl
      refine if_F (by decide +kernel) ?_
      walk_at "go"
      refine n_lst (by simp [sizeLine_eq]) fun l8 H8 nl8 s8 hl8 => ?_
      refine g_rIn_s (zs := ["cart", "field"]) (SqL.of hl8) ?_
      walk_at "go"
      refine if_T (by decide +kernel) ?_
      walk_at "go"
      refine g_rEq_s ?_
      walk_at "go"
      refine if_F (by decide +kernel) ?_
      refine ⟨_, rfl, rfl, rfl, dd, _, _, ed, (s17.trans s8) _ _ at_, rfl, ?_⟩
      walk_at "go"
      refine n_tup (by simp [sizeLine_eq]) fun t H9 nt s9 ht => ?_
      exact k H9 _ (s17.trans (s8.trans s9)) ⟨t, rfl, ht⟩
    | text r w =>
      obtain rfl : nm = ("text" : Str) := enm ▸ rfl
      obtain ⟨dd, ed, at_⟩ := ea.fl _ rfl
      refine if_F (by decide +kernel) ?_
      walk_at "go"
      refine n_lst (by simp [sizeLine_eq]) fun l8 H8 nl8 s8 hl8 => ?_
      refine g_rIn_s (zs := ["cart", "field"]) (SqL.of hl8) ?_
      walk_at "go"
      refine if_F (by decide +kernel) ?_
      walk_at "go"
      refine g_rEq_s ?_
      walk_at "go"
      refine if_T (by decide +kernel) ?_
      walk_at "go"
      refine ⟨_, rfl, rfl, rfl, dd, _, _, ed, (s17.trans s8) _ _ at_, rfl, ?_⟩
      walk_at "go"
      refine ⟨_, rfl, rfl, rfl, dd, _, _, ed, (s17.trans s8) _ _ at_, rfl, ?_⟩
      walk_at "go"
      refine n_tup (by simp [sizeLine_eq]) fun t0 H9 nt0 s9 ht0 => ?_
      walk_at "go"
      refine n_tup (by simp [sizeLine_eq]) fun t H10 nt s10 ht => ?_
      exact k H10 _ (s17.trans (s8.trans (s9.trans s10))) ⟨t, t0, rfl, ht, s10 _ _ ht0⟩
    | dec o =>
      obtain rfl : nm = ("decode" : Str) := enm ▸ rfl
      obtain ⟨dd, ed, at_⟩ := ea.fl _ rfl
      refine if_F (by decide +kernel) ?_
      walk_at "go"
      refine n_lst (by simp [sizeLine_eq]) fun l8 H8 nl8 s8 hl8 => ?_
      refine g_rIn_s (zs := ["cart", "field"]) (SqL.of hl8) ?_
      walk_at "go"
      refine if_F (by decide +kernel) ?_
      walk_at "go"
      refine g_rEq_s ?_
      walk_at "go"
      refine if_F (by decide +kernel) ?_
      walk_at "go"
      refine g_rEq_s ?_
      walk_at "go"
      refine if_T (by decide +kernel) ?_
      refine ⟨_, rfl, rfl, rfl, dd, _, _, ed, (s17.trans s8) _ _ at_, rfl, ?_⟩
      walk_at "go"
      refine n_tup (by simp [sizeLine_eq]) fun t H9 nt s9 ht => ?_
      exact k H9 _ (s17.trans (s8.trans s9)) ⟨t, rfl, ht⟩
    | num =>
      obtain rfl : nm = ("number" : Str) := enm ▸ rfl
      refine if_F (by decide +kernel) ?_
      walk_at "go"
      refine n_lst (by simp [sizeLine_eq]) fun l8 H8 nl8 s8 hl8 => ?_
      refine g_rIn_s (zs := ["cart", "field"]) (SqL.of hl8) ?_
      walk_at "go"
      refine if_F (by decide +kernel) ?_
      walk_at "go"
      refine g_rEq_s ?_
      walk_at "go"
      refine if_F (by decide +kernel) ?_
      walk_at "go"
      refine g_rEq_s ?_
      walk_at "go"
      refine if_F (by decide +kernel) ?_
      walk_at "go"
      refine n_tup (by simp [sizeLine_eq]) fun t H9 nt s9 ht => ?_
      exact k H9 _ (s17.trans (s8.trans s9)) ⟨t, rfl, ht⟩
/-! ### the head's tests -/
def errNs : List Str := ["InvalidCart", "InvalidOperation", "InvalidText", "DecodeError", "UnknownField", "InvalidNumber", "InvalidPlan"]
def errCs (K : PySem.W.Frag) : Fin 7 → Addr := fun j => He.ga K (errNs.getD j.val "")
def seven7 : List (Fin 7) := [0, 1, 2, 3, 4, 5, 6]
theorem seven_all : ∀ j : Fin 7, j ∈ seven7 := by decide
def errOne (K : PySem.W.Frag) (CE C : Addr) : Bool := excCB K C && (xfB K C && (decide (PySem.W.exmOne K (.ref C) (.ref CE) = some true) && decide (PySem.W.kitOne K (.ref C) (.type "ValueError") = some true)))
def noB (K : PySem.W.Frag) (C : Addr) (f : Str) : Bool := decide (PySem.W.findIn K (.ref C) f = some none)
def errB (K : PySem.W.Frag) (CE : Addr) : Bool := (seven7.all fun i => errOne K CE (errCs K i)) && ((seven7.all fun i => seven7.all fun j => decide (PySem.W.kitOne K (.ref (errCs K i)) (.ref (errCs K j)) = some (decide (i.val = j.val)))) &&
  (noB K (errCs K 0) "part" && (noB K (errCs K 1) "index" && (noB K (errCs K 2) "row" && (noB K (errCs K 2) "word" && (noB K (errCs K 3) "offset" && (noB K (errCs K 4) "name" && noB K (errCs K 6) "index")))))))
theorem errB_ok {CE : Addr} (h : errB K CE = true) (a0 : mg "FarmError" = some (.ref CE)) (at_ : ∀ j : Fin 7, mg (errNs.getD j.val "") = some (.ref (errCs K j))) (nv : mg "ValueError" = none) : ErrF K mg (errCs K) CE := by
  simp only [errB, Bool.and_eq_true] at h
  obtain ⟨h1, h2, h3, h4, h5, h6, h7, h8, h9⟩ := h
  have one : ∀ j : Fin 7, errOne K CE (errCs K j) = true := fun j => List.all_eq_true.mp h1 j (seven_all j)
  have parts : ∀ j : Fin 7, excCB K (errCs K j) = true ∧ xfB K (errCs K j) = true ∧ decide (PySem.W.exmOne K (.ref (errCs K j)) (.ref CE) = some true) = true ∧ decide (PySem.W.kitOne K (.ref (errCs K j)) (.type "ValueError") = some true) = true := fun j => by
    have := one j
    simp only [errOne, Bool.and_eq_true] at this
    exact this
  exact ⟨a0, at_ 0, at_ 1, at_ 2, at_ 3, at_ 4, at_ 5, at_ 6, nv, fun j => excCB_ok (parts j).1, fun j => of_decide_eq_true (parts j).2.2.1, fun i j => of_decide_eq_true (List.all_eq_true.mp (List.all_eq_true.mp h2 i (seven_all i)) j (seven_all j)),
    fun j => of_decide_eq_true (parts j).2.2.2, fun j => xfB_ok (parts j).2.1, of_decide_eq_true h3, of_decide_eq_true h4, of_decide_eq_true h5, of_decide_eq_true h6, of_decide_eq_true h7, of_decide_eq_true h8, of_decide_eq_true h9⟩

end
end HC
namespace HC
open PyProof.Rows PySem L2 PySem.Spec
local macro_rules | `(tactic| walk_at "ext") => `(tactic| first | exact .here | exact .there .here | exact .there (.there .here) | exact .there (.there (.there .here)) | exact .there (.there (.there (.there .here))) | exact .there (.there (.there (.there (.there .here)))))
local macro_rules | `(tactic| walk_at "gets") => `(tactic| first | exact Gets.nil | ((refine' Gets.cons ?he ?hr); (case he => walk_at "ext"); (case hr => walk_at "gets")))
local macro_rules | `(tactic| walk_at "ar") => `(tactic| first | exact ar_eq rfl | (refine ar_ex fun _ => ?_; walk_at "ar"))
local macro_rules | `(tactic| walk_at "rep") => `(tactic| first | exact .here | exact .there .here | exact .there (.there .here) | exact .there (.there (.there .here)) | exact .there (.there (.there (.there .here))))
local macro_rules | `(tactic| walk_at "see") => `(tactic| first | exact .da _ | exact .lst (by walk_at "ext"))
local macro_rules | `(tactic| walk_at "itm") => `(tactic| first | exact .tup _ | exact .tupS _ | exact .lst _ | exact .scr _ | exact .btup _ | exact .raw (by walk_at "ext"))
local macro_rules | `(tactic| walk_at "wk") => `(tactic| first | exact .tup _ | exact .tupS _ | exact .lst _ | exact .scr _ | exact .btup _ | exact .str _ | exact .raw (by walk_at "ext"))
local macro_rules | `(tactic| walk_at "alld") => `(tactic| first | exact allDa0 | exact allDa1 | exact allDa2 | exact allDa3 | exact allDa4 | exact allDa5 | rfl)
local macro_rules | `(tactic| walk_at "put") => `(tactic| (simp (config := { decide := true }) only [putS, if_true, if_false]; try rfl))
local macro_rules | `(tactic| walk_at "pl") => `(tactic| first | rfl | assumption | exact pls_map (fun _ => rfl) | exact pl_lm (fun _ => rfl) | exact pl_tm (fun _ => rfl))
local macro_rules | `(tactic| walk_at "size") => `(tactic| first | exact (by decide : _ ≤ sizeLine) | (simp [sizeLine_eq]; done) | (simp [sizeLine_eq]; omega))
local macro_rules | `(tactic| walk_at "d1") => `(tactic| first
  | with_reducible refine s_seq ?_ | with_reducible refine s_asg ?_ | ((with_reducible refine' s_var ?hv ?_ ?kn); (case hv => exact rfl); (case kn => trivial)) | with_reducible refine s_c ?_ | with_reducible refine s_r ?_
  | ((with_reducible refine' s_name ?hv ?_); (case hv => first | (simp only [List.set]; rfl) | (simp only [wipeD, List.set]; rfl)))
  | with_reducible refine s_b ?_ | with_reducible refine s_u ?_ | with_reducible refine s_t ?_ | with_reducible refine s_isB ?_ | with_reducible refine s_cons ?_ | with_reducible refine s_nil ?_
  | with_reducible refine s_p2 ?_ | with_reducible refine s_p1 ?_ | with_reducible refine s_add_i ?_ | ((with_reducible refine' s_I ?hc ?_); (case hc => first | trivial | (show (0 : Int) < _; omega) | (unfold CMul; omega) | (unfold CPow; decide) | (unfold CDiv; omega))) | with_reducible refine s_1I ?_
  | with_reducible refine s_eq_i ?_ | with_reducible refine s_eq_s ?_ | with_reducible refine s_eq_b ?_ | with_reducible refine s_ne_i ?_ | with_reducible refine s_ne_s ?_ | with_reducible refine s_ne_b ?_ | with_reducible refine s_isN ?_ | with_reducible refine s_notN ?_
  | with_reducible refine s_call ?_ | with_reducible refine s_make ?_ | with_reducible refine s_fld ?_ | with_reducible refine s_prop ?_ | with_reducible refine s_meth ?_ | with_reducible refine s_ret ?_ | with_reducible refine s_retN ?_ | with_reducible refine s_drop ?_ | with_reducible refine s_ifS ?_ | with_reducible refine s_next ?_
  | with_reducible refine s_and ?_ | with_reducible refine s_or ?_ | with_reducible refine s_not ?_ | with_reducible refine s_andV ?_ | with_reducible refine s_orV ?_ | with_reducible refine s_notV ?_ | with_reducible refine s_if ?_ | with_reducible refine s_chain ?_
  | ((with_reducible refine' s_mkT ?he ?hz ?_); (case he => first | exact mkT2 | exact mkT1 | exact mkT3 | exact mkT4 | exact mkT0 | rfl); (case hz => walk_at "size")) | ((with_reducible refine' s_mkL ?he ?hz ?_); (case he => walk_at "alld"); (case hz => walk_at "size"))
  | with_reducible refine s_partI ?_ | with_reducible refine s_slT ?_ | ((with_reducible refine' s_sfldV ?kn ?_); (case kn => trivial)) | ((with_reducible refine' s_lenI ?hi ?_); (case hi => walk_at "itm")) | with_reducible refine s_lenS ?_
  | ((with_reducible refine' s_fldD ?he ?fn ?_); (case he => rfl); (case fn => assumption)) | ((with_reducible refine' s_fldR ?hx ?he ?fn ?kn ?_); (case hx => walk_at "ext"); (case he => rfl); (case fn => assumption); (case kn => trivial))
  | ((with_reducible refine' s_sfldR ?hr ?he ?fn ?hf ?_); (case hr => walk_at "rep"); (case he => walk_at "put"); (case fn => assumption); (case hf => simp)) | ((with_reducible refine' s_add_t ?hz ?_); (case hz => walk_at "size")) | ((with_reducible refine' s_add_l ?hz ?_); (case hz => walk_at "size"))
  | ((with_reducible refine' s_parK ?he ?hl ?_); (case he => first | (simp only [List.zip_cons_cons, List.zip_nil_right, List.zip_nil_left, List.foldl_cons, List.foldl_nil, List.set_cons_succ, List.set_cons_zero]; rfl) | rfl); (case hl => rfl)) | ((with_reducible refine' s_raiseK ?he ?hl ?_); (case he => walk_at "alld"); (case hl => rfl)) | ((with_reducible refine' s_gtup ?hi ?hn ?_); (case hi => first | exact its2_2 | exact its2_3 | exact its2_4 | exact its2_1 | exact .tup _ | exact .da _); (case hn => rfl)) | with_reducible refine s_gcons ?_ | with_reducible refine s_gnil ?_
  | with_reducible refine s_for ?_ | with_reducible refine s_it ?_ | with_reducible refine s_rng1 ?_ | with_reducible refine s_rng2 ?_ | with_reducible refine s_enT ?_ | with_reducible refine s_enL ?_ | with_reducible refine s_enLK ?_ | with_reducible refine s_zip ?_ | with_reducible refine s_zipL ?_ | with_reducible refine s_lc ?_ | with_reducible refine s_yes ?_
  | with_reducible refine s_faug ?_ | with_reducible refine s_int ?_ | with_reducible refine s_intB ?_ | with_reducible refine s_n1 ?_ | with_reducible refine s_n2 ?_ | with_reducible refine s_star1 ?_ | with_reducible refine s_dictZip ?_ | with_reducible refine s_items ?_ | ((with_reducible refine' s_star1K ?hi ?_); (case hi => walk_at "itm")) | ((with_reducible refine' s_augI ?he ?_); (case he => rfl)) | ((with_reducible refine' s_augV ?hc ?he ?_); (case hc => (unfold CMul; omega)); (case he => first | (simp only [List.set_cons_succ, List.set_cons_zero]; rfl) | rfl)) | ((with_reducible refine' s_aug0 ?he ?_); (case he => rfl)) | ((with_reducible refine' s_aug0V ?he ?_); (case he => first | (simp only [List.set_cons_succ, List.set_cons_zero]; rfl) | rfl)) | with_reducible refine s_tupOfT ?_
  | ((with_reducible refine' s_ix ?him ?hat ?kn ?_); (case him => walk_at "itm"); (case hat => first | exact atI_mm (by assumption) | exact atI_c0 | exact atI_c1 | exact atI_c2 | exact atI_c3 | exact atI_c4); (case kn => trivial)) | ((with_reducible refine' s_bmK ?hi ?_); (case hi => first | exact .da _ | exact .raw (by walk_at "ext"))) | ((with_reducible refine' s_bmK0 ?hi ?_); (case hi => first | exact .da _ | exact .raw (by walk_at "ext")))
  | ((with_reducible refine' s_app ?hr ?hz ?_); (case hr => walk_at "rep"); (case hz => walk_at "size")) | ((with_reducible refine' s_itK ?hw ?_); (case hw => walk_at "wk")) | with_reducible refine s_propD ?_ | ((with_reducible refine' s_propR ?hx ?_); (case hx => walk_at "ext"))
  | ((with_reducible refine' s_methD ?hn ?_); (case hn => (simp (config := { decide := true }) only [List.map, List.mem_cons, List.not_mem_nil, or_false, not_or, not_false_eq_true, and_self])))
  | ((with_reducible refine' s_methR ?hx ?hn ?_); (case hx => walk_at "ext"); (case hn => (simp (config := { decide := true }) only [List.map, List.mem_cons, List.not_mem_nil, or_false, not_or, not_false_eq_true, and_self])))
  | ((with_reducible refine' s_enTK ?hi ?_); (case hi => first | exact .da _ | exact .btup _ | exact .tup _)) | ((with_reducible refine' s_zipT ?hi ?hj ?_); (case hi => first | exact .da _ | exact .btup _ | exact .tup _); (case hj => first | exact .da _ | exact .btup _ | exact .tup _))
  | ((with_reducible refine' s_tupOfL ?hs ?_); (case hs => walk_at "see")) | ((with_reducible refine' s_tupNew ?hs ?_); (case hs => walk_at "see")) | ((with_reducible refine' s_slL ?hs ?_); (case hs => walk_at "see"))
  | ((with_reducible refine' s_notIn_bt ?h1 ?h2 ?_); (case h1 => walk_at "pl"); (case h2 => walk_at "pl")) | ((with_reducible refine' s_in_bt ?h1 ?h2 ?_); (case h1 => walk_at "pl"); (case h2 => walk_at "pl")) | ((with_reducible refine' s_notIn_t ?h1 ?h2 ?_); (case h1 => walk_at "pl"); (case h2 => walk_at "pl")) | ((with_reducible refine' s_in_t ?h1 ?h2 ?_); (case h1 => walk_at "pl"); (case h2 => walk_at "pl")) | ((with_reducible refine' s_notIn_l ?h1 ?h2 ?_); (case h1 => walk_at "pl"); (case h2 => walk_at "pl")) | ((with_reducible refine' s_in_l ?h1 ?h2 ?_); (case h1 => walk_at "pl"); (case h2 => walk_at "pl"))
  | ((with_reducible refine' s_nilEq ?hi ?_); (case hi => first | exact .lst _ | exact .raw (by walk_at "ext"))) | ((with_reducible refine' s_popE ?hr ?_); (case hr => walk_at "rep"))
  | with_reducible refine s_setL ?_ | with_reducible refine s_setL1 ?_ | with_reducible refine s_setL2 ?_ | ((with_reducible refine' s_addR ?h1 ?h2 ?hz ?_); (case h1 => walk_at "see"); (case h2 => walk_at "see"); (case hz => walk_at "size")) | with_reducible refine s_m1 ?_ | with_reducible refine s_m1K ?_ | with_reducible refine s_m1Q ?_ | with_reducible refine s_lcR ?_ | with_reducible refine s_tupIx ?_ | with_reducible refine s_lenOD ?_ | ((with_reducible refine' s_lenOR ?hx ?_); (case hx => walk_at "ext")) | with_reducible refine s_raise0 ?_ | with_reducible refine s_raise ?_ | with_reducible refine s_tup ?_ | with_reducible refine s_lst ?_ | with_reducible refine s_lstR ?_ | with_reducible refine s_cb ?_ | with_reducible refine s_sl ?_ | with_reducible refine s_noP ?_ | with_reducible refine s_part ?_ | with_reducible refine s_bm ?_ | with_reducible refine s_bm0 ?_ | with_reducible refine s_sfld ?_ | with_reducible refine s_par ?_)
local macro_rules | `(tactic| walk_at "side") => `(tactic| first | assumption | omega | trivial | (decide; done))
local macro_rules | `(tactic| walk_at "wit") => `(tactic| ((repeat apply Exists.intro); (refine' And.intro (rfl : @Eq (List Sl) _ _) ?_); (first | (refine' And.intro (rfl : @Eq (List (Rs _)) _ _) ?_) | (fail_if_success (refine' And.intro (?_ : @Eq (List (Rs _)) _ _) ?_))); (repeat refine' And.intro (by walk_at "side") ?_)))
local macro_rules | `(tactic| walk_at "ask") => `(tactic| first | ((with_reducible refine' s_ask0 ?kk); (case' kk => walk_at "wit")) | ((with_reducible refine' s_ask ?gg ?kk); (case' kk => walk_at "wit"); (case' gg => walk_at "gets")))
local macro_rules | `(tactic| walk_at "d") => `(tactic| repeat walk_at "d1")
local macro_rules | `(tactic| walk_at "in") => `(tactic| simp only [startD, List.length_cons, List.length_nil, Nat.zero_add, Nat.reduceAdd, Nat.reduceSub, List.replicate_succ, List.replicate_zero, List.cons_append, List.nil_append])
local macro_rules | `(tactic| walk_at "yes") => `(tactic| refine if_T (by first | rfl | exact decide_eq_true (by first | assumption | omega) | assumption) ?_)
local macro_rules | `(tactic| walk_at "no") => `(tactic| refine if_F (by first | rfl | exact decide_eq_false (by first | assumption | omega) | assumption) ?_)
local macro_rules | `(tactic| walk_at "nyes") => `(tactic| refine if_T (by first | rfl | (rw [decide_eq_false (by first | assumption | omega)]; rfl)) ?_)
local macro_rules | `(tactic| walk_at "nno") => `(tactic| refine if_F (by first | rfl | (rw [decide_eq_true (by first | assumption | omega)]; rfl)) ?_)
local macro_rules | `(tactic| walk_at "dec") => `(tactic| first | rfl | assumption | (simp (config := { failIfUnchanged := false }) only [*, decide_true, decide_false, decide_eq_true_eq, decide_eq_false_iff_not, Bool.not_true, Bool.not_false, Bool.and_true, Bool.and_false, Bool.true_and, Bool.false_and, Bool.or_true, Bool.or_false, Bool.true_or, Bool.false_or, not_false_eq_true, Bool.not_eq_true']; done))
local macro_rules | `(tactic| walk_at "di") => `(tactic| repeat first | walk_at "d1" | ((with_reducible refine' if_T ?hc ?_); (case hc => walk_at "dec")) | ((with_reducible refine' if_F ?hc ?_); (case hc => walk_at "dec")))
local macro_rules | `(tactic| walk_at "wipe") => `(tactic| simp only [List.map_cons, List.map_nil, wipeD, List.set_cons_zero, List.set_cons_succ])
section
variable {P : Program} {w : World} {K : PySem.W.Frag}
variable {mg : Str → Option Value} {base : Heap}
theorem ok_excU {C fI : Addr} {fd : FuncData} (T : OexC K C) (no : PySem.W.findIn K (.ref C) "name" = some none) (V : InitV K mg "FarmError") (at_ : mg "UnknownField" = some (.ref C)) (i1 : PySem.W.findIn K (.ref C) "__init__" = some (some (.ref fI))) (i2 : PySem.W.typeIn K (.ref fI) = some (.type "function"))
    (F : FnD K "__init__" "UnknownField.__init__" s_UnknownField___init__ fI fd) : ExcR P w K mg base "UnknownField" C 2 "name" := by
  refine ⟨at_, T, fI, fd, i1, i2, init1_ok T no V F sc_UnknownField___init__ rfl (Or.inl rfl) (Or.inl rfl) (by decide) (by decide) (by decide) _ (fun _ => rfl), ?_⟩
  obtain ⟨oc, od, dV, kV, doc, pm, an, cdv, ct, osl, rfl, lk, hcd, dfl, _⟩ := F.ex
  have dn : dV = .none := dfl.elim (fun z => z.2) (fun z => absurd rfl z.1)
  subst dn
  refine ⟨fun s us ws _ l1 l2 => BindsTo.of_looks fun M => ?_, fun r1 r2 => r1.append r2⟩
  match us, ws, l1, l2 with
  | [u], [v], _, _ => exact PySem.W.Looks.of_pure rfl

end
end HC
namespace HC
open PyProof.Rows PySem L2 PySem.Spec

def endFx : List Tst := [fun K => propB K (He.ga K "Farm") "names",
  fun K => propB K (He.ga K "Farm") "limits",
  fun K => propB K (He.ga K "LiveFarm") "now",
  fun K => propB K (He.ga K "LiveFarm") "rotten",
  fun K => propB K (He.ga K "LiveFarm") "history",
  fun K => propB K (He.ga K "LiveFarm") "days_left",
  fun K => propB K (He.ga K "LiveFarm") "limits_now",
  fun K => gconB K (He.ga K "Farm") "MAX_FIELDS" (.int 6),
  fun K => gconB K (He.ga K "Farm") "MAX_STATES" (.int 4000),
  fun K => errB K (He.ga K "FarmError"),
  fun K => initB K (He.ga K "FarmError"),
  fun K => excTB K (He.ga K "InvalidNumber"),
  fun K => oexB K (He.ga K "UnknownField"),
  fun K => He.eqO (PySem.W.findIn K (.ref (He.ga K "UnknownField")) "__init__") (some (some (.ref (He.ma K (He.ga K "UnknownField") "__init__")))),
  fun K => decide (PySem.W.typeIn K (.ref (He.ma K (He.ga K "UnknownField") "__init__")) = some (.type "function"))]
def endFa : List He.Fa := [.free "len",
  .free "abs",
  .free "min",
  .free "max",
  .free "all",
  .free "any",
  .free "sum",
  .free "isinstance",
  .free "list",
  .free "tuple",
  .free "int",
  .free "str",
  .free "bool",
  .free "dict",
  .free "range",
  .free "enumerate",
  .free "zip",
  .free "sorted",
  .free "set",
  .free "ValueError",
  .str "LETTERS" "abcdefghijklmnopqrstuvwxyz",
  .str "HARVEST" "harvest",
  .str "WAIT" "wait",
  .str "CHANGE" "change_limit",
  .int "MAX_LETTERS" 8,
  .int "MAX_LIMIT" 30,
  .int "MAX_WAIT" 1000,
  .int "TAG" 72,
  .int "MODULUS" 233,
  .glo "Farm",
  .cls "Farm",
  .glo "Moment",
  .cls "Moment",
  .glo "LiveFarm",
  .cls "LiveFarm",
  .glo "Decoder",
  .cls "Decoder",
  .glo "require_field",
  .glo "validate_number",
  .glo "replaced",
  .glo "is_name",
  .glo "checksum",
  .glo "decode_farm",
  .glo "_law_random",
  .glo "_law_below",
  .glo "_law_shuffled",
  .glo "_law_fields",
  .glo "_law_bytes",
  .glo "_law_farm",
  .glo "_law_first",
  .glo "_law_small",
  .glo "_law_later",
  .glo "_law_operation",
  .glo "_law_changed",
  .glo "_law_worked",
  .glo "_law_do",
  .glo "_law_equal",
  .glo "_law_stands",
  .glo "_law_error_of",
  .glo "law",
  .glo "FarmError",
  .glo "InvalidCart",
  .glo "InvalidOperation",
  .glo "InvalidText",
  .glo "DecodeError",
  .glo "UnknownField",
  .glo "InvalidNumber",
  .glo "InvalidPlan",
  .noat "Farm" "rows",
  .noat "Decoder" "data",
  .noat "Decoder" "place",
  .noat "Moment" "day",
  .noat "Moment" "spans",
  .noat "Moment" "left",
  .noat "Moment" "done",
  .noat "Moment" "gone",
  .noat "LiveFarm" "farm",
  .noat "LiveFarm" "moment",
  .noat "LiveFarm" "past",
  .noat "LiveFarm" "undone",
  .meth "Farm" "__len__",
  .meth "Moment" "later",
  .meth "LiveFarm" "enter",
  .meth "LiveFarm" "undo",
  .meth "LiveFarm" "redo",
  .meth "LiveFarm" "harvest",
  .meth "LiveFarm" "wait",
  .meth "LiveFarm" "change_limit",
  .meth "Decoder" "take",
  .meth "Decoder" "take_field",
  .mkr "Moment",
  .mkr "LiveFarm",
  .mkr "Decoder",
  .mkr "Farm"]
def endFn : List He5.DefA := [⟨fun K => He.ga K "require_field", "require_field", "require_field", defArgs s_require_field, defBody s_require_field, defScope s_require_field, [], []⟩,
  ⟨fun K => He.ga K "validate_number", "validate_number", "validate_number", defArgs s_validate_number, defBody s_validate_number, defScope s_validate_number, [], []⟩,
  ⟨fun K => He.ga K "replaced", "replaced", "replaced", defArgs s_replaced, defBody s_replaced, defScope s_replaced, [], []⟩,
  ⟨fun K => He.ga K "is_name", "is_name", "is_name", defArgs s_is_name, defBody s_is_name, defScope s_is_name, [], []⟩,
  ⟨fun K => He.ga K "checksum", "checksum", "checksum", defArgs s_checksum, defBody s_checksum, defScope s_checksum, [], []⟩,
  ⟨fun K => He.ga K "decode_farm", "decode_farm", "decode_farm", defArgs s_decode_farm, defBody s_decode_farm, defScope s_decode_farm, [], []⟩,
  ⟨fun K => He.ga K "_law_random", "_law_random", "_law_random", defArgs s_law_random, defBody s_law_random, defScope s_law_random, [], []⟩,
  ⟨fun K => He.ga K "_law_below", "_law_below", "_law_below", defArgs s_law_below, defBody s_law_below, defScope s_law_below, [], []⟩,
  ⟨fun K => He.ga K "_law_shuffled", "_law_shuffled", "_law_shuffled", defArgs s_law_shuffled, defBody s_law_shuffled, defScope s_law_shuffled, [], []⟩,
  ⟨fun K => He.ga K "_law_fields", "_law_fields", "_law_fields", defArgs s_law_fields, defBody s_law_fields, defScope s_law_fields, [], []⟩,
  ⟨fun K => He.ga K "_law_bytes", "_law_bytes", "_law_bytes", defArgs s_law_bytes, defBody s_law_bytes, defScope s_law_bytes, [], []⟩,
  ⟨fun K => He.ga K "_law_farm", "_law_farm", "_law_farm", defArgs s_law_farm, defBody s_law_farm, defScope s_law_farm, [], []⟩,
  ⟨fun K => He.ga K "_law_first", "_law_first", "_law_first", defArgs s_law_first, defBody s_law_first, defScope s_law_first, [], []⟩,
  ⟨fun K => He.ga K "_law_small", "_law_small", "_law_small", defArgs s_law_small, defBody s_law_small, defScope s_law_small, [], []⟩,
  ⟨fun K => He.ga K "_law_later", "_law_later", "_law_later", defArgs s_law_later, defBody s_law_later, defScope s_law_later, [], []⟩,
  ⟨fun K => He.ga K "_law_operation", "_law_operation", "_law_operation", defArgs s_law_operation, defBody s_law_operation, defScope s_law_operation, [], []⟩,
  ⟨fun K => He.ga K "_law_changed", "_law_changed", "_law_changed", defArgs s_law_changed, defBody s_law_changed, defScope s_law_changed, [], []⟩,
  ⟨fun K => He.ga K "_law_worked", "_law_worked", "_law_worked", defArgs s_law_worked, defBody s_law_worked, defScope s_law_worked, [], []⟩,
  ⟨fun K => He.ga K "_law_do", "_law_do", "_law_do", defArgs s_law_do, defBody s_law_do, defScope s_law_do, [], []⟩,
  ⟨fun K => He.ga K "_law_equal", "_law_equal", "_law_equal", defArgs s_law_equal, defBody s_law_equal, defScope s_law_equal, [], []⟩,
  ⟨fun K => He.ga K "_law_stands", "_law_stands", "_law_stands", defArgs s_law_stands, defBody s_law_stands, defScope s_law_stands, [], []⟩,
  ⟨fun K => He.ga K "_law_error_of", "_law_error_of", "_law_error_of", defArgs s_law_error_of, defBody s_law_error_of, defScope s_law_error_of, [], []⟩,
  ⟨fun K => He.ga K "law", "law", "law", defArgs s_law, defBody s_law, defScope s_law, [], []⟩,
  ⟨fun K => He.ma K (He.ga K "Farm") "__len__", "__len__", "Farm.__len__", defArgs s_Farm___len__, defBody s_Farm___len__, defScope s_Farm___len__, [], []⟩,
  ⟨fun K => He.ma K (He.ga K "Moment") "later", "later", "Moment.later", defArgs s_Moment_later, defBody s_Moment_later, defScope s_Moment_later, [], []⟩,
  ⟨fun K => He.ma K (He.ga K "LiveFarm") "enter", "enter", "LiveFarm.enter", defArgs s_LiveFarm_enter, defBody s_LiveFarm_enter, defScope s_LiveFarm_enter, [], []⟩,
  ⟨fun K => He.ma K (He.ga K "LiveFarm") "undo", "undo", "LiveFarm.undo", defArgs s_LiveFarm_undo, defBody s_LiveFarm_undo, defScope s_LiveFarm_undo, [], []⟩,
  ⟨fun K => He.ma K (He.ga K "LiveFarm") "redo", "redo", "LiveFarm.redo", defArgs s_LiveFarm_redo, defBody s_LiveFarm_redo, defScope s_LiveFarm_redo, [], []⟩,
  ⟨fun K => He.ma K (He.ga K "LiveFarm") "harvest", "harvest", "LiveFarm.harvest", defArgs s_LiveFarm_harvest, defBody s_LiveFarm_harvest, defScope s_LiveFarm_harvest, [], []⟩,
  ⟨fun K => He.ma K (He.ga K "LiveFarm") "wait", "wait", "LiveFarm.wait", defArgs s_LiveFarm_wait, defBody s_LiveFarm_wait, defScope s_LiveFarm_wait, [], []⟩,
  ⟨fun K => He.ma K (He.ga K "LiveFarm") "change_limit", "change_limit", "LiveFarm.change_limit", defArgs s_LiveFarm_change_limit, defBody s_LiveFarm_change_limit, defScope s_LiveFarm_change_limit, [], []⟩,
  ⟨fun K => He.ma K (He.ga K "Decoder") "take", "take", "Decoder.take", defArgs s_Decoder_take, defBody s_Decoder_take, defScope s_Decoder_take, [], []⟩,
  ⟨fun K => He.ma K (He.ga K "Decoder") "take_field", "take_field", "Decoder.take_field", defArgs s_Decoder_take_field, defBody s_Decoder_take_field, defScope s_Decoder_take_field, [], []⟩,
  ⟨fun K => He.ma K (He.ga K "Moment") "__init__", "__init__", "Moment.__init__", defArgs s_Moment___init__, defBody s_Moment___init__, defScope s_Moment___init__, [], []⟩,
  ⟨fun K => He.ma K (He.ga K "LiveFarm") "__init__", "__init__", "LiveFarm.__init__", defArgs s_LiveFarm___init__, defBody s_LiveFarm___init__, defScope s_LiveFarm___init__, [], []⟩,
  ⟨fun K => He.ma K (He.ga K "Decoder") "__init__", "__init__", "Decoder.__init__", defArgs s_Decoder___init__, defBody s_Decoder___init__, defScope s_Decoder___init__, [], []⟩,
  ⟨fun K => He.ma K (He.ga K "Farm") "__init__", "__init__", "Farm.__init__", defArgs s_Farm___init__, defBody s_Farm___init__, defScope s_Farm___init__, [], []⟩,
  ⟨fun K => pgA K (He.ga K "Farm") "names", "names", "Farm.names", defArgs s_Farm_names, defBody s_Farm_names, defScope s_Farm_names, [], []⟩,
  ⟨fun K => pgA K (He.ga K "Farm") "limits", "limits", "Farm.limits", defArgs s_Farm_limits, defBody s_Farm_limits, defScope s_Farm_limits, [], []⟩,
  ⟨fun K => pgA K (He.ga K "LiveFarm") "now", "now", "LiveFarm.now", defArgs s_LiveFarm_now, defBody s_LiveFarm_now, defScope s_LiveFarm_now, [], []⟩,
  ⟨fun K => pgA K (He.ga K "LiveFarm") "rotten", "rotten", "LiveFarm.rotten", defArgs s_LiveFarm_rotten, defBody s_LiveFarm_rotten, defScope s_LiveFarm_rotten, [], []⟩,
  ⟨fun K => pgA K (He.ga K "LiveFarm") "history", "history", "LiveFarm.history", defArgs s_LiveFarm_history, defBody s_LiveFarm_history, defScope s_LiveFarm_history, [], []⟩,
  ⟨fun K => pgA K (He.ga K "LiveFarm") "days_left", "days_left", "LiveFarm.days_left", defArgs s_LiveFarm_days_left, defBody s_LiveFarm_days_left, defScope s_LiveFarm_days_left, [], []⟩,
  ⟨fun K => pgA K (He.ga K "LiveFarm") "limits_now", "limits_now", "LiveFarm.limits_now", defArgs s_LiveFarm_limits_now, defBody s_LiveFarm_limits_now, defScope s_LiveFarm_limits_now, [], []⟩,
  ⟨fun K => He.ma K (He.ga K "UnknownField") "__init__", "__init__", "UnknownField.__init__", defArgs s_UnknownField___init__, defBody s_UnknownField___init__, defScope s_UnknownField___init__, [], []⟩]
def endTf : List He.Defn := [("law", none)]
abbrev endR : PySem.W.OpenRow := PySem.W.OpenLaw.row PySem.Challenge.rw_harvestcarts_k35_live_farms
abbrev endHk : PySem.W.Hook := hookL 5 endFx endFa endFn endTf
def endOb (s : PySem.W.SharedT) : He.AlD × Bool := obsLG 5 endFx endFa endFn endTf (HandSHeadRun.getT s)
theorem endOb_eq (s : PySem.W.SharedT) : endOb s = endHk.obs s.abs := obsLG_eq (HandSHeadRun.getT_eq s)
def endNames0 : List Str := ["_wall", "FarmError", "InvalidFarm", "TooManyStates", "UnknownField", "InvalidPlan", "InvalidNumber", "InvalidCart", "InvalidOperation", "InvalidText", "DecodeError", "LETTERS", "MAX_LETTERS", "MAX_LIMIT", "validate_number", "is_name", "Farm", "require_field", "MAX_WAIT", "HARVEST"]
def endNames1 : List Str := ["WAIT", "CHANGE", "replaced", "Moment", "LiveFarm", "TAG", "MODULUS", "checksum", "Decoder", "decode_farm", "_law_random", "_law_below", "_law_shuffled", "_law_fields", "_law_first", "_law_small", "_law_bytes", "_law_farm", "_law_operation", "_law_later"]
def endNames2 : List Str := ["_law_changed", "_law_worked", "_law_error_of", "_law_do", "_law_equal", "_law_stands"]
def endNames : List Str := endNames0 ++ endNames1 ++ endNames2
theorem endRun (w : World) : HandSHeadRun.RunEq endR (PySem.W.view endR.prog [51]) endHk endOb 40000 endNames w := by
  intro os
  kernel_rfl
end HC
namespace HC
open PyProof.Rows PySem L2 PySem.Spec
local macro_rules | `(tactic| walk_at "ext") => `(tactic| first | exact .here | exact .there .here | exact .there (.there .here) | exact .there (.there (.there .here)) | exact .there (.there (.there (.there .here))) | exact .there (.there (.there (.there (.there .here)))))
local macro_rules | `(tactic| walk_at "gets") => `(tactic| first | exact Gets.nil | ((refine' Gets.cons ?he ?hr); (case he => walk_at "ext"); (case hr => walk_at "gets")))
local macro_rules | `(tactic| walk_at "ar") => `(tactic| first | exact ar_eq rfl | (refine ar_ex fun _ => ?_; walk_at "ar"))
local macro_rules | `(tactic| walk_at "rep") => `(tactic| first | exact .here | exact .there .here | exact .there (.there .here) | exact .there (.there (.there .here)) | exact .there (.there (.there (.there .here))))
local macro_rules | `(tactic| walk_at "see") => `(tactic| first | exact .da _ | exact .lst (by walk_at "ext"))
local macro_rules | `(tactic| walk_at "itm") => `(tactic| first | exact .tup _ | exact .tupS _ | exact .lst _ | exact .scr _ | exact .btup _ | exact .raw (by walk_at "ext"))
local macro_rules | `(tactic| walk_at "wk") => `(tactic| first | exact .tup _ | exact .tupS _ | exact .lst _ | exact .scr _ | exact .btup _ | exact .str _ | exact .raw (by walk_at "ext"))
local macro_rules | `(tactic| walk_at "alld") => `(tactic| first | exact allDa0 | exact allDa1 | exact allDa2 | exact allDa3 | exact allDa4 | exact allDa5 | rfl)
local macro_rules | `(tactic| walk_at "put") => `(tactic| (simp (config := { decide := true }) only [putS, if_true, if_false]; try rfl))
local macro_rules | `(tactic| walk_at "pl") => `(tactic| first | rfl | assumption | exact pls_map (fun _ => rfl) | exact pl_lm (fun _ => rfl) | exact pl_tm (fun _ => rfl))
local macro_rules | `(tactic| walk_at "size") => `(tactic| first | exact (by decide : _ ≤ sizeLine) | (simp [sizeLine_eq]; done) | (simp [sizeLine_eq]; omega))
local macro_rules | `(tactic| walk_at "d1") => `(tactic| first
  | with_reducible refine s_seq ?_ | with_reducible refine s_asg ?_ | ((with_reducible refine' s_var ?hv ?_ ?kn); (case hv => exact rfl); (case kn => trivial)) | with_reducible refine s_c ?_ | with_reducible refine s_r ?_
  | ((with_reducible refine' s_name ?hv ?_); (case hv => first | (simp only [List.set]; rfl) | (simp only [wipeD, List.set]; rfl)))
  | with_reducible refine s_b ?_ | with_reducible refine s_u ?_ | with_reducible refine s_t ?_ | with_reducible refine s_isB ?_ | with_reducible refine s_cons ?_ | with_reducible refine s_nil ?_
  | with_reducible refine s_p2 ?_ | with_reducible refine s_p1 ?_ | with_reducible refine s_add_i ?_ | ((with_reducible refine' s_I ?hc ?_); (case hc => first | trivial | (show (0 : Int) < _; omega) | (unfold CMul; omega) | (unfold CPow; decide) | (unfold CDiv; omega))) | with_reducible refine s_1I ?_
  | with_reducible refine s_eq_i ?_ | with_reducible refine s_eq_s ?_ | with_reducible refine s_eq_b ?_ | with_reducible refine s_ne_i ?_ | with_reducible refine s_ne_s ?_ | with_reducible refine s_ne_b ?_ | with_reducible refine s_isN ?_ | with_reducible refine s_notN ?_
  | with_reducible refine s_call ?_ | with_reducible refine s_make ?_ | with_reducible refine s_fld ?_ | with_reducible refine s_prop ?_ | with_reducible refine s_meth ?_ | with_reducible refine s_ret ?_ | with_reducible refine s_retN ?_ | with_reducible refine s_drop ?_ | with_reducible refine s_ifS ?_ | with_reducible refine s_next ?_
  | with_reducible refine s_and ?_ | with_reducible refine s_or ?_ | with_reducible refine s_not ?_ | with_reducible refine s_andV ?_ | with_reducible refine s_orV ?_ | with_reducible refine s_notV ?_ | with_reducible refine s_if ?_ | with_reducible refine s_chain ?_
  | ((with_reducible refine' s_mkT ?he ?hz ?_); (case he => first | exact mkT2 | exact mkT1 | exact mkT3 | exact mkT4 | exact mkT0 | rfl); (case hz => walk_at "size")) | ((with_reducible refine' s_mkL ?he ?hz ?_); (case he => walk_at "alld"); (case hz => walk_at "size"))
  | with_reducible refine s_partI ?_ | with_reducible refine s_slT ?_ | ((with_reducible refine' s_sfldV ?kn ?_); (case kn => trivial)) | ((with_reducible refine' s_lenI ?hi ?_); (case hi => walk_at "itm")) | with_reducible refine s_lenS ?_
  | ((with_reducible refine' s_fldD ?he ?fn ?_); (case he => rfl); (case fn => assumption)) | ((with_reducible refine' s_fldR ?hx ?he ?fn ?kn ?_); (case hx => walk_at "ext"); (case he => rfl); (case fn => assumption); (case kn => trivial))
  | ((with_reducible refine' s_sfldR ?hr ?he ?fn ?hf ?_); (case hr => walk_at "rep"); (case he => walk_at "put"); (case fn => assumption); (case hf => simp)) | ((with_reducible refine' s_add_t ?hz ?_); (case hz => walk_at "size")) | ((with_reducible refine' s_add_l ?hz ?_); (case hz => walk_at "size"))
  | ((with_reducible refine' s_parK ?he ?hl ?_); (case he => first | (simp only [List.zip_cons_cons, List.zip_nil_right, List.zip_nil_left, List.foldl_cons, List.foldl_nil, List.set_cons_succ, List.set_cons_zero]; rfl) | rfl); (case hl => rfl)) | ((with_reducible refine' s_raiseK ?he ?hl ?_); (case he => walk_at "alld"); (case hl => rfl)) | ((with_reducible refine' s_gtup ?hi ?hn ?_); (case hi => first | exact its2_2 | exact its2_3 | exact its2_4 | exact its2_1 | exact .tup _ | exact .da _); (case hn => rfl)) | with_reducible refine s_gcons ?_ | with_reducible refine s_gnil ?_
  | with_reducible refine s_for ?_ | with_reducible refine s_it ?_ | with_reducible refine s_rng1 ?_ | with_reducible refine s_rng2 ?_ | with_reducible refine s_enT ?_ | with_reducible refine s_enL ?_ | with_reducible refine s_enLK ?_ | with_reducible refine s_zip ?_ | with_reducible refine s_zipL ?_ | with_reducible refine s_lc ?_ | with_reducible refine s_yes ?_
  | with_reducible refine s_faug ?_ | with_reducible refine s_int ?_ | with_reducible refine s_intB ?_ | with_reducible refine s_n1 ?_ | with_reducible refine s_n2 ?_ | with_reducible refine s_star1 ?_ | with_reducible refine s_dictZip ?_ | with_reducible refine s_items ?_ | ((with_reducible refine' s_star1K ?hi ?_); (case hi => walk_at "itm")) | ((with_reducible refine' s_augI ?he ?_); (case he => rfl)) | ((with_reducible refine' s_augV ?hc ?he ?_); (case hc => (unfold CMul; omega)); (case he => first | (simp only [List.set_cons_succ, List.set_cons_zero]; rfl) | rfl)) | ((with_reducible refine' s_aug0 ?he ?_); (case he => rfl)) | ((with_reducible refine' s_aug0V ?he ?_); (case he => first | (simp only [List.set_cons_succ, List.set_cons_zero]; rfl) | rfl)) | with_reducible refine s_tupOfT ?_
  | ((with_reducible refine' s_ix ?him ?hat ?kn ?_); (case him => walk_at "itm"); (case hat => first | exact atI_mm (by assumption) | exact atI_c0 | exact atI_c1 | exact atI_c2 | exact atI_c3 | exact atI_c4); (case kn => trivial)) | ((with_reducible refine' s_bmK ?hi ?_); (case hi => first | exact .da _ | exact .raw (by walk_at "ext"))) | ((with_reducible refine' s_bmK0 ?hi ?_); (case hi => first | exact .da _ | exact .raw (by walk_at "ext")))
  | ((with_reducible refine' s_app ?hr ?hz ?_); (case hr => walk_at "rep"); (case hz => walk_at "size")) | ((with_reducible refine' s_itK ?hw ?_); (case hw => walk_at "wk")) | with_reducible refine s_propD ?_ | ((with_reducible refine' s_propR ?hx ?_); (case hx => walk_at "ext"))
  | ((with_reducible refine' s_methD ?hn ?_); (case hn => (simp (config := { decide := true }) only [List.map, List.mem_cons, List.not_mem_nil, or_false, not_or, not_false_eq_true, and_self])))
  | ((with_reducible refine' s_methR ?hx ?hn ?_); (case hx => walk_at "ext"); (case hn => (simp (config := { decide := true }) only [List.map, List.mem_cons, List.not_mem_nil, or_false, not_or, not_false_eq_true, and_self])))
  | ((with_reducible refine' s_enTK ?hi ?_); (case hi => first | exact .da _ | exact .btup _ | exact .tup _)) | ((with_reducible refine' s_zipT ?hi ?hj ?_); (case hi => first | exact .da _ | exact .btup _ | exact .tup _); (case hj => first | exact .da _ | exact .btup _ | exact .tup _))
  | ((with_reducible refine' s_tupOfL ?hs ?_); (case hs => walk_at "see")) | ((with_reducible refine' s_tupNew ?hs ?_); (case hs => walk_at "see")) | ((with_reducible refine' s_slL ?hs ?_); (case hs => walk_at "see"))
  | ((with_reducible refine' s_notIn_bt ?h1 ?h2 ?_); (case h1 => walk_at "pl"); (case h2 => walk_at "pl")) | ((with_reducible refine' s_in_bt ?h1 ?h2 ?_); (case h1 => walk_at "pl"); (case h2 => walk_at "pl")) | ((with_reducible refine' s_notIn_t ?h1 ?h2 ?_); (case h1 => walk_at "pl"); (case h2 => walk_at "pl")) | ((with_reducible refine' s_in_t ?h1 ?h2 ?_); (case h1 => walk_at "pl"); (case h2 => walk_at "pl")) | ((with_reducible refine' s_notIn_l ?h1 ?h2 ?_); (case h1 => walk_at "pl"); (case h2 => walk_at "pl")) | ((with_reducible refine' s_in_l ?h1 ?h2 ?_); (case h1 => walk_at "pl"); (case h2 => walk_at "pl"))
  | ((with_reducible refine' s_nilEq ?hi ?_); (case hi => first | exact .lst _ | exact .raw (by walk_at "ext"))) | ((with_reducible refine' s_popE ?hr ?_); (case hr => walk_at "rep"))
  | with_reducible refine s_setL ?_ | with_reducible refine s_setL1 ?_ | with_reducible refine s_setL2 ?_ | ((with_reducible refine' s_addR ?h1 ?h2 ?hz ?_); (case h1 => walk_at "see"); (case h2 => walk_at "see"); (case hz => walk_at "size")) | with_reducible refine s_m1 ?_ | with_reducible refine s_m1K ?_ | with_reducible refine s_m1Q ?_ | with_reducible refine s_lcR ?_ | with_reducible refine s_tupIx ?_ | with_reducible refine s_lenOD ?_ | ((with_reducible refine' s_lenOR ?hx ?_); (case hx => walk_at "ext")) | with_reducible refine s_raise0 ?_ | with_reducible refine s_raise ?_ | with_reducible refine s_tup ?_ | with_reducible refine s_lst ?_ | with_reducible refine s_lstR ?_ | with_reducible refine s_cb ?_ | with_reducible refine s_sl ?_ | with_reducible refine s_noP ?_ | with_reducible refine s_part ?_ | with_reducible refine s_bm ?_ | with_reducible refine s_bm0 ?_ | with_reducible refine s_sfld ?_ | with_reducible refine s_par ?_)
local macro_rules | `(tactic| walk_at "side") => `(tactic| first | assumption | omega | trivial | (decide; done))
local macro_rules | `(tactic| walk_at "wit") => `(tactic| ((repeat apply Exists.intro); (refine' And.intro (rfl : @Eq (List Sl) _ _) ?_); (first | (refine' And.intro (rfl : @Eq (List (Rs _)) _ _) ?_) | (fail_if_success (refine' And.intro (?_ : @Eq (List (Rs _)) _ _) ?_))); (repeat refine' And.intro (by walk_at "side") ?_)))
local macro_rules | `(tactic| walk_at "ask") => `(tactic| first | ((with_reducible refine' s_ask0 ?kk); (case' kk => walk_at "wit")) | ((with_reducible refine' s_ask ?gg ?kk); (case' kk => walk_at "wit"); (case' gg => walk_at "gets")))
local macro_rules | `(tactic| walk_at "d") => `(tactic| repeat walk_at "d1")
local macro_rules | `(tactic| walk_at "in") => `(tactic| simp only [startD, List.length_cons, List.length_nil, Nat.zero_add, Nat.reduceAdd, Nat.reduceSub, List.replicate_succ, List.replicate_zero, List.cons_append, List.nil_append])
local macro_rules | `(tactic| walk_at "yes") => `(tactic| refine if_T (by first | rfl | exact decide_eq_true (by first | assumption | omega) | assumption) ?_)
local macro_rules | `(tactic| walk_at "no") => `(tactic| refine if_F (by first | rfl | exact decide_eq_false (by first | assumption | omega) | assumption) ?_)
local macro_rules | `(tactic| walk_at "nyes") => `(tactic| refine if_T (by first | rfl | (rw [decide_eq_false (by first | assumption | omega)]; rfl)) ?_)
local macro_rules | `(tactic| walk_at "nno") => `(tactic| refine if_F (by first | rfl | (rw [decide_eq_true (by first | assumption | omega)]; rfl)) ?_)
local macro_rules | `(tactic| walk_at "dec") => `(tactic| first | rfl | assumption | (simp (config := { failIfUnchanged := false }) only [*, decide_true, decide_false, decide_eq_true_eq, decide_eq_false_iff_not, Bool.not_true, Bool.not_false, Bool.and_true, Bool.and_false, Bool.true_and, Bool.false_and, Bool.or_true, Bool.or_false, Bool.true_or, Bool.false_or, not_false_eq_true, Bool.not_eq_true']; done))
local macro_rules | `(tactic| walk_at "di") => `(tactic| repeat first | walk_at "d1" | ((with_reducible refine' if_T ?hc ?_); (case hc => walk_at "dec")) | ((with_reducible refine' if_F ?hc ?_); (case hc => walk_at "dec")))
local macro_rules | `(tactic| walk_at "wipe") => `(tactic| simp only [List.map_cons, List.map_nil, wipeD, List.set_cons_zero, List.set_cons_succ])
section
variable {P : Program} {w : World} {K : PySem.W.Frag}
variable {mg : Str → Option Value} {base : Heap}
/-! ### farms as data -/
abbrev fieldD (f : Str × Int) : Da := .tup [.str f.1, .int f.2]
abbrev farmD (C : Addr) (fs : List (Str × Int)) : Da := .obj C [("rows", .tup (fs.map fieldD))]
def D_Farm_names (M : Md K mg) : SpD K := fun as rs xc q => ∃ fs, as = [.da (farmD M.a_Farm fs)] ∧ fs.length ≤ 6 ∧ q (.da (.btup (fs.map fun f => .str f.1))) rs
theorem ok_Farm_names (M : Md K mg) (G : Gp K M.a_Farm "names" "Farm.names" s_Farm_names)  : PropR P w K mg base M.a_Farm "names" 2 (spD (D_Farm_names M)) := by
  refine prop_mk G fun f fd F => fnr_mk (dfn_ok (k := 1) F sc_Farm_names (by intro as rs xc q; walk_at "ar") (fun cdv A outer s H E hr => by
    have nd := sc_Farm_names.nd
    exact (dss_one (ds_ret (d_cb1 (pe_tupNew K M.b (d_lc (E' := E0) (E2 := E0) (pe_lc (own := [("name", 1), ("limit", 2)]) (g := (gTup K 2 (gCons (gName 1) (gCons (gName 2) gNil)))) rfl nd (di_seq (d_fld (pe_fldK K (d_var (i := 0) (pv 0))))) (blkOk_by (N := N_Farm_names) (sc := defScope s_Farm_names) (by decide +kernel)) (fun _ _ _ _ _ => (pg_tupK K (n := 2) rfl (pgs_cons (pg_name (i := 1) nd rfl (by first | exact Or.inl rfl | exact Or.inr rfl)) (pgs_cons (pg_name (i := 2) nd rfl (by first | exact Or.inl rfl | exact Or.inr rfl)) pgs_nil)))) (fun _ _ _ _ _ => dts_nil) (fun _ _ _ _ _ => (d_var (i := 1) (pv 1)))) (tg_tup (tgs_cons (tg_name 1) (tgs_cons (tg_name 2) tgs_nil))) (by decide))) act_tupNew)))) ?_) (F.bindsN (fun _ _ _ _ _ _ us hl => match us, hl with | [_], _ => rfl))
  rintro as rs xc q ⟨fs, rfl, f6, k⟩
  have fn := M.f_Farm
  walk_at "in"
  walk_at "d"
  refine s_lcM fs (fun f => .da (fieldD f)) (fun f => .str f.1) (by rw [List.map_map]; rfl) (by omega) trivial (fun i c T hc ht => ?_) ?_
  · trace_state
    walk_at "wipe"
    walk_at "d"
    exact ht
  · walk_at "d"
    exact gv_id k
def D_Farm_limits (M : Md K mg) : SpD K := fun as rs xc q => ∃ fs, as = [.da (farmD M.a_Farm fs)] ∧ fs.length ≤ 6 ∧ q (.da (.tup (fs.map fun f => .int f.2))) rs
theorem ok_Farm_limits (M : Md K mg) (G : Gp K M.a_Farm "limits" "Farm.limits" s_Farm_limits)  : PropR P w K mg base M.a_Farm "limits" 2 (spD (D_Farm_limits M)) := by
  refine prop_mk G fun f fd F => fnr_mk (dfn_ok (k := 1) F sc_Farm_limits (by intro as rs xc q; walk_at "ar") (fun cdv A outer s H E hr => by
    have nd := sc_Farm_limits.nd
    exact (dss_one (ds_ret (d_cb1 (pe_tupOf K M.b (d_lc (E' := E0) (E2 := E0) (pe_lc (own := [("name", 1), ("limit", 2)]) (g := (gTup K 2 (gCons (gName 1) (gCons (gName 2) gNil)))) rfl nd (di_seq (d_fld (pe_fldK K (d_var (i := 0) (pv 0))))) (blkOk_by (N := N_Farm_limits) (sc := defScope s_Farm_limits) (by decide +kernel)) (fun _ _ _ _ _ => (pg_tupK K (n := 2) rfl (pgs_cons (pg_name (i := 1) nd rfl (by first | exact Or.inl rfl | exact Or.inr rfl)) (pgs_cons (pg_name (i := 2) nd rfl (by first | exact Or.inl rfl | exact Or.inr rfl)) pgs_nil)))) (fun _ _ _ _ _ => dts_nil) (fun _ _ _ _ _ => (d_var (i := 2) (pv 2)))) (tg_tup (tgs_cons (tg_name 1) (tgs_cons (tg_name 2) tgs_nil))) (by decide))) act_tupOf)))) ?_) (F.bindsN (fun _ _ _ _ _ _ us hl => match us, hl with | [_], _ => rfl))
  rintro as rs xc q ⟨fs, rfl, f6, k⟩
  have fn := M.f_Farm
  walk_at "in"
  walk_at "d"
  refine s_lcM fs (fun f => .da (fieldD f)) (fun f => .int f.2) (by rw [List.map_map]; rfl) (by omega) trivial (fun i c T hc ht => ?_) ?_
  · trace_state
    walk_at "wipe"
    walk_at "d"
    exact ht
  · walk_at "d"
    exact gv_id k
def D_Farm___len__ (M : Md K mg) : SpD K := fun as rs xc q => ∃ fs, as = [.da (farmD M.a_Farm fs)] ∧ q (.da (.int (fs.length : Nat))) rs
theorem ok_Farm___len__ (M : Md K mg) (G : Gm K M.a_Farm "__len__" "Farm.__len__" s_Farm___len__)  : MethR P w K mg base M.a_Farm "__len__" 2 (spD (D_Farm___len__ M)) := by
  refine meth_mk G fun f fd F => FnU.raw <| fnr_mk (dfn_ok (k := 1) F sc_Farm___len__ (by intro as rs xc q; walk_at "ar") (fun cdv A outer s H E hr => by
    have nd := sc_Farm___len__.nd
    exact (dss_one (ds_ret (d_cb1 (pe_len K M.b (d_fld (pe_fldK K (d_var (i := 0) (pv 0))))) act_len)))) ?_) (F.bindsN (fun _ _ _ _ _ _ us hl => match us, hl with | [_], _ => rfl))
  rintro as rs xc q ⟨fs, rfl, k⟩
  have fn := M.f_Farm
  walk_at "in"
  walk_at "d"
  exact gv_id (by simpa using k)
def D_require_field (M : Md K mg) : SpD K := fun as rs xc q => ∃ fs z, as = [.da (farmD M.a_Farm fs), .da (.str z)] ∧ fs.length ≤ 6 ∧ (z ∈ fs.map (·.1) → q (.da .non) rs) ∧ (z ∉ fs.map (·.1) → xc ⟨M.a_UnknownField, some [("name", .str z)]⟩ rs)
theorem anyD_str (z : Str) (zs : List Str) : anyD (.str z) (zs.map .str) = decide (z ∈ zs) := by
  unfold anyD
  rw [List.any_map]
  induction zs with
  | nil => rfl
  | cons y r ih =>
    rw [List.any_cons, ih]
    show (PyData.eqv (.str y) (.str z) || _) = _
    simp only [PyData.eqv]
    by_cases e : y = z
    · subst e; simp
    · have : z ≠ y := fun q => e q.symm
      simp [e, this]
theorem ok_require_field (M : Md K mg) (G : Gd K mg "require_field" s_require_field) (P_Farm_names : PropR P w K mg base M.a_Farm "names" 2 (spD (D_Farm_names M))) (R_UnknownField : ExcR P w K mg base "UnknownField" M.a_UnknownField 2 "name") : DefR P w K mg base "require_field" 4 (spD (D_require_field M)) := by
  refine def_mk G fun f fd F => fnr_mk (dfn_ok (k := 3) F sc_require_field (by intro as rs xc q; walk_at "ar") (fun cdv A outer s H E hr => by
    have nd := sc_require_field.nd
    exact (dss_one (ds_if (dt_cmp (op_notInK K hr) (pu2 pu_notIn) (d_var (i := 1) (pv 1)) (d_prop (pe_propR P_Farm_names (hr.mono (by first | decide | omega)) (d_var (i := 0) (pv 0))))) (dss_one (ds_raise1 (ps_raise rfl tk_def (pmk_kx R_UnknownField (hr.mono (by first | decide | omega)) (dk_cons (d_var (i := 1) (pv 1)) dk_nil))))) dss_nil))) ?_) (F.bindsN (fun _ _ _ _ _ _ us hl => match us, hl with | [_, _], _ => rfl))
  rintro as rs xc q ⟨fs, z, rfl, f6, k1, k2⟩
  walk_at "in"
  walk_at "d"
  refine s_ask0 ⟨fs, rfl, f6, ?_⟩
  walk_at "d"
  rw [show (fs.map fun f => Da.str f.1) = (fs.map (·.1)).map .str from (List.map_map ..).symm, anyD_str]
  walk_at "d"
  refine if_ND (fun h => ?_) (fun h => ?_)
  · walk_at "d"
    exact gx_id (k2 h)
  · walk_at "d"
    exact gv_id (k1 h)

end
section
variable {P : Program} {w : World} {K : PySem.W.Frag}
variable {mg : Str → Option Value} {base : Heap}
/-! ### moments -/
def D_validate_number (M : Md K mg) : SpD K := fun as rs xc q => ∃ n a b : Int, as = [.da (.int n), .da (.int a), .da (.int b)] ∧ (a ≤ n → n ≤ b → q (.da .non) rs) ∧ (¬ (a ≤ n ∧ n ≤ b) → xc ⟨M.a_InvalidNumber, none⟩ rs)
theorem ok_validate_number (M : Md K mg) (G : Gd K mg "validate_number" s_validate_number) (R_InvalidNumber : ExcT K mg "InvalidNumber" M.a_InvalidNumber) : DefR P w K mg base "validate_number" 2 (spD (D_validate_number M)) := by
  refine def_mk G fun f fd F => fnr_mk (dfn_ok (k := 1) F sc_validate_number (by intro as rs xc q; walk_at "ar") (fun cdv A outer s H E hr => by
    have nd := sc_validate_number.nd
    exact (dss_one (ds_if (dt_not (dt_chain op_le (pu2 (pu_I0 fun _ _ _ _ => .bl _)) op_le (pu2 (pu_I0 fun _ _ _ _ => .bl _)) (d_var (i := 1) (pv 1)) (d_var (i := 0) (pv 0)) (d_var (i := 2) (pv 2)))) (dss_one (ds_raise0 (ps_raise rfl tk_def (pmk_px R_InvalidNumber)))) dss_nil))) ?_) (F.bindsN (fun _ _ _ _ _ _ us hl => match us, hl with | [_, _, _], _ => rfl))
  rintro as rs xc q ⟨n, a, b, rfl, k1, k2⟩
  walk_at "in"
  walk_at "d"
  refine if_D (fun h1 => ?_) (fun h1 => ?_)
  · walk_at "d"
    refine if_ND (fun h2 => ?_) (fun h2 => ?_)
    · exact gx_id (k2 fun z => h2 z.2)
    · exact gv_id (k1 h1 h2)
  · walk_at "d"
    walk_at "nyes"
    exact gx_id (k2 fun z => h1 z.1)
def D_replaced (M : Md K mg) : SpD K := fun as rs xc q => ∃ (xs : List Da) (j : Nat) (x : Da), as = [.da (.tup xs), .da (.int j), .da x] ∧ j < xs.length ∧ xs.length ≤ 1000 ∧ q (.da (.tup (xs.set j x))) rs
theorem set_cut {α : Type} (xs : List α) (j : Nat) (x : α) (h : j < xs.length) : cutG xs none (some (j : Int)) ++ [x] ++ cutG xs (some ((j : Int) + 1)) none = xs.set j x := by
  rw [cutG_to, show ((j : Int) + 1) = ((j + 1 : Nat) : Int) from rfl, cutG_from, List.set_eq_take_append_cons_drop, if_pos h, List.append_assoc]
  rfl
theorem cutG_le {α : Type} (xs : List α) (lo hi : Option Int) : (cutG xs lo hi).length ≤ xs.length := by
  unfold cutG
  rw [List.length_take]; rw [List.length_drop]
  omega
theorem ok_replaced (M : Md K mg) (G : Gd K mg "replaced" s_replaced)  : DefR P w K mg base "replaced" 2 (spD (D_replaced M)) := by
  refine def_mk G fun f fd F => fnr_mk (dfn_ok (k := 1) F sc_replaced (by intro as rs xc q; walk_at "ar") (fun cdv A outer s H E hr => by
    have nd := sc_replaced.nd
    exact (dss_one (ds_ret (d_op (op_addK K) (pu2 pu_add) (d_op (op_addK K) (pu2 pu_add) (d_sl (pe_slice (sl_X K) (d_var (i := 0) (pv 0)) do_none (do_some (d_var (i := 1) (pv 1))))) (d_tup (da_cons (d_var (i := 2) (pv 2)) da_nil))) (d_sl (pe_slice (sl_X K) (d_var (i := 0) (pv 0)) (do_some (d_op (op_addK K) (pu2 pu_add) (d_var (i := 1) (pv 1)) (d_int pe_int))) do_none)))))) ?_) (F.bindsN (fun _ _ _ _ _ _ us hl => match us, hl with | [_, _, _], _ => rfl))
  rintro as rs xc q ⟨xs, j, x, rfl, h1, h2, k⟩
  have l1 := cutG_le xs none (some (j : Int))
  have l2 := cutG_le xs (some ((j : Int) + 1)) none
  walk_at "in"
  walk_at "d"
  rw [set_cut xs j x h1]
  exact gv_id k
/-- a field at a moment: name, limit, days left, whether harvested -/
structure Cell where
  nm : Str
  sp : Int
  lf : Int
  dn : Bool
def Cell.rot (c : Cell) : Bool := decide (c.lf = 1) && !c.dn
def Cell.next (c : Cell) : Cell := { c with lf := if c.rot || c.dn then c.sp else c.lf - 1, dn := false }
abbrev rotD (p : Int × Str) : Da := .tup [.int p.1, .str p.2]
def rots (d : Int) (cs : List Cell) : List (Int × Str) := (cs.filter Cell.rot).map fun c => (d, c.nm)
abbrev momD (C : Addr) (d : Int) (cs : List Cell) (gn : List (Int × Str)) : Da := .obj C [("day", .int d), ("spans", .tup (cs.map fun c => .int c.sp)), ("left", .tup (cs.map fun c => .int c.lf)), ("done", .tup (cs.map fun c => .bl c.dn)), ("gone", .tup (gn.map rotD))]
def D_Moment___init__ (M : Md K mg) : SpD K := fun as rs xc q => ∃ a x1 x2 x3 x4 x5, as = [.raw (.ref a), .da x1, .da x2, .da x3, .da x4, .da x5] ∧ rs = [objR a M.a_Moment []] ∧ q (.da .non) [objR a M.a_Moment [("day", .da x1), ("spans", .da x2), ("left", .da x3), ("done", .da x4), ("gone", .da x5)]]
theorem ok_Moment___init__ (M : Md K mg) (G : Gk K mg "Moment" M.a_Moment "Moment.__init__" s_Moment___init__)  : MakeR P w K mg base "Moment" M.a_Moment 2 (spD (D_Moment___init__ M)) := by
  refine make_mk G fun f fd F => FnU.raw <| fnr_mk (dfn_ok (k := 1) F sc_Moment___init__ (by intro as rs xc q; walk_at "ar") (fun cdv A outer s H E hr => by
    have nd := sc_Moment___init__.nd
    exact (dss_cons (ds_fld (ps_fldK K (d_var (i := 0) (pv 0)) (d_var (i := 1) (pv 1))))
    (dss_cons (ds_fld (ps_fldK K (d_var (i := 0) (pv 0)) (d_var (i := 2) (pv 2))))
    (dss_cons (ds_fld (ps_fldK K (d_var (i := 0) (pv 0)) (d_var (i := 3) (pv 3))))
    (dss_cons (ds_fld (ps_fldK K (d_var (i := 0) (pv 0)) (d_var (i := 4) (pv 4))))
    (dss_one (ds_fld (ps_fldK K (d_var (i := 0) (pv 0)) (d_var (i := 5) (pv 5)))))))))) ?_) (F.bindsN (fun _ _ _ _ _ _ us hl => match us, hl with | [_, _, _, _, _, _], _ => rfl))
  rintro as rs xc q ⟨a, x1, x2, x3, x4, x5, rfl, rfl, k⟩
  obtain ⟨_, _, _, _, _⟩ := M.f_Moment
  walk_at "in"
  walk_at "d"
  exact gv_id k
/-- Moment(..): data -/
def D_Moment (M : Md K mg) : SpD K := fun ys rs xc q => ∃ x1 x2 x3 x4 x5, ys = [.da x1, .da x2, .da x3, .da x4, .da x5] ∧ rs = [] ∧ q (.da (.obj M.a_Moment [("day", x1), ("spans", x2), ("left", x3), ("done", x4), ("gone", x5)])) []
theorem mk_Moment (M : Md K mg) : Mks M.a_Moment (D_Moment___init__ M) (D_Moment M) := by
  rintro ys rs xc q ⟨x1, x2, x3, x4, x5, rfl, rfl, k⟩ a
  refine ⟨a, x1, x2, x3, x4, x5, rfl, rfl, rfl, gv_via (GhV.frz (fr_obj (fs := [("day", x1), ("spans", x2), ("left", x3), ("done", x4), ("gone", x5)])) .here) (gv_id k)⟩
def D_Moment_later (M : Md K mg) : SpD K := fun as rs xc q => ∃ d cs gn, as = [.da (momD M.a_Moment d cs gn), .da (.btup (cs.map fun c => .str c.nm))] ∧ rs = [] ∧ 0 < cs.length ∧ cs.length ≤ 6 ∧ gn.length ≤ 1000000 ∧ q (.da (momD M.a_Moment (d + 1) (cs.map Cell.next) (gn ++ rots d cs))) []
theorem rots_len (d : Int) (cs : List Cell) : (rots d cs).length ≤ cs.length := by unfold rots; rw [List.length_map]; exact List.length_filter_le _ _
theorem rots_take {d : Int} {cs : List Cell} {i : Nat} {c : Cell} (h : cs[i]? = some c) : rots d (cs.take (i + 1)) = rots d (cs.take i) ++ (if c.rot then [(d, c.nm)] else []) := by
  unfold rots
  rw [List.take_succ, h, List.filter_append, List.map_append]
  by_cases q : c.rot = true <;> simp [q]
theorem ok_Moment_later (M : Md K mg) (G : Gm K M.a_Moment "later" "Moment.later" s_Moment_later) (K_Moment : MakeD P w K mg base "Moment" M.a_Moment 2 (D_Moment___init__ M) (D_Moment M)) : MethR P w K mg base M.a_Moment "later" 4 (spD (D_Moment_later M)) := by
  refine meth_mk G fun f fd F => FnU.raw <| fnr_mk (dfn_ok (k := 3) F sc_Moment_later (by intro as rs xc q; walk_at "ar") (fun cdv A outer s H E hr => by
    have nd := sc_Moment_later.nd
    exact (dss_cons (ds_par (ps_par (i := 2) (j := 3) rfl nd rfl rfl (by decide) rfl rfl (da_cons (d_lstR da_nil) (da_cons (d_cb1 (pe_listOf K M.b (d_fld (pe_fldK K (d_var (i := 0) (pv 0))))) act_listR) da_nil)) (by rfl)))
    (dss_cons (ds_for po_def rfl (di_enT (pi_enumTK K rfl M.b.enumerate (da_cons (d_var (i := 1) (pv 1)) da_nil))) (pg_tupK K (n := 2) rfl (pgs_cons (pg_name (i := 4) nd rfl (by first | exact Or.inl rfl | exact Or.inr rfl)) (pgs_cons (pg_name (i := 5) nd rfl (by first | exact Or.inl rfl | exact Or.inr rfl)) pgs_nil))) (tg_tup (tgs_cons (tg_name 4) (tgs_cons (tg_name 5) tgs_nil))) (dss_cons (ds_set (i := 6) nd rfl (by first | exact Or.inl rfl | exact Or.inr rfl) (d_and (d_cmp (op_eqK K hr) (pu2 pu_eq) (d_ix (d_fld (pe_fldK K (d_var (i := 0) (pv 0)))) (d_var (i := 4) (pv 4))) (d_int pe_int)) (pe_one (d_not (d_ix (d_fld (pe_fldK K (d_var (i := 0) (pv 0)))) (d_var (i := 4) (pv 4)))))))
    (dss_cons (ds_if (dt_val (d_var (i := 6) (pv 6))) (dss_one (ds_expr (d_bm (as_bm K (pe_bm PySem.F.plainAttrs_list PySem.F.slot_list_append PySem.F.type_list_append mt_append (d_var (i := 3) (pv 3)) (da_cons (d_tup (da_cons (d_fld (pe_fldK K (d_var (i := 0) (pv 0)))) (da_cons (d_var (i := 5) (pv 5)) da_nil))) da_nil))) act_app))) dss_nil)
    (dss_one (ds_expr (d_bm (as_bm K (pe_bm PySem.F.plainAttrs_list PySem.F.slot_list_append PySem.F.type_list_append mt_append (d_var (i := 2) (pv 2)) (da_cons (d_if (PW.pt (dw_or (dt_val (d_var (i := 6) (pv 6))) (dw_or1 (dt_val (d_ix (d_fld (pe_fldK K (d_var (i := 0) (pv 0)))) (d_var (i := 4) (pv 4))))))) (d_ix (d_fld (pe_fldK K (d_var (i := 0) (pv 0)))) (d_var (i := 4) (pv 4))) (d_op op_sub (pu2 (pu_I0 fun _ _ _ _ => .int _)) (d_ix (d_fld (pe_fldK K (d_var (i := 0) (pv 0)))) (d_var (i := 4) (pv 4))) (d_int pe_int))) da_nil))) act_app))))))
    (dss_one (ds_ret (d_make (pe_makeP K_Moment.mkr (hr.mono (by first | decide | omega)) pz_def (da_cons (d_op (op_addK K) (pu2 pu_add) (d_fld (pe_fldK K (d_var (i := 0) (pv 0)))) (d_int pe_int)) (da_cons (d_fld (pe_fldK K (d_var (i := 0) (pv 0)))) (da_cons (d_cb1 (pe_tupOf K M.b (d_var (i := 2) (pv 2))) act_tupOf) (da_cons (d_op (op_repBK K) (pu2 pu_repT) (d_tup (da_cons (d_bl pe_bl) da_nil)) (d_cb1 (pe_len K M.b (d_var (i := 1) (pv 1))) act_len)) (da_cons (d_cb1 (pe_tupOf K M.b (d_var (i := 3) (pv 3))) act_tupOf) da_nil)))))) K_Moment.it)))))) ?_) (F.bindsN (fun _ _ _ _ _ _ us hl => match us, hl with | [_, _], _ => rfl))
  rintro as rs xc q ⟨d, cs, gn, rfl, rfl, c0, c6, g6, k⟩
  obtain ⟨_, _, _, _, _⟩ := M.f_Moment
  walk_at "in"
  walk_at "d"
  refine s_mkR (by walk_at "size") fun L => ?_
  walk_at "d"
  refine s_listR (by walk_at "itm") fun Gn => ?_
  walk_at "d"
  refine s_forK (fun i sl rs => ∃ u4 u5 u6, sl = [.da (momD M.a_Moment d cs gn), .da (.btup (cs.map fun c => .str c.nm)), .raw (.ref L), .raw (.ref Gn), u4, u5, u6] ∧ rs = [lstR Gn (((gn ++ rots d (cs.take i)).map rotD).map .da), lstR L (((cs.take i).map fun c => .int c.next.lf).map .da)]) ?_ ?_ ?_ ?_
  · exact gs_id ⟨_, _, _, rfl, by simp [rots]⟩
  · exact fun _ _ _ _ => trivial
  · rintro i y sl rs hy ⟨u4, u5, u6, rfl, rfl⟩
    obtain ⟨c, hc, rfl⟩ := enumS_mm hy
    have lt : i < cs.length := (List.getElem?_eq_some_iff.mp hc).1
    have rl := rots_len d (cs.take i)
    have tl : (cs.take i).length = i := by rw [List.length_take]; omega
    have z1 : (gn ++ rots d (cs.take i)).length < sizeLine := by rw [sizeLine_eq, List.length_append]; omega
    cases hd : c.dn <;> by_cases h1 : c.lf = 1
    all_goals walk_at "di"
    all_goals exact gs_id ⟨_, _, _, rfl, by rw [rots_take hc, take_succ_map hc]; simp [Cell.rot, Cell.next, hd, h1]⟩
  · rintro sl rs ⟨u4, u5, u6, rfl, rfl⟩
    refine gs_id ?_
    rw [enumS_len, List.length_map, List.length_map, List.take_length]
    walk_at "d"
    refine s_repT (by simp; omega) (by simp; omega) ?_
    walk_at "d"
    refine s_ask0 ⟨_, _, _, _, _, rfl, rfl, ?_⟩
    refine gv_nil ?_
    have e1 : ((cs.map Cell.next).map fun c => Da.int c.sp) = cs.map fun c => .int c.sp := by rw [List.map_map]; rfl
    have e2 : ((cs.map Cell.next).map fun c => Da.int c.lf) = cs.map fun c => .int c.next.lf := by rw [List.map_map]; rfl
    have e3 : ((cs.map Cell.next).map fun c => Da.bl c.dn) = List.replicate (Int.toNat (((cs.map fun c => Da.str c.nm).map Sl.da).length : Int)) (.bl false) := by
      rw [List.map_map, Int.toNat_natCast, List.length_map, List.length_map]
      show (cs.map fun _ => Da.bl false) = _
      exact List.map_const'
    rw [momD, e1, e2, e3] at k
    exact k

end
section
variable {P : Program} {w : World} {K : PySem.W.Frag}
variable {mg : Str → Option Value} {base : Heap}
/-! ### a farm that is worked -/
inductive Op where
  | harvest (z : Str) | wait (n : Int) | change (z : Str) (l : Int)
abbrev opD : Op → Da
  | .harvest z => .tup [.str "harvest", .str z]
  | .wait n => .tup [.str "wait", .int n]
  | .change z l => .tup [.str "change_limit", .str z, .int l]
structure Mo where
  day : Int
  cs : List Cell
  gn : List (Int × Str)
abbrev moD (C : Addr) (m : Mo) : Da := momD C m.day m.cs m.gn
abbrev Ent := Op × Mo × Mo
abbrev entD (C : Addr) (e : Ent) : Da := .tup [opD e.1, moD C e.2.1, moD C e.2.2]
/-- the live farm at a: its lists at p, u -/
abbrev liveR (M : Md K mg) (a p u : Addr) (fs : List (Str × Int)) (m : Mo) (past und : List Ent) : List (Rs K) :=
  [objR a M.a_LiveFarm [("farm", .da (farmD M.a_Farm fs)), ("moment", .da (moD M.a_Moment m)), ("past", .raw (.ref p)), ("undone", .raw (.ref u))], lstR p ((past.map (entD M.a_Moment)).map .da), lstR u ((und.map (entD M.a_Moment)).map .da)]
def D_LiveFarm_enter (M : Md K mg) : SpD K := fun as rs xc q => ∃ a p u fs m past und o m', as = [.raw (.ref a), .da (opD o), .da (moD M.a_Moment m')] ∧ rs = liveR M a p u fs m past und ∧ past.length ≤ 1000 ∧ ∀ u', q (.da .non) (liveR M a p u' fs m' (past ++ [(o, m, m')]) [])
theorem ok_LiveFarm_enter (M : Md K mg) (G : Gm K M.a_LiveFarm "enter" "LiveFarm.enter" s_LiveFarm_enter)  : MethR P w K mg base M.a_LiveFarm "enter" 2 (spD (D_LiveFarm_enter M)) := by
  refine meth_mk G fun f fd F => FnU.raw <| fnr_mk (dfn_ok (k := 1) F sc_LiveFarm_enter (by intro as rs xc q; walk_at "ar") (fun cdv A outer s H E hr => by
    have nd := sc_LiveFarm_enter.nd
    exact (dss_cons (ds_expr (d_bm (as_bm K (pe_bm PySem.F.plainAttrs_list PySem.F.slot_list_append PySem.F.type_list_append mt_append (d_fld (pe_fldK K (d_var (i := 0) (pv 0)))) (da_cons (d_tup (da_cons (d_var (i := 1) (pv 1)) (da_cons (d_fld (pe_fldK K (d_var (i := 0) (pv 0)))) (da_cons (d_var (i := 2) (pv 2)) da_nil)))) da_nil))) act_app))
    (dss_cons (ds_fld (ps_fldK K (d_var (i := 0) (pv 0)) (d_lstR da_nil)))
    (dss_one (ds_fld (ps_fldK K (d_var (i := 0) (pv 0)) (d_var (i := 2) (pv 2)))))))) ?_) (F.bindsN (fun _ _ _ _ _ _ us hl => match us, hl with | [_, _, _], _ => rfl))
  rintro as rs xc q ⟨a, p, u, fs, m, past, und, o, m', rfl, rfl, few, k⟩
  obtain ⟨_, _, _, _⟩ := M.f_Live
  walk_at "in"
  walk_at "d"
  refine s_mkR (by walk_at "size") fun u' => ?_
  walk_at "d"
  rw [show (past.map (entD M.a_Moment)).map Sl.da ++ [Sl.da (.tup [opD o, moD M.a_Moment m, moD M.a_Moment m'])] = ((past ++ [(o, m, m')]).map (entD M.a_Moment)).map .da by simp]
  have k := k u'
  simp only [liveR, List.map_nil] at k
  exact gv_gets (by walk_at "gets") k
def D_LiveFarm_now (M : Md K mg) : SpD K := fun as rs xc q => ∃ a p u fs m past und, as = [.raw (.ref a)] ∧ rs = liveR M a p u fs m past und ∧ q (.da (.int m.day)) rs
theorem ok_LiveFarm_now (M : Md K mg) (G : Gp K M.a_LiveFarm "now" "LiveFarm.now" s_LiveFarm_now)  : PropR P w K mg base M.a_LiveFarm "now" 2 (spD (D_LiveFarm_now M)) := by
  refine prop_mk G fun f fd F => fnr_mk (dfn_ok (k := 1) F sc_LiveFarm_now (by intro as rs xc q; walk_at "ar") (fun cdv A outer s H E hr => by
    have nd := sc_LiveFarm_now.nd
    exact (dss_one (ds_ret (d_fld (pe_fldK K (d_fld (pe_fldK K (d_var (i := 0) (pv 0))))))))) ?_) (F.bindsN (fun _ _ _ _ _ _ us hl => match us, hl with | [_], _ => rfl))
  rintro as rs xc q ⟨a, p, u, fs, m, past, und, rfl, rfl, k⟩
  obtain ⟨_, _, _, _⟩ := M.f_Live
  obtain ⟨_, _, _, _, _⟩ := M.f_Moment
  walk_at "in"
  walk_at "d"
  exact gv_id k
def D_LiveFarm_rotten (M : Md K mg) : SpD K := fun as rs xc q => ∃ a p u fs m past und, as = [.raw (.ref a)] ∧ rs = liveR M a p u fs m past und ∧ ∀ l, q (.raw (.ref l)) (lstR l ((m.gn.map rotD).map .da) :: rs)
theorem ok_LiveFarm_rotten (M : Md K mg) (G : Gp K M.a_LiveFarm "rotten" "LiveFarm.rotten" s_LiveFarm_rotten)  : PropR P w K mg base M.a_LiveFarm "rotten" 2 (spD (D_LiveFarm_rotten M)) := by
  refine prop_mk G fun f fd F => fnr_mk (dfn_ok (k := 1) F sc_LiveFarm_rotten (by intro as rs xc q; walk_at "ar") (fun cdv A outer s H E hr => by
    have nd := sc_LiveFarm_rotten.nd
    exact (dss_one (ds_ret (d_cb1 (pe_listOf K M.b (d_fld (pe_fldK K (d_fld (pe_fldK K (d_var (i := 0) (pv 0))))))) act_listR)))) ?_) (F.bindsN (fun _ _ _ _ _ _ us hl => match us, hl with | [_], _ => rfl))
  rintro as rs xc q ⟨a, p, u, fs, m, past, und, rfl, rfl, k⟩
  obtain ⟨_, _, _, _⟩ := M.f_Live
  obtain ⟨_, _, _, _, _⟩ := M.f_Moment
  walk_at "in"
  walk_at "d"
  refine s_listR (by walk_at "itm") fun l => ?_
  exact gv_id (k l)
def D_LiveFarm_undo (M : Md K mg) : SpD K := fun as rs xc q => ∃ a p u fs m past und, as = [.raw (.ref a)] ∧ rs = liveR M a p u fs m past und ∧ und.length ≤ 1000 ∧ past.length ≤ 1000 ∧ (past = [] → q (.da (.bl false)) rs) ∧ (∀ pre e, past = pre ++ [e] → q (.da (.bl true)) (liveR M a p u fs e.2.1 pre (und ++ [e])))
theorem ok_LiveFarm_undo (M : Md K mg) (G : Gm K M.a_LiveFarm "undo" "LiveFarm.undo" s_LiveFarm_undo)  : MethU P w K mg base M.a_LiveFarm "undo" 2 (spD (D_LiveFarm_undo M)) := by
  refine methU_mk G fun f fd F =>  fnr_mk (dfn_ok (k := 1) F sc_LiveFarm_undo (by intro as rs xc q; walk_at "ar") (fun cdv A outer s H E hr => by
    have nd := sc_LiveFarm_undo.nd
    exact (dss_cons (ds_if (dt_cmp (op_eqNilK K hr) act_nil (d_fld (pe_fldK K (d_var (i := 0) (pv 0)))) (d_lst da_nil)) (dss_one (ds_ret (d_bl pe_bl))) dss_nil)
    (dss_cons (ds_set (i := 1) nd rfl (by first | exact Or.inl rfl | exact Or.inr rfl) (d_bm0 (as_bm0 K (pe_bm0 PySem.F.plainAttrs_list PySem.F.slot_list_pop PySem.F.type_list_pop mt_pop (d_fld (pe_fldK K (d_var (i := 0) (pv 0)))))) act_pop))
    (dss_cons (ds_expr (d_bm (as_bm K (pe_bm PySem.F.plainAttrs_list PySem.F.slot_list_append PySem.F.type_list_append mt_append (d_fld (pe_fldK K (d_var (i := 0) (pv 0)))) (da_cons (d_var (i := 1) (pv 1)) da_nil))) act_app))
    (dss_cons (ds_fld (ps_fldK K (d_var (i := 0) (pv 0)) (d_ix (d_var (i := 1) (pv 1)) (d_int pe_int)))) (dss_one (ds_ret (d_bl pe_bl)))))))) ?_) (F.bindsN (fun _ _ _ _ _ _ us hl => match us, hl with | [_], _ => rfl))
  rintro as rs xc q ⟨a, p, u, fs, m, past, und, rfl, rfl, few, few2, k1, k2⟩
  obtain ⟨_, _, _, _⟩ := M.f_Live
  walk_at "in"
  walk_at "d"
  rcases List.eq_nil_or_concat past with rfl | ⟨pre, e, rfl⟩
  · walk_at "di"
    exact gv_id (k1 rfl)
  · rw [List.concat_eq_append] at *
    simp only [liveR, List.map_append, List.map_cons, List.map_nil]
    refine if_F (by simp) ?_
    walk_at "d"
    have k2 := k2 pre e rfl
    simp only [liveR, List.map_append, List.map_cons, List.map_nil] at k2
    exact gv_gets (by walk_at "gets") k2
def D_LiveFarm_redo (M : Md K mg) : SpD K := fun as rs xc q => ∃ a p u fs m past und, as = [.raw (.ref a)] ∧ rs = liveR M a p u fs m past und ∧ und.length ≤ 1000 ∧ past.length ≤ 1000 ∧ (und = [] → q (.da (.bl false)) rs) ∧ (∀ pre e, und = pre ++ [e] → q (.da (.bl true)) (liveR M a p u fs e.2.2 (past ++ [e]) pre))
theorem ok_LiveFarm_redo (M : Md K mg) (G : Gm K M.a_LiveFarm "redo" "LiveFarm.redo" s_LiveFarm_redo)  : MethU P w K mg base M.a_LiveFarm "redo" 2 (spD (D_LiveFarm_redo M)) := by
  refine methU_mk G fun f fd F =>  fnr_mk (dfn_ok (k := 1) F sc_LiveFarm_redo (by intro as rs xc q; walk_at "ar") (fun cdv A outer s H E hr => by
    have nd := sc_LiveFarm_redo.nd
    exact (dss_cons (ds_if (dt_cmp (op_eqNilK K hr) act_nil (d_fld (pe_fldK K (d_var (i := 0) (pv 0)))) (d_lst da_nil)) (dss_one (ds_ret (d_bl pe_bl))) dss_nil)
    (dss_cons (ds_set (i := 1) nd rfl (by first | exact Or.inl rfl | exact Or.inr rfl) (d_bm0 (as_bm0 K (pe_bm0 PySem.F.plainAttrs_list PySem.F.slot_list_pop PySem.F.type_list_pop mt_pop (d_fld (pe_fldK K (d_var (i := 0) (pv 0)))))) act_pop))
    (dss_cons (ds_expr (d_bm (as_bm K (pe_bm PySem.F.plainAttrs_list PySem.F.slot_list_append PySem.F.type_list_append mt_append (d_fld (pe_fldK K (d_var (i := 0) (pv 0)))) (da_cons (d_var (i := 1) (pv 1)) da_nil))) act_app))
    (dss_cons (ds_fld (ps_fldK K (d_var (i := 0) (pv 0)) (d_ix (d_var (i := 1) (pv 1)) (d_int pe_int)))) (dss_one (ds_ret (d_bl pe_bl)))))))) ?_) (F.bindsN (fun _ _ _ _ _ _ us hl => match us, hl with | [_], _ => rfl))
  rintro as rs xc q ⟨a, p, u, fs, m, past, und, rfl, rfl, few, few2, k1, k2⟩
  obtain ⟨_, _, _, _⟩ := M.f_Live
  walk_at "in"
  walk_at "d"
  rcases List.eq_nil_or_concat und with rfl | ⟨pre, e, rfl⟩
  · walk_at "di"
    exact gv_id (k1 rfl)
  · rw [List.concat_eq_append] at *
    simp only [liveR, List.map_append, List.map_cons, List.map_nil]
    refine if_F (by simp) ?_
    walk_at "d"
    have k2 := k2 pre e rfl
    simp only [liveR, List.map_append, List.map_cons, List.map_nil] at k2
    exact gv_gets (by walk_at "gets") k2
def D_LiveFarm_history (M : Md K mg) : SpD K := fun as rs xc q => ∃ a p u fs m past und, as = [.raw (.ref a)] ∧ rs = liveR M a p u fs m past und ∧ past.length ≤ 1000 ∧ ∀ l, q (.raw (.ref l)) (lstR l ((past.map fun e => opD e.1).map .da) :: rs)
theorem ok_LiveFarm_history (M : Md K mg) (G : Gp K M.a_LiveFarm "history" "LiveFarm.history" s_LiveFarm_history)  : PropR P w K mg base M.a_LiveFarm "history" 2 (spD (D_LiveFarm_history M)) := by
  refine prop_mk G fun f fd F => fnr_mk (dfn_ok (k := 1) F sc_LiveFarm_history (by intro as rs xc q; walk_at "ar") (fun cdv A outer s H E hr => by
    have nd := sc_LiveFarm_history.nd
    exact (dss_one (ds_ret (d_lcR (E' := E0) (E2 := E0) (pe_lc (own := [("entry", 1)]) (g := (gName 1)) rfl nd (di_seq (d_fld (pe_fldK K (d_var (i := 0) (pv 0))))) (blkOk_by (N := N_LiveFarm_history) (sc := defScope s_LiveFarm_history) (by decide +kernel)) (fun _ _ _ _ _ => (pg_name (i := 1) nd rfl (by first | exact Or.inl rfl | exact Or.inr rfl))) (fun _ _ _ _ _ => dts_nil) (fun _ _ _ _ _ => (d_ix (d_var (i := 1) (pv 1)) (d_int pe_int)))) (tg_name 1) (by decide))))) ?_) (F.bindsN (fun _ _ _ _ _ _ us hl => match us, hl with | [_], _ => rfl))
  rintro as rs xc q ⟨a, p, u, fs, m, past, und, rfl, rfl, few, k⟩
  obtain ⟨_, _, _, _⟩ := M.f_Live
  walk_at "in"
  walk_at "d"
  refine s_lcM past (fun e => .da (entD M.a_Moment e)) (fun e => opD e.1) (by rw [List.map_map]; rfl) (by omega) ⟨_, by walk_at "ext"⟩ (fun i c T hc ht => ?_) ?_
  · walk_at "wipe"
    walk_at "d"
    exact ht
  · refine s_rawQ fun l => ?_
    exact gv_id (k l)

end
section
variable {P : Program} {w : World} {K : PySem.W.Frag}
variable {mg : Str → Option Value} {base : Heap}
/-- the first moment of a farm -/
def mo0 (fs : List (Str × Int)) : Mo := ⟨0, fs.map fun f => ⟨f.1, f.2, f.2, false⟩, []⟩
def D_LiveFarm___init__ (M : Md K mg) : SpD K := fun as rs xc q => ∃ a fs, as = [.raw (.ref a), .da (farmD M.a_Farm fs)] ∧ rs = [objR a M.a_LiveFarm []] ∧ 0 < fs.length ∧ fs.length ≤ 6 ∧ ∀ p u, q (.da .non) (liveR M a p u fs (mo0 fs) [] [])
theorem ok_LiveFarm___init__ (M : Md K mg) (G : Gk K mg "LiveFarm" M.a_LiveFarm "LiveFarm.__init__" s_LiveFarm___init__) (P_Farm_limits : PropR P w K mg base M.a_Farm "limits" 2 (spD (D_Farm_limits M))) (M_Farm___len__ : MethR P w K mg base M.a_Farm "__len__" 2 (spD (D_Farm___len__ M))) (K_Moment : MakeD P w K mg base "Moment" M.a_Moment 2 (D_Moment___init__ M) (D_Moment M)) : MakeR P w K mg base "LiveFarm" M.a_LiveFarm 4 (spD (D_LiveFarm___init__ M)) := by
  refine make_mk G fun f fd F => FnU.raw <| fnr_mk (dfn_ok (k := 3) F sc_LiveFarm___init__ (by intro as rs xc q; walk_at "ar") (fun cdv A outer s H E hr => by
    have nd := sc_LiveFarm___init__.nd
    exact (dss_cons (ds_fld (ps_fldK K (d_var (i := 0) (pv 0)) (d_var (i := 1) (pv 1))))
    (dss_cons (ds_fld (ps_fldK K (d_var (i := 0) (pv 0)) (d_make (pe_makeP K_Moment.mkr (hr.mono (by first | decide | omega)) pz_def (da_cons (d_int pe_int) (da_cons (d_prop (pe_propR P_Farm_limits (hr.mono (by first | decide | omega)) (d_var (i := 1) (pv 1)))) (da_cons (d_prop (pe_propR P_Farm_limits (hr.mono (by first | decide | omega)) (d_var (i := 1) (pv 1)))) (da_cons (d_op (op_repBK K) (pu2 pu_repT) (d_tup (da_cons (d_bl pe_bl) da_nil)) (d_cb (pe_callB (call_lenO M_Farm___len__ (hr.mono (by first | decide | omega))) rfl M.b.len bt_len (da_cons (d_var (i := 1) (pv 1)) da_nil)) act_lenO)) (da_cons (d_tup da_nil) da_nil)))))) K_Moment.it)))
    (dss_cons (ds_fld (ps_fldK K (d_var (i := 0) (pv 0)) (d_lstR da_nil)))
    (dss_one (ds_fld (ps_fldK K (d_var (i := 0) (pv 0)) (d_lstR da_nil)))))))) ?_) (F.bindsN (fun _ _ _ _ _ _ us hl => match us, hl with | [_, _], _ => rfl))
  rintro as rs xc q ⟨a, fs, rfl, rfl, f0, f6, k⟩
  obtain ⟨_, _, _, _⟩ := M.f_Live
  walk_at "in"
  walk_at "d"
  refine s_ask0 ⟨fs, rfl, f6, ?_⟩
  walk_at "d"
  refine s_ask0 ⟨fs, rfl, f6, ?_⟩
  walk_at "d"
  refine s_ask0 ⟨fs, rfl, s_lenQ (by omega) ?_⟩
  walk_at "d"
  refine s_repT (by omega) (by omega) ?_
  walk_at "d"
  refine s_ask0 ⟨_, _, _, _, _, rfl, rfl, ?_⟩
  walk_at "d"
  refine s_mkR (by walk_at "size") fun p => ?_
  walk_at "d"
  refine s_mkR (by walk_at "size") fun u => ?_
  walk_at "d"
  have k := k p u
  have e1 : ∀ {α : Type} (g : Str × Int → α), fs.map g = fs.map fun f => g f := fun _ => rfl
  simp only [liveR, moD, momD, mo0, List.map_map, List.map_nil, Function.comp_def, List.map_const'] at k
  exact gv_gets (by walk_at "gets") k
theorem first_at {z : Str} : ∀ {cs : List Cell}, z ∈ cs.map Cell.nm → ∃ (j : Nat) (c : Cell), cs[j]? = some c ∧ c.nm = z ∧ ∀ (i : Nat) (c' : Cell), i < j → cs[i]? = some c' → c'.nm ≠ z
  | [], h => (nomatch h)
  | c :: r, h => by
    by_cases e : c.nm = z
    · exact ⟨0, c, rfl, e, fun i _ h => absurd h (Nat.not_lt_zero i)⟩
    · obtain ⟨j, c1, h1, h2, h3⟩ := first_at (cs := r) ((List.mem_cons.mp h).resolve_left fun q => e q.symm)
      refine ⟨j + 1, c1, h1, h2, fun i c' lt hi => ?_⟩
      cases i with
      | zero => cases hi; exact e
      | succ i => exact h3 i c' (by omega) hi
theorem at_nm {cs : List Cell} {j : Nat} {c : Cell} (h : cs[j]? = some c) : (cs.map Cell.nm)[j]? = some c.nm := by rw [List.getElem?_map, h]; rfl
theorem at_nm_ne {cs : List Cell} {j : Nat} {z : Str} (h : ∀ i c', i < j → cs[i]? = some c' → c'.nm ≠ z) : ∀ m, m < j → (cs.map Cell.nm)[m]? ≠ some z := fun m lt e => by
  rw [List.getElem?_map] at e
  obtain ⟨c', h1, h2⟩ := Option.map_eq_some_iff.mp e
  exact h m c' lt h1 h2
theorem set_map {α β : Type} (f : α → β) (xs : List α) (j : Nat) (x : α) : (xs.map f).set j (f x) = (xs.set j x).map f := List.map_set.symm
theorem set_same {α β : Type} {f : α → β} {xs : List α} {j : Nat} {x y : α} (h : xs[j]? = some x) (e : f x = f y) : xs.map f = (xs.set j y).map f := by
  rw [List.map_set, ← e]
  refine (List.ext_getElem? fun i => ?_)
  rw [List.getElem?_set]
  by_cases q : j = i
  · subst q; rw [if_pos rfl, List.getElem?_map, h]; obtain ⟨lt, _⟩ := List.getElem?_eq_some_iff.mp h; rw [if_pos (by rw [List.length_map]; exact lt)]; rfl
  · rw [if_neg q]
theorem mo_done {C : Addr} {m : Mo} {j : Nat} {c : Cell} (hj : m.cs[j]? = some c) : moD C { m with cs := m.cs.set j { c with dn := true } } = .obj C [("day", .int m.day), ("spans", .tup (m.cs.map fun c => .int c.sp)), ("left", .tup (m.cs.map fun c => .int c.lf)), ("done", .tup ((m.cs.map fun c => Da.bl c.dn).set j (.bl true))), ("gone", .tup (m.gn.map rotD))] := by
  have e1 := set_same (f := fun c : Cell => Da.int c.sp) hj (y := { c with dn := true }) rfl
  have e2 := set_same (f := fun c : Cell => Da.int c.lf) hj (y := { c with dn := true }) rfl
  have e3 : (m.cs.map fun c => Da.bl c.dn).set j (.bl true) = _ := set_map (fun c : Cell => Da.bl c.dn) m.cs j { c with dn := true }
  rw [moD, momD, ← e1, ← e2, e3]
def D_LiveFarm_harvest (M : Md K mg) : SpD K := fun as rs xc q => ∃ a p u fs m past und z, as = [.raw (.ref a), .da (.str z)] ∧ rs = liveR M a p u fs m past und ∧ fs.length ≤ 6 ∧ past.length ≤ 1000 ∧ m.cs.map Cell.nm = fs.map Prod.fst ∧
  (z ∉ fs.map Prod.fst → xc ⟨M.a_UnknownField, some [("name", .str z)]⟩ rs) ∧ ∀ j c, m.cs[j]? = some c → c.nm = z → (∀ i c', i < j → m.cs[i]? = some c' → c'.nm ≠ z) → ∀ u', q (.da (.bl (!c.dn))) (liveR M a p u' fs { m with cs := m.cs.set j { c with dn := true } } (past ++ [(.harvest z, m, { m with cs := m.cs.set j { c with dn := true } })]) [])
theorem ok_LiveFarm_harvest (M : Md K mg) (G : Gm K M.a_LiveFarm "harvest" "LiveFarm.harvest" s_LiveFarm_harvest) (P_Farm_names : PropR P w K mg base M.a_Farm "names" 2 (spD (D_Farm_names M))) (R_require_field : DefR P w K mg base "require_field" 4 (spD (D_require_field M))) (R_replaced : DefR P w K mg base "replaced" 2 (spD (D_replaced M))) (M_LiveFarm_enter : MethR P w K mg base M.a_LiveFarm "enter" 2 (spD (D_LiveFarm_enter M))) (K_Moment : MakeD P w K mg base "Moment" M.a_Moment 2 (D_Moment___init__ M) (D_Moment M)) : MethR P w K mg base M.a_LiveFarm "harvest" 6 (spD (D_LiveFarm_harvest M)) := by
  refine meth_mk G fun f fd F => FnU.raw <| fnr_mk (dfn_ok (k := 5) F sc_LiveFarm_harvest (by intro as rs xc q; walk_at "ar") (fun cdv A outer s H E hr => by
    have nd := sc_LiveFarm_harvest.nd
    exact (dss_cons (ds_expr (d_call (pe_callR R_require_field (hr.mono (by first | decide | omega)) pz_def (da_cons (d_fld (pe_fldK K (d_var (i := 0) (pv 0)))) (da_cons (d_var (i := 1) (pv 1)) da_nil)))))
    (dss_cons (ds_par (ps_par (i := 2) (j := 3) rfl nd rfl rfl (by decide) rfl rfl (da_cons (d_tupIx (pe_tupIx K (d_prop (pe_propR P_Farm_names (hr.mono (by first | decide | omega)) (d_fld (pe_fldK K (d_var (i := 0) (pv 0)))))) (d_var (i := 1) (pv 1)))) (da_cons (d_fld (pe_fldK K (d_var (i := 0) (pv 0)))) da_nil)) (by rfl)))
    (dss_cons (ds_set (i := 4) nd rfl (by first | exact Or.inl rfl | exact Or.inr rfl) (d_call (pe_callR R_replaced (hr.mono (by first | decide | omega)) pz_def (da_cons (d_fld (pe_fldK K (d_var (i := 3) (pv 3)))) (da_cons (d_var (i := 2) (pv 2)) (da_cons (d_bl pe_bl) da_nil))))))
    (dss_cons (ds_expr (d_meth (pe_methR (d_var (i := 0) (pv 0)) M_LiveFarm_enter.cl M_LiveFarm_enter.at_ M_LiveFarm_enter.fn (hr.mono (by first | decide | omega)) pz_def (da_cons (d_tup (da_cons (d_str (pe_gs M.g_HARVEST)) (da_cons (d_var (i := 1) (pv 1)) da_nil))) (da_cons (d_make (pe_makeP K_Moment.mkr (hr.mono (by first | decide | omega)) pz_def (da_cons (d_fld (pe_fldK K (d_var (i := 3) (pv 3)))) (da_cons (d_fld (pe_fldK K (d_var (i := 3) (pv 3)))) (da_cons (d_fld (pe_fldK K (d_var (i := 3) (pv 3)))) (da_cons (d_var (i := 4) (pv 4)) (da_cons (d_fld (pe_fldK K (d_var (i := 3) (pv 3)))) da_nil)))))) K_Moment.it) da_nil)))))
    (dss_one (ds_ret (d_not (d_ix (d_fld (pe_fldK K (d_var (i := 3) (pv 3)))) (d_var (i := 2) (pv 2))))))))))) ?_) (F.bindsN (fun _ _ _ _ _ _ us hl => match us, hl with | [_, _], _ => rfl))
  rintro as rs xc q ⟨a, p, u, fs, m, past, und, z, rfl, rfl, f6, few, nms, k1, k2⟩
  obtain ⟨_, _, _, _⟩ := M.f_Live
  obtain ⟨_, _, _, _, _⟩ := M.f_Moment
  walk_at "in"
  walk_at "d"
  refine' s_ask ?g ⟨fs, z, rfl, f6, fun hz => ?_, fun hz => ?_⟩
  case g => walk_at "gets"
  · walk_at "d"
    refine s_ask0 ⟨fs, rfl, f6, ?_⟩
    refine s_tupIxK (fs.map Prod.fst) (by rw [List.map_map]; rfl) ?_
    walk_at "d"
    rw [← nms] at hz ⊢
    obtain ⟨j, c, hj, hn, hlt⟩ := first_at hz
    have lt : j < m.cs.length := (List.getElem?_eq_some_iff.mp hj).1
    have l6 : m.cs.length ≤ 6 := by have := congrArg List.length nms; simp only [List.length_map] at this; omega
    refine s_tupIxQ j (by rw [at_nm hj, hn]) (at_nm_ne hlt) ?_
    walk_at "d"
    refine s_ask0 ⟨m.cs.map fun c => .bl c.dn, j, .bl true, rfl, by rw [List.length_map]; exact lt, by rw [List.length_map]; omega, ?_⟩
    walk_at "d"
    refine s_ask0 ⟨_, _, _, _, _, rfl, rfl, ?_⟩
    walk_at "d"
    rw [← mo_done hj]
    refine' s_ask ?g ⟨a, p, u, fs, m, past, und, .harvest z, _, rfl, rfl, few, fun u' => ?_⟩
    case g => walk_at "gets"
    walk_at "d"
    exact gv_gets (by walk_at "gets") (k2 j c hj hn hlt u')
  · exact gx_id (k1 hz)
/-- the moment n days later -/
def Mo.later (m : Mo) : Mo := ⟨m.day + 1, m.cs.map Cell.next, m.gn ++ rots m.day m.cs⟩
def laterN : Nat → Mo → Mo
  | 0, m => m
  | n + 1, m => (laterN n m).later
theorem laterN_ok (m : Mo) : ∀ n, (laterN n m).cs.map Cell.nm = m.cs.map Cell.nm ∧ (laterN n m).gn.length ≤ m.gn.length + n * m.cs.length ∧ ∃ g, (laterN n m).gn = m.gn ++ g
  | 0 => ⟨rfl, by simp [laterN], [], by simp [laterN]⟩
  | n + 1 => by
    obtain ⟨h1, h2, g, h3⟩ := laterN_ok m n
    have l : (laterN n m).cs.length = m.cs.length := by have := congrArg List.length h1; simpa using this
    refine ⟨?_, ?_, g ++ rots (laterN n m).day (laterN n m).cs, ?_⟩
    · show ((laterN n m).cs.map Cell.next).map Cell.nm = _
      rw [List.map_map, ← h1]; rfl
    · show ((laterN n m).gn ++ rots (laterN n m).day (laterN n m).cs).length ≤ _
      have := rots_len (laterN n m).day (laterN n m).cs
      rw [List.length_append, Nat.add_mul]; omega
    · show (laterN n m).gn ++ rots (laterN n m).day (laterN n m).cs = _
      rw [h3, List.append_assoc]
def D_LiveFarm_wait (M : Md K mg) : SpD K := fun as rs xc q => ∃ a p u fs m past und n, as = [.raw (.ref a), .da (.int n)] ∧ rs = liveR M a p u fs m past und ∧ 0 < fs.length ∧ fs.length ≤ 6 ∧ past.length ≤ 1000 ∧ m.cs.map Cell.nm = fs.map Prod.fst ∧ m.gn.length ≤ 900000 ∧
  (¬ (0 ≤ n ∧ n ≤ 1000) → xc ⟨M.a_InvalidNumber, none⟩ rs) ∧ (0 ≤ n → n ≤ 1000 → ∀ u' l, q (.raw (.ref l)) (lstR l ((((laterN n.toNat m).gn.drop m.gn.length).map rotD).map .da) :: liveR M a p u' fs (laterN n.toNat m) (past ++ [(.wait n, m, laterN n.toNat m)]) []))
theorem ok_LiveFarm_wait (M : Md K mg) (G : Gm K M.a_LiveFarm "wait" "LiveFarm.wait" s_LiveFarm_wait) (P_Farm_names : PropR P w K mg base M.a_Farm "names" 2 (spD (D_Farm_names M))) (R_validate_number : DefR P w K mg base "validate_number" 2 (spD (D_validate_number M))) (M_Moment_later : MethR P w K mg base M.a_Moment "later" 4 (spD (D_Moment_later M))) (M_LiveFarm_enter : MethR P w K mg base M.a_LiveFarm "enter" 2 (spD (D_LiveFarm_enter M))) : MethR P w K mg base M.a_LiveFarm "wait" 6 (spD (D_LiveFarm_wait M)) := by
  refine meth_mk G fun f fd F => FnU.raw <| fnr_mk (dfn_ok (k := 5) F sc_LiveFarm_wait (by intro as rs xc q; walk_at "ar") (fun cdv A outer s H E hr => by
    have nd := sc_LiveFarm_wait.nd
    exact (dss_cons (ds_expr (d_call (pe_callR R_validate_number (hr.mono (by first | decide | omega)) pz_def (da_cons (d_var (i := 1) (pv 1)) (da_cons (d_int pe_int) (da_cons (d_int (pe_gi M.g_MAX_WAIT)) da_nil))))))
    (dss_cons (ds_set (i := 2) nd rfl (by first | exact Or.inl rfl | exact Or.inr rfl) (d_fld (pe_fldK K (d_var (i := 0) (pv 0)))))
    (dss_cons (ds_set (i := 3) nd rfl (by first | exact Or.inl rfl | exact Or.inr rfl) (d_cb1 (pe_len K M.b (d_fld (pe_fldK K (d_var (i := 2) (pv 2))))) act_len))
    (dss_cons (ds_for po_def rfl (di_rng1 (pi_range1 rfl M.b.range (da_cons (d_var (i := 1) (pv 1)) da_nil))) (pg_name (i := 4) nd rfl (by first | exact Or.inl rfl | exact Or.inr rfl)) (tg_name 4) (dss_one (ds_set (i := 2) nd rfl (by first | exact Or.inl rfl | exact Or.inr rfl) (d_meth (pe_methR (d_var (i := 2) (pv 2)) M_Moment_later.cl M_Moment_later.at_ M_Moment_later.fn (hr.mono (by first | decide | omega)) pz_def (da_cons (d_prop (pe_propR P_Farm_names (hr.mono (by first | decide | omega)) (d_fld (pe_fldK K (d_var (i := 0) (pv 0)))))) da_nil))))))
    (dss_cons (ds_expr (d_meth (pe_methR (d_var (i := 0) (pv 0)) M_LiveFarm_enter.cl M_LiveFarm_enter.at_ M_LiveFarm_enter.fn (hr.mono (by first | decide | omega)) pz_def (da_cons (d_tup (da_cons (d_str (pe_gs M.g_WAIT)) (da_cons (d_var (i := 1) (pv 1)) da_nil))) (da_cons (d_var (i := 2) (pv 2)) da_nil)))))
    (dss_one (ds_ret (d_cb1 (pe_listOf K M.b (d_sl (pe_slice (sl_X K) (d_fld (pe_fldK K (d_var (i := 2) (pv 2)))) (do_some (d_var (i := 3) (pv 3))) do_none))) act_listR))))))))) ?_) (F.bindsN (fun _ _ _ _ _ _ us hl => match us, hl with | [_, _], _ => rfl))
  rintro as rs xc q ⟨a, p, u, fs, m, past, und, n, rfl, rfl, f0, f6, few, nms, gfew, k1, k2⟩
  obtain ⟨_, _, _, _⟩ := M.f_Live
  obtain ⟨_, _, _, _, _⟩ := M.f_Moment
  have l6 : m.cs.length = fs.length := by have := congrArg List.length nms; simpa using this
  walk_at "in"
  walk_at "d"
  refine' s_ask ?g ⟨n, 0, 1000, rfl, fun n0 n1 => ?_, fun hn => ?_⟩
  case g => walk_at "gets"
  · walk_at "d"
    refine s_rng1K (by omega) ?_
    rw [List.length_map, List.length_map]
    refine s_forK (fun i sl rs => ∃ u4, sl = [.raw (.ref a), .da (.int n), .da (moD M.a_Moment (laterN i m)), .da (.int (m.gn.length : Nat)), u4] ∧ rs = liveR M a p u fs m past und) ?_ ?_ ?_ ?_
    · exact gs_id ⟨_, rfl, rfl⟩
    · exact fun _ _ _ _ => trivial
    · rintro i y sl rs hy ⟨u4, rfl, rfl⟩
      obtain ⟨lt, rfl⟩ := rngS_get hy
      obtain ⟨h1, h2, _⟩ := laterN_ok m i
      have h4 : i * m.cs.length ≤ 1000 * 6 := Nat.mul_le_mul (by omega) (by omega)
      walk_at "d"
      refine s_ask0 ⟨fs, rfl, f6, ?_⟩
      rw [show (fs.map fun f => Da.str f.1) = (laterN i m).cs.map fun c => .str c.nm by rw [show (fun f : Str × Int => Da.str f.1) = Da.str ∘ Prod.fst from rfl, ← List.map_map, ← nms, ← h1, List.map_map]; rfl]
      have l7 : (laterN i m).cs.length = m.cs.length := by have := congrArg List.length h1; simpa using this
      refine s_ask0 ⟨(laterN i m).day, (laterN i m).cs, (laterN i m).gn, rfl, rfl, by omega, by omega, by omega, ?_⟩
      walk_at "d"
      exact gs_id ⟨_, rfl, rfl⟩
    · rintro sl rs ⟨u4, rfl, rfl⟩
      refine gs_id ?_
      rw [rngS_len]
      walk_at "d"
      refine' s_ask ?g ⟨a, p, u, fs, m, past, und, .wait n, laterN n.toNat m, rfl, rfl, few, fun u' => ?_⟩
      case g => walk_at "gets"
      walk_at "d"
      rw [cutG_from, ← List.map_drop]
      refine s_listR (by walk_at "itm") fun l => ?_
      exact gv_gets (by walk_at "gets") (k2 n0 n1 u' l)
  · exact gx_id (k1 hn)
/-- a field's limit changed -/
abbrev Cell.lim (c : Cell) (l : Int) : Cell := { c with sp := l, lf := if l < c.lf then l else c.lf }
theorem mo_lim {C : Addr} {m : Mo} {j : Nat} {c : Cell} {l : Int} (hj : m.cs[j]? = some c) : moD C { m with cs := m.cs.set j (c.lim l) } = .obj C [("day", .int m.day), ("spans", .tup ((m.cs.map fun c => Da.int c.sp).set j (.int l))), ("left", .tup ((m.cs.map fun c => Da.int c.lf).set j (.int (if l < c.lf then l else c.lf)))), ("done", .tup (m.cs.map fun c => Da.bl c.dn)), ("gone", .tup (m.gn.map rotD))] := by
  have e1 := set_same (f := fun c : Cell => Da.bl c.dn) hj (y := c.lim l) rfl
  have e2 : (m.cs.map fun c => Da.int c.sp).set j (.int l) = _ := set_map (fun c : Cell => Da.int c.sp) m.cs j (c.lim l)
  have e3 : (m.cs.map fun c => Da.int c.lf).set j (.int (if l < c.lf then l else c.lf)) = _ := set_map (fun c : Cell => Da.int c.lf) m.cs j (c.lim l)
  rw [moD, momD, ← e1, e2, e3]
def D_LiveFarm_change_limit (M : Md K mg) : SpD K := fun as rs xc q => ∃ a p u fs m past und z l, as = [.raw (.ref a), .da (.str z), .da (.int l)] ∧ rs = liveR M a p u fs m past und ∧ fs.length ≤ 6 ∧ past.length ≤ 1000 ∧ m.cs.map Cell.nm = fs.map Prod.fst ∧
  (z ∉ fs.map Prod.fst → xc ⟨M.a_UnknownField, some [("name", .str z)]⟩ rs) ∧ (z ∈ fs.map Prod.fst → ¬ (1 ≤ l ∧ l ≤ 30) → xc ⟨M.a_InvalidNumber, none⟩ rs) ∧
  (1 ≤ l → l ≤ 30 → ∀ j c, m.cs[j]? = some c → c.nm = z → (∀ i c', i < j → m.cs[i]? = some c' → c'.nm ≠ z) → ∀ u', q (.da (.int c.sp)) (liveR M a p u' fs { m with cs := m.cs.set j (c.lim l) } (past ++ [(.change z l, m, { m with cs := m.cs.set j (c.lim l) })]) []))
theorem ok_LiveFarm_change_limit (M : Md K mg) (G : Gm K M.a_LiveFarm "change_limit" "LiveFarm.change_limit" s_LiveFarm_change_limit) (P_Farm_names : PropR P w K mg base M.a_Farm "names" 2 (spD (D_Farm_names M))) (R_require_field : DefR P w K mg base "require_field" 4 (spD (D_require_field M))) (R_validate_number : DefR P w K mg base "validate_number" 2 (spD (D_validate_number M))) (R_replaced : DefR P w K mg base "replaced" 2 (spD (D_replaced M))) (M_LiveFarm_enter : MethR P w K mg base M.a_LiveFarm "enter" 2 (spD (D_LiveFarm_enter M))) (K_Moment : MakeD P w K mg base "Moment" M.a_Moment 2 (D_Moment___init__ M) (D_Moment M)) : MethR P w K mg base M.a_LiveFarm "change_limit" 6 (spD (D_LiveFarm_change_limit M)) := by
  refine meth_mk G fun f fd F => FnU.raw <| fnr_mk (dfn_ok (k := 5) F sc_LiveFarm_change_limit (by intro as rs xc q; walk_at "ar") (fun cdv A outer s H E hr => by
    have nd := sc_LiveFarm_change_limit.nd
    exact (dss_cons (ds_expr (d_call (pe_callR R_require_field (hr.mono (by first | decide | omega)) pz_def (da_cons (d_fld (pe_fldK K (d_var (i := 0) (pv 0)))) (da_cons (d_var (i := 1) (pv 1)) da_nil)))))
    (dss_cons (ds_expr (d_call (pe_callR R_validate_number (hr.mono (by first | decide | omega)) pz_def (da_cons (d_var (i := 2) (pv 2)) (da_cons (d_int pe_int) (da_cons (d_int (pe_gi M.g_MAX_LIMIT)) da_nil))))))
    (dss_cons (ds_par (ps_par (i := 3) (j := 4) rfl nd rfl rfl (by decide) rfl rfl (da_cons (d_tupIx (pe_tupIx K (d_prop (pe_propR P_Farm_names (hr.mono (by first | decide | omega)) (d_fld (pe_fldK K (d_var (i := 0) (pv 0)))))) (d_var (i := 1) (pv 1)))) (da_cons (d_fld (pe_fldK K (d_var (i := 0) (pv 0)))) da_nil)) (by rfl)))
    (dss_cons (ds_set (i := 5) nd rfl (by first | exact Or.inl rfl | exact Or.inr rfl) (d_call (pe_callR R_replaced (hr.mono (by first | decide | omega)) pz_def (da_cons (d_fld (pe_fldK K (d_var (i := 4) (pv 4)))) (da_cons (d_var (i := 3) (pv 3)) (da_cons (d_var (i := 2) (pv 2)) da_nil))))))
    (dss_cons (ds_set (i := 6) nd rfl (by first | exact Or.inl rfl | exact Or.inr rfl) (d_call (pe_callR R_replaced (hr.mono (by first | decide | omega)) pz_def (da_cons (d_fld (pe_fldK K (d_var (i := 4) (pv 4)))) (da_cons (d_var (i := 3) (pv 3)) (da_cons (d_cb (pe_min2 M.b (da_cons (d_ix (d_fld (pe_fldK K (d_var (i := 4) (pv 4)))) (d_var (i := 3) (pv 3))) (da_cons (d_var (i := 2) (pv 2)) da_nil))) act_min2) da_nil))))))
    (dss_cons (ds_expr (d_meth (pe_methR (d_var (i := 0) (pv 0)) M_LiveFarm_enter.cl M_LiveFarm_enter.at_ M_LiveFarm_enter.fn (hr.mono (by first | decide | omega)) pz_def (da_cons (d_tup (da_cons (d_str (pe_gs M.g_CHANGE)) (da_cons (d_var (i := 1) (pv 1)) (da_cons (d_var (i := 2) (pv 2)) da_nil)))) (da_cons (d_make (pe_makeP K_Moment.mkr (hr.mono (by first | decide | omega)) pz_def (da_cons (d_fld (pe_fldK K (d_var (i := 4) (pv 4)))) (da_cons (d_var (i := 5) (pv 5)) (da_cons (d_var (i := 6) (pv 6)) (da_cons (d_fld (pe_fldK K (d_var (i := 4) (pv 4)))) (da_cons (d_fld (pe_fldK K (d_var (i := 4) (pv 4)))) da_nil)))))) K_Moment.it) da_nil)))))
    (dss_one (ds_ret (d_ix (d_fld (pe_fldK K (d_var (i := 4) (pv 4)))) (d_var (i := 3) (pv 3)))))))))))) ?_) (F.bindsN (fun _ _ _ _ _ _ us hl => match us, hl with | [_, _, _], _ => rfl))
  rintro as rs xc q ⟨a, p, u, fs, m, past, und, z, l, rfl, rfl, f6, few, nms, k1, k2, k3⟩
  obtain ⟨_, _, _, _⟩ := M.f_Live
  obtain ⟨_, _, _, _, _⟩ := M.f_Moment
  walk_at "in"
  walk_at "d"
  refine' s_ask ?g ⟨fs, z, rfl, f6, fun hz => ?_, fun hz => ?_⟩
  case g => walk_at "gets"
  · walk_at "d"
    refine' s_ask ?g2 ⟨l, 1, 30, rfl, fun l0 l1 => ?_, fun hl => ?_⟩
    case g2 => walk_at "gets"
    · walk_at "d"
      refine s_ask0 ⟨fs, rfl, f6, ?_⟩
      refine s_tupIxK (fs.map Prod.fst) (by rw [List.map_map]; rfl) ?_
      walk_at "d"
      rw [← nms] at hz ⊢
      obtain ⟨j, c, hj, hn, hlt⟩ := first_at hz
      have lt : j < m.cs.length := (List.getElem?_eq_some_iff.mp hj).1
      have l6 : m.cs.length ≤ 6 := by have := congrArg List.length nms; simp only [List.length_map] at this; omega
      refine s_tupIxQ j (by rw [at_nm hj, hn]) (at_nm_ne hlt) ?_
      walk_at "d"
      refine s_ask0 ⟨m.cs.map fun c => .int c.sp, j, .int l, rfl, by rw [List.length_map]; exact lt, by rw [List.length_map]; omega, ?_⟩
      walk_at "d"
      refine s_ask0 ⟨m.cs.map fun c => .int c.lf, j, .int (if l < c.lf then l else c.lf), rfl, by rw [List.length_map]; exact lt, by rw [List.length_map]; omega, ?_⟩
      walk_at "d"
      refine s_ask0 ⟨_, _, _, _, _, rfl, rfl, ?_⟩
      walk_at "d"
      rw [← mo_lim hj]
      refine' s_ask ?g3 ⟨a, p, u, fs, m, past, und, .change z l, _, rfl, rfl, few, fun u' => ?_⟩
      case g3 => walk_at "gets"
      walk_at "d"
      exact gv_gets (by walk_at "gets") (k3 l0 l1 j c hj hn hlt u')
    · exact gx_id (k2 hz hl)
  · exact gx_id (k1 hz)

end
section
variable {P : Program} {w : World} {K : PySem.W.Frag}
variable {mg : Str → Option Value} {base : Heap}
def D_LiveFarm_days_left (M : Md K mg) : SpD K := fun as rs xc q => ∃ a p u fs m past und, as = [.raw (.ref a)] ∧ rs = liveR M a p u fs m past und ∧ fs.length ≤ 6 ∧ (fs.map Prod.fst).Nodup ∧ m.cs.map Cell.nm = fs.map Prod.fst ∧ ∀ l, q (.raw (.ref l)) (dctR l (kvS (m.cs.map Cell.nm) (m.cs.map fun c => .int c.lf)) :: rs)
theorem ok_LiveFarm_days_left (M : Md K mg) (G : Gp K M.a_LiveFarm "days_left" "LiveFarm.days_left" s_LiveFarm_days_left) (P_Farm_names : PropR P w K mg base M.a_Farm "names" 2 (spD (D_Farm_names M))) : PropR P w K mg base M.a_LiveFarm "days_left" 4 (spD (D_LiveFarm_days_left M)) := by
  refine prop_mk G fun f fd F => fnr_mk (dfn_ok (k := 3) F sc_LiveFarm_days_left (by intro as rs xc q; walk_at "ar") (fun cdv A outer s H E hr => by
    have nd := sc_LiveFarm_days_left.nd
    exact (dss_one (ds_ret (d_dictZip (pe_dictZipT K M.b (da_cons (d_prop (pe_propR P_Farm_names (hr.mono (by first | decide | omega)) (d_fld (pe_fldK K (d_var (i := 0) (pv 0)))))) (da_cons (d_fld (pe_fldK K (d_fld (pe_fldK K (d_var (i := 0) (pv 0)))))) da_nil))))))) ?_) (F.bindsN (fun _ _ _ _ _ _ us hl => match us, hl with | [_], _ => rfl))
  rintro as rs xc q ⟨a, p, u, fs, m, past, und, rfl, rfl, f6, nd, nms, k⟩
  obtain ⟨_, _, _, _⟩ := M.f_Live
  obtain ⟨_, _, _, _, _⟩ := M.f_Moment
  walk_at "in"
  walk_at "d"
  walk_at "ask"
  walk_at "d"
  refine s_dictZipK (ks := m.cs.map Cell.nm) (xs := m.cs.map fun c => .int c.lf) (by rw [nms, show (fs.map Prod.fst).map Da.str = fs.map fun f => Da.str f.1 by rw [List.map_map]; rfl]; exact .btup _) (.da _) (by rw [nms]; exact nd) (by simp) fun l => ?_
  exact gv_id (k l)
def D_LiveFarm_limits_now (M : Md K mg) : SpD K := fun as rs xc q => ∃ a p u fs m past und, as = [.raw (.ref a)] ∧ rs = liveR M a p u fs m past und ∧ fs.length ≤ 6 ∧ (fs.map Prod.fst).Nodup ∧ m.cs.map Cell.nm = fs.map Prod.fst ∧ ∀ l, q (.raw (.ref l)) (dctR l (kvS (m.cs.map Cell.nm) (m.cs.map fun c => .int c.sp)) :: rs)
theorem ok_LiveFarm_limits_now (M : Md K mg) (G : Gp K M.a_LiveFarm "limits_now" "LiveFarm.limits_now" s_LiveFarm_limits_now) (P_Farm_names : PropR P w K mg base M.a_Farm "names" 2 (spD (D_Farm_names M))) : PropR P w K mg base M.a_LiveFarm "limits_now" 4 (spD (D_LiveFarm_limits_now M)) := by
  refine prop_mk G fun f fd F => fnr_mk (dfn_ok (k := 3) F sc_LiveFarm_limits_now (by intro as rs xc q; walk_at "ar") (fun cdv A outer s H E hr => by
    have nd := sc_LiveFarm_limits_now.nd
    exact (dss_one (ds_ret (d_dictZip (pe_dictZipT K M.b (da_cons (d_prop (pe_propR P_Farm_names (hr.mono (by first | decide | omega)) (d_fld (pe_fldK K (d_var (i := 0) (pv 0)))))) (da_cons (d_fld (pe_fldK K (d_fld (pe_fldK K (d_var (i := 0) (pv 0)))))) da_nil))))))) ?_) (F.bindsN (fun _ _ _ _ _ _ us hl => match us, hl with | [_], _ => rfl))
  rintro as rs xc q ⟨a, p, u, fs, m, past, und, rfl, rfl, f6, nd, nms, k⟩
  obtain ⟨_, _, _, _⟩ := M.f_Live
  obtain ⟨_, _, _, _, _⟩ := M.f_Moment
  walk_at "in"
  walk_at "d"
  walk_at "ask"
  walk_at "d"
  refine s_dictZipK (ks := m.cs.map Cell.nm) (xs := m.cs.map fun c => .int c.sp) (by rw [nms, show (fs.map Prod.fst).map Da.str = fs.map fun f => Da.str f.1 by rw [List.map_map]; rfl]; exact .btup _) (.da _) (by rw [nms]; exact nd) (by simp) fun l => ?_
  exact gv_id (k l)
/-- LiveFarm(farm): a thing that may change -/
def D_LiveFarm (M : Md K mg) : SpD K := fun ys rs xc q => ∃ fs, ys = [.da (farmD M.a_Farm fs)] ∧ rs = [] ∧ 0 < fs.length ∧ fs.length ≤ 6 ∧ ∀ a p u, q (.raw (.ref a)) (liveR M a p u fs (mo0 fs) [] [])
theorem mk_LiveFarm (M : Md K mg) : Mks M.a_LiveFarm (D_LiveFarm___init__ M) (D_LiveFarm M) := by
  rintro ys rs xc q ⟨fs, rfl, rfl, f0, f6, k⟩ a
  exact ⟨a, fs, rfl, rfl, f0, f6, fun p u => ⟨rfl, gv_id (k a p u)⟩⟩

end
section
variable {P : Program} {w : World} {K : PySem.W.Frag}
variable {mg : Str → Option Value} {base : Heap}
/-! ### draws -/
def DrOk (xs : List Int) : Prop := ∃ s c cs, xs = s :: c :: cs ∧ 0 ≤ s ∧ s < 2147483647 ∧ 0 ≤ c ∧ (∀ z ∈ cs, 10 ^ 18 ≤ z) ∧ cs.length ≤ 63
/-- the list of draws at d -/
abbrev drR (d : Addr) (xs : List Int) : Rs K := lstR d ((xs.map Da.int).map .da)
def D_law_random (M : Md K mg) : SpD K := fun as rs xc q => ∃ ns z, as = [.da (.scr ns), .da (.int z)] ∧ rs = [] ∧ ns.length ≤ 63 ∧ 0 ≤ z ∧ z < 2147483647 ∧ ∀ d xs, DrOk xs → q (.raw (.ref d)) [drR d xs]
theorem ok_law_random (M : Md K mg) (G : Gd K mg "_law_random" s_law_random)  : DefR P w K mg base "_law_random" 2 (spD (D_law_random M)) := by
  refine def_mk G fun f fd F => fnr_mk (dfn_ok (k := 1) F sc_law_random (by intro as rs xc q; walk_at "ar") (fun cdv A outer s H E hr => by
    have nd := sc_law_random.nd
    exact (dss_cons (ds_set (i := 2) nd rfl (by first | exact Or.inl rfl | exact Or.inr rfl) (d_var (i := 1) (pv 1)))
    (dss_cons (ds_for po_def rfl (di_seq (d_var (i := 0) (pv 0))) (pg_name (i := 3) nd rfl (by first | exact Or.inl rfl | exact Or.inr rfl)) (tg_name 3) (dss_one (ds_set (i := 2) nd rfl (by first | exact Or.inl rfl | exact Or.inr rfl) (d_op op_mod (pu2 (pu_I fun _ _ _ _ => .int _)) (d_op (op_addK K) (pu2 pu_add) (d_op op_mul (pu2 (pu_I fun _ _ _ _ => .int _)) (d_var (i := 2) (pv 2)) (d_int pe_int)) (d_cb1 (pe_abs M.b (d_var (i := 3) (pv 3))) act_abs)) (d_int pe_int)))))
    (dss_one (ds_ret (d_op (op_addK K) act_addR (d_lst (da_cons (d_var (i := 2) (pv 2)) (da_cons (d_int pe_int) da_nil))) (d_lc (E' := E0) (E2 := E0) (pe_lc (own := [("_law_cell", 3)]) (g := (gName 3)) rfl nd (di_seq (d_var (i := 0) (pv 0))) (blkOk_by (N := N_law_random) (sc := defScope s_law_random) (by decide +kernel)) (fun _ _ _ _ _ => (pg_name (i := 3) nd rfl (by first | exact Or.inl rfl | exact Or.inr rfl))) (fun _ _ _ _ _ => (dts_one (dt_cmp op_ge (pu2 (pu_I0 fun _ _ _ _ => .bl _)) (d_var (i := 3) (pv 3)) (d_op op_pow (pu2 (pu_I fun _ _ _ _ => .int _)) (d_int pe_int) (d_int pe_int))))) (fun _ _ _ _ _ => (d_var (i := 3) (pv 3)))) (tg_name 3) (by decide)))))))) ?_) (F.bindsN (fun _ _ _ _ _ _ us hl => match us, hl with | [_, _], _ => rfl))
  rintro as rs xc q ⟨ns, z, rfl, rfl, hl, z0, z1, k⟩
  walk_at "in"
  walk_at "d"
  refine s_forK (fun i sl rs => ∃ y c, sl = [.da (.scr ns), .da (.int z), .da (.int y), c] ∧ rs = [] ∧ 0 ≤ y ∧ y < 2147483647) ?_ ?_ ?_ ?_
  · exact gs_id ⟨_, _, rfl, rfl, z0, z1⟩
  · exact fun _ _ _ _ => trivial
  · rintro i x sl rs hx ⟨y, c, rfl, rfl, y0, y1⟩
    obtain ⟨u, hu, rfl⟩ := getm hx
    walk_at "d"
    exact gs_id ⟨_, _, rfl, rfl, Int.emod_nonneg _ (by decide), Int.emod_lt_of_pos _ (by decide)⟩
  · rintro sl rs ⟨y, c, rfl, rfl, y0, y1⟩
    refine gs_id ?_
    walk_at "d"
    refine s_lcP ns (fun u => .da (.int u)) (fun u => decide (10 ^ 18 ≤ u)) Da.int rfl (by omega) trivial (fun i c T N hc h1 h2 => ?_) ?_
    · walk_at "wipe"
      walk_at "d"
      refine if_D (fun e => ?_) (fun e => ?_)
      · walk_at "d"
        exact h1 (decide_eq_true e)
      · exact h2 (decide_eq_false e)
    · have fl := List.length_filter_le (fun u : Int => decide (10 ^ 18 ≤ u)) ns
      refine s_addR (.da _) (.da _) (by rw [sizeLine_eq, List.length_map]; simp only [List.length_cons, List.length_nil]; omega) fun d => ?_
      exact gv_id (k d (y :: 0 :: ns.filter fun u => decide (10 ^ 18 ≤ u)) ⟨y, 0, _, rfl, y0, y1, by decide, fun z hz => of_decide_eq_true (List.mem_filter.mp hz).2, by omega⟩)
def D_law_below (M : Md K mg) : SpD K := fun as rs xc q => ∃ d n xs, as = [.raw (.ref d), .da (.int n)] ∧ rs = [drR d xs] ∧ DrOk xs ∧ 0 < n ∧ n < 1073741824 ∧ ∀ r xs', 0 ≤ r → r < n → DrOk xs' → q (.da (.int r)) [drR d xs']
theorem ok_law_below (M : Md K mg) (G : Gd K mg "_law_below" s_law_below)  : DefR P w K mg base "_law_below" 2 (spD (D_law_below M)) := by
  refine def_mk G fun f fd F => fnr_mk (dfn_ok (k := 1) F sc_law_below (by intro as rs xc q; walk_at "ar") (fun cdv A outer s H E hr => by
    have nd := sc_law_below.nd
    exact (dss_cons (ds_if (PW.pt (dw_and (dt_cmp (op_eqK K hr) (pu2 pu_eq) (d_ix (d_var (i := 0) (pv 0)) (d_int pe_int)) (d_int pe_int)) (dw_and1 (dt_cmp op_gt (pu2 (pu_I0 fun _ _ _ _ => .bl _)) (d_cb1 (pe_len K M.b (d_var (i := 0) (pv 0))) act_len) (d_int pe_int))))) (dss_one (ds_setL (ps_asg (d_bm (as_bm K (pe_bm PySem.F.plainAttrs_list PySem.F.slot_list_pop PySem.F.type_list_pop mt_popAt (d_var (i := 0) (pv 0)) (da_cons (d_int pe_int) da_nil))) act_popAt) (pg_sub (d_var (i := 0) (pv 0)) (d_int pe_int) set_list)))) dss_nil)
    (dss_cons (ds_if (dt_cmp op_gt (pu2 (pu_I0 fun _ _ _ _ => .bl _)) (d_ix (d_var (i := 0) (pv 0)) (d_int pe_int)) (d_int pe_int)) (dss_cons (ds_set (i := 2) nd rfl (by first | exact Or.inl rfl | exact Or.inr rfl) (d_op op_mod (pu2 (pu_I fun _ _ _ _ => .int _)) (d_ix (d_var (i := 0) (pv 0)) (d_int pe_int)) (d_var (i := 1) (pv 1))))
    (dss_cons (ds_setL (ps_asg (d_op op_fdiv (pu2 (pu_I fun _ _ _ _ => .int _)) (d_ix (d_var (i := 0) (pv 0)) (d_int pe_int)) (d_var (i := 1) (pv 1))) (pg_sub (d_var (i := 0) (pv 0)) (d_int pe_int) set_list))) (dss_one (ds_ret (d_var (i := 2) (pv 2)))))) dss_nil)
    (dss_cons (ds_setL (ps_asg (d_op op_mod (pu2 (pu_I fun _ _ _ _ => .int _)) (d_op (op_addK K) (pu2 pu_add) (d_op op_mul (pu2 (pu_I fun _ _ _ _ => .int _)) (d_ix (d_var (i := 0) (pv 0)) (d_int pe_int)) (d_int pe_int)) (d_int pe_int)) (d_int pe_int)) (pg_sub (d_var (i := 0) (pv 0)) (d_int pe_int) set_list)))
    (dss_one (ds_ret (d_op op_mod (pu2 (pu_I fun _ _ _ _ => .int _)) (d_op op_fdiv (pu2 (pu_I fun _ _ _ _ => .int _)) (d_ix (d_var (i := 0) (pv 0)) (d_int pe_int)) (d_int pe_int)) (d_var (i := 1) (pv 1))))))))) ?_) (F.bindsN (fun _ _ _ _ _ _ us hl => match us, hl with | [_, _], _ => rfl))
  rintro as rs xc q ⟨d, n, xs, rfl, rfl, ⟨s0, c, cs, rfl, h1, h2, h3, h4, h5⟩, n0, n1, k⟩
  walk_at "in"
  walk_at "d"
  have two : ∀ {s c : Int} {cs : List Int}, ((List.map Sl.da (List.map Da.int (s :: c :: cs))).length : Int) = cs.length + 2 := by intro s c cs; simp; omega
  by_cases e : c = 0
  · subst e
    refine if_T rfl ?_
    walk_at "d"
    rw [two]
    cases cs with
    | nil =>
      refine if_F rfl ?_
      walk_at "d"
      refine if_F rfl ?_
      walk_at "d"
      refine s_setL3 (rs4 := [drR d ((s0 * 48271 + 11) % 2147483647 :: 0 :: [])]) 0 (ixN_i (by decide) (by rw [two]; omega)) .here ?_
      walk_at "d"
      exact gv_id (k _ _ (Int.emod_nonneg _ (by omega)) (Int.emod_lt_of_pos _ n0) ⟨_, 0, [], rfl, Int.emod_nonneg _ (by decide), Int.emod_lt_of_pos _ (by decide), by decide, h4, by decide⟩)
    | cons z cs =>
      have z0 := h4 z (by simp)
      have h4' : ∀ y ∈ cs, 10 ^ 18 ≤ y := fun y hy => h4 y (by simp [hy])
      refine if_T (decide_eq_true (by simp; omega)) ?_
      walk_at "d"
      refine s_popAt (rs' := [drR d (s0 :: 0 :: cs)]) (z := .da (.int z)) .here (by decide) rfl (by rw [sizeLine_eq]; simp at h5 ⊢; omega) ?_
      walk_at "d"
      refine s_setL3 (rs4 := [drR d (s0 :: z :: cs)]) 1 (ixN_i (by decide) (by rw [two]; omega)) .here ?_
      walk_at "d"
      refine if_T (decide_eq_true (by omega)) ?_
      walk_at "d"
      refine s_setL3 (rs4 := [drR d (s0 :: (z / n) :: cs)]) 1 (ixN_i (by decide) (by rw [two]; omega)) .here ?_
      walk_at "d"
      exact gv_id (k _ _ (Int.emod_nonneg _ (by omega)) (Int.emod_lt_of_pos _ n0) ⟨s0, z / n, cs, rfl, h1, h2, Int.ediv_nonneg (by omega) (by omega), h4', by first | omega | (simp at h5; omega)⟩)
  · refine if_F (decide_eq_false e) ?_
    walk_at "d"
    refine if_F (by first | rfl | simp) ?_
    walk_at "d"
    refine if_T (decide_eq_true (by omega)) ?_
    walk_at "d"
    refine s_setL3 (rs4 := [drR d (s0 :: (c / n) :: cs)]) 1 (ixN_i (by decide) (by rw [two]; omega)) .here ?_
    walk_at "d"
    exact gv_id (k _ _ (Int.emod_nonneg _ (by omega)) (Int.emod_lt_of_pos _ n0) ⟨s0, c / n, cs, rfl, h1, h2, Int.ediv_nonneg (by omega) (by omega), h4, by first | omega | (simp at h5; omega)⟩)
theorem perm_pop {α : Type} {pool : List α} {i : Nat} {x : α} (h : pool[i]? = some x) : List.Perm (x :: pool.eraseIdx i) pool := by
  induction pool generalizing i with
  | nil => simp at h
  | cons a r ih =>
    cases i with
    | zero =>
      have e : a = x := by simpa using h
      subst e
      simp
    | succ i =>
      have h' : r[i]? = some x := by simpa using h
      rw [List.eraseIdx_cons_succ]
      exact (List.Perm.swap a x _).trans ((ih h').cons a)
theorem map_eraseIdx {α β : Type} (f : α → β) : ∀ (l : List α) (i : Nat), (l.map f).eraseIdx i = (l.eraseIdx i).map f
  | [], _ => rfl
  | _ :: _, 0 => rfl
  | a :: l, i + 1 => by simp [map_eraseIdx f l i]
def D_law_shuffled (M : Md K mg) : SpD K := fun as rs xc q => ∃ d zs xs, as = [.raw (.ref d), .da (.lst (zs.map .str))] ∧ rs = [drR d xs] ∧ DrOk xs ∧ zs.length ≤ 100 ∧ ∀ ys xs', List.Perm ys zs → DrOk xs' → q (.da (.lst (ys.map .str))) [drR d xs']
theorem ok_law_shuffled (M : Md K mg) (G : Gd K mg "_law_shuffled" s_law_shuffled) (R_law_below : DefR P w K mg base "_law_below" 2 (spD (D_law_below M))) : DefR P w K mg base "_law_shuffled" 4 (spD (D_law_shuffled M)) := by
  refine def_mk G fun f fd F => fnr_mk (dfn_ok (k := 3) F sc_law_shuffled (by intro as rs xc q; walk_at "ar") (fun cdv A outer s H E hr => by
    have nd := sc_law_shuffled.nd
    exact (dss_cons (ds_set (i := 2) nd rfl (by first | exact Or.inl rfl | exact Or.inr rfl) (d_cb1 (pe_listOf K M.b (d_var (i := 1) (pv 1))) act_listR))
    (dss_cons (ds_set (i := 3) nd rfl (by first | exact Or.inl rfl | exact Or.inr rfl) (d_lstR da_nil))
    (dss_cons (ds_while po_def (dt_cmp (op_neNilK K hr) act_nil (d_var (i := 2) (pv 2)) (d_lst da_nil)) (dss_one (ds_expr (d_bm (as_bm K (pe_bm PySem.F.plainAttrs_list PySem.F.slot_list_append PySem.F.type_list_append mt_append (d_var (i := 3) (pv 3)) (da_cons (d_bm (as_bm K (pe_bm PySem.F.plainAttrs_list PySem.F.slot_list_pop PySem.F.type_list_pop mt_popAt (d_var (i := 2) (pv 2)) (da_cons (d_call (pe_callR R_law_below (hr.mono (by first | decide | omega)) pz_def (da_cons (d_var (i := 0) (pv 0)) (da_cons (d_cb1 (pe_len K M.b (d_var (i := 2) (pv 2))) act_len) da_nil)))) da_nil))) act_popAt) da_nil))) act_app)))) (dss_one (ds_ret (d_var (i := 3) (pv 3)))))))) ?_) (F.bindsN (fun _ _ _ _ _ _ us hl => match us, hl with | [_, _], _ => rfl))
  rintro as rs xc q ⟨d, zs, xs, rfl, rfl, ok, hl, k⟩
  walk_at "in"
  walk_at "d"
  refine s_listR (by walk_at "itm") fun p => ?_
  walk_at "d"
  refine s_mkR (by walk_at "size") fun r => ?_
  walk_at "d"
  refine s_while (fun m sl rs => ∃ (ps ys : List Str) (xs' : List Int), m = ps.length ∧ sl = [.raw (.ref d), .da (.lst (zs.map .str)), .raw (.ref p), .raw (.ref r)] ∧ rs = [lstR r ((ys.map Da.str).map .da), lstR p ((ps.map Da.str).map .da), drR d xs'] ∧ List.Perm (ys ++ ps) zs ∧ DrOk xs') zs.length (gs_id ⟨zs, [], xs, rfl, rfl, rfl, by simp, ok⟩) ?_
  rintro m sl rs ⟨ps, ys, xs', rfl, rfl, rfl, pm, ok'⟩
  have hl2 : ys.length + ps.length ≤ 100 := by have := pm.length_eq; simp at this; omega
  walk_at "d"
  cases ps with
  | nil =>
    refine s_whF rfl (gs_id ?_)
    walk_at "d"
    refine gv_via (GhV.frz (fr_lst (xs := ys.map Da.str)) .here) ?_
    exact gv_gets (by walk_at "gets") (k ys xs' (by simpa using pm) ok')
  | cons z ps =>
    refine s_whT rfl ?_
    walk_at "d"
    have pl : ((List.map Sl.da (List.map Da.str (z :: ps))).length : Int) = ps.length + 1 := by simp
    simp only [List.length_cons] at hl2
    refine' s_ask ?g ⟨d, _, xs', rfl, rfl, ok', by omega, by omega, fun i xs2 i0 i1 ok2 => ?_⟩
    case g => walk_at "gets"
    have hi : i.toNat < (z :: ps).length := by simp; omega
    have hx : (z :: ps)[i.toNat]? = some (z :: ps)[i.toNat] := List.getElem?_eq_getElem hi
    walk_at "d"
    refine' s_popAt (z := .da (.str (z :: ps)[i.toNat])) ?hr i0 (by rw [List.getElem?_map, List.getElem?_map, hx]; rfl) (by rw [sizeLine_eq]; simp; omega) ?_
    case hr => walk_at "rep"
    rw [map_eraseIdx, map_eraseIdx]
    have pm2 : List.Perm (ys ++ [(z :: ps)[i.toNat]] ++ (z :: ps).eraseIdx i.toNat) zs := by
      rw [List.append_assoc]
      exact ((perm_pop hx).append_left ys).trans pm
    generalize (z :: ps)[i.toNat] = x at *
    walk_at "d"
    exact gs_gets (rc := [lstR r (((ys ++ [x]).map Da.str).map .da), lstR p ((((z :: ps).eraseIdx i.toNat).map Da.str).map .da), drR d xs2]) (by simp only [List.map_append, List.map_cons (l := []), List.map_nil]; walk_at "gets") ⟨_, by rw [List.length_eraseIdx_of_lt hi]; simp, _, ys ++ [x], xs2, rfl, rfl, rfl, pm2, ok2⟩

end
section
variable {P : Program} {w : World} {K : PySem.W.Frag}
variable {mg : Str → Option Value} {base : Heap}
/-! ### plain mathematics of farms -/
def NmOk (z : Str) : Prop := 1 ≤ z.cps.toList.length ∧ z.cps.toList.length ≤ 8 ∧ ∀ c ∈ z.cps.toList, 97 ≤ c ∧ c ≤ 122
instance (z : Str) : Decidable (NmOk z) := by unfold NmOk; infer_instance
def prodL (l : List Int) : Int := l.foldl (· * ·) 1
theorem prodL_snoc (l : List Int) (x : Int) : prodL (l ++ [x]) = prodL l * x := by simp [prodL]
structure FOk (fs : List (Str × Int)) : Prop where
  one : 1 ≤ fs.length
  six : fs.length ≤ 6
  nd : (fs.map (·.1)).Nodup
  nm : ∀ f ∈ fs, NmOk f.1
  lo : ∀ f ∈ fs, 1 ≤ f.2 ∧ f.2 ≤ 30
  pr : prodL (fs.map (·.2)) ≤ 4000
theorem NmOk.str {z : Str} (h : NmOk z) : PyData.strOk z = true := by
  unfold PyData.strOk
  rw [← Array.all_toList]
  exact List.all_eq_true.mpr fun c hc => decide_eq_true (by have := (h.2.2 c hc).2; omega)
def six : List Str := ["a", "bo", "carl", "dora", "ella", "hannahhh"]
theorem six_nm : ∀ z ∈ six, NmOk z := by decide +kernel
theorem six_nd : six.Nodup := by decide +kernel
/-- the bytes of a farm -/
def lets (z : Str) : List Int := z.cps.toList.map fun (c : Nat) => ((c - 97 : Nat) : Int)
def encF (f : Str × Int) : List Int := [f.2, (f.1.cps.toList.length : Int)] ++ lets f.1
def bodyOf (fs : List (Str × Int)) : List Int := [72, (fs.length : Int)] ++ fs.flatMap encF
def cks (l : List Int) : Int := l.foldl (fun t v => (3 * t + v) % 233) 5
def bytesOf (fs : List (Str × Int)) : List Int := bodyOf fs ++ [cks (bodyOf fs)]
theorem cks_snoc (l : List Int) (x : Int) : cks (l ++ [x]) = (3 * cks l + x) % 233 := by simp [cks]
theorem cks_lo : ∀ l : List Int, 0 ≤ cks l ∧ cks l < 233 := fun l => by
  rcases List.eq_nil_or_concat l with rfl | ⟨r, x, rfl⟩
  · decide
  · rw [List.concat_eq_append, cks_snoc]; exact ⟨Int.emod_nonneg _ (by decide), Int.emod_lt_of_pos _ (by decide)⟩
def ALPH : Str := "abcdefghijklmnopqrstuvwxyz"
theorem alph_occ : ∀ k : Fin 26, Builtin.Str.occurrences ALPH ⟨#[97 + k.val]⟩ 0 ALPH.length 1 = [k.val] := by decide +kernel
theorem alph_ix {c : Nat} (h1 : 97 ≤ c) (h2 : c ≤ 122) : Builtin.Str.occurrences ALPH ⟨#[c]⟩ 0 ALPH.length 1 = [c - 97] := by
  have := alph_occ ⟨c - 97, by omega⟩
  simpa [show 97 + (c - 97) = c by omega] using this
theorem alph_mem {c : Nat} (h1 : 97 ≤ c) (h2 : c ≤ 122) : c ∈ ALPH.cps.toList := by
  have h : ∀ k : Fin 26, 97 + k.val ∈ ALPH.cps.toList := by decide +kernel
  have := h ⟨c - 97, by omega⟩
  simpa [show 97 + (c - 97) = c by omega] using this
theorem alph_at : ∀ k : Fin 26, ALPH.cps.toList[k.val]? = some (97 + k.val) := by decide +kernel
def D_law_fields (M : Md K mg) : SpD K := fun as rs xc q => ∃ d n xs, as = [.raw (.ref d), .da (.int n)] ∧ rs = [drR d xs] ∧ DrOk xs ∧ 1 ≤ n ∧ n ≤ 6 ∧ ∀ fs xs', FOk fs → fs.length ≤ n.toNat → DrOk xs' → q (.da (.lst (fs.map fieldD))) [drR d xs']
theorem ok_law_fields (M : Md K mg) (G : Gd K mg "_law_fields" s_law_fields) (R_law_below : DefR P w K mg base "_law_below" 2 (spD (D_law_below M))) (R_law_shuffled : DefR P w K mg base "_law_shuffled" 4 (spD (D_law_shuffled M))) : DefR P w K mg base "_law_fields" 6 (spD (D_law_fields M)) := by
  refine def_mk G fun f fd F => fnr_mk (dfn_ok (k := 5) F sc_law_fields (by intro as rs xc q; walk_at "ar") (fun cdv A outer s H E hr => by
    have nd := sc_law_fields.nd
    exact (dss_cons (ds_set (i := 2) nd rfl (by first | exact Or.inl rfl | exact Or.inr rfl) (d_call (pe_callR R_law_shuffled (hr.mono (by first | decide | omega)) pz_def (da_cons (d_var (i := 0) (pv 0)) (da_cons (d_lst (da_cons (d_str pe_str) (da_cons (d_str pe_str) (da_cons (d_str pe_str) (da_cons (d_str pe_str) (da_cons (d_str pe_str) (da_cons (d_str pe_str) da_nil))))))) da_nil)))))
    (dss_cons (ds_par3 (ps_par3 (i := 3) (j := 4) (l := 5) rfl nd rfl rfl rfl (by decide) (by decide) (by decide) rfl rfl rfl (da_cons (d_ix (d_lst (da_cons (d_int pe_int) (da_cons (d_int pe_int) (da_cons (d_int pe_int) da_nil)))) (d_call (pe_callR R_law_below (hr.mono (by first | decide | omega)) pz_def (da_cons (d_var (i := 0) (pv 0)) (da_cons (d_int pe_int) da_nil))))) (da_cons (d_lstR da_nil) (da_cons (d_int pe_int) da_nil))) (by rfl)))
    (dss_cons (ds_for po_def rfl (di_rng1 (pi_range1 rfl M.b.range (da_cons (d_op (op_addK K) (pu2 pu_add) (d_int pe_int) (d_call (pe_callR R_law_below (hr.mono (by first | decide | omega)) pz_def (da_cons (d_var (i := 0) (pv 0)) (da_cons (d_var (i := 1) (pv 1)) da_nil))))) da_nil))) (pg_name (i := 6) nd rfl (by first | exact Or.inl rfl | exact Or.inr rfl)) (tg_name 6) (dss_cons (ds_set (i := 7) nd rfl (by first | exact Or.inl rfl | exact Or.inr rfl) (d_op (op_addK K) (pu2 pu_add) (d_int pe_int) (d_call (pe_callR R_law_below (hr.mono (by first | decide | omega)) pz_def (da_cons (d_var (i := 0) (pv 0)) (da_cons (d_cb1 (pe_min1 K M.b (d_lst (da_cons (d_var (i := 3) (pv 3)) (da_cons (d_op op_fdiv (pu2 (pu_I fun _ _ _ _ => .int _)) (d_int pe_int) (d_var (i := 5) (pv 5))) da_nil)))) act_minL) da_nil))))))
    (dss_cons (ds_expr (d_bm (as_bm K (pe_bm PySem.F.plainAttrs_list PySem.F.slot_list_append PySem.F.type_list_append mt_append (d_var (i := 4) (pv 4)) (da_cons (d_tup (da_cons (d_ix (d_var (i := 2) (pv 2)) (d_var (i := 6) (pv 6))) (da_cons (d_var (i := 7) (pv 7)) da_nil))) da_nil))) act_app))
    (dss_one (ds_set (i := 5) nd rfl (by first | exact Or.inl rfl | exact Or.inr rfl) (d_op op_mul (pu2 (pu_I fun _ _ _ _ => .int _)) (d_var (i := 5) (pv 5)) (d_var (i := 7) (pv 7)))))))) (dss_one (ds_ret (d_var (i := 4) (pv 4)))))))) ?_) (F.bindsN (fun _ _ _ _ _ _ us hl => match us, hl with | [_, _], _ => rfl))
  rintro as rs xc q ⟨d, n, xs, rfl, rfl, ok, n1, n6, k⟩
  walk_at "in"
  walk_at "d"
  refine' s_ask ?g ⟨d, six, xs, rfl, rfl, ok, by decide, fun ys xs1 pm ok1 => ?_⟩
  case g => walk_at "gets"
  have yl : ys.length = 6 := pm.length_eq
  walk_at "d"
  refine' s_ask ?g2 ⟨d, 3, xs1, rfl, rfl, ok1, by decide, by decide, fun r xs2 r0 r1 ok2 => ?_⟩
  case g2 => walk_at "gets"
  have hr012 : r = 0 ∨ r = 1 ∨ r = 2 := by omega
  generalize ht : (if r = 0 then 3 else if r = 1 then 6 else 30 : Int) = top
  have t1 : 1 ≤ top ∧ top ≤ 30 := by rcases hr012 with rfl | rfl | rfl <;> subst ht <;> decide
  refine s_ix (w := .da (.int top)) (.lst _) (by subst ht; rcases hr012 with rfl | rfl | rfl <;> rfl) trivial ?_
  walk_at "d"
  refine s_mkR (by walk_at "size") fun fo => ?_
  walk_at "d"
  refine' s_ask ?g3 ⟨d, n, xs2, rfl, rfl, ok2, by omega, by omega, fun m xs3 m0 m1 ok3 => ?_⟩
  case g3 => walk_at "gets"
  walk_at "d"
  refine s_rng1K (by omega) ?_
  refine s_forK (fun i sl rs => ∃ (fs : List (Str × Int)) (xs' : List Int) (u v : Sl), sl = [.raw (.ref d), .da (.int n), .da (.lst (ys.map .str)), .da (.int top), .raw (.ref fo), .da (.int (prodL (fs.map (·.2)))), u, v] ∧ rs = [drR d xs', lstR fo ((fs.map fieldD).map .da)] ∧ DrOk xs' ∧ fs.length = i ∧ fs.map (·.1) = ys.take i ∧ (∀ f ∈ fs, 1 ≤ f.2 ∧ f.2 ≤ 30) ∧ 1 ≤ prodL (fs.map (·.2)) ∧ prodL (fs.map (·.2)) ≤ 4000) ?_ ?_ ?_ ?_
  · exact gs_id ⟨[], xs3, _, _, rfl, rfl, ok3, rfl, rfl, (fun f hf => by cases hf), by decide, by decide⟩
  · exact fun _ _ _ _ => trivial
  · rintro i y sl rs hy ⟨fs, xs', u, v, rfl, rfl, ok', hl, hnames, hlim, p1, p2⟩
    obtain ⟨lt, rfl⟩ := rngS_get hy
    have hi6 : i < 6 := by omega
    generalize hst : prodL (fs.map (·.2)) = st at *
    have q1 : 1 ≤ 4000 / st := (Int.le_ediv_iff_mul_le (by omega)).mpr (by omega)
    have hyi : ys[i]? = some ys[i] := List.getElem?_eq_getElem (by omega)
    walk_at "d"
    refine ⟨_, [top, 4000 / st], rfl, .da _, by simp, fun mn mm mle => ?_⟩
    have mt : mn ≤ top := mle _ (by simp)
    have ms : mn ≤ 4000 / st := mle _ (by simp)
    have mn1 : 1 ≤ mn := by
      have : mn = top ∨ mn = 4000 / st := by simpa using mm
      rcases this with rfl | rfl
      · exact t1.1
      · exact q1
    walk_at "d"
    refine' s_ask ?g4 ⟨d, mn, xs', rfl, rfl, ok', by omega, by omega, fun l xs4 l0 l1 ok4 => ?_⟩
    case g4 => walk_at "gets"
    have hlim2 : st * (1 + l) ≤ 4000 := by
      have h1 : 1 + l ≤ 4000 / st := by omega
      have h2 := (Int.le_ediv_iff_mul_le (by omega : (0:Int) < st)).mp h1
      rw [Int.mul_comm]; exact h2
    have hpos : 1 ≤ st * (1 + l) := by
      have : 1 * 1 ≤ st * (1 + l) := Int.mul_le_mul p1 (by omega) (by decide) (by omega)
      omega
    rw [Int.zero_add]
    walk_at "d"
    refine gs_gets (rc := [drR d xs4, lstR fo (((fs ++ [(ys[i], 1 + l)]).map fieldD).map .da)]) (by simp only [List.map_append, List.map_cons (l := []), List.map_nil]; walk_at "gets") ⟨fs ++ [(ys[i], 1 + l)], xs4, .da (.int (i : Nat)), .da (.int (1 + l)), by rw [List.map_append, List.map_cons, List.map_nil, prodL_snoc, hst], rfl, ok4, by simp [hl], ?_, ?_, ?_, ?_⟩
    · rw [List.map_append, hnames, List.take_add_one, hyi]
      rfl
    · intro f hf
      rcases List.mem_append.mp hf with h | h
      · exact hlim f h
      · have : f = (ys[i], 1 + l) := by simpa using h
        subst this
        exact ⟨by simp; omega, by simp; omega⟩
    · simpa [prodL_snoc, hst] using hpos
    · simpa [prodL_snoc, hst] using hlim2
  · rintro sl rs ⟨fs, xs', u, v, rfl, rfl, ok', hl, hnames, hlim, p1, p2⟩
    refine gs_id ?_
    walk_at "d"
    refine gv_via (GhV.frz (fr_lst (xs := fs.map fieldD)) (.there .here)) ?_
    rw [rngS_len] at hl hnames
    refine gv_gets (by walk_at "gets") (k fs xs' ⟨by omega, by omega, ?_, ?_, hlim, p2⟩ (by omega) ok')
    · rw [hnames]
      exact (pm.nodup_iff.mpr six_nd).sublist (List.take_sublist _ _)
    · intro f hf
      have : f.1 ∈ fs.map (·.1) := List.mem_map.mpr ⟨f, hf, rfl⟩
      rw [hnames] at this
      exact six_nm _ (pm.subset (List.mem_of_mem_take this))

end
section
variable {P : Program} {w : World} {K : PySem.W.Frag}
variable {mg : Str → Option Value} {base : Heap}
def D_law_bytes (M : Md K mg) : SpD K := fun as rs xc q => ∃ fs, as = [.da (.lst (fs.map fieldD))] ∧ rs = [] ∧ FOk fs ∧ q (.da (.lst ((bytesOf fs).map .int))) []
theorem flat_take {α β : Type} (f : α → List β) {l : List α} {i : Nat} {x : α} (h : l[i]? = some x) : (l.take (i + 1)).flatMap f = (l.take i).flatMap f ++ f x := by
  rw [List.take_add_one, h]; simp
theorem encF_len (f : Str × Int) (h : NmOk f.1) : (encF f).length ≤ 10 := by
  have := h.2.1
  simp only [encF, lets, List.length_append, List.length_map, List.length_cons, List.length_nil]
  omega
theorem flat_len {fs : List (Str × Int)} (h : ∀ f ∈ fs, NmOk f.1) : (fs.flatMap encF).length ≤ 10 * fs.length := by
  induction fs with
  | nil => simp
  | cons f r ih =>
    have h1 := encF_len f (h f (by simp))
    have h2 := ih fun g hg => h g (by simp [hg])
    simp only [List.flatMap_cons, List.length_append, List.length_cons]
    omega
theorem body_len {fs : List (Str × Int)} (h : FOk fs) : (bodyOf fs).length ≤ 62 := by
  have h1 := flat_len h.nm
  have h2 := h.six
  simp only [bodyOf, List.length_append, List.length_cons, List.length_nil]
  omega
theorem ok_law_bytes (M : Md K mg) (G : Gd K mg "_law_bytes" s_law_bytes)  : DefR P w K mg base "_law_bytes" 2 (spD (D_law_bytes M)) := by
  refine def_mk G fun f fd F => fnr_mk (dfn_ok (k := 1) F sc_law_bytes (by intro as rs xc q; walk_at "ar") (fun cdv A outer s H E hr => by
    have nd := sc_law_bytes.nd
    exact (dss_cons (ds_par (ps_par (i := 1) (j := 2) rfl nd rfl rfl (by decide) rfl rfl (da_cons (d_lst (da_cons (d_int pe_int) (da_cons (d_cb1 (pe_len K M.b (d_var (i := 0) (pv 0))) act_len) da_nil))) (da_cons (d_int pe_int) da_nil)) (by rfl)))
    (dss_cons (ds_for po_def rfl (di_seq (d_var (i := 0) (pv 0))) (pg_tupK K (n := 2) rfl (pgs_cons (pg_name (i := 3) nd rfl (by first | exact Or.inl rfl | exact Or.inr rfl)) (pgs_cons (pg_name (i := 4) nd rfl (by first | exact Or.inl rfl | exact Or.inr rfl)) pgs_nil))) (tg_tup (tgs_cons (tg_name 3) (tgs_cons (tg_name 4) tgs_nil))) (dss_one (ds_set (i := 1) nd rfl (by first | exact Or.inl rfl | exact Or.inr rfl) (d_op (op_addK K) (pu2 pu_add) (d_op (op_addK K) (pu2 pu_add) (d_var (i := 1) (pv 1)) (d_lst (da_cons (d_var (i := 4) (pv 4)) (da_cons (d_cb1 (pe_len K M.b (d_var (i := 3) (pv 3))) act_len) da_nil)))) (d_lc (E' := E0) (E2 := E0) (pe_lc (own := [("_law_letter", 5)]) (g := (gName 5)) rfl nd (di_seq (d_var (i := 3) (pv 3))) (blkOk_by (N := N_law_bytes) (sc := defScope s_law_bytes) (by decide +kernel)) (fun _ _ _ _ _ => (pg_name (i := 5) nd rfl (by first | exact Or.inl rfl | exact Or.inr rfl))) (fun _ _ _ _ _ => dts_nil) (fun _ _ _ _ _ => (d_m1 (pe_m1 PySem.F.slot_str_index PySem.F.type_str_index mt_sindex (d_str pe_str) (d_var (i := 5) (pv 5))) act_sindex))) (tg_name 5) (by decide))))))
    (dss_cons (ds_for po_def rfl (di_seq (d_var (i := 1) (pv 1))) (pg_name (i := 6) nd rfl (by first | exact Or.inl rfl | exact Or.inr rfl)) (tg_name 6) (dss_one (ds_set (i := 2) nd rfl (by first | exact Or.inl rfl | exact Or.inr rfl) (d_op op_mod (pu2 (pu_I fun _ _ _ _ => .int _)) (d_op (op_addK K) (pu2 pu_add) (d_op op_mul (pu2 (pu_I fun _ _ _ _ => .int _)) (d_int pe_int) (d_var (i := 2) (pv 2))) (d_var (i := 6) (pv 6))) (d_int pe_int)))))
    (dss_one (ds_ret (d_op (op_addK K) (pu2 pu_add) (d_var (i := 1) (pv 1)) (d_lst (da_cons (d_var (i := 2) (pv 2)) da_nil))))))))) ?_) (F.bindsN (fun _ _ _ _ _ _ us hl => match us, hl with | [_], _ => rfl))
  rintro as rs xc q ⟨fs, rfl, rfl, ok, k⟩
  walk_at "in"
  walk_at "d"
  refine s_forK (fun i sl rs => ∃ u1 u2, sl = [.da (.lst (fs.map fieldD)), .da (.lst (([72, (fs.length : Int)] ++ (fs.take i).flatMap encF).map .int)), .da (.int 5), u1, u2, .no, .no] ∧ rs = []) ?_ ?_ ?_ ?_
  · exact gs_id ⟨.no, .no, by simp, rfl⟩
  · exact fun _ _ _ _ => trivial
  · rintro i y sl rs hy ⟨u1, u2, rfl, rfl⟩
    obtain ⟨fi, hfi, rfl⟩ := mm_get hy
    have fm : fi ∈ fs := List.mem_of_getElem? hfi
    have nl := (ok.nm fi fm).2.1
    have tl : ((fs.take i).flatMap encF).length ≤ 60 := by
      have h1 := flat_len (fs := fs.take i) fun g hg => ok.nm g (List.mem_of_mem_take hg)
      have h2 := ok.six
      have h3 : (fs.take i).length ≤ fs.length := by simp; omega
      omega
    walk_at "d"
    refine s_lenS (by show fi.1.cps.size ≤ sizeLine; rw [← Array.length_toList]; simp only [sizeLine_eq]; omega) ?_
    walk_at "d"
    refine ⟨by simp [sizeLine_eq] at tl ⊢; omega, ?_⟩
    walk_at "d"
    refine s_lcM fi.1.cps.toList (fun c => .da (.str ⟨#[c]⟩)) (fun c => .int ((c - 97 : Nat) : Int)) rfl (by omega) trivial (fun j c T hc ht => ?_) ?_
    · have cb := (ok.nm fi fm).2.2 c (List.mem_of_getElem? hc)
      walk_at "wipe"
      walk_at "d"
      exact s_sindex (alph_ix cb.1 cb.2) ht
    · walk_at "d"
      refine ⟨by simp [sizeLine_eq] at tl nl ⊢; omega, ?_⟩
      walk_at "d"
      refine gs_id ⟨.da (.str fi.1), .da (.int fi.2), ?_, rfl⟩
      rw [flat_take encF hfi]
      simp [encF, lets, Str.length, Function.comp_def]
  · rintro sl rs ⟨u1, u2, rfl, rfl⟩
    refine gs_id ?_
    rw [List.length_map, List.length_map, List.take_length]
    walk_at "d"
    refine s_forK (fun i sl rs => ∃ u, sl = [.da (.lst (fs.map fieldD)), .da (.lst ((bodyOf fs).map .int)), .da (.int (cks ((bodyOf fs).take i))), u1, u2, .no, u] ∧ rs = []) ?_ ?_ ?_ ?_
    · exact gs_id ⟨_, rfl, rfl⟩
    · exact fun _ _ _ _ => trivial
    · rintro i y sl rs hy ⟨u, rfl, rfl⟩
      obtain ⟨z, hz, rfl⟩ := mm_get (cs := bodyOf fs) hy
      walk_at "d"
      have e2 : (bodyOf fs).take (i + 1) = (bodyOf fs).take i ++ [z] := by rw [List.take_add_one, hz]; rfl
      exact gs_id ⟨_, by rw [e2, cks_snoc], rfl⟩
    · rintro sl rs ⟨u, rfl, rfl⟩
      refine gs_id ?_
      rw [show (List.map Sl.da (List.map Da.int ([72, (fs.length : Int)] ++ List.flatMap encF fs))).length = (bodyOf fs).length by simp [bodyOf], List.take_length]
      have bl := body_len ok
      walk_at "d"
      exact gv_id (by simpa [bytesOf] using k)
def D_checksum (M : Md K mg) : SpD K := fun as rs xc q => ∃ ns, as = [.da (.lst (ns.map .int))] ∧ rs = [] ∧ q (.da (.int (cks ns))) []
theorem ok_checksum (M : Md K mg) (G : Gd K mg "checksum" s_checksum)  : DefR P w K mg base "checksum" 2 (spD (D_checksum M)) := by
  refine def_mk G fun f fd F => fnr_mk (dfn_ok (k := 1) F sc_checksum (by intro as rs xc q; walk_at "ar") (fun cdv A outer s H E hr => by
    have nd := sc_checksum.nd
    exact (dss_cons (ds_set (i := 1) nd rfl (by first | exact Or.inl rfl | exact Or.inr rfl) (d_int pe_int))
    (dss_cons (ds_for po_def rfl (di_seq (d_var (i := 0) (pv 0))) (pg_name (i := 2) nd rfl (by first | exact Or.inl rfl | exact Or.inr rfl)) (tg_name 2) (dss_one (ds_set (i := 1) nd rfl (by first | exact Or.inl rfl | exact Or.inr rfl) (d_op op_mod (pu2 (pu_I fun _ _ _ _ => .int _)) (d_op (op_addK K) (pu2 pu_add) (d_op op_mul (pu2 (pu_I fun _ _ _ _ => .int _)) (d_var (i := 1) (pv 1)) (d_int pe_int)) (d_var (i := 2) (pv 2))) (d_int (pe_gi M.g_MODULUS)))))) (dss_one (ds_ret (d_var (i := 1) (pv 1))))))) ?_) (F.bindsN (fun _ _ _ _ _ _ us hl => match us, hl with | [_], _ => rfl))
  rintro as rs xc q ⟨ns, rfl, rfl, k⟩
  walk_at "in"
  walk_at "d"
  refine s_forK (fun i sl rs => ∃ u, sl = [.da (.lst (ns.map .int)), .da (.int (cks (ns.take i))), u] ∧ rs = []) ?_ ?_ ?_ ?_
  · exact gs_id ⟨_, rfl, rfl⟩
  · exact fun _ _ _ _ => trivial
  · rintro i y sl rs hy ⟨u, rfl, rfl⟩
    obtain ⟨z, hz, rfl⟩ := mm_get hy
    walk_at "d"
    have e2 : ns.take (i + 1) = ns.take i ++ [z] := by rw [List.take_add_one, hz]; rfl
    exact gs_id ⟨_, by rw [e2, cks_snoc, Int.mul_comm], rfl⟩
  · rintro sl rs ⟨u, rfl, rfl⟩
    refine gs_id ?_
    rw [List.length_map, List.length_map, List.take_length]
    walk_at "d"
    exact gv_id k

end
section
variable {P : Program} {w : World} {K : PySem.W.Frag}
variable {mg : Str → Option Value} {base : Heap}
/-! ### the decoder -/
abbrev decR (M : Md K mg) (a : Addr) (ns : List Int) (i : Nat) : Rs K := objR a M.a_Decoder [("data", .da (.lst (ns.map .int))), ("place", .da (.int (i : Nat)))]
def D_Decoder___init__ (M : Md K mg) : SpD K := fun as rs xc q => ∃ a ns, as = [.raw (.ref a), .da (.lst (ns.map .int))] ∧ rs = [objR a M.a_Decoder []] ∧ q (.da .non) [decR M a ns 0]
theorem ok_Decoder___init__ (M : Md K mg) (G : Gk K mg "Decoder" M.a_Decoder "Decoder.__init__" s_Decoder___init__)  : MakeR P w K mg base "Decoder" M.a_Decoder 2 (spD (D_Decoder___init__ M)) := by
  refine make_mk G fun f fd F => FnU.raw <| fnr_mk (dfn_ok (k := 1) F sc_Decoder___init__ (by intro as rs xc q; walk_at "ar") (fun cdv A outer s H E hr => by
    have nd := sc_Decoder___init__.nd
    exact (dss_cons (ds_fld (ps_fldK K (d_var (i := 0) (pv 0)) (d_var (i := 1) (pv 1))))
    (dss_one (ds_fld (ps_fldK K (d_var (i := 0) (pv 0)) (d_int pe_int)))))) ?_) (F.bindsN (fun _ _ _ _ _ _ us hl => match us, hl with | [_, _], _ => rfl))
  rintro as rs xc q ⟨a, ns, rfl, rfl, k⟩
  obtain ⟨_, _⟩ := M.f_Decoder
  walk_at "in"
  walk_at "d"
  exact gv_id k
def D_Decoder (M : Md K mg) : SpD K := fun ys rs xc q => ∃ ns, ys = [.da (.lst (ns.map .int))] ∧ rs = [] ∧ ∀ a, q (.raw (.ref a)) [decR M a ns 0]
theorem mk_Decoder (M : Md K mg) : Mks M.a_Decoder (D_Decoder___init__ M) (D_Decoder M) := by
  rintro ys rs xc q ⟨ns, rfl, rfl, k⟩ a
  exact ⟨a, ns, rfl, rfl, rfl, gv_id (k a)⟩
def D_Decoder_take (M : Md K mg) : SpD K := fun as rs xc q => ∃ a lo hi ns i z, as = [.raw (.ref a), .da (.int lo), .da (.int hi)] ∧ rs = [decR M a ns i] ∧ ns[i]? = some z ∧ lo ≤ z ∧ z ≤ hi ∧ q (.da (.int z)) [decR M a ns (i + 1)]
theorem ok_Decoder_take (M : Md K mg) (G : Gm K M.a_Decoder "take" "Decoder.take" s_Decoder_take)  : MethR P w K mg base M.a_Decoder "take" 2 (spD (D_Decoder_take M)) := by
  refine meth_mk G fun f fd F => FnU.raw <| fnr_mk (dfn_ok (k := 1) F sc_Decoder_take (by intro as rs xc q; walk_at "ar") (fun cdv A outer s H E hr => by
    have nd := sc_Decoder_take.nd
    exact (dss_cons (ds_if (PW.pt (dw_or (dt_cmp (op_eqK K hr) (pu2 pu_eq) (d_fld (pe_fldK K (d_var (i := 0) (pv 0)))) (d_cb1 (pe_len K M.b (d_fld (pe_fldK K (d_var (i := 0) (pv 0))))) act_len)) (dw_or1 (dt_not (dt_chain op_le (pu2 (pu_I0 fun _ _ _ _ => .bl _)) op_le (pu2 (pu_I0 fun _ _ _ _ => .bl _)) (d_var (i := 1) (pv 1)) (d_ix (d_fld (pe_fldK K (d_var (i := 0) (pv 0)))) (d_fld (pe_fldK K (d_var (i := 0) (pv 0))))) (d_var (i := 2) (pv 2))))))) (dss_one ds_never) dss_nil)
    (dss_cons (ds_fldaug (fun _ _ _ _ h => ⟨_, _, rfl, rfl, h⟩) (ps_fldaugK K (d_var (i := 0) (pv 0)) (d_int pe_int) in_add))
    (dss_one (ds_ret (d_ix (d_fld (pe_fldK K (d_var (i := 0) (pv 0)))) (d_op op_sub (pu2 (pu_I0 fun _ _ _ _ => .int _)) (d_fld (pe_fldK K (d_var (i := 0) (pv 0)))) (d_int pe_int)))))))) ?_) (F.bindsN (fun _ _ _ _ _ _ us hl => match us, hl with | [_, _, _], _ => rfl))
  rintro as rs xc q ⟨a, lo, hi, ns, i, z, rfl, rfl, hz, h1, h2, k⟩
  obtain ⟨_, _⟩ := M.f_Decoder
  have hil : i < ns.length := (List.getElem?_eq_some_iff.mp hz).1
  walk_at "in"
  walk_at "d"
  refine if_F (decide_eq_false (by simp; omega)) ?_
  walk_at "d"
  refine if_T (decide_eq_true h1) ?_
  walk_at "d"
  refine if_F (by rw [decide_eq_true h2]; rfl) ?_
  walk_at "d"
  refine' s_faugK (fs := [("data", .da (.lst (ns.map .int))), ("place", .da (.int (i : Nat)))]) ?he rfl (by assumption) ?_
  case he => walk_at "ext"
  walk_at "d"
  refine' s_faugV (fs := [("data", .da (.lst (ns.map .int))), ("place", .da (.int (i : Nat)))]) (fs' := [("data", .da (.lst (ns.map .int))), ("place", .da (.int ((i + 1 : Nat) : Int)))]) ?hr ?hp (by simp) ?_
  case hr => walk_at "rep"
  case hp => walk_at "put"
  walk_at "d"
  rw [show ((i + 1 : Nat) : Int) - 1 = (i : Nat) by omega]
  walk_at "d"
  exact gv_id k
theorem join_signs (cs : List Nat) : Txt.join "" (cs.map fun c => (⟨#[c]⟩ : Str)) = ⟨cs.toArray⟩ := by
  have e : (cs.map fun c => (⟨#[c]⟩ : Str)) = (cs.map fun c => [c]).map SX.S := by simp [Function.comp_def]
  have e0 : ("" : Str) = SX.S [] := by decide +kernel
  rw [e, e0, SX.join_S]
  congr 1
  have : ∀ l : List Nat, TL.joinL [] (l.map fun c => [c]) = l := by
    intro l
    induction l with
    | nil => rfl
    | cons a r ih =>
      cases r with
      | nil => rfl
      | cons b r => exact congrArg (fun z => a :: z) ih
  rw [this]
def D_Decoder_take_field (M : Md K mg) : SpD K := fun as rs xc q => ∃ a most ns i f, ∃ (es : List Str) (rest : List Int), as = [.raw (.ref a), .da (.lst (es.map .str)), .da (.int most)] ∧ rs = [decR M a ns i] ∧ ns.drop i = encF f ++ rest ∧ NmOk f.1 ∧ 1 ≤ f.2 ∧ f.2 ≤ most ∧ f.1 ∉ es ∧ q (.da (fieldD f)) [decR M a ns (i + (encF f).length)]
theorem drop_at {ns : List Int} {i j : Nat} {z : Int} {l : List Int} (h : ns.drop i = l) (hz : l[j]? = some z) : ns[i + j]? = some z := by rw [← hz, ← h, List.getElem?_drop]
theorem ok_Decoder_take_field (M : Md K mg) (G : Gm K M.a_Decoder "take_field" "Decoder.take_field" s_Decoder_take_field) (M_Decoder_take : MethR P w K mg base M.a_Decoder "take" 2 (spD (D_Decoder_take M))) : MethR P w K mg base M.a_Decoder "take_field" 4 (spD (D_Decoder_take_field M)) := by
  refine meth_mk G fun f fd F => FnU.raw <| fnr_mk (dfn_ok (k := 3) F sc_Decoder_take_field (by intro as rs xc q; walk_at "ar") (fun cdv A outer s H E hr => by
    have nd := sc_Decoder_take_field.nd
    exact (dss_cons (ds_set (i := 3) nd rfl (by first | exact Or.inl rfl | exact Or.inr rfl) (d_meth (pe_methR (d_var (i := 0) (pv 0)) M_Decoder_take.cl M_Decoder_take.at_ M_Decoder_take.fn (hr.mono (by first | decide | omega)) pz_def (da_cons (d_int pe_int) (da_cons (d_var (i := 2) (pv 2)) da_nil)))))
    (dss_cons (ds_set (i := 4) nd rfl (by first | exact Or.inl rfl | exact Or.inr rfl) (d_fld (pe_fldK K (d_var (i := 0) (pv 0)))))
    (dss_cons (ds_set (i := 5) nd rfl (by first | exact Or.inl rfl | exact Or.inr rfl) (d_meth (pe_methR (d_var (i := 0) (pv 0)) M_Decoder_take.cl M_Decoder_take.at_ M_Decoder_take.fn (hr.mono (by first | decide | omega)) pz_def (da_cons (d_int pe_int) (da_cons (d_int (pe_gi M.g_MAX_LETTERS)) da_nil)))))
    (dss_cons (ds_set (i := 6) nd rfl (by first | exact Or.inl rfl | exact Or.inr rfl) (d_m1 (as_join K (pe_join (d_str pe_str) (d_lc (E' := E0) (E2 := E0) (pe_lc (own := [("letter", 7)]) (g := (gName 7)) rfl nd (di_rng1 (pi_range1 rfl M.b.range (da_cons (d_var (i := 5) (pv 5)) da_nil))) (blkOk_by (N := N_Decoder_take_field) (sc := defScope s_Decoder_take_field) (by decide +kernel)) (fun _ _ _ _ _ => (pg_name (i := 7) nd rfl (by first | exact Or.inl rfl | exact Or.inr rfl))) (fun _ _ _ _ _ => dts_nil) (fun _ _ _ _ _ => (d_ix (d_str (pe_gs M.g_LETTERS)) (d_meth (pe_methR (d_var (i := 0) (pv 0)) M_Decoder_take.cl M_Decoder_take.at_ M_Decoder_take.fn (hr.mono (by first | decide | omega)) passN (da_cons (d_int pe_int) (da_cons (d_op op_sub (pu2 (pu_I0 fun _ _ _ _ => .int _)) (d_cb1 (pe_len K M.b (d_str (pe_gs M.g_LETTERS))) act_len) (d_int pe_int)) da_nil))))))) (tg_name 7) (by decide)))) act_join))
    (dss_cons (ds_if (dt_cmp (op_inK K hr) (pu2 pu_in) (d_var (i := 6) (pv 6)) (d_var (i := 1) (pv 1))) (dss_one ds_never) dss_nil)
    (dss_one (ds_ret (d_tup (da_cons (d_var (i := 6) (pv 6)) (da_cons (d_var (i := 3) (pv 3)) da_nil))))))))))) ?_) (F.bindsN (fun _ _ _ _ _ _ us hl => match us, hl with | [_, _, _], _ => rfl))
  rintro as rs xc q ⟨a, most, ns, i, f, es, rest, rfl, rfl, hd, nm, f1, f2, fe, k⟩
  obtain ⟨_, _⟩ := M.f_Decoder
  have c0 := nm.1
  have c8 := nm.2.1
  walk_at "in"
  walk_at "d"
  refine' s_ask ?g ⟨a, 1, most, ns, i, f.2, rfl, rfl, drop_at (j := 0) hd rfl, f1, f2, ?_⟩
  case g => walk_at "gets"
  walk_at "d"
  refine' s_ask ?g2 ⟨a, 1, 8, ns, i + 1, (f.1.cps.toList.length : Int), rfl, rfl, drop_at (j := 1) hd rfl, by omega, by omega, ?_⟩
  case g2 => walk_at "gets"
  walk_at "d"
  refine s_rng1K (by omega) ?_
  refine ⟨by rw [rngS_len]; omega, fun j acc rs => acc = ((f.1.cps.toList.take j).map fun c => Da.str ⟨#[c]⟩) ∧ rs = [decR M a ns (i + 1 + 1 + j)], ⟨rfl, rfl⟩, fun _ _ _ _ => trivial, ?_, ?_⟩
  · rintro j y acc rs hy _ ⟨rfl, rfl⟩
    obtain ⟨lt, rfl⟩ := rngS_get hy
    have hl : j < f.1.cps.toList.length := by omega
    obtain ⟨c, hc⟩ : ∃ c, f.1.cps.toList[j]? = some c := ⟨_, List.getElem?_eq_getElem hl⟩
    have cb := nm.2.2 c (List.mem_of_getElem? hc)
    have hz : ns[i + 1 + 1 + j]? = some (((c - 97 : Nat) : Int)) := by
      have := drop_at (j := j + 1 + 1) (z := ((c - 97 : Nat) : Int)) hd (by
        show (lets f.1 ++ rest)[j]? = _
        rw [List.getElem?_append_left (by simpa [lets] using hl), lets, List.getElem?_map, hc]; rfl)
      rw [show i + 1 + 1 + j = i + (j + 1 + 1) by omega]; exact this
    walk_at "wipe"
    walk_at "d"
    refine if_T rfl ?_
    walk_at "d"
    refine s_lenS (by decide) ?_
    walk_at "d"
    refine' s_ask ?g3 ⟨a, 0, _, ns, i + 1 + 1 + j, ((c - 97 : Nat) : Int), rfl, rfl, hz, by omega, ?_, ?_⟩
    case g3 => walk_at "gets"
    · show ((c - 97 : Nat) : Int) ≤ 26 - 1
      omega
    · refine s_ixS (c := c) (atI_nat (by have := alph_at ⟨c - 97, by omega⟩; rw [show 97 + (⟨c - 97, by omega⟩ : Fin 26).val = c by show 97 + (c - 97) = c; omega] at this; exact this)) (by omega) (by decide) ?_
      exact ⟨_, rfl, by rw [take_succ_map hc], rfl⟩
  · rintro acc rs _ ⟨rfl, rfl⟩
    rw [rngS_len, Int.toNat_natCast, List.take_length]
    have ej : Txt.join "" (f.1.cps.toList.map fun c => (⟨#[c]⟩ : Str)) = f.1 := by rw [join_signs]
    walk_at "d"
    refine s_join (zs := f.1.cps.toList.map fun c => ⟨#[c]⟩) ?_ ?_ ?_ ?_
    · rw [List.map_map]; exact .da _
    · have e1 : ((f.1.cps.toList.map fun c => (⟨#[c]⟩ : Str)).map (·.length)).sum = f.1.cps.toList.length := by
        rw [List.map_map]
        generalize f.1.cps.toList = l
        induction l with
        | nil => rfl
        | cons x r ih => rw [List.map_cons, List.sum_cons, ih, List.length_cons]; show 1 + _ = _; omega
      rw [e1, List.length_map]
      show _ + _ * 0 ≤ _
      omega
    · rw [ej]; exact nm.str
    rw [ej]
    walk_at "d"
    rw [anyD_str]
    refine if_F (decide_eq_false fe) ?_
    walk_at "d"
    rw [show i + 1 + 1 + f.1.cps.toList.length = i + (encF f).length by simp [encF, lets]; omega]
    exact gv_id k

end
section
variable {P : Program} {w : World} {K : PySem.W.Frag}
variable {mg : Str → Option Value} {base : Heap}
def D_is_name (M : Md K mg) : SpD K := fun as rs xc q => ∃ z, as = [.da (.str z)] ∧ rs = [] ∧ NmOk z ∧ q (.da (.bl true)) []
theorem ok_is_name (M : Md K mg) (G : Gd K mg "is_name" s_is_name)  : DefR P w K mg base "is_name" 2 (spD (D_is_name M)) := by
  refine def_mk G fun f fd F => fnr_mk (dfn_ok (k := 1) F sc_is_name (by intro as rs xc q; walk_at "ar") (fun cdv A outer s H E hr => by
    have nd := sc_is_name.nd
    exact (dss_one (ds_ret (d_and (d_chain op_le (pu2 (pu_I0 fun _ _ _ _ => .bl _)) op_le (pu2 (pu_I0 fun _ _ _ _ => .bl _)) (d_int pe_int) (d_cb1 (pe_len K M.b (d_var (i := 0) (pv 0))) act_len) (d_int (pe_gi M.g_MAX_LETTERS))) (pe_one (d_cb1 (pe_all K M.b (d_lc (E' := E0) (E2 := E0) (pe_lc (own := [("letter", 1)]) (g := (gName 1)) rfl nd (di_seq (d_var (i := 0) (pv 0))) (blkOk_by (N := N_is_name) (sc := defScope s_is_name) (by decide +kernel)) (fun _ _ _ _ _ => (pg_name (i := 1) nd rfl (by first | exact Or.inl rfl | exact Or.inr rfl))) (fun _ _ _ _ _ => dts_nil) (fun _ _ _ _ _ => (d_cmp (op_inK K hr) (pu2 pu_in) (d_var (i := 1) (pv 1)) (d_str (pe_gs M.g_LETTERS))))) (tg_name 1) (by decide))) act_all)))))) ?_) (F.bindsN (fun _ _ _ _ _ _ us hl => match us, hl with | [_], _ => rfl))
  rintro as rs xc q ⟨z, rfl, rfl, nm, k⟩
  have c0 := nm.1
  have c8 := nm.2.1
  walk_at "in"
  walk_at "d"
  have zl : (z.length : Int) = z.cps.toList.length := by show ((z.cps.size : Nat) : Int) = _; rw [← Array.length_toList]
  refine s_lenS (by show z.cps.size ≤ sizeLine; rw [← Array.length_toList]; simp only [sizeLine_eq]; omega) ?_
  walk_at "d"
  refine if_T (decide_eq_true (by omega)) ?_
  walk_at "d"
  refine if_T (decide_eq_true (by omega)) ?_
  walk_at "d"
  refine s_lcM z.cps.toList (fun c => .da (.str ⟨#[c]⟩)) (fun _ => .bl true) rfl (by omega) trivial (fun j c T hc ht => ?_) ?_
  · have cb := nm.2.2 c (List.mem_of_getElem? hc)
    walk_at "wipe"
    walk_at "d"
    refine ⟨c, rfl, ?_⟩
    rw [show decide (c ∈ (("abcdefghijklmnopqrstuvwxyz" : Str)).cps.toList) = true from decide_eq_true (alph_mem cb.1 cb.2)]
    exact ht
  · walk_at "d"
    refine ⟨_, z.cps.toList.map fun _ => true, rfl, by rw [List.map_map]; exact .da _, ?_⟩
    show (dEnds q xc).rt (.da (.bl ((z.cps.toList.map fun _ => true).all id))) []
    rw [show (z.cps.toList.map fun _ => true).all id = true by rw [List.all_eq_true]; intro b hb; obtain ⟨_, _, rfl⟩ := List.mem_map.mp hb; rfl]
    exact gv_id k
theorem prod_take {fs : List (Str × Int)} (lo : ∀ f ∈ fs, 1 ≤ f.2 ∧ f.2 ≤ 30) : ∀ i, 1 ≤ prodL ((fs.take i).map (·.2)) ∧ prodL ((fs.take i).map (·.2)) ≤ 30 ^ i
  | 0 => by simp [prodL]
  | i + 1 => by
    have ih := prod_take lo i
    cases h : fs[i]? with
    | none =>
      have hl : fs.length ≤ i := List.getElem?_eq_none_iff.mp h
      rw [List.take_of_length_le (by omega)]
      rw [List.take_of_length_le hl] at ih
      refine ⟨ih.1, Int.le_trans ih.2 ?_⟩
      rw [Int.pow_succ]
      have : (0 : Int) ≤ 30 ^ i := Int.pow_nonneg (by decide)
      omega
    | some f =>
      have hf := lo f (List.mem_of_getElem? h)
      rw [List.take_add_one, h]
      simp only [Option.toList_some, List.map_append, List.map_cons, List.map_nil, prodL_snoc]
      constructor
      · have : 1 * 1 ≤ prodL ((fs.take i).map (·.2)) * f.2 := Int.mul_le_mul ih.1 hf.1 (by decide) (by omega)
        omega
      · rw [Int.pow_succ]
        exact Int.mul_le_mul ih.2 hf.2 (by omega) (Int.pow_nonneg (by decide))
theorem nodup_take {fs : List (Str × Int)} {i : Nat} {f : Str × Int} (h : (fs.map (·.1)).Nodup) (hf : fs[i]? = some f) : f.1 ∉ (fs.take i).map (·.1) := by
  intro hm
  rw [List.map_take] at hm
  obtain ⟨j, hj, e⟩ := List.mem_iff_getElem.mp hm
  simp at hj
  have h1 : (fs.map (·.1))[j]? = some f.1 := by
    rw [List.getElem?_eq_getElem (by simp; omega)]
    congr 1
    simpa using e
  have h2 : (fs.map (·.1))[i]? = some f.1 := by rw [List.getElem?_map, hf]; rfl
  have := nd_ix h h1 h2
  omega
def D_Farm___init__ (M : Md K mg) : SpD K := fun as rs xc q => ∃ a fs, as = [.raw (.ref a), .da (.tup (fs.map fieldD))] ∧ rs = [objR a M.a_Farm []] ∧ FOk fs ∧ q (.da .non) [objR a M.a_Farm [("rows", .da (.tup (fs.map fieldD)))]]
theorem ok_Farm___init__ (M : Md K mg) (G : Gk K mg "Farm" M.a_Farm "Farm.__init__" s_Farm___init__) (R_is_name : DefR P w K mg base "is_name" 2 (spD (D_is_name M))) : MakeR P w K mg base "Farm" M.a_Farm 4 (spD (starD (D_Farm___init__ M))) := by
  refine make_mk G fun f fd F => star_ok (k := 3) F sc_Farm___init__ (fun _ _ _ _ _ _ _ => rfl) (fun _ _ _ _ _ _ _ _ _ => rfl) (fun cdv A outer s H E hr => by
    have nd := sc_Farm___init__.nd
    exact (dss_cons (ds_if (dt_cmp (op_eqK K hr) (pu2 pu_eq) (d_var (i := 1) (pv 1)) (d_tup da_nil)) (dss_one ds_never) dss_nil)
    (dss_cons (ds_set (i := 2) nd rfl (by first | exact Or.inl rfl | exact Or.inr rfl) (d_int pe_int))
    (dss_cons (ds_for po_def rfl (di_enT (pi_enumTK K rfl M.b.enumerate (da_cons (d_var (i := 1) (pv 1)) da_nil))) (pg_tupK K (n := 2) rfl (pgs_cons (pg_name (i := 3) nd rfl (by first | exact Or.inl rfl | exact Or.inr rfl)) (pgs_cons (pg_tupK K (n := 2) rfl (pgs_cons (pg_name (i := 4) nd rfl (by first | exact Or.inl rfl | exact Or.inr rfl)) (pgs_cons (pg_name (i := 5) nd rfl (by first | exact Or.inl rfl | exact Or.inr rfl)) pgs_nil))) pgs_nil))) (tg_tup (tgs_cons (tg_name 3) (tgs_cons (tg_tup (tgs_cons (tg_name 4) (tgs_cons (tg_name 5) tgs_nil))) tgs_nil))) (dss_cons (ds_setLc (E' := E0) (E2 := E0) (ps_setLc (i := 6) (own := [("other", 7)]) (g := (gName 7)) rfl nd rfl rfl (sw_true rfl rfl rfl (by decide +kernel)) (di_seq (d_sl (pe_slice (sl_X K) (d_var (i := 1) (pv 1)) do_none (do_some (d_var (i := 3) (pv 3)))))) (blkOk_by (N := N_Farm___init__) (sc := defScope s_Farm___init__) (by decide +kernel)) (fun _ _ _ _ _ => (pg_name (i := 7) nd rfl (by first | exact Or.inl rfl | exact Or.inr rfl))) (fun _ _ _ _ _ => dts_nil) (fun _ _ _ _ _ => (d_ix (d_var (i := 7) (pv 7)) (d_int pe_int)))) (tg_name 7) (by decide))
    (dss_cons (ds_if (PW.pt (dw_or (dt_cmp (op_eqK K hr) (pu2 pu_eq) (d_var (i := 3) (pv 3)) (d_int (pe_gcon M.k_Farm_MAX_FIELDS))) (dw_or (dt_not (dt_val (d_call (pe_callR R_is_name (hr.mono (by first | decide | omega)) pz_def (da_cons (d_var (i := 4) (pv 4)) da_nil))))) (dw_or (dt_not (dt_chain op_le (pu2 (pu_I0 fun _ _ _ _ => .bl _)) op_le (pu2 (pu_I0 fun _ _ _ _ => .bl _)) (d_int pe_int) (d_var (i := 5) (pv 5)) (d_int (pe_gi M.g_MAX_LIMIT)))) (dw_or1 (dt_cmp (op_inK K hr) (pu2 pu_in) (d_var (i := 4) (pv 4)) (d_var (i := 6) (pv 6)))))))) (dss_one ds_never) dss_nil)
    (dss_one (ds_set (i := 2) nd rfl (by first | exact Or.inl rfl | exact Or.inr rfl) (d_op op_mul (pu2 (pu_I fun _ _ _ _ => .int _)) (d_var (i := 2) (pv 2)) (d_var (i := 5) (pv 5))))))))
    (dss_cons (ds_if (dt_cmp op_gt (pu2 (pu_I0 fun _ _ _ _ => .bl _)) (d_var (i := 2) (pv 2)) (d_int (pe_gcon M.k_Farm_MAX_STATES))) (dss_one ds_never) dss_nil)
    (dss_one (ds_fld (ps_fldK K (d_var (i := 0) (pv 0)) (d_var (i := 1) (pv 1)))))))))) ?_
  rintro as rs xc q ⟨a, fs, rfl, rfl, ok, k⟩
  have fn := M.f_Farm
  walk_at "in"
  walk_at "d"
  have pl : plN 60 (.tup (fs.map fieldD)) = true := pl_tm fun _ => rfl
  refine s_eq_d rfl pl rfl ?_
  have en : PyData.eqv (pyD (.tup (fs.map fieldD))) (pyD (.tup [])) = false := by
    cases fs with
    | nil => exact absurd ok.one (by decide)
    | cons f r => rfl
  rw [en]
  walk_at "d"
  refine if_F rfl ?_
  walk_at "d"
  refine s_forK (fun i sl rs => ∃ u1 u2 u3 u4 u5, sl = [.raw (.ref a), .da (.tup (fs.map fieldD)), .da (.int (prodL ((fs.take i).map (·.2)))), u1, u2, u3, u4, u5] ∧ rs = [objR a M.a_Farm []]) ?_ ?_ ?_ ?_
  · exact gs_id ⟨_, _, _, _, _, rfl, rfl⟩
  · exact fun _ _ _ _ => trivial
  · rintro i y sl rs hy ⟨u1, u2, u3, u4, u5, rfl, rfl⟩
    obtain ⟨fi, hfi, rfl⟩ := enumS_mm hy
    have fm : fi ∈ fs := List.mem_of_getElem? hfi
    have hi6 : i < 6 := by have := (List.getElem?_eq_some_iff.mp hfi).1; have := ok.six; omega
    walk_at "d"
    rw [cutG_to, ← List.map_take]
    refine s_lcM (fs.take i) (fun f => .da (fieldD f)) (fun f => .str f.1) (by rw [List.map_map]; rfl) (by rw [List.length_take]; omega) trivial (fun j c T hc ht => ?_) ?_
    · walk_at "wipe"
      walk_at "d"
      exact ht
    · walk_at "d"
      refine if_F (decide_eq_false (by omega)) ?_
      walk_at "d"
      refine s_ask0 ⟨fi.1, rfl, rfl, ok.nm fi fm, ?_⟩
      walk_at "d"
      refine if_F rfl ?_
      walk_at "d"
      have lo := ok.lo fi fm
      refine if_T (decide_eq_true lo.1) ?_
      walk_at "d"
      refine if_F (by rw [decide_eq_true lo.2]; rfl) ?_
      walk_at "d"
      rw [show ((fs.take i).map fun f => Da.str f.1) = ((fs.take i).map (·.1)).map .str from (List.map_map ..).symm, anyD_str, decide_eq_false (nodup_take ok.nd hfi)]
      refine if_F rfl ?_
      have hp := prod_take ok.lo i
      have ep : prodL ((fs.take i).map (·.2)) * fi.2 = prodL ((fs.take (i + 1)).map (·.2)) := by
        rw [List.take_add_one, hfi]
        simp only [Option.toList_some, List.map_append, List.map_cons, List.map_nil, prodL_snoc]
      walk_at "d"
      rw [ep]
      exact gs_id ⟨_, _, _, _, _, rfl, rfl⟩
  · rintro sl rs ⟨u1, u2, u3, u4, u5, rfl, rfl⟩
    refine gs_id ?_
    rw [enumS_len, List.length_map, List.length_map, List.take_length]
    walk_at "d"
    refine if_F (decide_eq_false (by have := ok.pr; omega)) ?_
    walk_at "d"
    exact gv_id k

end
section
variable {P : Program} {w : World} {K : PySem.W.Frag}
variable {mg : Str → Option Value} {base : Heap}
/-- Farm( *fields): data -/
def D_Farm (M : Md K mg) : SpD K := fun ys rs xc q => ∃ fs, ys = fs.map (fun f => .da (fieldD f)) ∧ rs = [] ∧ FOk fs ∧ q (.da (farmD M.a_Farm fs)) []
theorem mk_Farm (M : Md K mg) : Mks M.a_Farm (starD (D_Farm___init__ M)) (D_Farm M) := by
  rintro ys rs xc q ⟨fs, rfl, rfl, ok, k⟩ a
  refine ⟨_, fs.map fieldD, by rw [List.map_map]; rfl, by rw [List.length_map]; have := ok.six; simp [sizeLine_eq]; omega, a, fs, rfl, rfl, ok, rfl, ?_⟩
  exact gv_via (GhV.frz (fr_obj (fs := [("rows", .tup (fs.map fieldD))])) .here) (gv_id k)
theorem prodL_app (a b : List Int) : prodL (a ++ b) = prodL a * prodL b := by
  have : ∀ (b : List Int) (z : Int), b.foldl (· * ·) z = z * prodL b := by
    intro b
    induction b with
    | nil => intro z; simp [prodL]
    | cons x r ih =>
      intro z
      have e : prodL (x :: r) = x * prodL r := by rw [show prodL (x :: r) = r.foldl (· * ·) (1 * x) from rfl, ih, Int.one_mul]
      rw [List.foldl_cons, ih, e, Int.mul_assoc]
  rw [prodL, List.foldl_append, this]; rfl
theorem prodL_pos {l : List Int} (h : ∀ x ∈ l, 1 ≤ x) : 1 ≤ prodL l := by
  induction l with
  | nil => decide
  | cons x r ih =>
    have e : prodL (x :: r) = x * prodL r := by rw [show x :: r = [x] ++ r from rfl, prodL_app]; simp [prodL]
    have := Int.mul_le_mul (h x (by simp)) (ih fun y hy => h y (by simp [hy])) (by decide) (by have := h x (by simp); omega)
    omega
theorem prod_pre {fs : List (Str × Int)} (lo : ∀ f ∈ fs, 1 ≤ f.2 ∧ f.2 ≤ 30) (i : Nat) : prodL ((fs.take i).map (·.2)) ≤ prodL (fs.map (·.2)) := by
  have e : fs.map (·.2) = (fs.take i).map (·.2) ++ (fs.drop i).map (·.2) := by rw [← List.map_append, List.take_append_drop]
  have h1 := prodL_pos (l := (fs.take i).map (·.2)) fun x hx => by obtain ⟨f, hf, rfl⟩ := List.mem_map.mp hx; exact (lo f (List.mem_of_mem_take hf)).1
  have h2 := prodL_pos (l := (fs.drop i).map (·.2)) fun x hx => by obtain ⟨f, hf, rfl⟩ := List.mem_map.mp hx; exact (lo f (List.mem_of_mem_drop hf)).1
  rw [e, prodL_app]
  have := Int.mul_le_mul_of_nonneg_left h2 (show 0 ≤ prodL ((fs.take i).map (·.2)) by omega)
  omega
theorem drop_body {fs : List (Str × Int)} {i : Nat} {f : Str × Int} (h : fs[i]? = some f) : (bytesOf fs).drop (2 + ((fs.take i).flatMap encF).length) = encF f ++ ((fs.drop (i + 1)).flatMap encF ++ [cks (bodyOf fs)]) := by
  have lt := (List.getElem?_eq_some_iff.mp h).1
  have e : fs.flatMap encF = (fs.take i).flatMap encF ++ (encF f ++ (fs.drop (i + 1)).flatMap encF) := by
    have e1 : fs = fs.take i ++ f :: fs.drop (i + 1) := by
      have := List.drop_eq_getElem_cons lt
      rw [show fs[i] = f from (List.getElem?_eq_some_iff.mp h).2] at this
      rw [← this, List.take_append_drop]
    rw [← List.flatMap_cons, ← List.flatMap_append, ← e1]
  have e2 : bytesOf fs = ([72, (fs.length : Int)] ++ (fs.take i).flatMap encF) ++ (encF f ++ ((fs.drop (i + 1)).flatMap encF ++ [cks (bodyOf fs)])) := by
    conv => lhs; rw [bytesOf]
    conv => lhs; lhs; rw [bodyOf, e]
    simp only [List.append_assoc]
  have hl : ([72, (fs.length : Int)] ++ (fs.take i).flatMap encF).length = 2 + ((fs.take i).flatMap encF).length := by
    rw [List.length_append]; rfl
  rw [← hl, e2, List.drop_left]
def D_decode_farm (M : Md K mg) : SpD K := fun as rs xc q => ∃ fs, as = [.da (.lst ((bytesOf fs).map .int))] ∧ rs = [] ∧ FOk fs ∧ q (.da (farmD M.a_Farm fs)) []
theorem ok_decode_farm (M : Md K mg) (G : Gd K mg "decode_farm" s_decode_farm) (R_checksum : DefR P w K mg base "checksum" 2 (spD (D_checksum M))) (M_Decoder_take : MethR P w K mg base M.a_Decoder "take" 2 (spD (D_Decoder_take M))) (M_Decoder_take_field : MethR P w K mg base M.a_Decoder "take_field" 4 (spD (D_Decoder_take_field M))) (K_Decoder : MakeD P w K mg base "Decoder" M.a_Decoder 2 (D_Decoder___init__ M) (D_Decoder M)) (K_Farm : MakeD P w K mg base "Farm" M.a_Farm 4 (starD (D_Farm___init__ M)) (D_Farm M)) : DefR P w K mg base "decode_farm" 6 (spD (D_decode_farm M)) := by
  refine def_mk G fun f fd F => fnr_mk (dfn_ok (k := 5) F sc_decode_farm (by intro as rs xc q; walk_at "ar") (fun cdv A outer s H E hr => by
    have nd := sc_decode_farm.nd
    exact (dss_cons (ds_par3 (ps_par3 (i := 1) (j := 2) (l := 3) rfl nd rfl rfl rfl (by decide) (by decide) (by decide) rfl rfl rfl (da_cons (d_make (pe_makeP K_Decoder.mkr (hr.mono (by first | decide | omega)) pz_def (da_cons (d_var (i := 0) (pv 0)) da_nil)) K_Decoder.it) (da_cons (d_lstR da_nil) (da_cons (d_int pe_int) da_nil))) (by rfl)))
    (dss_cons (ds_expr (d_meth (pe_methR (d_var (i := 1) (pv 1)) M_Decoder_take.cl M_Decoder_take.at_ M_Decoder_take.fn (hr.mono (by first | decide | omega)) pz_def (da_cons (d_int (pe_gi M.g_TAG)) (da_cons (d_int (pe_gi M.g_TAG)) da_nil)))))
    (dss_cons (ds_for po_def rfl (di_rng1 (pi_range1 rfl M.b.range (da_cons (d_meth (pe_methR (d_var (i := 1) (pv 1)) M_Decoder_take.cl M_Decoder_take.at_ M_Decoder_take.fn (hr.mono (by first | decide | omega)) pz_def (da_cons (d_int pe_int) (da_cons (d_int (pe_gcon M.k_Farm_MAX_FIELDS)) da_nil)))) da_nil))) (pg_name (i := 4) nd rfl (by first | exact Or.inl rfl | exact Or.inr rfl)) (tg_name 4) (dss_cons (ds_set (i := 5) nd rfl (by first | exact Or.inl rfl | exact Or.inr rfl) (d_cb (pe_min2 M.b (da_cons (d_int (pe_gi M.g_MAX_LIMIT)) (da_cons (d_op op_fdiv (pu2 (pu_I fun _ _ _ _ => .int _)) (d_int (pe_gcon M.k_Farm_MAX_STATES)) (d_var (i := 3) (pv 3))) da_nil))) act_min2))
    (dss_cons (ds_expr (d_bm (as_bm K (pe_bm PySem.F.plainAttrs_list PySem.F.slot_list_append PySem.F.type_list_append mt_append (d_var (i := 2) (pv 2)) (da_cons (d_meth (pe_methR (d_var (i := 1) (pv 1)) M_Decoder_take_field.cl M_Decoder_take_field.at_ M_Decoder_take_field.fn (hr.mono (by first | decide | omega)) pz_def (da_cons (d_lc (E' := E0) (E2 := E0) (pe_lc (own := [("name", 6), ("limit", 7)]) (g := (gTup K 2 (gCons (gName 6) (gCons (gName 7) gNil)))) rfl nd (di_seq (d_var (i := 2) (pv 2))) (blkOk_by (N := N_decode_farm) (sc := defScope s_decode_farm) (by decide +kernel)) (fun _ _ _ _ _ => (pg_tupK K (n := 2) rfl (pgs_cons (pg_name (i := 6) nd rfl (by first | exact Or.inl rfl | exact Or.inr rfl)) (pgs_cons (pg_name (i := 7) nd rfl (by first | exact Or.inl rfl | exact Or.inr rfl)) pgs_nil)))) (fun _ _ _ _ _ => dts_nil) (fun _ _ _ _ _ => (d_var (i := 6) (pv 6)))) (tg_tup (tgs_cons (tg_name 6) (tgs_cons (tg_name 7) tgs_nil))) (by decide)) (da_cons (d_var (i := 5) (pv 5)) da_nil)))) da_nil))) act_app))
    (dss_one (ds_augM (i := 3) (ps_aug (i := 3) nd rfl (by first | exact Or.inl rfl | exact Or.inr rfl) (d_ix (d_ix (d_var (i := 2) (pv 2)) (d_un un_neg (pu1 (pu_U fun _ _ _ => .int _)) (d_int pe_int))) (d_int pe_int)) iop_mul))))))
    (dss_cons (ds_set (i := 8) nd rfl (by first | exact Or.inl rfl | exact Or.inr rfl) (d_call (pe_callR R_checksum (hr.mono (by first | decide | omega)) pz_def (da_cons (d_sl (pe_slice (sl_X K) (d_var (i := 0) (pv 0)) do_none (do_some (d_fld (pe_fldK K (d_var (i := 1) (pv 1))))))) da_nil))))
    (dss_cons (ds_expr (d_meth (pe_methR (d_var (i := 1) (pv 1)) M_Decoder_take.cl M_Decoder_take.at_ M_Decoder_take.fn (hr.mono (by first | decide | omega)) pz_def (da_cons (d_var (i := 8) (pv 8)) (da_cons (d_var (i := 8) (pv 8)) da_nil)))))
    (dss_cons (ds_if (dt_cmp op_lt (pu2 (pu_I0 fun _ _ _ _ => .bl _)) (d_fld (pe_fldK K (d_var (i := 1) (pv 1)))) (d_cb1 (pe_len K M.b (d_var (i := 0) (pv 0))) act_len)) (dss_one ds_never) dss_nil)
    (dss_one (ds_ret (d_makeS (pe_makeSK K K_Farm.mkr (hr.mono (by first | decide | omega)) pz_def (d_var (i := 2) (pv 2))) K_Farm.it)))))))))) ?_) (F.bindsN (fun _ _ _ _ _ _ us hl => match us, hl with | [_], _ => rfl))
  rintro as rs xc q ⟨fs, rfl, rfl, ok, k⟩
  obtain ⟨_, _⟩ := M.f_Decoder
  have f6 := ok.six
  walk_at "in"
  walk_at "d"
  walk_at "ask"
  intro dc
  walk_at "d"
  refine s_mkR (by walk_at "size") fun fo => ?_
  walk_at "d"
  refine' s_ask ?g ⟨dc, 72, 72, bytesOf fs, 0, 72, rfl, rfl, rfl, by decide, by decide, ?_⟩
  case g => walk_at "gets"
  walk_at "d"
  refine' s_ask ?g2 ⟨dc, 1, 6, bytesOf fs, 1, (fs.length : Int), rfl, rfl, rfl, by have := ok.one; omega, by omega, ?_⟩
  case g2 => walk_at "gets"
  walk_at "d"
  refine s_rng1K (by omega) ?_
  refine s_forK (fun i sl rs => ∃ u4 u5, sl = [.da (.lst ((bytesOf fs).map .int)), .raw (.ref dc), .raw (.ref fo), .da (.int (prodL ((fs.take i).map (·.2)))), u4, u5, .no, .no, .no] ∧ rs = [lstR fo (((fs.take i).map fieldD).map .da), decR M dc (bytesOf fs) (2 + ((fs.take i).flatMap encF).length)]) ?_ ?_ ?_ ?_
  · exact gs_gets (rc := [lstR fo (((fs.take 0).map fieldD).map .da), decR M dc (bytesOf fs) (2 + ((fs.take 0).flatMap encF).length)]) (by walk_at "gets") ⟨_, _, rfl, rfl⟩
  · exact fun _ _ _ _ => trivial
  · rintro i y sl rs hy ⟨u4, u5, rfl, rfl⟩
    obtain ⟨lt, rfl⟩ := rngS_get hy
    obtain ⟨f, hf⟩ : ∃ f, fs[i]? = some f := ⟨_, List.getElem?_eq_getElem (by omega)⟩
    have fm : f ∈ fs := List.mem_of_getElem? hf
    have tl : (fs.take i).length ≤ 6 := by rw [List.length_take]; omega
    have hp := prod_take ok.lo i
    have hq := prod_pre ok.lo (i + 1)
    have ep : prodL ((fs.take i).map (·.2)) * f.2 = prodL ((fs.take (i + 1)).map (·.2)) := by
      rw [List.take_add_one, hf]
      simp only [Option.toList_some, List.map_append, List.map_cons, List.map_nil, prodL_snoc]
    have hm : f.2 ≤ 4000 / prodL ((fs.take i).map (·.2)) := (Int.le_ediv_iff_mul_le (by omega)).mpr (by rw [Int.mul_comm, ep]; exact Int.le_trans hq ok.pr)
    have lo := ok.lo f fm
    have small : prodL ((fs.take i).map (·.2)) ≤ 4000 := Int.le_trans (prod_pre ok.lo i) ok.pr
    walk_at "d"
    refine s_lcM (fs.take i) (fun f => .da (fieldD f)) (fun f => .str f.1) (by rw [List.map_map]; rfl) (by omega) ⟨_, by walk_at "ext"⟩ (fun j c T hc ht => ?_) ?_
    · walk_at "wipe"
      walk_at "d"
      exact ht
    · walk_at "d"
      refine' s_ask ?g3 ⟨dc, _, bytesOf fs, 2 + ((fs.take i).flatMap encF).length, f, (fs.take i).map (·.1), (fs.drop (i + 1)).flatMap encF ++ [cks (bodyOf fs)], by rw [List.map_map]; rfl, rfl, drop_body hf, ok.nm f fm, lo.1, by split <;> omega, nodup_take ok.nd hf, ?_⟩
      case g3 => walk_at "gets"
      walk_at "d"
      refine s_ix (w := .da (.tup [.str f.1, .int f.2])) (.raw (by walk_at "ext")) (atI_last (by simp)) trivial ?_
      walk_at "d"
      rw [ep]
      refine' gs_gets (rc := [lstR fo (((fs.take (i + 1)).map fieldD).map .da), decR M dc (bytesOf fs) (2 + ((fs.take (i + 1)).flatMap encF).length)]) ?hh ⟨_, _, rfl, rfl⟩
      case hh =>
        rw [flat_take encF hf, take_succ_map hf, List.length_append, ← Nat.add_assoc, List.map_append]
        walk_at "gets"
  · rintro sl rs ⟨u4, u5, rfl, rfl⟩
    refine gs_id ?_
    rw [rngS_len, Int.toNat_natCast, List.take_length]
    have bl : 2 + (fs.flatMap encF).length = (bodyOf fs).length := by simp [bodyOf]; omega
    rw [bl]
    walk_at "d"
    rw [cutG_to, ← List.map_take, show (bytesOf fs).take (bodyOf fs).length = bodyOf fs by simp [bytesOf]]
    walk_at "ask"
    walk_at "d"
    refine' s_ask ?g4 ⟨dc, _, _, bytesOf fs, (bodyOf fs).length, cks (bodyOf fs), rfl, rfl, by simp [bytesOf], Int.le_refl _, Int.le_refl _, ?_⟩
    case g4 => walk_at "gets"
    walk_at "d"
    refine if_F (decide_eq_false (by simp [bytesOf])) ?_
    walk_at "d"
    refine s_ask0 ⟨fs, by rw [List.map_map]; rfl, rfl, ok, ?_⟩
    exact gv_gets (by walk_at "gets") k
def D_law_farm (M : Md K mg) : SpD K := fun as rs xc q => ∃ fs, as = [.da (.lst (fs.map fieldD))] ∧ rs = [] ∧ FOk fs ∧ q (.da (farmD M.a_Farm fs)) []
theorem ok_law_farm (M : Md K mg) (G : Gd K mg "_law_farm" s_law_farm) (R_law_bytes : DefR P w K mg base "_law_bytes" 2 (spD (D_law_bytes M))) (R_decode_farm : DefR P w K mg base "decode_farm" 6 (spD (D_decode_farm M))) : DefR P w K mg base "_law_farm" 8 (spD (D_law_farm M)) := by
  refine def_mk G fun f fd F => fnr_mk (dfn_ok (k := 7) F sc_law_farm (by intro as rs xc q; walk_at "ar") (fun cdv A outer s H E hr => by
    have nd := sc_law_farm.nd
    exact (dss_one (ds_ret (d_call (pe_callR R_decode_farm (hr.mono (by first | decide | omega)) pz_def (da_cons (d_call (pe_callR R_law_bytes (hr.mono (by first | decide | omega)) pz_def (da_cons (d_var (i := 0) (pv 0)) da_nil))) da_nil)))))) ?_) (F.bindsN (fun _ _ _ _ _ _ us hl => match us, hl with | [_], _ => rfl))
  rintro as rs xc q ⟨fs, rfl, rfl, ok, k⟩
  walk_at "in"
  walk_at "d"
  walk_at "ask"
  walk_at "d"
  walk_at "ask"
  exact gv_id k

end
end HC
namespace HC
open PyProof.Rows PySem L2 PySem.Spec
local macro_rules | `(tactic| walk_at "ext") => `(tactic| first | exact .here | exact .there .here | exact .there (.there .here) | exact .there (.there (.there .here)) | exact .there (.there (.there (.there .here))) | exact .there (.there (.there (.there (.there .here)))))
local macro_rules | `(tactic| walk_at "gets") => `(tactic| first | exact Gets.nil | ((refine' Gets.cons ?he ?hr); (case he => walk_at "ext"); (case hr => walk_at "gets")))
local macro_rules | `(tactic| walk_at "ar") => `(tactic| first | exact ar_eq rfl | (refine ar_ex fun _ => ?_; walk_at "ar"))
local macro_rules | `(tactic| walk_at "rep") => `(tactic| first | exact .here | exact .there .here | exact .there (.there .here) | exact .there (.there (.there .here)) | exact .there (.there (.there (.there .here))))
local macro_rules | `(tactic| walk_at "see") => `(tactic| first | exact .da _ | exact .lst (by walk_at "ext"))
local macro_rules | `(tactic| walk_at "itm") => `(tactic| first | exact .tup _ | exact .tupS _ | exact .lst _ | exact .scr _ | exact .btup _ | exact .raw (by walk_at "ext"))
local macro_rules | `(tactic| walk_at "wk") => `(tactic| first | exact .tup _ | exact .tupS _ | exact .lst _ | exact .scr _ | exact .btup _ | exact .str _ | exact .raw (by walk_at "ext"))
local macro_rules | `(tactic| walk_at "alld") => `(tactic| first | exact allDa0 | exact allDa1 | exact allDa2 | exact allDa3 | exact allDa4 | exact allDa5 | rfl)
local macro_rules | `(tactic| walk_at "put") => `(tactic| (simp (config := { decide := true }) only [putS, if_true, if_false]; try rfl))
local macro_rules | `(tactic| walk_at "pl") => `(tactic| first | rfl | assumption | exact pls_map (fun _ => rfl) | exact pl_lm (fun _ => rfl) | exact pl_tm (fun _ => rfl))
local macro_rules | `(tactic| walk_at "size") => `(tactic| first | exact (by decide : _ ≤ sizeLine) | (simp [sizeLine_eq]; done) | (simp [sizeLine_eq]; omega))
local macro_rules | `(tactic| walk_at "d1") => `(tactic| first
  | with_reducible refine s_seq ?_ | with_reducible refine s_asg ?_ | ((with_reducible refine' s_var ?hv ?_ ?kn); (case hv => exact rfl); (case kn => trivial)) | with_reducible refine s_c ?_ | with_reducible refine s_r ?_
  | ((with_reducible refine' s_name ?hv ?_); (case hv => first | (simp only [List.set]; rfl) | (simp only [wipeD, List.set]; rfl)))
  | with_reducible refine s_b ?_ | with_reducible refine s_u ?_ | with_reducible refine s_t ?_ | with_reducible refine s_isB ?_ | with_reducible refine s_cons ?_ | with_reducible refine s_nil ?_
  | with_reducible refine s_p2 ?_ | with_reducible refine s_p1 ?_ | with_reducible refine s_add_i ?_ | ((with_reducible refine' s_I ?hc ?_); (case hc => first | trivial | (show (0 : Int) < _; omega) | (unfold CMul; omega) | (unfold CPow; decide) | (unfold CDiv; omega))) | with_reducible refine s_1I ?_
  | with_reducible refine s_eq_i ?_ | with_reducible refine s_eq_s ?_ | with_reducible refine s_eq_b ?_ | with_reducible refine s_ne_i ?_ | with_reducible refine s_ne_s ?_ | with_reducible refine s_ne_b ?_ | with_reducible refine s_isN ?_ | with_reducible refine s_notN ?_
  | with_reducible refine s_call ?_ | with_reducible refine s_make ?_ | with_reducible refine s_fld ?_ | with_reducible refine s_prop ?_ | with_reducible refine s_meth ?_ | with_reducible refine s_ret ?_ | with_reducible refine s_retN ?_ | with_reducible refine s_drop ?_ | with_reducible refine s_ifS ?_ | with_reducible refine s_next ?_
  | with_reducible refine s_and ?_ | with_reducible refine s_or ?_ | with_reducible refine s_not ?_ | with_reducible refine s_andV ?_ | with_reducible refine s_orV ?_ | with_reducible refine s_notV ?_ | with_reducible refine s_if ?_ | with_reducible refine s_chain ?_
  | ((with_reducible refine' s_mkT ?he ?hz ?_); (case he => first | exact mkT2 | exact mkT1 | exact mkT3 | exact mkT4 | exact mkT0 | rfl); (case hz => walk_at "size")) | ((with_reducible refine' s_mkL ?he ?hz ?_); (case he => walk_at "alld"); (case hz => walk_at "size"))
  | with_reducible refine s_partI ?_ | with_reducible refine s_slT ?_ | ((with_reducible refine' s_sfldV ?kn ?_); (case kn => trivial)) | ((with_reducible refine' s_lenI ?hi ?_); (case hi => walk_at "itm")) | with_reducible refine s_lenS ?_
  | ((with_reducible refine' s_fldD ?he ?fn ?_); (case he => rfl); (case fn => assumption)) | ((with_reducible refine' s_fldR ?hx ?he ?fn ?kn ?_); (case hx => walk_at "ext"); (case he => rfl); (case fn => assumption); (case kn => trivial))
  | ((with_reducible refine' s_sfldR ?hr ?he ?fn ?hf ?_); (case hr => walk_at "rep"); (case he => walk_at "put"); (case fn => assumption); (case hf => simp)) | ((with_reducible refine' s_add_t ?hz ?_); (case hz => walk_at "size")) | ((with_reducible refine' s_add_l ?hz ?_); (case hz => walk_at "size"))
  | ((with_reducible refine' s_parK ?he ?hl ?_); (case he => first | (simp only [List.zip_cons_cons, List.zip_nil_right, List.zip_nil_left, List.foldl_cons, List.foldl_nil, List.set_cons_succ, List.set_cons_zero]; rfl) | rfl); (case hl => rfl)) | ((with_reducible refine' s_raiseK ?he ?hl ?_); (case he => walk_at "alld"); (case hl => rfl)) | ((with_reducible refine' s_gtup ?hi ?hn ?_); (case hi => first | exact its2_2 | exact its2_3 | exact its2_4 | exact its2_1 | exact .tup _ | exact .da _); (case hn => rfl)) | with_reducible refine s_gcons ?_ | with_reducible refine s_gnil ?_
  | with_reducible refine s_for ?_ | with_reducible refine s_it ?_ | with_reducible refine s_rng1 ?_ | with_reducible refine s_rng2 ?_ | with_reducible refine s_enT ?_ | with_reducible refine s_enL ?_ | with_reducible refine s_enLK ?_ | with_reducible refine s_zip ?_ | with_reducible refine s_zipL ?_ | with_reducible refine s_lc ?_ | with_reducible refine s_yes ?_
  | with_reducible refine s_faug ?_ | with_reducible refine s_int ?_ | with_reducible refine s_intB ?_ | with_reducible refine s_n1 ?_ | with_reducible refine s_n2 ?_ | with_reducible refine s_star1 ?_ | with_reducible refine s_dictZip ?_ | with_reducible refine s_items ?_ | ((with_reducible refine' s_star1K ?hi ?_); (case hi => walk_at "itm")) | ((with_reducible refine' s_augI ?he ?_); (case he => rfl)) | ((with_reducible refine' s_augV ?hc ?he ?_); (case hc => (unfold CMul; omega)); (case he => first | (simp only [List.set_cons_succ, List.set_cons_zero]; rfl) | rfl)) | ((with_reducible refine' s_aug0 ?he ?_); (case he => rfl)) | ((with_reducible refine' s_aug0V ?he ?_); (case he => first | (simp only [List.set_cons_succ, List.set_cons_zero]; rfl) | rfl)) | with_reducible refine s_tupOfT ?_
  | ((with_reducible refine' s_ix ?him ?hat ?kn ?_); (case him => walk_at "itm"); (case hat => first | exact atI_mm (by assumption) | exact atI_c0 | exact atI_c1 | exact atI_c2 | exact atI_c3 | exact atI_c4); (case kn => trivial)) | ((with_reducible refine' s_bmK ?hi ?_); (case hi => first | exact .da _ | exact .raw (by walk_at "ext"))) | ((with_reducible refine' s_bmK0 ?hi ?_); (case hi => first | exact .da _ | exact .raw (by walk_at "ext")))
  | ((with_reducible refine' s_app ?hr ?hz ?_); (case hr => walk_at "rep"); (case hz => walk_at "size")) | ((with_reducible refine' s_itK ?hw ?_); (case hw => walk_at "wk")) | with_reducible refine s_propD ?_ | ((with_reducible refine' s_propR ?hx ?_); (case hx => walk_at "ext"))
  | ((with_reducible refine' s_methD ?hn ?_); (case hn => (simp (config := { decide := true }) only [List.map, List.mem_cons, List.not_mem_nil, or_false, not_or, not_false_eq_true, and_self])))
  | ((with_reducible refine' s_methR ?hx ?hn ?_); (case hx => walk_at "ext"); (case hn => (simp (config := { decide := true }) only [List.map, List.mem_cons, List.not_mem_nil, or_false, not_or, not_false_eq_true, and_self])))
  | ((with_reducible refine' s_enTK ?hi ?_); (case hi => first | exact .da _ | exact .btup _ | exact .tup _)) | ((with_reducible refine' s_zipT ?hi ?hj ?_); (case hi => first | exact .da _ | exact .btup _ | exact .tup _); (case hj => first | exact .da _ | exact .btup _ | exact .tup _))
  | ((with_reducible refine' s_tupOfL ?hs ?_); (case hs => walk_at "see")) | ((with_reducible refine' s_tupNew ?hs ?_); (case hs => walk_at "see")) | ((with_reducible refine' s_slL ?hs ?_); (case hs => walk_at "see"))
  | ((with_reducible refine' s_notIn_bt ?h1 ?h2 ?_); (case h1 => walk_at "pl"); (case h2 => walk_at "pl")) | ((with_reducible refine' s_in_bt ?h1 ?h2 ?_); (case h1 => walk_at "pl"); (case h2 => walk_at "pl")) | ((with_reducible refine' s_notIn_t ?h1 ?h2 ?_); (case h1 => walk_at "pl"); (case h2 => walk_at "pl")) | ((with_reducible refine' s_in_t ?h1 ?h2 ?_); (case h1 => walk_at "pl"); (case h2 => walk_at "pl")) | ((with_reducible refine' s_notIn_l ?h1 ?h2 ?_); (case h1 => walk_at "pl"); (case h2 => walk_at "pl")) | ((with_reducible refine' s_in_l ?h1 ?h2 ?_); (case h1 => walk_at "pl"); (case h2 => walk_at "pl"))
  | ((with_reducible refine' s_nilEq ?hi ?_); (case hi => first | exact .lst _ | exact .raw (by walk_at "ext"))) | ((with_reducible refine' s_popE ?hr ?_); (case hr => walk_at "rep"))
  | with_reducible refine s_setL ?_ | with_reducible refine s_setL1 ?_ | with_reducible refine s_setL2 ?_ | ((with_reducible refine' s_addR ?h1 ?h2 ?hz ?_); (case h1 => walk_at "see"); (case h2 => walk_at "see"); (case hz => walk_at "size")) | with_reducible refine s_m1 ?_ | with_reducible refine s_m1K ?_ | with_reducible refine s_m1Q ?_ | with_reducible refine s_lcR ?_ | with_reducible refine s_tupIx ?_ | with_reducible refine s_lenOD ?_ | ((with_reducible refine' s_lenOR ?hx ?_); (case hx => walk_at "ext")) | with_reducible refine s_raise0 ?_ | with_reducible refine s_raise ?_ | with_reducible refine s_tup ?_ | with_reducible refine s_lst ?_ | with_reducible refine s_lstR ?_ | with_reducible refine s_cb ?_ | with_reducible refine s_sl ?_ | with_reducible refine s_noP ?_ | with_reducible refine s_part ?_ | with_reducible refine s_bm ?_ | with_reducible refine s_bm0 ?_ | with_reducible refine s_sfld ?_ | with_reducible refine s_par ?_)
local macro_rules | `(tactic| walk_at "side") => `(tactic| first | assumption | omega | trivial | (decide; done))
local macro_rules | `(tactic| walk_at "wit") => `(tactic| ((repeat apply Exists.intro); (refine' And.intro (rfl : @Eq (List Sl) _ _) ?_); (first | (refine' And.intro (rfl : @Eq (List (Rs _)) _ _) ?_) | (fail_if_success (refine' And.intro (?_ : @Eq (List (Rs _)) _ _) ?_))); (repeat refine' And.intro (by walk_at "side") ?_)))
local macro_rules | `(tactic| walk_at "ask") => `(tactic| first | ((with_reducible refine' s_ask0 ?kk); (case' kk => walk_at "wit")) | ((with_reducible refine' s_ask ?gg ?kk); (case' kk => walk_at "wit"); (case' gg => walk_at "gets")))
local macro_rules | `(tactic| walk_at "d") => `(tactic| repeat walk_at "d1")
local macro_rules | `(tactic| walk_at "in") => `(tactic| simp only [startD, List.length_cons, List.length_nil, Nat.zero_add, Nat.reduceAdd, Nat.reduceSub, List.replicate_succ, List.replicate_zero, List.cons_append, List.nil_append])
local macro_rules | `(tactic| walk_at "yes") => `(tactic| refine if_T (by first | rfl | exact decide_eq_true (by first | assumption | omega) | assumption) ?_)
local macro_rules | `(tactic| walk_at "no") => `(tactic| refine if_F (by first | rfl | exact decide_eq_false (by first | assumption | omega) | assumption) ?_)
local macro_rules | `(tactic| walk_at "nyes") => `(tactic| refine if_T (by first | rfl | (rw [decide_eq_false (by first | assumption | omega)]; rfl)) ?_)
local macro_rules | `(tactic| walk_at "nno") => `(tactic| refine if_F (by first | rfl | (rw [decide_eq_true (by first | assumption | omega)]; rfl)) ?_)
local macro_rules | `(tactic| walk_at "dec") => `(tactic| first | rfl | assumption | (simp (config := { failIfUnchanged := false }) only [*, decide_true, decide_false, decide_eq_true_eq, decide_eq_false_iff_not, Bool.not_true, Bool.not_false, Bool.and_true, Bool.and_false, Bool.true_and, Bool.false_and, Bool.or_true, Bool.or_false, Bool.true_or, Bool.false_or, not_false_eq_true, Bool.not_eq_true']; done))
local macro_rules | `(tactic| walk_at "di") => `(tactic| repeat first | walk_at "d1" | ((with_reducible refine' if_T ?hc ?_); (case hc => walk_at "dec")) | ((with_reducible refine' if_F ?hc ?_); (case hc => walk_at "dec")))
local macro_rules | `(tactic| walk_at "wipe") => `(tactic| simp only [List.map_cons, List.map_nil, wipeD, List.set_cons_zero, List.set_cons_succ])
local macro_rules | `(tactic| walk_at "d2") => `(tactic| first
  | ((with_reducible refine' s_gunl ?hi ?hn ?_); (case hi => first | exact nl5 | exact nl4 | exact nl3 | exact nl2 | exact .lst _ | exact .raw (by walk_at "ext")); (case hn => rfl)) | with_reducible refine s_gv ?_ | with_reducible refine s_meth0 ?_
  | ((with_reducible refine' s_meth0D ?hn ?_); (case hn => (simp (config := { decide := true }) only [List.map, List.mem_cons, List.not_mem_nil, or_false, not_or, not_false_eq_true, and_self])))
  | ((with_reducible refine' s_meth0R ?hx ?hn ?_); (case hx => walk_at "ext"); (case hn => (simp (config := { decide := true }) only [List.map, List.mem_cons, List.not_mem_nil, or_false, not_or, not_false_eq_true, and_self]))))
local macro_rules | `(tactic| walk_at "d") => `(tactic| repeat first | walk_at "d1" | walk_at "d2")
local macro_rules | `(tactic| walk_at "wit1") => `(tactic| ((repeat apply Exists.intro); (refine' And.intro (rfl : @Eq (List Sl) _ _) ?_); (first | (refine' And.intro (rfl : @Eq (List (Rs _)) _ _) ?_) | (fail_if_success (refine' And.intro (?_ : @Eq (List (Rs _)) _ _) ?_)))))
local macro_rules | `(tactic| walk_at "sides") => `(tactic| (repeat refine' And.intro (by walk_at "side") ?_))
local macro_rules | `(tactic| walk_at "ask") => `(tactic| first | ((with_reducible refine' s_ask0 ?kk); (case' kk => walk_at "wit")) | ((with_reducible refine' s_ask ?gg ?kk); (case' kk => walk_at "wit1"); (case' gg => walk_at "gets"); walk_at "sides"))
section
variable {P : Program} {w : World} {K : PySem.W.Frag}
variable {mg : Str → Option Value} {base : Heap}
/-! ### the law's own moments, as lists -/
abbrev lmD (m : Mo) : Da := .lst [.int m.day, .lst (m.cs.map fun c => .int c.sp), .lst (m.cs.map fun c => .int c.lf), .lst (m.cs.map fun c => .bl c.dn), .lst (m.gn.map rotD)]
def D_law_first (M : Md K mg) : SpD K := fun as rs xc q => ∃ (fs : List (Str × Int)), as = [.da (.lst (fs.map fieldD))] ∧ rs = [] ∧ fs.length ≤ 6 ∧ q (.da (lmD (mo0 fs))) []
theorem ok_law_first (M : Md K mg) (G : Gd K mg "_law_first" s_law_first)  : DefR P w K mg base "_law_first" 2 (spD (D_law_first M)) := by
  refine def_mk G fun f fd F => fnr_mk (dfn_ok (k := 1) F sc_law_first (by intro as rs xc q; walk_at "ar") (fun cdv A outer s H E hr => by
    have nd := sc_law_first.nd
    exact (dss_cons (ds_setLc (E' := E0) (E2 := E0) (ps_setLc (i := 1) (own := [("_law_name", 2), ("_law_limit", 3)]) (g := (gTup K 2 (gCons (gName 2) (gCons (gName 3) gNil)))) rfl nd rfl rfl (sw_true rfl rfl rfl (by decide +kernel)) (di_seq (d_var (i := 0) (pv 0))) (blkOk_by (N := N_law_first) (sc := defScope s_law_first) (by decide +kernel)) (fun _ _ _ _ _ => (pg_tupK K (n := 2) rfl (pgs_cons (pg_name (i := 2) nd rfl (by first | exact Or.inl rfl | exact Or.inr rfl)) (pgs_cons (pg_name (i := 3) nd rfl (by first | exact Or.inl rfl | exact Or.inr rfl)) pgs_nil)))) (fun _ _ _ _ _ => dts_nil) (fun _ _ _ _ _ => (d_var (i := 3) (pv 3)))) (tg_tup (tgs_cons (tg_name 2) (tgs_cons (tg_name 3) tgs_nil))) (by decide))
    (dss_one (ds_ret (d_lst (da_cons (d_int pe_int) (da_cons (d_var (i := 1) (pv 1)) (da_cons (d_var (i := 1) (pv 1)) (da_cons (d_op op_rep (pu2 pu_repL) (d_lst (da_cons (d_bl pe_bl) da_nil)) (d_cb1 (pe_len K M.b (d_var (i := 0) (pv 0))) act_len)) (da_cons (d_lst da_nil) da_nil)))))))))) ?_) (F.bindsN (fun _ _ _ _ _ _ us hl => match us, hl with | [_], _ => rfl))
  rintro as rs xc q ⟨fs, rfl, rfl, f6, k⟩
  walk_at "in"
  walk_at "d"
  refine s_lcM fs (fun f => .da (fieldD f)) (fun f => .int f.2) (by rw [List.map_map]; rfl) (by omega) trivial (fun i c T hc ht => ?_) ?_
  · walk_at "wipe"
    walk_at "d"
    exact ht
  · walk_at "d"
    refine s_repL (by omega) (by simp; omega) ?_
    walk_at "d"
    rw [Int.toNat_natCast, List.length_map, List.length_map]
    simp only [lmD, mo0, List.map_map, List.map_nil, Function.comp_def, List.map_const'] at k
    exact gv_id k
abbrev pastD (e : Ent) : Da := .tup [opD e.1, lmD e.2.1]
abbrev undD (e : Ent) : Da := .tup [.tup [opD e.1, lmD e.2.1], lmD e.2.2]
abbrev wD (fs : List (Str × Int)) (m : Mo) (past und : List Ent) : Da := .lst [.lst (fs.map fieldD), lmD m, .lst (past.map pastD), .lst (und.map undD)]
def cap7 (f : Str × Int) : Str × Int := (f.1, if f.2 ≤ 7 then f.2 else 7)
theorem prodL_cons (x : Int) (r : List Int) : prodL (x :: r) = x * prodL r := by rw [show x :: r = [x] ++ r from rfl, prodL_app]; simp [prodL]
theorem prod_le : ∀ {l m : List Int}, Paired (fun x y => 1 ≤ x ∧ x ≤ y) l m → 1 ≤ prodL l ∧ prodL l ≤ prodL m
  | _, _, .nil => by decide
  | x :: l, y :: m, .cons ⟨h1, h2⟩ t => by
    obtain ⟨i1, i2⟩ := prod_le t
    rw [prodL_cons, prodL_cons]
    have a := Int.mul_le_mul h1 i1 (by decide) (by omega)
    have b := Int.mul_le_mul h2 i2 (by omega) (by omega)
    omega
theorem cap_ok {fs : List (Str × Int)} (ok : FOk fs) : FOk (fs.map cap7) := by
  have e1 : (fs.map cap7).map (·.1) = fs.map (·.1) := by rw [List.map_map]; rfl
  refine ⟨by rw [List.length_map]; exact ok.one, by rw [List.length_map]; exact ok.six, by rw [e1]; exact ok.nd, fun f hf => ?_, fun f hf => ?_, ?_⟩
  · obtain ⟨g, hg, rfl⟩ := List.mem_map.mp hf; exact ok.nm g hg
  · obtain ⟨g, hg, rfl⟩ := List.mem_map.mp hf
    have := ok.lo g hg
    simp only [cap7]
    split <;> omega
  · refine Int.le_trans (prod_le ?_).2 ok.pr
    have lo := ok.lo
    clear ok e1
    induction fs with
    | nil => exact .nil
    | cons f r ih =>
      refine .cons ?_ (ih fun g hg => lo g (List.mem_cons_of_mem _ hg))
      have := lo f List.mem_cons_self
      simp only [cap7]
      split <;> omega
def D_law_small (M : Md K mg) : SpD K := fun as rs xc q => ∃ d xs, as = [.raw (.ref d)] ∧ rs = [drR d xs] ∧ DrOk xs ∧ ∀ fs xs', FOk fs → fs.length ≤ 4 → DrOk xs' → q (.da (wD fs (mo0 fs) [] [])) [drR d xs']
theorem ok_law_small (M : Md K mg) (G : Gd K mg "_law_small" s_law_small) (R_law_fields : DefR P w K mg base "_law_fields" 6 (spD (D_law_fields M))) (R_law_first : DefR P w K mg base "_law_first" 2 (spD (D_law_first M))) : DefR P w K mg base "_law_small" 8 (spD (D_law_small M)) := by
  refine def_mk G fun f fd F => fnr_mk (dfn_ok (k := 7) F sc_law_small (by intro as rs xc q; walk_at "ar") (fun cdv A outer s H E hr => by
    have nd := sc_law_small.nd
    exact (dss_cons (ds_setLc (E' := E0) (E2 := E0) (ps_setLc (i := 1) (own := [("_law_name", 2), ("_law_limit", 3)]) (g := (gTup K 2 (gCons (gName 2) (gCons (gName 3) gNil)))) rfl nd rfl rfl (sw_true rfl rfl rfl (by decide +kernel)) (di_seq (d_call (pe_callR R_law_fields (hr.mono (by first | decide | omega)) pz_def (da_cons (d_var (i := 0) (pv 0)) (da_cons (d_int pe_int) da_nil))))) (blkOk_by (N := N_law_small) (sc := defScope s_law_small) (by decide +kernel)) (fun _ _ _ _ _ => (pg_tupK K (n := 2) rfl (pgs_cons (pg_name (i := 2) nd rfl (by first | exact Or.inl rfl | exact Or.inr rfl)) (pgs_cons (pg_name (i := 3) nd rfl (by first | exact Or.inl rfl | exact Or.inr rfl)) pgs_nil)))) (fun _ _ _ _ _ => dts_nil) (fun _ _ _ _ _ => (d_tup (da_cons (d_var (i := 2) (pv 2)) (da_cons (d_cb1 (pe_min1 K M.b (d_lst (da_cons (d_var (i := 3) (pv 3)) (da_cons (d_int pe_int) da_nil)))) act_minL) da_nil))))) (tg_tup (tgs_cons (tg_name 2) (tgs_cons (tg_name 3) tgs_nil))) (by decide))
    (dss_one (ds_ret (d_lst (da_cons (d_var (i := 1) (pv 1)) (da_cons (d_call (pe_callR R_law_first (hr.mono (by first | decide | omega)) pz_def (da_cons (d_var (i := 1) (pv 1)) da_nil))) (da_cons (d_lst da_nil) (da_cons (d_lst da_nil) da_nil))))))))) ?_) (F.bindsN (fun _ _ _ _ _ _ us hl => match us, hl with | [_], _ => rfl))
  rintro as rs xc q ⟨d, xs, rfl, rfl, ok, k⟩
  walk_at "in"
  walk_at "d"
  walk_at "ask"
  intro fs xs' fok fl ok'
  have f6 := fok.six
  walk_at "d"
  refine s_lcM fs (fun f => .da (fieldD f)) (fun f => fieldD (cap7 f)) (by rw [List.map_map]; rfl) (by omega) trivial (fun i c T hc ht => ?_) ?_
  · walk_at "wipe"
    walk_at "d"
    refine ⟨_, [c.2, 7], rfl, .da _, by simp, fun mn mm mle => ?_⟩
    have e : mn = if c.2 ≤ 7 then c.2 else 7 := by
      have h1 := mle c.2 (by simp)
      have h2 := mle 7 (by simp)
      have h3 : mn = c.2 ∨ mn = 7 := by simpa using mm
      split <;> omega
    subst e
    walk_at "d"
    exact ht
  · rw [show (fs.map fun f => fieldD (cap7 f)) = (fs.map cap7).map fieldD by rw [List.map_map]; rfl]
    walk_at "d"
    refine s_ask0 ⟨fs.map cap7, rfl, rfl, by rw [List.length_map]; exact f6, ?_⟩
    walk_at "d"
    exact gv_id (k _ _ (cap_ok fok) (by rw [List.length_map]; exact fl) ok')
/-! a list by its places -/
theorem by_place {α : Type} (c0 : α) (cs : List α) : (List.range cs.length).map (fun k => cs.getD k c0) = cs := by
  refine List.ext_getElem? fun i => ?_
  rw [List.getElem?_map]
  by_cases h : i < cs.length
  · rw [List.getElem?_range h, List.getElem?_eq_getElem h]; simp [List.getD, List.getElem?_eq_getElem h]
  · rw [List.getElem?_eq_none (by rw [List.length_range]; omega), List.getElem?_eq_none (by omega)]; rfl
theorem place_get {α : Type} {c0 : α} {cs : List α} {k : Nat} (h : k < cs.length) : cs[k]? = some (cs.getD k c0) := by
  rw [List.getElem?_eq_getElem h]; simp [List.getD, List.getElem?_eq_getElem h]
theorem place_map {α β : Type} (c0 : α) (cs : List α) (f : α → β) : (List.range cs.length).map (fun k => f (cs.getD k c0)) = cs.map f := by
  conv => rhs; rw [← by_place c0 cs]
  rw [List.map_map]; rfl
theorem place_filter {α β : Type} (c0 : α) (cs : List α) (p : α → Bool) (f : α → β) : ((List.range cs.length).filter fun k => p (cs.getD k c0)).map (fun k => f (cs.getD k c0)) = (cs.filter p).map f := by
  conv => rhs; rw [← by_place c0 cs]
  rw [List.filter_map]; exact List.map_map.symm
theorem anyD_int (i : Int) (zs : List Int) : anyD (.int i) (zs.map .int) = decide (i ∈ zs) := by
  unfold anyD
  rw [List.any_map]
  induction zs with
  | nil => rfl
  | cons y r ih =>
    rw [List.any_cons, ih]
    show (PyData.eqv (.int y) (.int i) || _) = _
    simp only [PyData.eqv]
    by_cases e : y = i
    · subst e; simp
    · have : i ≠ y := fun q => e q.symm
      simp [e, this]
def cell0 : Cell := ⟨"", 0, 0, false⟩
/-- the places of what rots -/
def rotIx (cs : List Cell) : List Nat := (List.range cs.length).filter fun k => (cs.getD k cell0).rot
theorem rotIx_mem {cs : List Cell} {k : Nat} (h : k < cs.length) : decide (((k : Nat) : Int) ∈ (rotIx cs).map fun k => ((k : Nat) : Int)) = (cs.getD k cell0).rot := by
  have : (((k : Nat) : Int) ∈ (rotIx cs).map fun k => ((k : Nat) : Int)) ↔ (cs.getD k cell0).rot = true := by
    rw [List.mem_map]
    constructor
    · rintro ⟨j, hj, e⟩
      obtain rfl : j = k := by omega
      exact (List.mem_filter.mp hj).2
    · exact fun e => ⟨k, List.mem_filter.mpr ⟨List.mem_range.mpr h, e⟩, rfl⟩
  by_cases e : (cs.getD k cell0).rot = true
  · rw [decide_eq_true (this.mpr e), e]
  · rw [decide_eq_false fun z => e (this.mp z)]; simpa using e
def D_law_later (M : Md K mg) : SpD K := fun as rs xc q => ∃ (fs : List (Str × Int)) (m : Mo), as = [.da (.lst (fs.map fieldD)), .da (lmD m)] ∧ rs = [] ∧ fs.length ≤ 6 ∧ m.cs.map Cell.nm = fs.map Prod.fst ∧ m.gn.length ≤ 1000000 ∧ q (.da (lmD m.later)) []
theorem rng_nat (n : Nat) : rngS 0 (((n : Nat) : Int).toNat) = (List.range n).map fun k => Sl.da (.int ((k : Nat) : Int)) := by
  unfold rngS
  rw [Int.toNat_natCast]
  exact List.map_congr_left fun k _ => by rw [Int.zero_add]
theorem ok_law_later (M : Md K mg) (G : Gd K mg "_law_later" s_law_later)  : DefR P w K mg base "_law_later" 2 (spD (D_law_later M)) := by
  refine def_mk G fun f fd F => fnr_mk (dfn_ok (k := 1) F sc_law_later (by intro as rs xc q; walk_at "ar") (fun cdv A outer s H E hr => by
    have nd := sc_law_later.nd
    exact (dss_cons (ds_asg (d_var (i := 1) (pv 1)) (pg_unlK K (n := 5) rfl (pgs_cons (pg_name (i := 2) nd rfl (by first | exact Or.inl rfl | exact Or.inr rfl)) (pgs_cons (pg_name (i := 3) nd rfl (by first | exact Or.inl rfl | exact Or.inr rfl)) (pgs_cons (pg_name (i := 4) nd rfl (by first | exact Or.inl rfl | exact Or.inr rfl)) (pgs_cons (pg_name (i := 5) nd rfl (by first | exact Or.inl rfl | exact Or.inr rfl)) (pgs_cons (pg_name (i := 6) nd rfl (by first | exact Or.inl rfl | exact Or.inr rfl)) pgs_nil)))))) (tg_unl (tgs_cons (tg_name 2) (tgs_cons (tg_name 3) (tgs_cons (tg_name 4) (tgs_cons (tg_name 5) (tgs_cons (tg_name 6) tgs_nil)))))))
    (dss_cons (ds_set (i := 7) nd rfl (by first | exact Or.inl rfl | exact Or.inr rfl) (d_lc (E' := E0) (E2 := E0) (pe_lc (own := [("_law_k", 8)]) (g := (gName 8)) rfl nd (di_rng1 (pi_range1 rfl M.b.range (da_cons (d_cb1 (pe_len K M.b (d_var (i := 0) (pv 0))) act_len) da_nil))) (blkOk_by (N := N_law_later) (sc := defScope s_law_later) (by decide +kernel)) (fun _ _ _ _ _ => (pg_name (i := 8) nd rfl (by first | exact Or.inl rfl | exact Or.inr rfl))) (fun _ _ _ _ _ => (dts_one (PW.pt (dw_and (dt_cmp (op_eqK K hr) (pu2 pu_eq) (d_ix (d_var (i := 4) (pv 4)) (d_var (i := 8) (pv 8))) (d_int pe_int)) (dw_and1 (dt_not (dt_val (d_ix (d_var (i := 5) (pv 5)) (d_var (i := 8) (pv 8)))))))))) (fun _ _ _ _ _ => (d_var (i := 8) (pv 8)))) (tg_name 8) (by decide)))
    (dss_cons (ds_setLc (E' := E0) (E2 := E0) (ps_setLc (i := 9) (own := [("_law_k", 8)]) (g := (gName 8)) rfl nd rfl rfl (sw_true rfl rfl rfl (by decide +kernel)) (di_rng1 (pi_range1 rfl M.b.range (da_cons (d_cb1 (pe_len K M.b (d_var (i := 0) (pv 0))) act_len) da_nil))) (blkOk_by (N := N_law_later) (sc := defScope s_law_later) (by decide +kernel)) (fun _ _ _ _ _ => (pg_name (i := 8) nd rfl (by first | exact Or.inl rfl | exact Or.inr rfl))) (fun _ _ _ _ _ => dts_nil) (fun _ _ _ _ _ => (d_if (PW.pt (dw_or (dt_val (d_ix (d_var (i := 5) (pv 5)) (d_var (i := 8) (pv 8)))) (dw_or1 (dt_cmp (op_inK K hr) (pu2 pu_in) (d_var (i := 8) (pv 8)) (d_var (i := 7) (pv 7)))))) (d_ix (d_var (i := 3) (pv 3)) (d_var (i := 8) (pv 8))) (d_op op_sub (pu2 (pu_I0 fun _ _ _ _ => .int _)) (d_ix (d_var (i := 4) (pv 4)) (d_var (i := 8) (pv 8))) (d_int pe_int))))) (tg_name 8) (by decide))
    (dss_one (ds_ret (d_lst (da_cons (d_op (op_addK K) (pu2 pu_add) (d_var (i := 2) (pv 2)) (d_int pe_int)) (da_cons (d_var (i := 3) (pv 3)) (da_cons (d_var (i := 9) (pv 9)) (da_cons (d_op op_rep (pu2 pu_repL) (d_lst (da_cons (d_bl pe_bl) da_nil)) (d_cb1 (pe_len K M.b (d_var (i := 0) (pv 0))) act_len)) (da_cons (d_op (op_addK K) (pu2 pu_add) (d_var (i := 6) (pv 6)) (d_lc (E' := E0) (E2 := E0) (pe_lc (own := [("_law_k", 8)]) (g := (gName 8)) rfl nd (di_seq (d_var (i := 7) (pv 7))) (blkOk_by (N := N_law_later) (sc := defScope s_law_later) (by decide +kernel)) (fun _ _ _ _ _ => (pg_name (i := 8) nd rfl (by first | exact Or.inl rfl | exact Or.inr rfl))) (fun _ _ _ _ _ => dts_nil) (fun _ _ _ _ _ => (d_tup (da_cons (d_var (i := 2) (pv 2)) (da_cons (d_ix (d_ix (d_var (i := 0) (pv 0)) (d_var (i := 8) (pv 8))) (d_int pe_int)) da_nil))))) (tg_name 8) (by decide))) da_nil)))))))))))) ?_) (F.bindsN (fun _ _ _ _ _ _ us hl => match us, hl with | [_, _], _ => rfl))
  rintro as rs xc q ⟨fs, m, rfl, rfl, f6, nms, g6, k⟩
  obtain ⟨dy, cs, gn⟩ := m
  have l6 : fs.length = cs.length := by have := congrArg List.length nms; simpa using this.symm
  have get : ∀ {k : Nat}, k ∈ List.range cs.length → cs[k]? = some (cs.getD k cell0) := fun h => place_get (List.mem_range.mp h)
  walk_at "in"
  walk_at "d"
  refine s_rng1K (by simp; omega) ?_
  rw [List.length_map, List.length_map, l6, rng_nat]
  refine s_lcP (List.range cs.length) _ (fun k => (cs.getD k cell0).rot) (fun k => .int ((k : Nat) : Int)) rfl (by rw [List.length_range]; omega) trivial (fun i k T N hc ht hn => ?_) ?_
  · have hk := get (List.mem_of_getElem? hc)
    generalize cs.getD k cell0 = c at *
    walk_at "wipe"
    walk_at "d"
    by_cases e : c.lf = 1
    · refine if_T (decide_eq_true e) ?_
      walk_at "d"
      cases hd : c.dn
      · refine if_T rfl ?_
        walk_at "d"
        exact ht (by simp [Cell.rot, e, hd])
      · exact if_F rfl (hn (by simp [Cell.rot, e, hd]))
    · refine if_F (decide_eq_false e) ?_
      exact if_F rfl (hn (by simp [Cell.rot, e]))
  · walk_at "d"
    refine s_rng1K (by simp; omega) ?_
    rw [List.length_map, List.length_map, l6, rng_nat]
    refine s_lcM (List.range cs.length) _ (fun k => .int (cs.getD k cell0).next.lf) rfl (by rw [List.length_range]; omega) trivial (fun i k T hc ht => ?_) ?_
    · have kl := List.mem_range.mp (List.mem_of_getElem? hc)
      have hk := get (List.mem_of_getElem? hc)
      have hr := rotIx_mem kl
      generalize cs.getD k cell0 = c at *
      walk_at "wipe"
      walk_at "d"
      cases hd : c.dn
      · refine if_F rfl ?_
        walk_at "d"
        rw [show ((List.range cs.length).filter fun k => (cs.getD k cell0).rot).map (fun k => Da.int ((k : Nat) : Int)) = ((rotIx cs).map fun k => ((k : Nat) : Int)).map .int by rw [List.map_map]; rfl]
        walk_at "d"
        rw [anyD_int, hr]
        cases hq : c.rot
        · refine if_F rfl ?_
          walk_at "d"
          rw [show c.lf - 1 = c.next.lf by simp [Cell.next, hq, hd]]
          exact ht
        · refine if_T rfl ?_
          walk_at "d"
          rw [show c.sp = c.next.lf by simp [Cell.next, hq]]
          exact ht
      · refine if_T rfl ?_
        refine if_T rfl ?_
        walk_at "d"
        rw [show c.sp = c.next.lf by simp [Cell.next, hd]]
        exact ht
    · walk_at "d"
      refine s_repL (by simp) (by simp; omega) ?_
      walk_at "d"
      refine s_lcM (rotIx cs) (fun k => .da (.int ((k : Nat) : Int))) (fun k => rotD (dy, (cs.getD k cell0).nm)) (by rw [List.map_map]; rfl) (by have := List.length_filter_le (fun k => (cs.getD k cell0).rot) (List.range cs.length); rw [List.length_range] at this; unfold rotIx; omega) trivial (fun i k T hc ht => ?_) ?_
      · have kl := List.mem_range.mp (List.mem_filter.mp (List.mem_of_getElem? hc)).1
        have hf : (fs.map Prod.fst)[k]? = some (cs.getD k cell0).nm := by rw [← nms, List.getElem?_map, place_get (c0 := cell0) kl]; rfl
        rw [List.getElem?_map] at hf
        obtain ⟨f, ef, en⟩ := Option.map_eq_some_iff.mp hf
        walk_at "wipe"
        walk_at "d"
        rw [en]
        exact ht
      · have rl := rots_len dy cs
        walk_at "d"
        have e1 : (rotIx cs).map (fun k => rotD (dy, (cs.getD k cell0).nm)) = (rots dy cs).map rotD := by
          unfold rots rotIx
          rw [place_filter cell0 cs Cell.rot (fun c => rotD (dy, c.nm)), List.map_map]; rfl
        have e2 : (List.range cs.length).map (fun k => Da.int (cs.getD k cell0).next.lf) = cs.map fun c => .int c.next.lf := place_map cell0 cs fun c => Da.int c.next.lf
        rw [e1, e2]
        refine s_add_l (by simp [sizeLine_eq] at g6 ⊢; omega) ?_
        walk_at "d"
        rw [Int.toNat_natCast, List.length_map, List.length_map, l6]
        simp only [lmD, Mo.later, List.map_map, Function.comp_def, Cell.next, List.map_const', List.map_append] at k ⊢
        exact gv_id k

end
section
variable {P : Program} {w : World} {K : PySem.W.Frag}
variable {mg : Str → Option Value} {base : Heap}
/-! ### operations -/
inductive OpU where
  | op (o : Op) | undo | redo
abbrev ouD : OpU → Da
  | .op o => opD o
  | .undo => .tup [.str "undo"]
  | .redo => .tup [.str "redo"]
def OpOk : OpU → Prop
  | .op (.harvest z) => PyData.strOk z = true
  | .op (.wait n) => 0 ≤ n ∧ n ≤ 1001
  | .op (.change z _) => PyData.strOk z = true
  | _ => True
def D_law_operation (M : Md K mg) : SpD K := fun as rs xc q => ∃ (d : Addr) (fs : List (Str × Int)) (xs : List Int), as = [.raw (.ref d), .da (.lst (fs.map fieldD))] ∧ rs = [drR d xs] ∧ DrOk xs ∧ FOk fs ∧ ∀ o xs', OpOk o → DrOk xs' → q (.da (ouD o)) [drR d xs']
theorem six_ix {r : Int} (h0 : 0 ≤ r) (h1 : r < 6) : ∃ j : Int, (j = 0 ∨ j = 1 ∨ j = 2) ∧ atI (([.int 0, .int 0, .int 0, .int 0, .int 1, .int 2] : List Da).map Sl.da) r = some (.da (.int j)) := by
  rcases (by omega : r = 0 ∨ r = 1 ∨ r = 2 ∨ r = 3 ∨ r = 4 ∨ r = 5) with rfl | rfl | rfl | rfl | rfl | rfl
  · exact ⟨0, by decide, rfl⟩
  · exact ⟨0, by decide, rfl⟩
  · exact ⟨0, by decide, rfl⟩
  · exact ⟨0, by decide, rfl⟩
  · exact ⟨1, by decide, rfl⟩
  · exact ⟨2, by decide, rfl⟩
theorem three_ix {a b c j : Int} (h : j = 0 ∨ j = 1 ∨ j = 2) : ∃ n : Int, (n = a ∨ n = b ∨ n = c) ∧ atI (([.int a, .int b, .int c] : List Da).map Sl.da) j = some (.da (.int n)) := by
  rcases h with rfl | rfl | rfl
  · exact ⟨a, .inl rfl, rfl⟩
  · exact ⟨b, .inr (.inl rfl), rfl⟩
  · exact ⟨c, .inr (.inr rfl), rfl⟩
theorem ok_law_operation (M : Md K mg) (G : Gd K mg "_law_operation" s_law_operation) (R_law_below : DefR P w K mg base "_law_below" 2 (spD (D_law_below M))) : DefR P w K mg base "_law_operation" 4 (spD (D_law_operation M)) := by
  refine def_mk G fun f fd F => fnr_mk (dfn_ok (k := 3) F sc_law_operation (by intro as rs xc q; walk_at "ar") (fun cdv A outer s H E hr => by
    have nd := sc_law_operation.nd
    exact (dss_cons (ds_par (ps_par (i := 2) (j := 3) rfl nd rfl rfl (by decide) rfl rfl (da_cons (d_call (pe_callR R_law_below (hr.mono (by first | decide | omega)) pz_def (da_cons (d_var (i := 0) (pv 0)) (da_cons (d_int pe_int) da_nil)))) (da_cons (d_ix (d_ix (d_var (i := 1) (pv 1)) (d_call (pe_callR R_law_below (hr.mono (by first | decide | omega)) pz_def (da_cons (d_var (i := 0) (pv 0)) (da_cons (d_cb1 (pe_len K M.b (d_var (i := 1) (pv 1))) act_len) da_nil))))) (d_int pe_int)) da_nil)) (by rfl)))
    (dss_cons (ds_set (i := 3) nd rfl (by first | exact Or.inl rfl | exact Or.inr rfl) (d_if (dt_cmp (op_eqK K hr) (pu2 pu_eq) (d_call (pe_callR R_law_below (hr.mono (by first | decide | omega)) pz_def (da_cons (d_var (i := 0) (pv 0)) (da_cons (d_int pe_int) da_nil)))) (d_int pe_int)) (d_str pe_str) (d_var (i := 3) (pv 3))))
    (dss_cons (ds_if (dt_cmp op_lt (pu2 (pu_I0 fun _ _ _ _ => .bl _)) (d_var (i := 2) (pv 2)) (d_int pe_int)) (dss_one (ds_ret (d_tup (da_cons (d_str pe_str) (da_cons (d_var (i := 3) (pv 3)) da_nil))))) dss_nil)
    (dss_cons (ds_if (dt_cmp op_lt (pu2 (pu_I0 fun _ _ _ _ => .bl _)) (d_var (i := 2) (pv 2)) (d_int pe_int)) (dss_one (ds_ret (d_tup (da_cons (d_str pe_str) (da_cons (d_ix (d_lst (da_cons (d_call (pe_callR R_law_below (hr.mono (by first | decide | omega)) pz_def (da_cons (d_var (i := 0) (pv 0)) (da_cons (d_int pe_int) da_nil)))) (da_cons (d_call (pe_callR R_law_below (hr.mono (by first | decide | omega)) pz_def (da_cons (d_var (i := 0) (pv 0)) (da_cons (d_int pe_int) da_nil)))) (da_cons (d_int pe_int) da_nil)))) (d_ix (d_lst (da_cons (d_int pe_int) (da_cons (d_int pe_int) (da_cons (d_int pe_int) (da_cons (d_int pe_int) (da_cons (d_int pe_int) (da_cons (d_int pe_int) da_nil))))))) (d_call (pe_callR R_law_below (hr.mono (by first | decide | omega)) pz_def (da_cons (d_var (i := 0) (pv 0)) (da_cons (d_int pe_int) da_nil)))))) da_nil))))) dss_nil)
    (dss_cons (ds_if (dt_cmp op_lt (pu2 (pu_I0 fun _ _ _ _ => .bl _)) (d_var (i := 2) (pv 2)) (d_int pe_int)) (dss_one (ds_ret (d_tup (da_cons (d_str pe_str) (da_cons (d_var (i := 3) (pv 3)) (da_cons (d_ix (d_lst (da_cons (d_op (op_addK K) (pu2 pu_add) (d_int pe_int) (d_call (pe_callR R_law_below (hr.mono (by first | decide | omega)) pz_def (da_cons (d_var (i := 0) (pv 0)) (da_cons (d_int pe_int) da_nil))))) (da_cons (d_int pe_int) (da_cons (d_int pe_int) da_nil)))) (d_ix (d_lst (da_cons (d_int pe_int) (da_cons (d_int pe_int) (da_cons (d_int pe_int) (da_cons (d_int pe_int) (da_cons (d_int pe_int) (da_cons (d_int pe_int) da_nil))))))) (d_call (pe_callR R_law_below (hr.mono (by first | decide | omega)) pz_def (da_cons (d_var (i := 0) (pv 0)) (da_cons (d_int pe_int) da_nil)))))) da_nil)))))) dss_nil)
    (dss_one (ds_ret (d_tup (da_cons (d_ix (d_lst (da_cons (d_str pe_str) (da_cons (d_str pe_str) (da_cons (d_str pe_str) (da_cons (d_str pe_str) da_nil))))) (d_op op_sub (pu2 (pu_I0 fun _ _ _ _ => .int _)) (d_var (i := 2) (pv 2)) (d_int pe_int))) da_nil)))))))))) ?_) (F.bindsN (fun _ _ _ _ _ _ us hl => match us, hl with | [_, _], _ => rfl))
  rintro as rs xc q ⟨d, fs, xs, rfl, rfl, ok, fok, k⟩
  have f6 := fok.six
  have f1 := fok.one
  walk_at "in"
  walk_at "d"
  walk_at "ask"
  rintro kind xs1 k0 k1 ok1
  walk_at "d"
  refine' s_ask ?g ⟨d, _, xs1, rfl, rfl, ok1, by simp; omega, by simp; omega, fun r xs2 r0 r1 ok2 => ?_⟩
  case g => walk_at "gets"
  simp only [List.length_map] at r1
  obtain ⟨i, rfl⟩ : ∃ i : Nat, r = (i : Nat) := ⟨r.toNat, by omega⟩
  obtain ⟨f, hf⟩ : ∃ f, fs[i]? = some f := ⟨_, List.getElem?_eq_getElem (by omega)⟩
  have fz := (fok.nm f (List.mem_of_getElem? hf)).str
  walk_at "d"
  walk_at "ask"
  rintro r3 xs3 r30 r31 ok3
  walk_at "d"
  refine if_D (fun e => ?_) (fun e => ?_)
  all_goals
    walk_at "d"
    refine if_D (fun e1 => ?_) (fun e1 => ?_)
    · walk_at "d"
      exact gv_id (k (.op (.harvest _)) xs3 (by first | exact fz | (show PyData.strOk _ = true; decide +kernel)) ok3)
    walk_at "d"
    refine if_D (fun e2 => ?_) (fun e2 => ?_)
    · walk_at "d"
      walk_at "ask"
      rintro a xs4 a0 a1 ok4
      walk_at "d"
      walk_at "ask"
      rintro b xs5 b0 b1 ok5
      walk_at "d"
      walk_at "ask"
      rintro r6 xs6 r60 r61 ok6
      obtain ⟨j, hj, ej⟩ := six_ix r60 r61
      obtain ⟨n, hn, en⟩ := three_ix (a := a) (b := b) (c := 1001) hj
      walk_at "d"
      refine s_ix (.lst _) ej trivial ?_
      refine s_ix (.lst _) en trivial ?_
      walk_at "d"
      exact gv_id (k (.op (.wait n)) xs6 (show 0 ≤ n ∧ n ≤ 1001 by rcases hn with rfl | rfl | rfl <;> omega) ok6)
    walk_at "d"
    refine if_D (fun e3 => ?_) (fun e3 => ?_)
    · walk_at "d"
      walk_at "ask"
      rintro a xs4 a0 a1 ok4
      walk_at "d"
      walk_at "ask"
      rintro r6 xs6 r60 r61 ok6
      obtain ⟨j, hj, ej⟩ := six_ix r60 r61
      obtain ⟨n, hn, en⟩ := three_ix (a := 1 + a) (b := 0) (c := 31) hj
      walk_at "d"
      refine s_ix (.lst _) ej trivial ?_
      refine s_ix (.lst _) en trivial ?_
      walk_at "d"
      exact gv_id (k (.op (.change _ n)) xs6 (by first | exact fz | (show PyData.strOk _ = true; decide +kernel)) ok6)
    walk_at "d"
    have four : kind - 10 = 0 ∨ kind - 10 = 1 ∨ kind - 10 = 2 ∨ kind - 10 = 3 := by omega
    generalize kind - 10 = kk at four
    rcases four with rfl | rfl | rfl | rfl
    · refine s_ix (w := .da (.str "undo")) (.lst _) rfl trivial ?_
      walk_at "d"
      exact gv_id (k .undo xs3 trivial ok3)
    · refine s_ix (w := .da (.str "undo")) (.lst _) rfl trivial ?_
      walk_at "d"
      exact gv_id (k .undo xs3 trivial ok3)
    · refine s_ix (w := .da (.str "redo")) (.lst _) rfl trivial ?_
      walk_at "d"
      exact gv_id (k .redo xs3 trivial ok3)
    · refine s_ix (w := .da (.str "redo")) (.lst _) rfl trivial ?_
      walk_at "d"
      exact gv_id (k .redo xs3 trivial ok3)

end
section
variable {P : Program} {w : World} {K : PySem.W.Frag}
variable {mg : Str → Option Value} {base : Heap}
/-! ### what an operation does, as a function -/
def fieldAt : List Cell → Str → Option (Nat × Cell)
  | [], _ => none
  | c :: r, z => if c.nm = z then some (0, c) else (fieldAt r z).map fun p => (p.1 + 1, p.2)
theorem fieldAt_some {z : Str} : ∀ {cs : List Cell} {j : Nat} {c : Cell}, cs[j]? = some c → c.nm = z → (∀ i c', i < j → cs[i]? = some c' → c'.nm ≠ z) → fieldAt cs z = some (j, c)
  | [], _, _, h, _, _ => by cases h
  | a :: r, 0, c, h, e, _ => by cases h; rw [fieldAt, if_pos e]
  | a :: r, j + 1, c, h, e, lt => by
    rw [fieldAt, if_neg (lt 0 a (by omega) rfl), fieldAt_some (cs := r) (j := j) (by simpa using h) e fun i c' hi hc => lt (i + 1) c' (by omega) (by simpa using hc)]; rfl
theorem fieldAt_get {z : Str} : ∀ {cs : List Cell} {j : Nat} {c : Cell}, fieldAt cs z = some (j, c) → cs[j]? = some c ∧ c.nm = z ∧ ∀ i c', i < j → cs[i]? = some c' → c'.nm ≠ z
  | [], _, _, h => by cases h
  | a :: r, j, c, h => by
    rw [fieldAt] at h
    split at h
    · rename_i e
      cases h
      exact ⟨rfl, e, fun i _ hi => absurd hi (Nat.not_lt_zero i)⟩
    · rename_i ne
      obtain ⟨⟨j1, c1⟩, h1, h2⟩ := Option.map_eq_some_iff.mp h
      cases h2
      obtain ⟨g1, g2, g3⟩ := fieldAt_get h1
      refine ⟨by simpa using g1, g2, fun i c' hi hc => ?_⟩
      cases i with
      | zero => cases hc; exact ne
      | succ i => exact g3 i c' (by omega) (by simpa using hc)
theorem fieldAt_none {z : Str} : ∀ {cs : List Cell}, fieldAt cs z = none ↔ z ∉ cs.map Cell.nm
  | [] => by simp [fieldAt]
  | a :: r => by
    rw [fieldAt]
    by_cases e : a.nm = z
    · rw [if_pos e]; simp [e]
    · rw [if_neg e, Option.map_eq_none_iff, fieldAt_none (cs := r)]
      have : z ≠ a.nm := fun q => e q.symm
      simp [this]
def opStep (m : Mo) : Op → Sum ErrK (Da × Mo)
  | .harvest z => match fieldAt m.cs z with
    | none => .inl (.field z)
    | some (j, c) => .inr (.bl (!c.dn), { m with cs := m.cs.set j { c with dn := true } })
  | .wait n => if n ≤ 1000 then .inr (.lst (((laterN n.toNat m).gn.drop m.gn.length).map rotD), laterN n.toNat m) else .inl .num
  | .change z l => match fieldAt m.cs z with
    | none => .inl (.field z)
    | some (j, c) => if 1 ≤ l ∧ l ≤ 30 then .inr (.int c.sp, { m with cs := m.cs.set j (c.lim l) }) else .inl .num
def chD (m : Mo) : Sum ErrK (Da × Mo) → Da
  | .inl e => .tup [e.da, .int 0, lmD m]
  | .inr (v, m') => .tup [.non, v, lmD m']
theorem nm_set {cs : List Cell} {j : Nat} {c c' : Cell} (h : cs[j]? = some c) (e : c'.nm = c.nm) : (cs.set j c').map Cell.nm = cs.map Cell.nm := (set_same h e.symm).symm
theorem opStep_ok {m m' : Mo} {o : Op} {v : Da} (h : opStep m o = .inr (v, m')) : m'.cs.map Cell.nm = m.cs.map Cell.nm ∧ (OpOk (.op o) → m'.gn.length ≤ m.gn.length + 1000 * m.cs.length) := by
  cases o with
  | harvest z =>
    rw [opStep] at h
    split at h
    · cases h
    · rename_i j c e
      cases h
      exact ⟨nm_set (fieldAt_get e).1 rfl, fun _ => Nat.le_add_right _ _⟩
  | wait n =>
    rw [opStep] at h
    split at h
    · rename_i h1
      cases h
      obtain ⟨g1, g2, _⟩ := laterN_ok m n.toNat
      exact ⟨g1, fun h0 => Nat.le_trans g2 (by have := Nat.mul_le_mul_right m.cs.length (show n.toNat ≤ 1000 by omega); omega)⟩
    · cases h
  | change z l =>
    rw [opStep] at h
    split at h
    · cases h
    · rename_i j c e
      split at h
      · cases h
        exact ⟨nm_set (fieldAt_get e).1 rfl, fun _ => Nat.le_add_right _ _⟩
      · cases h
theorem lm_done {m : Mo} {j : Nat} {c : Cell} (hj : m.cs[j]? = some c) : lmD { m with cs := m.cs.set j { c with dn := true } } = .lst [.int m.day, .lst (m.cs.map fun c => .int c.sp), .lst (m.cs.map fun c => .int c.lf), .lst ((m.cs.map fun c => Da.bl c.dn).set j (.bl true)), .lst (m.gn.map rotD)] := by
  have e1 := set_same (f := fun c : Cell => Da.int c.sp) hj (y := { c with dn := true }) rfl
  have e2 := set_same (f := fun c : Cell => Da.int c.lf) hj (y := { c with dn := true }) rfl
  have e3 : (m.cs.map fun c => Da.bl c.dn).set j (.bl true) = _ := set_map (fun c : Cell => Da.bl c.dn) m.cs j { c with dn := true }
  rw [lmD, ← e1, ← e2, e3]
theorem lm_lim {m : Mo} {j : Nat} {c : Cell} {l : Int} (hj : m.cs[j]? = some c) : lmD { m with cs := m.cs.set j (c.lim l) } = .lst [.int m.day, .lst ((m.cs.map fun c => Da.int c.sp).set j (.int l)), .lst ((m.cs.map fun c => Da.int c.lf).set j (.int (if l < c.lf then l else c.lf))), .lst (m.cs.map fun c => .bl c.dn), .lst (m.gn.map rotD)] := by
  have e1 := set_same (f := fun c : Cell => Da.bl c.dn) hj (y := c.lim l) rfl
  have e2 : (m.cs.map fun c => Da.int c.sp).set j (.int l) = _ := set_map (fun c : Cell => Da.int c.sp) m.cs j (c.lim l)
  have e3 : (m.cs.map fun c => Da.int c.lf).set j (.int (if l < c.lf then l else c.lf)) = _ := set_map (fun c : Cell => Da.int c.lf) m.cs j (c.lim l)
  rw [lmD, ← e1, e2, e3]
def D_law_changed (M : Md K mg) : SpD K := fun as rs xc q => ∃ (fs : List (Str × Int)) (m : Mo) (o : Op), as = [.da (.lst (fs.map fieldD)), .da (lmD m), .da (opD o)] ∧ rs = [] ∧ fs.length ≤ 6 ∧ m.cs.map Cell.nm = fs.map Prod.fst ∧ m.gn.length ≤ 900000 ∧ OpOk (.op o) ∧ q (.da (chD m (opStep m o))) []
theorem s_index_s {zs : List Str} {z : Str} {rs : List (Rs K)} {q : QD K} (j : Nat) (h1 : zs[j]? = some z) (h2 : ∀ m, m < j → zs[m]? ≠ some z) (h : q (.da (.int (j : Nat))) rs) : aIndex (.da (.lst (zs.map .str))) [.da (.str z)] rs q := by
  refine ⟨zs.map .str, .str z, j, .da _, rfl, rfl, pls_map fun _ => rfl, ⟨.str z, by rw [List.getElem?_map, h1]; rfl, by simp [pyD, PyData.eqv]⟩, fun m y lt hy => ?_, h⟩
  obtain ⟨x, hx, rfl⟩ := getm hy
  have : x ≠ z := fun e => h2 m lt (by rw [hx, e])
  simpa [pyD, PyData.eqv] using this
theorem ok_law_changed (M : Md K mg) (G : Gd K mg "_law_changed" s_law_changed) (R_law_later : DefR P w K mg base "_law_later" 2 (spD (D_law_later M))) : DefR P w K mg base "_law_changed" 4 (spD (D_law_changed M)) := by
  refine def_mk G fun f fd F => fnr_mk (dfn_ok (k := 3) F sc_law_changed (by intro as rs xc q; walk_at "ar") (fun cdv A outer s H E hr => by
    have nd := sc_law_changed.nd
    exact (dss_cons (ds_par (ps_par (i := 3) (j := 4) rfl nd rfl rfl (by decide) rfl rfl (da_cons (d_ix (d_var (i := 2) (pv 2)) (d_int pe_int)) (da_cons (d_lc (E' := E0) (E2 := E0) (pe_lc (own := [("_law_name", 5), ("_law_limit", 6)]) (g := (gTup K 2 (gCons (gName 5) (gCons (gName 6) gNil)))) rfl nd (di_seq (d_var (i := 0) (pv 0))) (blkOk_by (N := N_law_changed) (sc := defScope s_law_changed) (by decide +kernel)) (fun _ _ _ _ _ => (pg_tupK K (n := 2) rfl (pgs_cons (pg_name (i := 5) nd rfl (by first | exact Or.inl rfl | exact Or.inr rfl)) (pgs_cons (pg_name (i := 6) nd rfl (by first | exact Or.inl rfl | exact Or.inr rfl)) pgs_nil)))) (fun _ _ _ _ _ => dts_nil) (fun _ _ _ _ _ => (d_var (i := 5) (pv 5)))) (tg_tup (tgs_cons (tg_name 5) (tgs_cons (tg_name 6) tgs_nil))) (by decide)) da_nil)) (by rfl)))
    (dss_cons (ds_if (dt_cmp (op_eqK K hr) (pu2 pu_eq) (d_var (i := 3) (pv 3)) (d_str pe_str)) (dss_cons (ds_if (dt_cmp op_gt (pu2 (pu_I0 fun _ _ _ _ => .bl _)) (d_ix (d_var (i := 2) (pv 2)) (d_int pe_int)) (d_int pe_int)) (dss_one (ds_ret (d_tup (da_cons (d_tup (da_cons (d_str pe_str) (da_cons (d_int pe_int) da_nil))) (da_cons (d_int pe_int) (da_cons (d_var (i := 1) (pv 1)) da_nil)))))) dss_nil)
    (dss_cons (ds_set (i := 7) nd rfl (by first | exact Or.inl rfl | exact Or.inr rfl) (d_var (i := 1) (pv 1)))
    (dss_cons (ds_for po_def rfl (di_rng1 (pi_range1 rfl M.b.range (da_cons (d_ix (d_var (i := 2) (pv 2)) (d_int pe_int)) da_nil))) (pg_name (i := 8) nd rfl (by first | exact Or.inl rfl | exact Or.inr rfl)) (tg_name 8) (dss_one (ds_set (i := 7) nd rfl (by first | exact Or.inl rfl | exact Or.inr rfl) (d_call (pe_callR R_law_later (hr.mono (by first | decide | omega)) pz_def (da_cons (d_var (i := 0) (pv 0)) (da_cons (d_var (i := 7) (pv 7)) da_nil)))))))
    (dss_one (ds_ret (d_tup (da_cons (d_non pe_non) (da_cons (d_sl (pe_slice (sl_X K) (d_ix (d_var (i := 7) (pv 7)) (d_int pe_int)) (do_some (d_cb1 (pe_len K M.b (d_ix (d_var (i := 1) (pv 1)) (d_int pe_int))) act_len)) do_none)) (da_cons (d_var (i := 7) (pv 7)) da_nil))))))))) dss_nil)
    (dss_cons (ds_if (dt_cmp (op_notInK K hr) (pu2 pu_notIn) (d_ix (d_var (i := 2) (pv 2)) (d_int pe_int)) (d_var (i := 4) (pv 4))) (dss_one (ds_ret (d_tup (da_cons (d_tup (da_cons (d_str pe_str) (da_cons (d_ix (d_var (i := 2) (pv 2)) (d_int pe_int)) da_nil))) (da_cons (d_int pe_int) (da_cons (d_var (i := 1) (pv 1)) da_nil)))))) dss_nil)
    (dss_cons (ds_set (i := 9) nd rfl (by first | exact Or.inl rfl | exact Or.inr rfl) (d_bm (as_bm K (pe_bm PySem.F.plainAttrs_list PySem.F.slot_list_index PySem.F.type_list_index (mt_indexK K) (d_var (i := 4) (pv 4)) (da_cons (d_ix (d_var (i := 2) (pv 2)) (d_int pe_int)) da_nil))) act_index))
    (dss_cons (ds_asg (d_var (i := 1) (pv 1)) (pg_unlK K (n := 5) rfl (pgs_cons (pg_name (i := 10) nd rfl (by first | exact Or.inl rfl | exact Or.inr rfl)) (pgs_cons (pg_name (i := 11) nd rfl (by first | exact Or.inl rfl | exact Or.inr rfl)) (pgs_cons (pg_name (i := 12) nd rfl (by first | exact Or.inl rfl | exact Or.inr rfl)) (pgs_cons (pg_name (i := 13) nd rfl (by first | exact Or.inl rfl | exact Or.inr rfl)) (pgs_cons (pg_name (i := 14) nd rfl (by first | exact Or.inl rfl | exact Or.inr rfl)) pgs_nil)))))) (tg_unl (tgs_cons (tg_name 10) (tgs_cons (tg_name 11) (tgs_cons (tg_name 12) (tgs_cons (tg_name 13) (tgs_cons (tg_name 14) tgs_nil)))))))
    (dss_cons (ds_if (dt_cmp (op_eqK K hr) (pu2 pu_eq) (d_var (i := 3) (pv 3)) (d_str pe_str)) (dss_one (ds_ret (d_tup (da_cons (d_non pe_non) (da_cons (d_not (d_ix (d_var (i := 13) (pv 13)) (d_var (i := 9) (pv 9)))) (da_cons (d_lst (da_cons (d_var (i := 10) (pv 10)) (da_cons (d_var (i := 11) (pv 11)) (da_cons (d_var (i := 12) (pv 12)) (da_cons (d_op (op_addK K) (pu2 pu_add) (d_op (op_addK K) (pu2 pu_add) (d_sl (pe_slice (sl_X K) (d_var (i := 13) (pv 13)) do_none (do_some (d_var (i := 9) (pv 9))))) (d_lst (da_cons (d_bl pe_bl) da_nil))) (d_sl (pe_slice (sl_X K) (d_var (i := 13) (pv 13)) (do_some (d_op (op_addK K) (pu2 pu_add) (d_var (i := 9) (pv 9)) (d_int pe_int))) do_none))) (da_cons (d_var (i := 14) (pv 14)) da_nil)))))) da_nil)))))) dss_nil)
    (dss_cons (ds_set (i := 6) nd rfl (by first | exact Or.inl rfl | exact Or.inr rfl) (d_ix (d_var (i := 2) (pv 2)) (d_int pe_int)))
    (dss_cons (ds_if (dt_not (dt_chain op_le (pu2 (pu_I0 fun _ _ _ _ => .bl _)) op_le (pu2 (pu_I0 fun _ _ _ _ => .bl _)) (d_int pe_int) (d_var (i := 6) (pv 6)) (d_int pe_int))) (dss_one (ds_ret (d_tup (da_cons (d_tup (da_cons (d_str pe_str) (da_cons (d_int pe_int) da_nil))) (da_cons (d_int pe_int) (da_cons (d_var (i := 1) (pv 1)) da_nil)))))) dss_nil)
    (dss_cons (ds_set (i := 7) nd rfl (by first | exact Or.inl rfl | exact Or.inr rfl) (d_op (op_addK K) (pu2 pu_add) (d_op (op_addK K) (pu2 pu_add) (d_sl (pe_slice (sl_X K) (d_var (i := 12) (pv 12)) do_none (do_some (d_var (i := 9) (pv 9))))) (d_lst (da_cons (d_cb1 (pe_min1 K M.b (d_lst (da_cons (d_ix (d_var (i := 12) (pv 12)) (d_var (i := 9) (pv 9))) (da_cons (d_var (i := 6) (pv 6)) da_nil)))) act_minL) da_nil))) (d_sl (pe_slice (sl_X K) (d_var (i := 12) (pv 12)) (do_some (d_op (op_addK K) (pu2 pu_add) (d_var (i := 9) (pv 9)) (d_int pe_int))) do_none))))
    (dss_one (ds_ret (d_tup (da_cons (d_non pe_non) (da_cons (d_ix (d_var (i := 11) (pv 11)) (d_var (i := 9) (pv 9))) (da_cons (d_lst (da_cons (d_var (i := 10) (pv 10)) (da_cons (d_op (op_addK K) (pu2 pu_add) (d_op (op_addK K) (pu2 pu_add) (d_sl (pe_slice (sl_X K) (d_var (i := 11) (pv 11)) do_none (do_some (d_var (i := 9) (pv 9))))) (d_lst (da_cons (d_var (i := 6) (pv 6)) da_nil))) (d_sl (pe_slice (sl_X K) (d_var (i := 11) (pv 11)) (do_some (d_op (op_addK K) (pu2 pu_add) (d_var (i := 9) (pv 9)) (d_int pe_int))) do_none))) (da_cons (d_var (i := 7) (pv 7)) (da_cons (d_var (i := 13) (pv 13)) (da_cons (d_var (i := 14) (pv 14)) da_nil)))))) da_nil)))))))))))))))) ?_) (F.bindsN (fun _ _ _ _ _ _ us hl => match us, hl with | [_, _, _], _ => rfl))
  rintro as rs xc q ⟨fs, m, o, rfl, rfl, f6, nms, g9, ook, k⟩
  have l6 : m.cs.length = fs.length := by have := congrArg List.length nms; simpa using this
  have enm : (fs.map fun f => Da.str f.1) = (m.cs.map Cell.nm).map .str := by rw [nms, List.map_map]; rfl
  walk_at "in"
  cases o with
  | wait n =>
    obtain ⟨n0, n1⟩ := (show 0 ≤ n ∧ n ≤ 1001 from ook)
    walk_at "d"
    refine s_lcM fs (fun f => .da (fieldD f)) (fun f => .str f.1) (by rw [List.map_map]; rfl) (by omega) trivial (fun i c T hc ht => ?_) ?_
    · walk_at "wipe"
      walk_at "d"
      exact ht
    walk_at "d"
    refine if_T rfl ?_
    walk_at "d"
    refine if_D (fun e => ?_) (fun e => ?_)
    · walk_at "d"
      rw [opStep, if_neg (by omega)] at k
      exact gv_id k
    walk_at "d"
    rw [opStep, if_pos (by omega)] at k
    refine s_rng1K (by omega) ?_
    refine s_forK (fun i sl rs => ∃ u, sl = [.da (.lst (fs.map fieldD)), .da (lmD m), .da (opD (.wait n)), .da (.str "wait"), .da (.lst (fs.map fun f => .str f.1)), .no, .no, .da (lmD (laterN i m)), u, .no, .no, .no, .no, .no, .no] ∧ rs = []) ?_ ?_ ?_ ?_
    · exact gs_id ⟨_, rfl, rfl⟩
    · exact fun _ _ _ _ => trivial
    · rintro i y sl rs hy ⟨u, rfl, rfl⟩
      obtain ⟨lt, rfl⟩ := rngS_get hy
      obtain ⟨h1, h2, _⟩ := laterN_ok m i
      have h4 : i * m.cs.length ≤ 1000 * 6 := Nat.mul_le_mul (by omega) (by omega)
      walk_at "d"
      refine s_ask0 ⟨fs, laterN i m, rfl, rfl, f6, by rw [h1, nms], by omega, ?_⟩
      walk_at "d"
      exact gs_id ⟨_, rfl, rfl⟩
    · rintro sl rs ⟨u, rfl, rfl⟩
      refine gs_id ?_
      rw [rngS_len]
      walk_at "d"
      rw [List.length_map, List.length_map, cutG_from, ← List.map_drop]
      exact gv_id k
  | harvest z =>
    walk_at "d"
    refine s_lcM fs (fun f => .da (fieldD f)) (fun f => .str f.1) (by rw [List.map_map]; rfl) (by omega) trivial (fun i c T hc ht => ?_) ?_
    · walk_at "wipe"
      walk_at "d"
      exact ht
    rw [enm]
    walk_at "d"
    refine if_F rfl ?_
    walk_at "d"
    rw [anyD_str]
    cases hf : fieldAt m.cs z with
    | none =>
      rw [opStep, hf] at k
      refine if_ND (fun e => ?_) (fun e => absurd e (fieldAt_none.mp hf))
      walk_at "d"
      exact gv_id k
    | some p =>
      obtain ⟨j, c⟩ := p
      obtain ⟨hj, hn, hlt⟩ := fieldAt_get hf
      have lt : j < m.cs.length := (List.getElem?_eq_some_iff.mp hj).1
      rw [opStep, hf] at k
      refine if_ND (fun e => absurd hf (by rw [fieldAt_none.mpr e]; nofun)) (fun e => ?_)
      walk_at "d"
      refine s_index_s j (by rw [at_nm hj, hn]) (at_nm_ne hlt) ?_
      walk_at "d"
      refine if_T rfl ?_
      walk_at "d"
      have s1 := cutG_le (m.cs.map fun c => Da.bl c.dn) none (some (j : Int))
      have s2 := cutG_le (m.cs.map fun c => Da.bl c.dn) (some ((j : Int) + 1)) none
      simp only [List.length_map] at s1 s2
      try (refine s_add_l (by simp only [List.length_append, List.length_cons, List.length_nil, sizeLine_eq]; omega) ?_; walk_at "d")
      try (refine s_add_l (by simp only [List.length_append, List.length_cons, List.length_nil, sizeLine_eq]; omega) ?_; walk_at "d")
      rw [set_cut _ j _ (by rw [List.length_map]; exact lt)]
      rw [chD, lm_done hj] at k
      exact gv_id k
  | change z l =>
    walk_at "d"
    refine s_lcM fs (fun f => .da (fieldD f)) (fun f => .str f.1) (by rw [List.map_map]; rfl) (by omega) trivial (fun i c T hc ht => ?_) ?_
    · walk_at "wipe"
      walk_at "d"
      exact ht
    rw [enm]
    walk_at "d"
    refine if_F rfl ?_
    walk_at "d"
    rw [anyD_str]
    cases hf : fieldAt m.cs z with
    | none =>
      rw [opStep, hf] at k
      refine if_ND (fun e => ?_) (fun e => absurd e (fieldAt_none.mp hf))
      walk_at "d"
      exact gv_id k
    | some p =>
      obtain ⟨j, c⟩ := p
      obtain ⟨hj, hn, hlt⟩ := fieldAt_get hf
      have lt : j < m.cs.length := (List.getElem?_eq_some_iff.mp hj).1
      rw [opStep, hf] at k
      refine if_ND (fun e => absurd hf (by rw [fieldAt_none.mpr e]; nofun)) (fun e => ?_)
      walk_at "d"
      refine s_index_s j (by rw [at_nm hj, hn]) (at_nm_ne hlt) ?_
      walk_at "d"
      refine if_F rfl ?_
      walk_at "d"
      refine if_D (fun l1 => ?_) (fun l1 => ?_)
      · walk_at "d"
        refine if_ND (fun l2 => ?_) (fun l2 => ?_)
        · walk_at "d"
          dsimp only at k
          rw [if_neg (by omega)] at k
          exact gv_id k
        · walk_at "d"
          dsimp only at k
          rw [if_pos ⟨l1, l2⟩, chD, lm_lim hj] at k
          have s1 := cutG_le (m.cs.map fun c => Da.int c.lf) none (some (j : Int))
          have s2 := cutG_le (m.cs.map fun c => Da.int c.lf) (some ((j : Int) + 1)) none
          have t1 := cutG_le (m.cs.map fun c => Da.int c.sp) none (some (j : Int))
          have t2 := cutG_le (m.cs.map fun c => Da.int c.sp) (some ((j : Int) + 1)) none
          simp only [List.length_map] at s1 s2 t1 t2
          refine ⟨_, [c.lf, l], rfl, .da _, by simp, fun mn mm mle => ?_⟩
          have e : mn = if l < c.lf then l else c.lf := by
            have h1 := mle c.lf (by simp)
            have h2 := mle l (by simp)
            have h3 : mn = c.lf ∨ mn = l := by simpa using mm
            split <;> omega
          subst e
          walk_at "d"
          try (refine s_add_l (by simp only [List.length_append, List.length_cons, List.length_nil, sizeLine_eq]; omega) ?_; walk_at "d")
          try (refine s_add_l (by simp only [List.length_append, List.length_cons, List.length_nil, sizeLine_eq]; omega) ?_; walk_at "d")
          try (refine s_add_l (by simp only [List.length_append, List.length_cons, List.length_nil, sizeLine_eq]; omega) ?_; walk_at "d")
          try (refine s_add_l (by simp only [List.length_append, List.length_cons, List.length_nil, sizeLine_eq]; omega) ?_; walk_at "d")
          rw [set_cut _ j _ (by rw [List.length_map]; exact lt), set_cut _ j _ (by rw [List.length_map]; exact lt)]
          exact gv_id k
      · walk_at "d"
        refine if_T rfl ?_
        walk_at "d"
        dsimp only at k
        rw [if_neg (by omega)] at k
        exact gv_id k

end
section
variable {P : Program} {w : World} {K : PySem.W.Frag}
variable {mg : Str → Option Value} {base : Heap}
/-! ### a step of the law's own state; the same step by the live farm -/
structure WSt where
  m : Mo
  past : List Ent
  und : List Ent
def wStep (s : WSt) : OpU → Option ErrK × Da × WSt
  | .undo => match s.past.getLast? with
    | none => (none, .bl false, s)
    | some e => (none, .bl true, ⟨e.2.1, s.past.dropLast, s.und ++ [e]⟩)
  | .redo => match s.und.getLast? with
    | none => (none, .bl false, s)
    | some e => (none, .bl true, ⟨e.2.2, s.past ++ [e], s.und.dropLast⟩)
  | .op o => match opStep s.m o with
    | .inl e => (some e, .int 0, ⟨s.m, s.past ++ [(o, s.m, s.m)], []⟩)
    | .inr (v, m') => (none, v, ⟨m', s.past ++ [(o, s.m, m')], []⟩)
def errD : Option ErrK → Da
  | none => .non
  | some e => e.da
def D_law_worked (M : Md K mg) : SpD K := fun as rs xc q => ∃ (fs : List (Str × Int)) (s : WSt) (o : OpU), as = [.da (wD fs s.m s.past s.und), .da (ouD o)] ∧ rs = [] ∧ fs.length ≤ 6 ∧ s.m.cs.map Cell.nm = fs.map Prod.fst ∧ s.m.gn.length ≤ 900000 ∧ s.past.length ≤ 1000 ∧ s.und.length ≤ 1000 ∧ OpOk o ∧ (∀ e, s.past.getLast? = some e → e.2.2 = s.m) ∧
  q (.da (.tup [errD (wStep s o).1, (wStep s o).2.1, wD fs (wStep s o).2.2.m (wStep s o).2.2.past (wStep s o).2.2.und])) []
theorem ok_law_worked (M : Md K mg) (G : Gd K mg "_law_worked" s_law_worked) (R_law_changed : DefR P w K mg base "_law_changed" 4 (spD (D_law_changed M))) : DefR P w K mg base "_law_worked" 6 (spD (D_law_worked M)) := by
  refine def_mk G fun f fd F => fnr_mk (dfn_ok (k := 5) F sc_law_worked (by intro as rs xc q; walk_at "ar") (fun cdv A outer s H E hr => by
    have nd := sc_law_worked.nd
    exact (dss_cons (ds_asg (d_var (i := 0) (pv 0)) (pg_unlK K (n := 4) rfl (pgs_cons (pg_name (i := 2) nd rfl (by first | exact Or.inl rfl | exact Or.inr rfl)) (pgs_cons (pg_name (i := 3) nd rfl (by first | exact Or.inl rfl | exact Or.inr rfl)) (pgs_cons (pg_name (i := 4) nd rfl (by first | exact Or.inl rfl | exact Or.inr rfl)) (pgs_cons (pg_name (i := 5) nd rfl (by first | exact Or.inl rfl | exact Or.inr rfl)) pgs_nil))))) (tg_unl (tgs_cons (tg_name 2) (tgs_cons (tg_name 3) (tgs_cons (tg_name 4) (tgs_cons (tg_name 5) tgs_nil))))))
    (dss_cons (ds_if (dt_cmp (op_eqK K hr) (pu2 pu_eq) (d_ix (d_var (i := 1) (pv 1)) (d_int pe_int)) (d_str pe_str)) (dss_cons (ds_if (dt_cmp (op_eqNilK K hr) act_nil (d_var (i := 4) (pv 4)) (d_lst da_nil)) (dss_one (ds_ret (d_tup (da_cons (d_non pe_non) (da_cons (d_bl pe_bl) (da_cons (d_var (i := 0) (pv 0)) da_nil)))))) dss_nil)
    (dss_one (ds_ret (d_tup (da_cons (d_non pe_non) (da_cons (d_bl pe_bl) (da_cons (d_lst (da_cons (d_var (i := 2) (pv 2)) (da_cons (d_ix (d_ix (d_var (i := 4) (pv 4)) (d_un un_neg (pu1 (pu_U fun _ _ _ => .int _)) (d_int pe_int))) (d_int pe_int)) (da_cons (d_sl (pe_slice (sl_X K) (d_var (i := 4) (pv 4)) do_none (do_some (d_un un_neg (pu1 (pu_U fun _ _ _ => .int _)) (d_int pe_int))))) (da_cons (d_op (op_addK K) (pu2 pu_add) (d_var (i := 5) (pv 5)) (d_lst (da_cons (d_tup (da_cons (d_ix (d_var (i := 4) (pv 4)) (d_un un_neg (pu1 (pu_U fun _ _ _ => .int _)) (d_int pe_int))) (da_cons (d_var (i := 3) (pv 3)) da_nil))) da_nil))) da_nil))))) da_nil))))))) dss_nil)
    (dss_cons (ds_if (dt_cmp (op_eqK K hr) (pu2 pu_eq) (d_ix (d_var (i := 1) (pv 1)) (d_int pe_int)) (d_str pe_str)) (dss_cons (ds_if (dt_cmp (op_eqNilK K hr) act_nil (d_var (i := 5) (pv 5)) (d_lst da_nil)) (dss_one (ds_ret (d_tup (da_cons (d_non pe_non) (da_cons (d_bl pe_bl) (da_cons (d_var (i := 0) (pv 0)) da_nil)))))) dss_nil)
    (dss_cons (ds_asg (d_ix (d_var (i := 5) (pv 5)) (d_un un_neg (pu1 (pu_U fun _ _ _ => .int _)) (d_int pe_int))) (pg_tupK K (n := 2) rfl (pgs_cons (pg_name (i := 6) nd rfl (by first | exact Or.inl rfl | exact Or.inr rfl)) (pgs_cons (pg_name (i := 7) nd rfl (by first | exact Or.inl rfl | exact Or.inr rfl)) pgs_nil))) (tg_tup (tgs_cons (tg_name 6) (tgs_cons (tg_name 7) tgs_nil))))
    (dss_one (ds_ret (d_tup (da_cons (d_non pe_non) (da_cons (d_bl pe_bl) (da_cons (d_lst (da_cons (d_var (i := 2) (pv 2)) (da_cons (d_var (i := 7) (pv 7)) (da_cons (d_op (op_addK K) (pu2 pu_add) (d_var (i := 4) (pv 4)) (d_lst (da_cons (d_var (i := 6) (pv 6)) da_nil))) (da_cons (d_sl (pe_slice (sl_X K) (d_var (i := 5) (pv 5)) do_none (do_some (d_un un_neg (pu1 (pu_U fun _ _ _ => .int _)) (d_int pe_int))))) da_nil))))) da_nil)))))))) dss_nil)
    (dss_cons (ds_asg (d_call (pe_callR R_law_changed (hr.mono (by first | decide | omega)) pz_def (da_cons (d_var (i := 2) (pv 2)) (da_cons (d_var (i := 3) (pv 3)) (da_cons (d_var (i := 1) (pv 1)) da_nil))))) (pg_tupK K (n := 3) rfl (pgs_cons (pg_name (i := 8) nd rfl (by first | exact Or.inl rfl | exact Or.inr rfl)) (pgs_cons (pg_name (i := 9) nd rfl (by first | exact Or.inl rfl | exact Or.inr rfl)) (pgs_cons (pg_name (i := 7) nd rfl (by first | exact Or.inl rfl | exact Or.inr rfl)) pgs_nil)))) (tg_tup (tgs_cons (tg_name 8) (tgs_cons (tg_name 9) (tgs_cons (tg_name 7) tgs_nil)))))
    (dss_one (ds_ret (d_tup (da_cons (d_var (i := 8) (pv 8)) (da_cons (d_var (i := 9) (pv 9)) (da_cons (d_lst (da_cons (d_var (i := 2) (pv 2)) (da_cons (d_var (i := 7) (pv 7)) (da_cons (d_op (op_addK K) (pu2 pu_add) (d_var (i := 4) (pv 4)) (d_lst (da_cons (d_tup (da_cons (d_var (i := 1) (pv 1)) (da_cons (d_var (i := 3) (pv 3)) da_nil))) da_nil))) (da_cons (d_lst da_nil) da_nil))))) da_nil))))))))))) ?_) (F.bindsN (fun _ _ _ _ _ _ us hl => match us, hl with | [_, _], _ => rfl))
  rintro as rs xc q ⟨fs, ⟨m, past, und⟩, o, rfl, rfl, f6, nms, g9, p9, u9, ook, ch, k⟩
  dsimp only at nms g9 p9 u9 ch
  walk_at "in"
  cases o with
  | undo =>
    walk_at "d"
    refine if_T rfl ?_
    walk_at "d"
    rcases List.eq_nil_or_concat past with rfl | ⟨pre, e, rfl⟩
    · refine if_T rfl ?_
      walk_at "d"
      exact gv_id k
    · rw [List.concat_eq_append] at *
      have le : (pre ++ [e]).getLast? = some e := by simp
      have em := ch e le
      refine if_F (by simp) ?_
      walk_at "d"
      have atL : atI (((pre ++ [e]).map pastD).map Sl.da) (-1) = some (.da (pastD e)) := atI_last (by simp)
      refine s_ix (.lst _) atL trivial ?_
      walk_at "d"
      refine s_ix (.lst _) atL trivial ?_
      walk_at "d"
      rw [cutG_dropLast, ← List.map_dropLast]
      simp only [wStep, le, errD] at k
      rw [show ((und.map undD) ++ [Da.tup [pastD e, lmD m]]) = (und ++ [e]).map undD by rw [List.map_append, List.map_cons, List.map_nil, undD, pastD, em]]
      exact gv_id k
  | redo =>
    walk_at "d"
    refine if_F rfl ?_
    walk_at "d"
    refine if_T rfl ?_
    walk_at "d"
    rcases List.eq_nil_or_concat und with rfl | ⟨pre, e, rfl⟩
    · refine if_T rfl ?_
      walk_at "d"
      exact gv_id k
    · rw [List.concat_eq_append] at *
      have le : (pre ++ [e]).getLast? = some e := by simp
      refine if_F (by simp) ?_
      walk_at "d"
      have atL : atI (((pre ++ [e]).map undD).map Sl.da) (-1) = some (.da (undD e)) := atI_last (by simp)
      refine s_ix (.lst _) atL trivial ?_
      walk_at "d"
      rw [cutG_dropLast, ← List.map_dropLast]
      simp only [wStep, le, errD] at k
      rw [show past.map pastD ++ [Da.tup [opD e.1, lmD e.2.1]] = (past ++ [e]).map pastD by rw [List.map_append]; rfl]
      exact gv_id k
  | op o =>
    have h0 : ∃ z l, opD o = .tup (.str z :: l) ∧ z ≠ "undo" ∧ z ≠ "redo" ∧ PyData.strOk z = true := by
      cases o
      · exact ⟨_, _, rfl, by decide +kernel, by decide +kernel, by decide +kernel⟩
      · exact ⟨_, _, rfl, by decide +kernel, by decide +kernel, by decide +kernel⟩
      · exact ⟨_, _, rfl, by decide +kernel, by decide +kernel, by decide +kernel⟩
    obtain ⟨z, l, ez, n1, n2, _⟩ := h0
    have eo : ouD (.op o) = opD o := rfl
    rw [eo]
    generalize hd : opD o = od at *
    subst ez
    walk_at "d"
    refine if_F (decide_eq_false n1) ?_
    walk_at "d"
    refine if_F (decide_eq_false n2) ?_
    walk_at "d"
    refine s_ask0 ⟨fs, m, o, by rw [hd], rfl, f6, nms, g9, ook, ?_⟩
    simp only [wStep] at k
    cases hs : opStep m o with
    | inl e =>
      rw [hs] at k
      walk_at "d"
      try simp only [chD]
      walk_at "d"
      rw [← hd, show past.map pastD ++ [Da.tup [opD o, lmD m]] = (past ++ [((o, m, m) : Ent)]).map pastD by rw [List.map_append]; rfl]
      exact gv_id k
    | inr r =>
      obtain ⟨v, m'⟩ := r
      rw [hs] at k
      walk_at "d"
      try simp only [chD]
      walk_at "d"
      rw [← hd, show past.map pastD ++ [Da.tup [opD o, lmD m]] = (past ++ [((o, m, m') : Ent)]).map pastD by rw [List.map_append]; rfl]
      exact gv_id k
/-- what a call tells: a list is new, and may change -/
def ResQ (v : Da) (q : QD K) (rs : List (Rs K)) : Prop := match v with
  | .lst xs => ∀ l, q (.raw (.ref l)) (lstR l (xs.map .da) :: rs)
  | v => q (.da v) rs
def errX (M : Md K mg) : ErrK → Exn
  | .field z => ⟨M.a_UnknownField, some [("name", .str z)]⟩
  | _ => ⟨M.a_InvalidNumber, none⟩
def D_law_do (M : Md K mg) : SpD K := fun as rs xc q => ∃ a p u fs m past und o, as = [.raw (.ref a), .da (ouD o)] ∧ rs = liveR M a p u fs m past und ∧ 0 < fs.length ∧ fs.length ≤ 6 ∧ m.cs.map Cell.nm = fs.map Prod.fst ∧ m.gn.length ≤ 900000 ∧ past.length ≤ 1000 ∧ und.length ≤ 1000 ∧ OpOk o ∧
  (∀ e, (wStep ⟨m, past, und⟩ o).1 = some e → xc (errX M e) rs) ∧ ((wStep ⟨m, past, und⟩ o).1 = none → ∀ u', ResQ (wStep ⟨m, past, und⟩ o).2.1 q (liveR M a p u' fs (wStep ⟨m, past, und⟩ o).2.2.m (wStep ⟨m, past, und⟩ o).2.2.past (wStep ⟨m, past, und⟩ o).2.2.und))
theorem ok_law_do (M : Md K mg) (G : Gd K mg "_law_do" s_law_do) (M_LiveFarm_harvest : MethR P w K mg base M.a_LiveFarm "harvest" 6 (spD (D_LiveFarm_harvest M))) (M_LiveFarm_wait : MethR P w K mg base M.a_LiveFarm "wait" 6 (spD (D_LiveFarm_wait M))) (M_LiveFarm_change_limit : MethR P w K mg base M.a_LiveFarm "change_limit" 6 (spD (D_LiveFarm_change_limit M))) (M_LiveFarm_undo : MethU P w K mg base M.a_LiveFarm "undo" 2 (spD (D_LiveFarm_undo M))) (M_LiveFarm_redo : MethU P w K mg base M.a_LiveFarm "redo" 2 (spD (D_LiveFarm_redo M))) : DefR P w K mg base "_law_do" 8 (spD (D_law_do M)) := by
  refine def_mk G fun f fd F => fnr_mk (dfn_ok (k := 7) F sc_law_do (by intro as rs xc q; walk_at "ar") (fun cdv A outer s H E hr => by
    have nd := sc_law_do.nd
    exact (dss_cons (ds_set (i := 2) nd rfl (by first | exact Or.inl rfl | exact Or.inr rfl) (d_ix (d_var (i := 1) (pv 1)) (d_int pe_int)))
    (dss_cons (ds_if (dt_cmp (op_eqK K hr) (pu2 pu_eq) (d_var (i := 2) (pv 2)) (d_str pe_str)) (dss_one (ds_ret (d_meth (pe_methR (d_var (i := 0) (pv 0)) M_LiveFarm_harvest.cl M_LiveFarm_harvest.at_ M_LiveFarm_harvest.fn (hr.mono (by first | decide | omega)) pz_def (da_cons (d_ix (d_var (i := 1) (pv 1)) (d_int pe_int)) da_nil))))) dss_nil)
    (dss_cons (ds_if (dt_cmp (op_eqK K hr) (pu2 pu_eq) (d_var (i := 2) (pv 2)) (d_str pe_str)) (dss_one (ds_ret (d_meth (pe_methR (d_var (i := 0) (pv 0)) M_LiveFarm_wait.cl M_LiveFarm_wait.at_ M_LiveFarm_wait.fn (hr.mono (by first | decide | omega)) pz_def (da_cons (d_ix (d_var (i := 1) (pv 1)) (d_int pe_int)) da_nil))))) dss_nil)
    (dss_cons (ds_if (dt_cmp (op_eqK K hr) (pu2 pu_eq) (d_var (i := 2) (pv 2)) (d_str pe_str)) (dss_one (ds_ret (d_meth (pe_methR (d_var (i := 0) (pv 0)) M_LiveFarm_change_limit.cl M_LiveFarm_change_limit.at_ M_LiveFarm_change_limit.fn (hr.mono (by first | decide | omega)) pz_def (da_cons (d_ix (d_var (i := 1) (pv 1)) (d_int pe_int)) (da_cons (d_ix (d_var (i := 1) (pv 1)) (d_int pe_int)) da_nil)))))) dss_nil)
    (dss_one (ds_ret (d_if (dt_cmp (op_eqK K hr) (pu2 pu_eq) (d_var (i := 2) (pv 2)) (d_str pe_str)) (d_meth0 (pe_methU (d_var (i := 0) (pv 0)) M_LiveFarm_undo (hr.mono (by first | decide | omega)) pz_def)) (d_meth0 (pe_methU (d_var (i := 0) (pv 0)) M_LiveFarm_redo (hr.mono (by first | decide | omega)) pz_def)))))))))) ?_) (F.bindsN (fun _ _ _ _ _ _ us hl => match us, hl with | [_, _], _ => rfl))
  rintro as rs xc q ⟨a, p, u, fs, m, past, und, o, rfl, rfl, f0, f6, nms, g9, p9, u9, ook, kx, kq⟩
  walk_at "in"
  cases o with
  | undo =>
    walk_at "d"
    refine if_F rfl ?_
    walk_at "d"
    refine if_F rfl ?_
    walk_at "d"
    refine if_F rfl ?_
    walk_at "d"
    refine if_T rfl ?_
    walk_at "d"
    walk_at "ask"
    refine ⟨fun e => ?_, fun pre e h => ?_⟩
    · subst e
      exact gv_gets (by walk_at "gets") (kq (by first | rfl | trivial) u)
    · subst h
      have le : (pre ++ [e]).getLast? = some e := by simp
      simp only [wStep, le, List.dropLast_concat] at kq
      exact gv_gets (by walk_at "gets") (kq (by first | rfl | trivial) u)
  | redo =>
    walk_at "d"
    refine if_F rfl ?_
    walk_at "d"
    refine if_F rfl ?_
    walk_at "d"
    refine if_F rfl ?_
    walk_at "d"
    refine if_F rfl ?_
    walk_at "d"
    walk_at "ask"
    refine ⟨fun e => ?_, fun pre e h => ?_⟩
    · subst e
      exact gv_gets (by walk_at "gets") (kq (by first | rfl | trivial) u)
    · subst h
      have le : (pre ++ [e]).getLast? = some e := by simp
      simp only [wStep, le, List.dropLast_concat] at kq
      exact gv_gets (by walk_at "gets") (kq (by first | rfl | trivial) u)
  | op o =>
    cases o with
    | harvest z =>
      walk_at "d"
      refine if_T rfl ?_
      walk_at "d"
      walk_at "ask"
      refine ⟨fun h => ?_, fun j c hj hn hlt u' => ?_⟩
      · have hf : fieldAt m.cs z = none := fieldAt_none.mpr (by rw [nms]; exact h)
        simp only [wStep, opStep, hf] at kx
        exact gx_gets (by walk_at "gets") (kx _ rfl)
      · have hf := fieldAt_some hj hn hlt
        simp only [wStep, opStep, hf] at kq
        exact gv_gets (by walk_at "gets") (kq (by first | rfl | trivial) u')
    | wait n =>
      obtain ⟨n0, n1⟩ := (show 0 ≤ n ∧ n ≤ 1001 from ook)
      walk_at "d"
      refine if_F rfl ?_
      walk_at "d"
      refine if_T rfl ?_
      walk_at "d"
      walk_at "ask"
      refine ⟨fun h => ?_, fun _ h2 u' l => ?_⟩
      · simp only [wStep, opStep, if_neg (show ¬ n ≤ 1000 by omega)] at kx
        exact gx_gets (by walk_at "gets") (kx _ rfl)
      · simp only [wStep, opStep, if_pos h2] at kq
        exact gv_gets (by walk_at "gets") (kq (by first | rfl | trivial) u' l)
    | change z l =>
      walk_at "d"
      refine if_F rfl ?_
      walk_at "d"
      refine if_F rfl ?_
      walk_at "d"
      refine if_T rfl ?_
      walk_at "d"
      walk_at "ask"
      refine ⟨fun h => ?_, fun h h2 => ?_, fun l1 l2 j c hj hn hlt u' => ?_⟩
      · have hf : fieldAt m.cs z = none := fieldAt_none.mpr (by rw [nms]; exact h)
        simp only [wStep, opStep, hf] at kx
        exact gx_gets (by walk_at "gets") (kx _ rfl)
      · cases hf : fieldAt m.cs z with
        | none => exact absurd (fieldAt_none.mp hf) (by rw [nms]; exact fun z => z h)
        | some p =>
          obtain ⟨j, c⟩ := p
          simp only [wStep, opStep, hf, if_neg h2] at kx
          exact gx_gets (by walk_at "gets") (kx _ rfl)
      · have hf := fieldAt_some hj hn hlt
        simp only [wStep, opStep, hf, if_pos (And.intro l1 l2)] at kq
        exact gv_gets (by walk_at "gets") (kq (by first | rfl | trivial) u')

end
section
variable {P : Program} {w : World} {K : PySem.W.Frag}
variable {mg : Str → Option Value} {base : Heap}
/-! ### _law_equal, of equal data -/
def eqP : Nat → Da → Prop
  | _, .non => True
  | _, .bl _ => True
  | _, .int _ => True
  | _, .str _ => True
  | n + 1, .tup xs => xs.length ≤ 1000000 ∧ ∀ x ∈ xs, eqP n x
  | n + 1, .lst xs => xs.length ≤ 1000000 ∧ ∀ x ∈ xs, eqP n x
  | _, _ => False
def D_law_equal (_ : Md K mg) : Nat → SpD K
  | 0 => fun _ _ _ _ => False
  | n + 1 => fun as rs xc q => ∃ x, as = [.da x, .da x] ∧ rs = [] ∧ eqP n x ∧ q (.da (.bl true)) []
abbrev noD : SpD K := fun _ _ _ _ => False
theorem never_def {x : Str} {st : Stmt} {N ps : List Str} {k : Nat} (G : Gd K mg x st) (S : FnScope N ps (defScope st)) (bd : ∀ f fd, FnD K x x st f fd → Binds K fd ps []) : DefR P w K mg base x (k + 1) (spD (noD (K := K))) := by
  refine def_mk G fun f fd F => fnr_mk (dfn_ok (t := fun _ _ _ => False) F S (fun as rs xc q h => h.elim) (fun cdv A outer s H E hr => ⟨fun pn s σ H D inv ⟨_, _, _, _, _, _, h, _⟩ => h.elim⟩) fun as rs xc q h => h.elim) (bd f fd F)
theorem all_true (n : Nat) : ((List.range n).map fun _ => true).all id = true := by
  rw [List.all_eq_true]
  intro b hb
  obtain ⟨_, _, rfl⟩ := List.mem_map.mp hb
  rfl
theorem ok_law_equal (M : Md K mg) (G : Gd K mg "_law_equal" s_law_equal) : ∀ n, DefR P w K mg base "_law_equal" (2 * n + 2) (spD (D_law_equal M n))
  | 0 => never_def (k := 1) G sc_law_equal fun f fd F => F.bindsN (fun _ _ _ _ _ _ us hl => match us, hl with | [_, _], _ => rfl)
  | n + 1 => by
    have R_law_equal := ok_law_equal M G n
    refine def_mk G fun f fd F => fnr_mk (dfn_ok (k := 2 * n + 3) F sc_law_equal (by intro as rs xc q; walk_at "ar") (fun cdv A outer s H E hr => by
      have nd := sc_law_equal.nd
      exact (dss_cons (ds_if (dt_cmp op_isN1 act_isN (d_var (i := 1) (pv 1)) (d_non pe_non)) (dss_one (ds_ret (d_cmp op_isN1 act_isN (d_var (i := 0) (pv 0)) (d_non pe_non)))) dss_nil)
    (dss_cons (ds_if (dt_val (d_isi (pe_isiB K M.b M.b.bool bt_bool (d_var (i := 1) (pv 1))))) (dss_one (ds_ret (d_and (d_isi (pe_isiB K M.b M.b.bool bt_bool (d_var (i := 0) (pv 0)))) (pe_one (d_cmp (op_eqK K hr) (pu2 pu_eq) (d_var (i := 0) (pv 0)) (d_var (i := 1) (pv 1))))))) dss_nil)
    (dss_cons (ds_if (dt_val (d_isi (pe_isiB K M.b M.b.int bt_int (d_var (i := 1) (pv 1))))) (dss_one (ds_ret (d_and (d_isi (pe_isiB K M.b M.b.int bt_int (d_var (i := 0) (pv 0)))) (d_and (d_not (d_isi (pe_isiB K M.b M.b.bool bt_bool (d_var (i := 0) (pv 0))))) (pe_one (d_cmp (op_eqK K hr) (pu2 pu_eq) (d_var (i := 0) (pv 0)) (d_var (i := 1) (pv 1)))))))) dss_nil)
    (dss_cons (ds_if (dt_val (d_isi (pe_isiB K M.b M.b.str bt_str (d_var (i := 1) (pv 1))))) (dss_one (ds_ret (d_and (d_isi (pe_isiB K M.b M.b.str bt_str (d_var (i := 0) (pv 0)))) (pe_one (d_cmp (op_eqK K hr) (pu2 pu_eq) (d_var (i := 0) (pv 0)) (d_var (i := 1) (pv 1))))))) dss_nil)
    (dss_cons (ds_if (dt_cmp (op_neK K hr) (pu2 pu_ne) (d_isi (pe_isiB K M.b M.b.tuple bt_tuple (d_var (i := 1) (pv 1)))) (d_isi (pe_isiB K M.b M.b.tuple bt_tuple (d_var (i := 0) (pv 0))))) (dss_one (ds_ret (d_bl pe_bl))) dss_nil)
    (dss_cons (ds_if (dt_cmp (op_neK K hr) (pu2 pu_ne) (d_isi (pe_isiB K M.b M.b.list bt_list (d_var (i := 1) (pv 1)))) (d_isi (pe_isiB K M.b M.b.list bt_list (d_var (i := 0) (pv 0))))) (dss_one (ds_ret (d_bl pe_bl))) dss_nil)
    (dss_cons (ds_if (dt_cmp (op_neK K hr) (pu2 pu_ne) (d_cb1 (pe_len K M.b (d_var (i := 0) (pv 0))) act_len) (d_cb1 (pe_len K M.b (d_var (i := 1) (pv 1))) act_len)) (dss_one (ds_ret (d_bl pe_bl))) dss_nil)
    (dss_one (ds_ret (d_cb1 (pe_all K M.b (d_lc (E' := E0) (E2 := E0) (pe_lc (own := [("_law_k", 2)]) (g := (gName 2)) rfl nd (di_rng1 (pi_range1 rfl M.b.range (da_cons (d_cb1 (pe_len K M.b (d_var (i := 1) (pv 1))) act_len) da_nil))) (blkOk_by (N := N_law_equal) (sc := defScope s_law_equal) (by decide +kernel)) (fun _ _ _ _ _ => (pg_name (i := 2) nd rfl (by first | exact Or.inl rfl | exact Or.inr rfl))) (fun _ _ _ _ _ => dts_nil) (fun _ _ _ _ _ => (d_call (pe_callR R_law_equal (hr.mono (by first | decide | omega)) passN (da_cons (d_ix (d_var (i := 0) (pv 0)) (d_var (i := 2) (pv 2))) (da_cons (d_ix (d_var (i := 1) (pv 1)) (d_var (i := 2) (pv 2))) da_nil)))))) (tg_name 2) (by decide))) act_all))))))))))) ?_) (F.bindsN (fun _ _ _ _ _ _ us hl => match us, hl with | [_, _], _ => rfl))
    rintro as rs xc q ⟨x, rfl, rfl, hx, k⟩
    walk_at "in"
    cases x with
    | non =>
      walk_at "d"
      refine if_T rfl ?_
      walk_at "d"
      exact gv_id k
    | bl b =>
      walk_at "d"
      refine if_F rfl ?_
      walk_at "d"
      refine s_isi rfl rfl ?_
      walk_at "d"
      refine if_T rfl ?_
      walk_at "d"
      refine s_isi rfl rfl ?_
      walk_at "d"
      refine if_T rfl ?_
      walk_at "d"
      rw [decide_eq_true rfl]
      exact gv_id k
    | int i =>
      walk_at "d"
      refine if_F rfl ?_
      walk_at "d"
      refine s_isi rfl rfl ?_
      walk_at "d"
      refine if_F rfl ?_
      walk_at "d"
      refine s_isi rfl rfl ?_
      walk_at "d"
      refine if_T rfl ?_
      walk_at "d"
      refine s_isi rfl rfl ?_
      walk_at "d"
      refine if_T rfl ?_
      walk_at "d"
      refine s_isi rfl rfl ?_
      walk_at "d"
      refine if_T rfl ?_
      walk_at "d"
      rw [decide_eq_true rfl]
      exact gv_id k
    | str z =>
      walk_at "d"
      refine if_F rfl ?_
      walk_at "d"
      refine s_isi rfl rfl ?_
      walk_at "d"
      refine if_F rfl ?_
      walk_at "d"
      refine s_isi rfl rfl ?_
      walk_at "d"
      refine if_F rfl ?_
      walk_at "d"
      refine s_isi rfl rfl ?_
      walk_at "d"
      refine if_T rfl ?_
      walk_at "d"
      refine s_isi rfl rfl ?_
      walk_at "d"
      refine if_T rfl ?_
      walk_at "d"
      rw [decide_eq_true rfl]
      exact gv_id k
    | tup xs =>
      cases n with
      | zero => exact hx.elim
      | succ n =>
      obtain ⟨few, all⟩ := (show xs.length ≤ 1000000 ∧ ∀ y ∈ xs, eqP n y from hx)
      walk_at "d"
      refine if_F rfl ?_
      walk_at "d"
      refine s_isi rfl rfl ?_
      walk_at "d"
      refine if_F rfl ?_
      walk_at "d"
      refine s_isi rfl rfl ?_
      walk_at "d"
      refine if_F rfl ?_
      walk_at "d"
      refine s_isi rfl rfl ?_
      walk_at "d"
      refine if_F rfl ?_
      walk_at "d"
      refine s_isi rfl rfl ?_
      walk_at "d"
      refine s_isi rfl rfl ?_
      walk_at "d"
      refine if_F rfl ?_
      walk_at "d"
      refine s_isi rfl rfl ?_
      walk_at "d"
      refine s_isi rfl rfl ?_
      walk_at "d"
      refine if_F rfl ?_
      walk_at "d"
      refine if_F (by rw [decide_eq_true rfl]; rfl) ?_
      walk_at "d"
      refine s_rng1K (by simp; omega) ?_
      rw [List.length_map, rng_nat]
      refine s_lcM (List.range xs.length) _ (fun _ => .bl true) rfl (by rw [List.length_range]; omega) trivial (fun i j T hc ht => ?_) ?_
      · have hj := List.mem_range.mp (List.mem_of_getElem? hc)
        have hy : xs[j]? = some xs[j] := List.getElem?_eq_getElem hj
        have py := all _ (List.getElem_mem hj)
        generalize xs[j] = y at *
        walk_at "wipe"
        walk_at "d"
        refine s_ix (.tup _) (atI_m hy) trivial ?_
        walk_at "d"
        refine s_ix (.tup _) (atI_m hy) trivial ?_
        walk_at "d"
        refine s_ask0 ⟨y, rfl, rfl, py, ?_⟩
        exact ht
      · walk_at "d"
        refine ⟨_, (List.range xs.length).map fun _ => true, rfl, by rw [List.map_map]; exact .da _, ?_⟩
        show (dEnds q xc).rt (.da (.bl (((List.range xs.length).map fun _ => true).all id))) []
        rw [all_true]
        exact gv_id k
    | lst xs =>
      cases n with
      | zero => exact hx.elim
      | succ n =>
      obtain ⟨few, all⟩ := (show xs.length ≤ 1000000 ∧ ∀ y ∈ xs, eqP n y from hx)
      walk_at "d"
      refine if_F rfl ?_
      walk_at "d"
      refine s_isi rfl rfl ?_
      walk_at "d"
      refine if_F rfl ?_
      walk_at "d"
      refine s_isi rfl rfl ?_
      walk_at "d"
      refine if_F rfl ?_
      walk_at "d"
      refine s_isi rfl rfl ?_
      walk_at "d"
      refine if_F rfl ?_
      walk_at "d"
      refine s_isi rfl rfl ?_
      walk_at "d"
      refine s_isi rfl rfl ?_
      walk_at "d"
      refine if_F rfl ?_
      walk_at "d"
      refine s_isi rfl rfl ?_
      walk_at "d"
      refine s_isi rfl rfl ?_
      walk_at "d"
      refine if_F rfl ?_
      walk_at "d"
      refine if_F (by rw [decide_eq_true rfl]; rfl) ?_
      walk_at "d"
      refine s_rng1K (by simp; omega) ?_
      rw [List.length_map, rng_nat]
      refine s_lcM (List.range xs.length) _ (fun _ => .bl true) rfl (by rw [List.length_range]; omega) trivial (fun i j T hc ht => ?_) ?_
      · have hj := List.mem_range.mp (List.mem_of_getElem? hc)
        have hy : xs[j]? = some xs[j] := List.getElem?_eq_getElem hj
        have py := all _ (List.getElem_mem hj)
        generalize xs[j] = y at *
        walk_at "wipe"
        walk_at "d"
        refine s_ix (.lst _) (atI_m hy) trivial ?_
        walk_at "d"
        refine s_ix (.lst _) (atI_m hy) trivial ?_
        walk_at "d"
        refine s_ask0 ⟨y, rfl, rfl, py, ?_⟩
        exact ht
      · walk_at "d"
        refine ⟨_, (List.range xs.length).map fun _ => true, rfl, by rw [List.map_map]; exact .da _, ?_⟩
        show (dEnds q xc).rt (.da (.bl (((List.range xs.length).map fun _ => true).all id))) []
        rw [all_true]
        exact gv_id k
    | _ => cases n <;> exact hx.elim

end
section
variable {P : Program} {w : World} {K : PySem.W.Frag}
variable {mg : Str → Option Value} {base : Heap}
def D_law_stands (M : Md K mg) : SpD K := fun as rs xc q => ∃ (a p u : Addr) (fs : List (Str × Int)) (s : WSt), as = [.raw (.ref a), .da (wD fs s.m s.past s.und)] ∧ rs = liveR M a p u fs s.m s.past s.und ∧ FOk fs ∧ s.m.cs.map Cell.nm = fs.map Prod.fst ∧ s.m.gn.length ≤ 900000 ∧ s.past.length ≤ 1000 ∧ q (.da (.bl true)) rs
theorem zip_mm {α β γ δ : Type} (f : α → β) (g : α → γ) (h : β × γ → δ) : ∀ cs : List α, ((cs.map f).zip (cs.map g)).map h = cs.map fun c => h (f c, g c)
  | [] => rfl
  | c :: r => congrArg (_ :: ·) (zip_mm f g h r)
theorem op_eqP (o : Op) : eqP 1 (opD o) := by
  cases o
  · exact ⟨by simp, fun x hx => by rcases List.mem_cons.mp hx with rfl | hx; trivial; rcases List.mem_cons.mp hx with rfl | hx; trivial; cases hx⟩
  · exact ⟨by simp, fun x hx => by rcases List.mem_cons.mp hx with rfl | hx; trivial; rcases List.mem_cons.mp hx with rfl | hx; trivial; cases hx⟩
  · exact ⟨by simp, fun x hx => by rcases List.mem_cons.mp hx with rfl | hx; trivial; rcases List.mem_cons.mp hx with rfl | hx; trivial; rcases List.mem_cons.mp hx with rfl | hx; trivial; cases hx⟩
theorem pair_eqP {n : Nat} {x y : Da} (hx : eqP n x) (hy : eqP n y) : eqP (n + 1) (.tup [x, y]) := ⟨by simp, fun z hz => by
  rcases (List.mem_cons.mp hz) with rfl | hz
  · exact hx
  · rcases (List.mem_cons.mp hz) with rfl | hz
    · exact hy
    · cases hz⟩
theorem map_eqP {α : Type} {n : Nat} {f : α → Da} {xs : List α} (hl : xs.length ≤ 1000000) (h : ∀ x, eqP n (f x)) : eqP (n + 1) (.lst (xs.map f)) := ⟨by rw [List.length_map]; exact hl, fun z hz => by
  obtain ⟨x, _, rfl⟩ := List.mem_map.mp hz
  exact h x⟩
theorem ok_law_stands (M : Md K mg) (G : Gd K mg "_law_stands" s_law_stands) (R_law_equal : DefR P w K mg base "_law_equal" 10 (spD (D_law_equal M 4))) (P_LiveFarm_now : PropR P w K mg base M.a_LiveFarm "now" 2 (spD (D_LiveFarm_now M))) (P_LiveFarm_rotten : PropR P w K mg base M.a_LiveFarm "rotten" 2 (spD (D_LiveFarm_rotten M))) (P_LiveFarm_history : PropR P w K mg base M.a_LiveFarm "history" 2 (spD (D_LiveFarm_history M))) (P_LiveFarm_days_left : PropR P w K mg base M.a_LiveFarm "days_left" 4 (spD (D_LiveFarm_days_left M))) (P_LiveFarm_limits_now : PropR P w K mg base M.a_LiveFarm "limits_now" 4 (spD (D_LiveFarm_limits_now M))) : DefR P w K mg base "_law_stands" 12 (spD (D_law_stands M)) := by
  refine def_mk G fun f fd F => fnr_mk (dfn_ok (k := 11) F sc_law_stands (by intro as rs xc q; walk_at "ar") (fun cdv A outer s H E hr => by
    have nd := sc_law_stands.nd
    exact (dss_cons (ds_asg (d_var (i := 1) (pv 1)) (pg_unlK K (n := 4) rfl (pgs_cons (pg_name (i := 2) nd rfl (by first | exact Or.inl rfl | exact Or.inr rfl)) (pgs_cons (pg_name (i := 3) nd rfl (by first | exact Or.inl rfl | exact Or.inr rfl)) (pgs_cons (pg_name (i := 4) nd rfl (by first | exact Or.inl rfl | exact Or.inr rfl)) (pgs_cons (pg_name (i := 5) nd rfl (by first | exact Or.inl rfl | exact Or.inr rfl)) pgs_nil))))) (tg_unl (tgs_cons (tg_name 2) (tgs_cons (tg_name 3) (tgs_cons (tg_name 4) (tgs_cons (tg_name 5) tgs_nil))))))
    (dss_cons (ds_set (i := 6) nd rfl (by first | exact Or.inl rfl | exact Or.inr rfl) (d_lc (E' := E0) (E2 := E0) (pe_lc (own := [("_law_name", 7), ("_law_limit", 8)]) (g := (gTup K 2 (gCons (gName 7) (gCons (gName 8) gNil)))) rfl nd (di_seq (d_var (i := 2) (pv 2))) (blkOk_by (N := N_law_stands) (sc := defScope s_law_stands) (by decide +kernel)) (fun _ _ _ _ _ => (pg_tupK K (n := 2) rfl (pgs_cons (pg_name (i := 7) nd rfl (by first | exact Or.inl rfl | exact Or.inr rfl)) (pgs_cons (pg_name (i := 8) nd rfl (by first | exact Or.inl rfl | exact Or.inr rfl)) pgs_nil)))) (fun _ _ _ _ _ => dts_nil) (fun _ _ _ _ _ => (d_var (i := 7) (pv 7)))) (tg_tup (tgs_cons (tg_name 7) (tgs_cons (tg_name 8) tgs_nil))) (by decide)))
    (dss_cons (ds_set (i := 9) nd rfl (by first | exact Or.inl rfl | exact Or.inr rfl) (d_lst (da_cons (d_prop (pe_propR P_LiveFarm_now (hr.mono (by first | decide | omega)) (d_var (i := 0) (pv 0)))) (da_cons (d_items (LiI.pe_listItems rfl (d_prop (pe_propR P_LiveFarm_days_left (hr.mono (by first | decide | omega)) (d_var (i := 0) (pv 0)))) rfl M.b.list PyProof.Rows.boot_list)) (da_cons (d_items (LiI.pe_listItems rfl (d_prop (pe_propR P_LiveFarm_limits_now (hr.mono (by first | decide | omega)) (d_var (i := 0) (pv 0)))) rfl M.b.list PyProof.Rows.boot_list)) (da_cons (d_gv (d_prop (pe_propR P_LiveFarm_rotten (hr.mono (by first | decide | omega)) (d_var (i := 0) (pv 0))))) (da_cons (d_gv (d_prop (pe_propR P_LiveFarm_history (hr.mono (by first | decide | omega)) (d_var (i := 0) (pv 0))))) da_nil)))))))
    (dss_cons (ds_setLc (E' := E0) (E2 := E0) (ps_setLc (i := 10) (own := [("_law_k", 11)]) (g := (gName 11)) rfl nd rfl rfl (sw_true rfl rfl rfl (by decide +kernel)) (di_rng1 (pi_range1 rfl M.b.range (da_cons (d_cb1 (pe_len K M.b (d_var (i := 6) (pv 6))) act_len) da_nil))) (blkOk_by (N := N_law_stands) (sc := defScope s_law_stands) (by decide +kernel)) (fun _ _ _ _ _ => (pg_name (i := 11) nd rfl (by first | exact Or.inl rfl | exact Or.inr rfl))) (fun _ _ _ _ _ => dts_nil) (fun _ _ _ _ _ => (d_tup (da_cons (d_ix (d_var (i := 6) (pv 6)) (d_var (i := 11) (pv 11))) (da_cons (d_ix (d_ix (d_var (i := 3) (pv 3)) (d_int pe_int)) (d_var (i := 11) (pv 11))) da_nil))))) (tg_name 11) (by decide))
    (dss_cons (ds_setLc (E' := E0) (E2 := E0) (ps_setLc (i := 12) (own := [("_law_k", 11)]) (g := (gName 11)) rfl nd rfl rfl (sw_true rfl rfl rfl (by decide +kernel)) (di_rng1 (pi_range1 rfl M.b.range (da_cons (d_cb1 (pe_len K M.b (d_var (i := 6) (pv 6))) act_len) da_nil))) (blkOk_by (N := N_law_stands) (sc := defScope s_law_stands) (by decide +kernel)) (fun _ _ _ _ _ => (pg_name (i := 11) nd rfl (by first | exact Or.inl rfl | exact Or.inr rfl))) (fun _ _ _ _ _ => dts_nil) (fun _ _ _ _ _ => (d_tup (da_cons (d_ix (d_var (i := 6) (pv 6)) (d_var (i := 11) (pv 11))) (da_cons (d_ix (d_ix (d_var (i := 3) (pv 3)) (d_int pe_int)) (d_var (i := 11) (pv 11))) da_nil))))) (tg_name 11) (by decide))
    (dss_one (ds_ret (d_call (pe_callR R_law_equal (hr.mono (by first | decide | omega)) pz_def (da_cons (d_var (i := 9) (pv 9)) (da_cons (d_lst (da_cons (d_ix (d_var (i := 3) (pv 3)) (d_int pe_int)) (da_cons (d_var (i := 10) (pv 10)) (da_cons (d_var (i := 12) (pv 12)) (da_cons (d_ix (d_var (i := 3) (pv 3)) (d_int pe_int)) (da_cons (d_lc (E' := E0) (E2 := E0) (pe_lc (own := [("_law_entry", 13)]) (g := (gName 13)) rfl nd (di_seq (d_var (i := 4) (pv 4))) (blkOk_by (N := N_law_stands) (sc := defScope s_law_stands) (by decide +kernel)) (fun _ _ _ _ _ => (pg_name (i := 13) nd rfl (by first | exact Or.inl rfl | exact Or.inr rfl))) (fun _ _ _ _ _ => dts_nil) (fun _ _ _ _ _ => (d_ix (d_var (i := 13) (pv 13)) (d_int pe_int)))) (tg_name 13) (by decide)) da_nil)))))) da_nil)))))))))))) ?_) (F.bindsN (fun _ _ _ _ _ _ us hl => match us, hl with | [_, _], _ => rfl))
  rintro as rs xc q ⟨a, p, u, fs, ⟨m, past, und⟩, rfl, rfl, fok, nms, g9, p9, k⟩
  dsimp only at nms g9 p9 k
  have f6 := fok.six
  have l6 : m.cs.length = fs.length := by have := congrArg List.length nms; simpa using this
  have nd : (fs.map Prod.fst).Nodup := fok.nd
  have ok : ∀ s ∈ m.cs.map Cell.nm, PyData.strOk s = true := fun s hs => by
    rw [nms] at hs
    obtain ⟨f, hf, rfl⟩ := List.mem_map.mp hs
    exact (fok.nm f hf).str
  walk_at "in"
  walk_at "d"
  refine s_lcM fs (fun f => .da (fieldD f)) (fun f => .str f.1) (by rw [List.map_map]; rfl) (by omega) trivial (fun i c T hc ht => ?_) ?_
  · walk_at "wipe"
    walk_at "d"
    exact ht
  rw [show (fs.map fun f => Da.str f.1) = m.cs.map fun c => .str c.nm by rw [show (fun f : Str × Int => Da.str f.1) = Da.str ∘ Prod.fst from rfl, ← List.map_map, ← nms, List.map_map]; rfl]
  walk_at "d"
  walk_at "ask"
  walk_at "d"
  walk_at "ask"
  rintro l1
  refine s_itemsK (by walk_at "ext") ok ?_
  walk_at "d"
  walk_at "ask"
  rintro l2
  refine s_itemsK (by walk_at "ext") ok ?_
  walk_at "d"
  walk_at "ask"
  rintro l3
  refine gv_via (GhV.frz (fr_lst (xs := m.gn.map rotD)) .here) (gv_id ?_)
  walk_at "d"
  walk_at "ask"
  rintro l4
  refine gv_via (GhV.frz (fr_lst (xs := past.map fun e => opD e.1)) .here) (gv_id ?_)
  walk_at "d"
  rw [zip_mm, zip_mm]
  refine s_rng1K (by simp; omega) ?_
  rw [List.length_map, List.length_map, rng_nat]
  refine s_lcM (List.range m.cs.length) _ (fun k => .tup [.str (m.cs.getD k cell0).nm, .int (m.cs.getD k cell0).lf]) rfl (by rw [List.length_range]; omega) trivial (fun i j T hc ht => ?_) ?_
  · have hj := List.mem_range.mp (List.mem_of_getElem? hc)
    have hy := place_get (c0 := cell0) hj
    generalize m.cs.getD j cell0 = y at *
    walk_at "wipe"
    walk_at "d"
    exact ht
  rw [place_map cell0 m.cs fun c => Da.tup [.str c.nm, .int c.lf]]
  walk_at "d"
  refine s_rng1K (by simp; omega) ?_
  rw [List.length_map, List.length_map, rng_nat]
  refine s_lcM (List.range m.cs.length) _ (fun k => .tup [.str (m.cs.getD k cell0).nm, .int (m.cs.getD k cell0).sp]) rfl (by rw [List.length_range]; omega) trivial (fun i j T hc ht => ?_) ?_
  · have hj := List.mem_range.mp (List.mem_of_getElem? hc)
    have hy := place_get (c0 := cell0) hj
    generalize m.cs.getD j cell0 = y at *
    walk_at "wipe"
    walk_at "d"
    exact ht
  rw [place_map cell0 m.cs fun c => Da.tup [.str c.nm, .int c.sp]]
  walk_at "d"
  refine s_lcM past (fun e => .da (pastD e)) (fun e => opD e.1) (by rw [List.map_map]; rfl) (by omega) trivial (fun i c T hc ht => ?_) ?_
  · walk_at "wipe"
    walk_at "d"
    exact ht
  walk_at "d"
  refine s_ask0 ⟨_, rfl, rfl, ?_, ?_⟩
  · refine ⟨by simp, fun z hz => ?_⟩
    simp only [List.mem_cons, List.not_mem_nil, or_false] at hz
    rcases hz with rfl | rfl | rfl | rfl | rfl
    · trivial
    · exact map_eqP (by omega) fun c => pair_eqP trivial trivial
    · exact map_eqP (by omega) fun c => pair_eqP trivial trivial
    · exact map_eqP (by omega) fun c => pair_eqP trivial trivial
    · exact map_eqP (by omega) fun e => op_eqP e.1
  · walk_at "d"
    exact gv_gets (by walk_at "gets") k

end
section
variable {P : Program} {w : World} {K : PySem.W.Frag}
variable {mg : Str → Option Value} {base : Heap}
/-! ### the law -/
structure MoOk (fs : List (Str × Int)) (B : Nat) (m : Mo) : Prop where
  nm : m.cs.map Cell.nm = fs.map Prod.fst
  gn : m.gn.length ≤ B
theorem MoOk.mono {fs : List (Str × Int)} {B B' : Nat} {m : Mo} (h : MoOk fs B m) (le : B ≤ B') : MoOk fs B' m := ⟨h.nm, Nat.le_trans h.gn le⟩
inductive ChP : List Ent → Mo → Prop
  | nil (m : Mo) : ChP [] m
  | snoc {pre : List Ent} {e : Ent} : ChP pre e.2.1 → ChP (pre ++ [e]) e.2.2
inductive UdP : Mo → List Ent → Prop
  | nil (m : Mo) : UdP m []
  | snoc {pre : List Ent} {e : Ent} : UdP e.2.2 pre → UdP e.2.1 (pre ++ [e])
theorem ChP.last {pre : List Ent} {e : Ent} {m : Mo} (h : ChP (pre ++ [e]) m) : m = e.2.2 ∧ ChP pre e.2.1 := by
  generalize hl : pre ++ [e] = l at h
  cases h with
  | nil => simp at hl
  | snoc h' =>
    obtain ⟨rfl, e1⟩ := List.append_inj' hl rfl
    cases e1
    exact ⟨rfl, h'⟩
theorem UdP.last {pre : List Ent} {e : Ent} {m : Mo} (h : UdP m (pre ++ [e])) : m = e.2.1 ∧ UdP e.2.2 pre := by
  generalize hl : pre ++ [e] = l at h
  cases h with
  | nil => simp at hl
  | snoc h' =>
    obtain ⟨rfl, e1⟩ := List.append_inj' hl rfl
    cases e1
    exact ⟨rfl, h'⟩
theorem chp_last {l : List Ent} {m : Mo} (h : ChP l m) {e : Ent} (g : l.getLast? = some e) : e.2.2 = m := by
  rcases List.eq_nil_or_concat l with rfl | ⟨pre, e', rfl⟩
  · cases g
  · rw [List.concat_eq_append] at *
    have g' : e' = e := by simpa using g
    rw [← g', h.last.1]
structure WOk (fs : List (Str × Int)) (B n : Nat) (s : WSt) : Prop where
  m : MoOk fs B s.m
  p : ∀ e ∈ s.past, MoOk fs B e.2.1 ∧ MoOk fs B e.2.2
  u : ∀ e ∈ s.und, MoOk fs B e.2.1 ∧ MoOk fs B e.2.2
  lp : s.past.length ≤ n
  lu : s.und.length ≤ n
  ch : ChP s.past s.m
  ud : UdP s.m s.und
theorem WOk.mono {fs : List (Str × Int)} {B B' n n' : Nat} {s : WSt} (h : WOk fs B n s) (le : B ≤ B') (le' : n ≤ n') : WOk fs B' n' s :=
  ⟨h.m.mono le, fun e he => ⟨(h.p e he).1.mono le, (h.p e he).2.mono le⟩, fun e he => ⟨(h.u e he).1.mono le, (h.u e he).2.mono le⟩, Nat.le_trans h.lp le', Nat.le_trans h.lu le', h.ch, h.ud⟩
theorem wStep_ok {fs : List (Str × Int)} {B n : Nat} {s : WSt} {o : OpU} (h : WOk fs B n s) (ook : OpOk o) (f6 : fs.length ≤ 6) (eo : (wStep s o).1 = none) : WOk fs (B + 6000) (n + 1) (wStep s o).2.2 := by
  have h' := h.mono (Nat.le_add_right B 6000) (Nat.le_succ n)
  obtain ⟨m, past, und⟩ := s
  cases o with
  | undo =>
    rcases List.eq_nil_or_concat past with rfl | ⟨pre, e, rfl⟩
    · exact h'
    · rw [List.concat_eq_append] at *
      have le : (pre ++ [e]).getLast? = some e := by simp
      obtain ⟨em, c1⟩ := h.ch.last
      dsimp only at em
      simp only [wStep, le, List.dropLast_concat]
      refine ⟨(h'.p e (by simp)).1, fun x hx => h'.p x (List.mem_append_left _ hx), fun x hx => ?_, ?_, ?_, c1, .snoc (em ▸ h.ud)⟩
      · rcases (List.mem_append.mp hx) with hx | hx
        · exact h'.u x hx
        · rw [List.mem_singleton.mp hx]; exact h'.p e (by simp)
      · have := h.lp; simp only [List.length_append, List.length_cons, List.length_nil] at this; show pre.length ≤ n + 1; omega
      · have := h.lu; simp only [List.length_append, List.length_cons, List.length_nil]; dsimp only at this; omega
  | redo =>
    rcases List.eq_nil_or_concat und with rfl | ⟨pre, e, rfl⟩
    · exact h'
    · rw [List.concat_eq_append] at *
      have le : (pre ++ [e]).getLast? = some e := by simp
      obtain ⟨em, c1⟩ := h.ud.last
      dsimp only at em
      simp only [wStep, le, List.dropLast_concat]
      refine ⟨(h'.u e (by simp)).2, fun x hx => ?_, fun x hx => h'.u x (List.mem_append_left _ hx), ?_, ?_, .snoc (em ▸ h.ch), c1⟩
      · rcases (List.mem_append.mp hx) with hx | hx
        · exact h'.p x hx
        · rw [List.mem_singleton.mp hx]; exact h'.u e (by simp)
      · have := h.lp; simp only [List.length_append, List.length_cons, List.length_nil]; dsimp only at this; omega
      · have := h.lu; simp only [List.length_append, List.length_cons, List.length_nil] at this; show pre.length ≤ n + 1; omega
  | op o =>
    cases hs : opStep m o with
    | inl er => simp only [wStep, hs] at eo; cases eo
    | inr r =>
      obtain ⟨v, m'⟩ := r
      obtain ⟨g1, g2⟩ := opStep_ok hs
      have l6 : m.cs.length = fs.length := by have := congrArg List.length h.m.nm; simpa using this
      have mk : MoOk fs (B + 6000) m' := ⟨g1.trans h.m.nm, Nat.le_trans (g2 ook) (by have := h.m.gn; dsimp only at this; omega)⟩
      simp only [wStep, hs]
      refine ⟨mk, fun x hx => ?_, fun x hx => (by cases hx), ?_, Nat.zero_le _, .snoc (e := (o, m, m')) h.ch, .nil _⟩
      · rcases (List.mem_append.mp hx) with hx | hx
        · exact h'.p x hx
        · rw [List.mem_singleton.mp hx]; exact ⟨h'.m, mk⟩
      · have := h.lp; simp only [List.length_append, List.length_cons, List.length_nil]; dsimp only at this; omega
theorem wStep_err {s : WSt} {o : OpU} {e : ErrK} (h : (wStep s o).1 = some e) : (wStep s o).2.1 = .int 0 ∧ ((∃ z, e = .field z) ∨ e = .num) := by
  cases o with
  | undo => simp only [wStep] at h; split at h <;> cases h
  | redo => simp only [wStep] at h; split at h <;> cases h
  | op o =>
    cases hs : opStep s.m o with
    | inr r => simp only [wStep, hs] at h; cases h
    | inl er =>
      simp only [wStep, hs] at h ⊢
      cases h
      refine ⟨by first | rfl | trivial, ?_⟩
      cases o with
      | harvest z => rw [opStep] at hs; split at hs <;> cases hs; exact .inl ⟨_, rfl⟩
      | wait n => rw [opStep] at hs; split at hs <;> cases hs; exact .inr rfl
      | change z l =>
        rw [opStep] at hs
        split at hs
        · cases hs; exact .inl ⟨_, rfl⟩
        · split at hs <;> cases hs; exact .inr rfl
theorem wStep_val {fs : List (Str × Int)} {B n : Nat} {s : WSt} {o : OpU} (h : WOk fs B n s) (ook : OpOk o) (f6 : fs.length ≤ 6) (e : (wStep s o).1 = none) : (∃ b, (wStep s o).2.1 = .bl b) ∨ (∃ i, (wStep s o).2.1 = .int i) ∨ ∃ gs : List (Int × Str), (wStep s o).2.1 = .lst (gs.map rotD) ∧ gs.length ≤ B + 6000 := by
  cases o with
  | undo => simp only [wStep]; split <;> exact .inl ⟨_, rfl⟩
  | redo => simp only [wStep]; split <;> exact .inl ⟨_, rfl⟩
  | op o =>
    cases hs : opStep s.m o with
    | inl r => simp only [wStep, hs] at e; cases e
    | inr r =>
      simp only [wStep, hs]
      cases o with
      | harvest z =>
        rw [opStep] at hs
        split at hs
        · cases hs
        · cases hs; exact .inl ⟨_, rfl⟩
      | wait n =>
        have g := opStep_ok (v := r.1) (m' := r.2) (by rw [hs])
        rw [opStep] at hs
        split at hs
        · cases hs
          refine .inr (.inr ⟨_, rfl, ?_⟩)
          have l6 : s.m.cs.length = fs.length := by have := congrArg List.length h.m.nm; simpa using this
          have := g.2 ook
          have := h.m.gn
          rw [List.length_drop]
          dsimp only at *
          omega
        · cases hs
      | change z l =>
        rw [opStep] at hs
        split at hs
        · cases hs
        · split at hs <;> cases hs; exact .inr (.inl ⟨_, rfl⟩)
abbrev lamNm : Str := ("law" : Str) ++ ".<locals>." ++ "<lambda>"
def D_law (M : Md K mg) (P0 : Addr) : SpD K := fun as rs xc q => ∃ ns, as = [.da (.scr ns)] ∧ rs = [tabR P0 lamNm] ∧ ns.length ≤ 63 ∧ q (.da (.bl true)) []
theorem mo0_ok {fs : List (Str × Int)} : WOk fs 0 0 ⟨mo0 fs, [], []⟩ := ⟨⟨by simp [mo0, Function.comp_def], by simp [mo0]⟩, fun e he => (nomatch he), fun e he => (nomatch he), Nat.le_refl _, Nat.le_refl _, .nil _, .nil _⟩
def sp_law (K : PySem.W.Frag) (P0 : Addr) : Sp := fun vs H Q _ => ∃ (a : Addr) (ns : List Int), vs = [.ref a] ∧ SqL K H a (ns.map V.int) ∧ ns.length ≤ 63 ∧ H P0 = some (.tbl #[]) ∧ ∀ H', Q (.bl true) H'
theorem not_rd_tbl {H : Hp} {a : Addr} {vs : List V} {ps : Array Value} (h : H a = some (.tbl ps)) (r : Rd H a (.lst vs)) : False := by
  rcases r with r | ⟨_, r⟩ <;> · rw [h] at r; cases r
theorem law_start {M : Md K mg} {P0 : Addr} {vs : List V} {H : Hp} {Q : VK} {E : XK} (h : sp_law K P0 vs H Q E) : spD (D_law M P0) vs H Q E := by
  obtain ⟨a, ns, rfl, sq, hl, hP, k⟩ := h
  have one : ∀ {b}, Mu (fun _ => False) [P0] b → b = P0 := fun h => h.elim (fun z => z.elim) fun z => List.mem_singleton.mp z
  refine ⟨fun _ => False, [.da (.scr ns)], [tabR P0 lamNm], [P0], fun _ _ => False, fun y _ => y = .da (.bl true), ⟨⟨[P0], [], rfl, ⟨rfl, #[], hP, trivial, fun pos cv hc => by cases hc⟩, rfl⟩, by simp, fun _ _ z => z, fun b hb => by rw [one hb, hP]; exact ⟨trivial, nofun⟩⟩, .cons (.da (.scr ?_)) .nil, ⟨ns, rfl, rfl, hl, rfl⟩, ?_, fun _ _ _ _ _ _ _ _ _ z => z.elim⟩
  · rcases sq with sq | sq
    · exact .inl ⟨fun m => by rw [one m] at sq; exact not_rd_tbl hP sq, sq⟩
    · exact .inr fun _ => .inr sq
  · rintro v y rs' F' H' st A r rfl
    cases r with | da r => cases r; exact k H'
theorem ok_law {f fo P0 c0 CE : Addr} {fd fdo : FuncData} {c : Fin 7 → Addr} (M : Md K mg) (F : FnD K "law" "law" s_law f fd) (T_tab : LamX.TabB base mg c0 P0) (T_code : fd.code = .ref c0) (EF : ErrF K mg c CE) (hc4 : M.a_UnknownField = c 4) (hc5 : M.a_InvalidNumber = c 5)
    (at_err : mg "_law_error_of" = some (.ref fo)) (F_err : FnD K "_law_error_of" "_law_error_of" s_law_error_of fo fdo) (B_err : L2.Binds K fdo ["_law_call"] [])
    (R_law_random : DefR P w K mg base "_law_random" 2 (spD (D_law_random M))) (R_law_small : DefR P w K mg base "_law_small" 8 (spD (D_law_small M))) (R_law_farm : DefR P w K mg base "_law_farm" 8 (spD (D_law_farm M))) (R_law_operation : DefR P w K mg base "_law_operation" 4 (spD (D_law_operation M))) (R_law_worked : DefR P w K mg base "_law_worked" 6 (spD (D_law_worked M)))
    (R_law_do : DefR P w K mg base "_law_do" 8 (spD (D_law_do M))) (R_law_equal : DefR P w K mg base "_law_equal" 10 (spD (D_law_equal M 4))) (R_law_stands : DefR P w K mg base "_law_stands" 12 (spD (D_law_stands M))) (K_LiveFarm : MakeD P w K mg base "LiveFarm" M.a_LiveFarm 4 (D_LiveFarm___init__ M) (D_LiveFarm M))
    (P_LiveFarm_rotten : PropR P w K mg base M.a_LiveFarm "rotten" 2 (spD (D_LiveFarm_rotten M))) (P_LiveFarm_history : PropR P w K mg base M.a_LiveFarm "history" 2 (spD (D_LiveFarm_history M))) : FnOk P w K mg base CX0 14 f fd ["_law_script"] (sp_law K P0) := by
  refine FunD_okC F sc_law ?_ fun A outer s H vs Q E hr h => ?_
  · rintro vs H Q E ⟨a, ns, rfl, _⟩; rfl
  have nd := sc_law.nd
  have key : ∃ t', PSs (cxOf CX0 P w K mg base N_law "law" (defScope s_law) f fd.code A outer s H E).nox (defBody s_law) t' ∧ t' { nx := fun _ H' => Q .non H', rt := Q } (L2.start N_law vs) H := by
    refine' body_ok ?run ?walk (law_start (M := M) (E := E0) h)
    case run =>
      exact (dss_cons (ds_set (i := 1) nd rfl (by first | exact Or.inl rfl | exact Or.inr rfl) (d_call (pe_callR R_law_random (hr.mono (by first | decide | omega)) passN (da_cons (d_var (i := 0) (pv 0)) (da_cons (d_int pe_int) da_nil)))))
    (dss_cons (ds_set (i := 2) nd rfl (by first | exact Or.inl rfl | exact Or.inr rfl) (d_call (pe_callR R_law_small (hr.mono (by first | decide | omega)) passN (da_cons (d_var (i := 1) (pv 1)) da_nil))))
    (dss_cons (ds_set (i := 3) nd rfl (by first | exact Or.inl rfl | exact Or.inr rfl) (d_make (pe_makeP K_LiveFarm.mkr (hr.mono (by first | decide | omega)) passN (da_cons (d_call (pe_callR R_law_farm (hr.mono (by first | decide | omega)) passN (da_cons (d_ix (d_var (i := 2) (pv 2)) (d_int pe_int)) da_nil))) da_nil)) K_LiveFarm.it))
    (dss_cons (ds_for PassesOwn.never rfl (di_rng1 (pi_range1 rfl M.b.range (da_cons (d_int pe_int) da_nil))) (pg_name (i := 4) nd rfl (by first | exact Or.inl rfl | exact Or.inr rfl)) (tg_name 4) (dss_cons (ds_set (i := 5) nd rfl (by first | exact Or.inl rfl | exact Or.inr rfl) (d_call (pe_callR R_law_operation (hr.mono (by first | decide | omega)) passN (da_cons (d_var (i := 1) (pv 1)) (da_cons (d_ix (d_var (i := 2) (pv 2)) (d_int pe_int)) da_nil)))))
    (dss_cons (ds_asg (d_call (pe_callR R_law_worked (hr.mono (by first | decide | omega)) passN (da_cons (d_var (i := 2) (pv 2)) (da_cons (d_var (i := 5) (pv 5)) da_nil)))) (pg_tupK K (n := 3) rfl (pgs_cons (pg_name (i := 6) nd rfl (by first | exact Or.inl rfl | exact Or.inr rfl)) (pgs_cons (pg_name (i := 7) nd rfl (by first | exact Or.inl rfl | exact Or.inr rfl)) (pgs_cons (pg_name (i := 8) nd rfl (by first | exact Or.inl rfl | exact Or.inr rfl)) pgs_nil)))) (tg_tup (tgs_cons (tg_name 6) (tgs_cons (tg_name 7) (tgs_cons (tg_name 8) tgs_nil)))))
    (dss_cons (ds_if (dt_cmp op_notN1 act_notN (d_var (i := 6) (pv 6)) (d_non pe_non)) (dss_one (ds_if (dt_cmp (op_neK K hr) (pu2 pu_ne) (by exact d_outD (P := P0) (nm := ("law" : Str) ++ ".<locals>." ++ "<lambda>") tells_err (pe_outD (k := 8) at_err F_err B_err sc_law_error_of rfl (Or.inl rfl) (gives_err M.b EF) (hr.mono (by first | decide | omega)) (pe_lam0K T_tab T_code (lamN_by (N := N_law) (sc := defScope s_law) (by decide +kernel)))) ⟨(lamN_by (N := N_law) (sc := defScope s_law) (by decide +kernel)), (fun _ _ _ _ _ _ => rfl), fun A outer s H E f c' hr => (d_call (pe_callR R_law_do (hr.mono (by first | decide | omega)) pz_lamL (da_cons (d_var (i := 3) (pv 3)) (da_cons (d_var (i := 5) (pv 5)) da_nil))))⟩) (d_var (i := 6) (pv 6))) (dss_one (ds_ret (d_bl pe_bl))) dss_nil)) (dss_cons (ds_par (ps_par (i := 2) (j := 9) rfl nd rfl rfl (by decide) rfl rfl (da_cons (d_var (i := 8) (pv 8)) (da_cons (d_call (pe_callR R_law_do (hr.mono (by first | decide | omega)) passN (da_cons (d_var (i := 3) (pv 3)) (da_cons (d_var (i := 5) (pv 5)) da_nil)))) da_nil)) (by rfl)))
    (dss_cons (ds_if (dt_not (dt_val (d_call (pe_callR R_law_equal (hr.mono (by first | decide | omega)) passN (da_cons (d_var (i := 9) (pv 9)) (da_cons (d_var (i := 7) (pv 7)) da_nil)))))) (dss_one (ds_ret (d_bl pe_bl))) dss_nil)
    (dss_one (ds_if (dt_val (d_isi (pe_isiB K M.b M.b.list bt_list (d_var (i := 9) (pv 9))))) (dss_one (ds_expr (d_bm (as_bm K (pe_bm PySem.F.plainAttrs_list PySem.F.slot_list_append PySem.F.type_list_append mt_append (d_var (i := 9) (pv 9)) (da_cons (d_int pe_int) da_nil))) act_app))) dss_nil)))))
    (dss_cons (ds_if (dt_not (dt_val (d_call (pe_callR R_law_stands (hr.mono (by first | decide | omega)) passN (da_cons (d_var (i := 3) (pv 3)) (da_cons (d_var (i := 2) (pv 2)) da_nil)))))) (dss_one (ds_ret (d_bl pe_bl))) dss_nil)
    (dss_cons (ds_expr (d_bm (as_bm K (pe_bm PySem.F.plainAttrs_list PySem.F.slot_list_append PySem.F.type_list_append mt_append (d_prop (pe_propR P_LiveFarm_history (hr.mono (by first | decide | omega)) (d_var (i := 3) (pv 3)))) (da_cons (d_int pe_int) da_nil))) act_app))
    (dss_one (ds_expr (d_bm (as_bm K (pe_bm PySem.F.plainAttrs_list PySem.F.slot_list_append PySem.F.type_list_append mt_append (d_prop (pe_propR P_LiveFarm_rotten (hr.mono (by first | decide | omega)) (d_var (i := 3) (pv 3)))) (da_cons (d_int pe_int) da_nil))) act_app))))))))) (dss_one (ds_ret (d_bl pe_bl)))))))
    rintro as rs xc q ⟨ns, rfl, rfl, hl, k⟩
    walk_at "in"
    walk_at "d"
    refine s_ask0 ⟨ns, 35, rfl, rfl, hl, by decide, by decide, fun d xs ok => ?_⟩
    walk_at "d"
    refine' s_ask ?g1 ⟨d, xs, rfl, rfl, ok, fun fs xs1 fok fl ok1 => ?_⟩
    case g1 => walk_at "gets"
    walk_at "d"
    refine s_ask0 ⟨fs, rfl, rfl, fok, ?_⟩
    walk_at "d"
    refine s_ask0 ⟨fs, rfl, rfl, by have := fok.one; omega, fok.six, fun a p u => ?_⟩
    walk_at "d"
    refine s_rng1K (by omega) ?_
    refine s_forK (fun i sl rs => ∃ (s : WSt) (xs : List Int) (u : Addr) (u4 u5 u6 u7 u8 u9 : Sl), WOk fs (6000 * i) i s ∧ DrOk xs ∧ sl = [.da (.scr ns), .raw (.ref d), .da (wD fs s.m s.past s.und), .raw (.ref a), u4, u5, u6, u7, u8, u9] ∧ rs = liveR M a p u fs s.m s.past s.und ++ [drR d xs, tabR P0 lamNm]) ?_ ?_ ?_ ?_
    · exact gs_id ⟨⟨mo0 fs, [], []⟩, xs1, u, _, _, _, _, _, _, mo0_ok, ok1, rfl, rfl⟩
    · exact fun _ _ _ _ => trivial
    · rintro i y sl rs hy ⟨s, xs, u, u4, u5, u6, u7, u8, u9, wok, ok, rfl, rfl⟩
      obtain ⟨lt, rfl⟩ := rngS_get hy
      have lt : i < 18 := lt
      have f6 := fok.six
      have f1 := fok.one
      have g9 := wok.m.gn
      have p9 := wok.lp
      have u9' := wok.lu
      walk_at "d"
      refine' s_ask ?g ⟨d, fs, xs, rfl, rfl, ok, fok, fun o xs2 ook ok2 => ?_⟩
      case g => walk_at "gets"
      walk_at "d"
      refine s_ask0 ⟨fs, s, o, rfl, rfl, f6, wok.m.nm, by omega, by omega, by omega, ook, fun e he => ?_, ?_⟩
      · exact chp_last wok.ch he
      cases he : (wStep s o).1 with
      | some e =>
        obtain ⟨ev, ek⟩ := wStep_err he
        have ck : errX M e = ErrK.exn c e := by
          rcases ek with ⟨z, rfl⟩ | rfl
          · show (⟨M.a_UnknownField, _⟩ : Exn) = _
            rw [hc4]; rfl
          · show (⟨M.a_InvalidNumber, _⟩ : Exn) = _
            rw [hc5]; rfl
        obtain ⟨x, ls, ex⟩ : ∃ x ls, e.da = .tup (x :: ls) := by rcases ek with ⟨z, rfl⟩ | rfl <;> exact ⟨_, _, rfl⟩
        simp only [errD]
        walk_at "d"
        refine if_T (by rw [ex]; rfl) ?_
        walk_at "d"
        refine s_outD (by walk_at "ext") ?_
        walk_at "d"
        refine' s_ask ?g ⟨a, p, u, fs, s.m, s.past, s.und, o, rfl, rfl, f1, f6, wok.m.nm, by omega, by omega, by omega, ook, fun e' he' => ?_, fun hn => ?_⟩
        case g => walk_at "gets"
        · rw [he] at he'
          cases he'
          refine ⟨e, ck, ?_⟩
          have wok' := wok.mono (show 6000 * i ≤ 6000 * (i + 1) by omega) (Nat.le_succ i)
          walk_at "d"
          refine s_ne_d (by rcases ek with ⟨z, rfl⟩ | rfl <;> rfl) (by rcases ek with ⟨z, rfl⟩ | rfl <;> rfl) (by rcases ek with ⟨z, rfl⟩ | rfl <;> rfl) ?_
          rw [show (!PyData.eqv (pyD e.da) (pyD e.da)) = false by rcases ek with ⟨z, rfl⟩ | rfl <;> simp [ErrK.da, pyD, pyDs, PyData.eqv, PyData.eqvAll]]
          walk_at "d"
          refine if_F rfl ?_
          generalize s = s' at *
          have z1 : s'.past.length ≤ 100 := by have := wok'.lp; omega
          have z2 : s'.m.gn.length ≤ 200000 := by have := wok'.m.gn; omega
          walk_at "d"
          refine' s_ask ?gs ⟨a, p, u, fs, s', rfl, rfl, fok, wok'.m.nm, by omega, by omega, ?_⟩
          case gs => walk_at "gets"
          walk_at "d"
          refine if_F rfl ?_
          walk_at "d"
          refine' s_ask ?gh ⟨a, p, u, fs, s'.m, s'.past, s'.und, rfl, rfl, by omega, fun l1 => ?_⟩
          case gh => walk_at "gets"
          walk_at "d"
          refine' s_ask ?gr ⟨a, p, u, fs, s'.m, s'.past, s'.und, rfl, rfl, fun l2 => ?_⟩
          case gr => walk_at "gets"
          walk_at "d"
          exact gs_gets (by walk_at "gets") ⟨s', xs2, u, _, _, _, _, _, _, wok', ok2, rfl, rfl⟩
        · rw [he] at hn; cases hn
      | none =>
        have wok' := wStep_ok wok ook f6 he
        simp only [errD]
        walk_at "d"
        refine if_F rfl ?_
        walk_at "d"
        refine' s_ask ?g ⟨a, p, u, fs, s.m, s.past, s.und, o, rfl, rfl, f1, f6, wok.m.nm, by omega, by omega, by omega, ook, fun e' he' => ?_, fun _ u' => ?_⟩
        case g => walk_at "gets"
        · rw [he] at he'; cases he'
        obtain hv | hv | hv := wStep_val wok ook f6 he
        all_goals generalize (wStep s o).2.2 = s' at *
        · obtain ⟨b, hb⟩ := hv
          rw [hb]
          simp only [ResQ]
          walk_at "d"
          refine s_ask0 ⟨.bl b, rfl, rfl, trivial, ?_⟩
          walk_at "d"
          refine if_F rfl ?_
          walk_at "d"
          refine s_isi rfl rfl ?_
          walk_at "d"
          refine if_F rfl ?_
          have z1 : s'.past.length ≤ 100 := by have := wok'.lp; omega
          have z2 : s'.m.gn.length ≤ 200000 := by have := wok'.m.gn; omega
          walk_at "d"
          refine' s_ask ?gs ⟨a, p, u', fs, s', rfl, rfl, fok, wok'.m.nm, by omega, by omega, ?_⟩
          case gs => walk_at "gets"
          walk_at "d"
          refine if_F rfl ?_
          walk_at "d"
          refine' s_ask ?gh ⟨a, p, u', fs, s'.m, s'.past, s'.und, rfl, rfl, by omega, fun l1 => ?_⟩
          case gh => walk_at "gets"
          walk_at "d"
          refine' s_ask ?gr ⟨a, p, u', fs, s'.m, s'.past, s'.und, rfl, rfl, fun l2 => ?_⟩
          case gr => walk_at "gets"
          walk_at "d"
          exact gs_gets (by walk_at "gets") ⟨s', xs2, u', _, _, _, _, _, _, wok', ok2, rfl, rfl⟩
        · obtain ⟨j, hj⟩ := hv
          rw [hj]
          simp only [ResQ]
          walk_at "d"
          refine s_ask0 ⟨.int j, rfl, rfl, trivial, ?_⟩
          walk_at "d"
          refine if_F rfl ?_
          walk_at "d"
          refine s_isi rfl rfl ?_
          walk_at "d"
          refine if_F rfl ?_
          have z1 : s'.past.length ≤ 100 := by have := wok'.lp; omega
          have z2 : s'.m.gn.length ≤ 200000 := by have := wok'.m.gn; omega
          walk_at "d"
          refine' s_ask ?gs ⟨a, p, u', fs, s', rfl, rfl, fok, wok'.m.nm, by omega, by omega, ?_⟩
          case gs => walk_at "gets"
          walk_at "d"
          refine if_F rfl ?_
          walk_at "d"
          refine' s_ask ?gh ⟨a, p, u', fs, s'.m, s'.past, s'.und, rfl, rfl, by omega, fun l1 => ?_⟩
          case gh => walk_at "gets"
          walk_at "d"
          refine' s_ask ?gr ⟨a, p, u', fs, s'.m, s'.past, s'.und, rfl, rfl, fun l2 => ?_⟩
          case gr => walk_at "gets"
          walk_at "d"
          exact gs_gets (by walk_at "gets") ⟨s', xs2, u', _, _, _, _, _, _, wok', ok2, rfl, rfl⟩
        · obtain ⟨gs, hg, gl⟩ := hv
          rw [hg]
          simp only [ResQ]
          intro l
          walk_at "d"
          refine s_lend (.cons (.lst .here) (.cons (.same _) .nil)) ⟨_, rfl, rfl, ?_, _, rfl, rfl, ?_⟩
          · exact map_eqP (by omega) fun c => pair_eqP trivial trivial
          walk_at "d"
          refine if_F rfl ?_
          walk_at "d"
          refine ⟨_, "list", .lst (gs.map rotD), "list", true, rfl, .lst .here, rfl, rfl, ?_⟩
          walk_at "d"
          refine if_T rfl ?_
          have z1 : s'.past.length ≤ 100 := by have := wok'.lp; omega
          have z2 : s'.m.gn.length ≤ 200000 := by have := wok'.m.gn; omega
          walk_at "d"
          refine' s_ask ?gs ⟨a, p, u', fs, s', rfl, rfl, fok, wok'.m.nm, by omega, by omega, ?_⟩
          case gs => walk_at "gets"
          walk_at "d"
          refine if_F rfl ?_
          walk_at "d"
          refine' s_ask ?gh ⟨a, p, u', fs, s'.m, s'.past, s'.und, rfl, rfl, by omega, fun l1 => ?_⟩
          case gh => walk_at "gets"
          walk_at "d"
          refine' s_ask ?gr ⟨a, p, u', fs, s'.m, s'.past, s'.und, rfl, rfl, fun l2 => ?_⟩
          case gr => walk_at "gets"
          walk_at "d"
          exact gs_gets (by walk_at "gets") ⟨s', xs2, u', _, _, _, _, _, _, wok', ok2, rfl, rfl⟩
    · rintro sl rs ⟨s, xs, u, u4, u5, u6, u7, u8, u9, wok, ok, rfl, rfl⟩
      refine gs_id ?_
      walk_at "d"
      exact gv_nil k
  obtain ⟨t', h1, h2⟩ := key
  exact ⟨t', PSs.nox h1, h2⟩

end
end HC
namespace HC
open PyProof.Rows PySem L2 PySem.Spec
theorem endFacts {P : Program} {w : World} {K : PySem.W.Frag} {h : Heap} {mg : Str → Option Value} {f : Addr} (X : K.In h) (G : h.Ns mainGlobals mg) (hfa : mg ("law" : Str) = some (.ref f)) (cc : SaysL endFx endFa endFn endTf h K) :
    ∃ fd : FuncData, (∀ (s : Shared) (v : Value), BindsTo s fd ⟨[v], []⟩ [("_law_script", v)]) ∧ ∀ base : Heap, K.In base → base.Ns mainGlobals mg → (∀ p ∈ endTf.map (He.cT K), LamX.TabB base mg p.1 p.2) → FnOk P w K mg base CX0 14 f fd ["_law_script"] (sp_law K (He.cT K ("law", none)).2) := by
  have c := cc.j
  have hB : Bts mg := ⟨He.free_ok X G (c.base.fact 0 rfl), He.free_ok X G (c.base.fact 1 rfl), He.free_ok X G (c.base.fact 2 rfl), He.free_ok X G (c.base.fact 3 rfl), He.free_ok X G (c.base.fact 4 rfl), He.free_ok X G (c.base.fact 5 rfl), He.free_ok X G (c.base.fact 6 rfl), He.free_ok X G (c.base.fact 7 rfl), He.free_ok X G (c.base.fact 8 rfl), He.free_ok X G (c.base.fact 9 rfl), He.free_ok X G (c.base.fact 10 rfl), He.free_ok X G (c.base.fact 11 rfl), He.free_ok X G (c.base.fact 12 rfl), He.free_ok X G (c.base.fact 13 rfl), He.free_ok X G (c.base.fact 14 rfl), He.free_ok X G (c.base.fact 15 rfl), He.free_ok X G (c.base.fact 16 rfl), He.free_ok X G (c.base.fact 17 rfl), He.free_ok X G (c.base.fact 18 rfl)⟩
  have g_Farm : mg "Farm" = some (.ref (He.ga K "Farm")) := He.glo_ok X G (c.base.fact 29 rfl)
  have g_Moment : mg "Moment" = some (.ref (He.ga K "Moment")) := He.glo_ok X G (c.base.fact 31 rfl)
  have g_LiveFarm : mg "LiveFarm" = some (.ref (He.ga K "LiveFarm")) := He.glo_ok X G (c.base.fact 33 rfl)
  have g_Decoder : mg "Decoder" = some (.ref (He.ga K "Decoder")) := He.glo_ok X G (c.base.fact 35 rfl)
  have g_FarmError : mg "FarmError" = some (.ref (He.ga K "FarmError")) := He.glo_ok X G (c.base.fact 60 rfl)
  have g_InvalidCart : mg "InvalidCart" = some (.ref (He.ga K "InvalidCart")) := He.glo_ok X G (c.base.fact 61 rfl)
  have g_InvalidOperation : mg "InvalidOperation" = some (.ref (He.ga K "InvalidOperation")) := He.glo_ok X G (c.base.fact 62 rfl)
  have g_InvalidText : mg "InvalidText" = some (.ref (He.ga K "InvalidText")) := He.glo_ok X G (c.base.fact 63 rfl)
  have g_DecodeError : mg "DecodeError" = some (.ref (He.ga K "DecodeError")) := He.glo_ok X G (c.base.fact 64 rfl)
  have g_UnknownField : mg "UnknownField" = some (.ref (He.ga K "UnknownField")) := He.glo_ok X G (c.base.fact 65 rfl)
  have g_InvalidNumber : mg "InvalidNumber" = some (.ref (He.ga K "InvalidNumber")) := He.glo_ok X G (c.base.fact 66 rfl)
  have g_InvalidPlan : mg "InvalidPlan" = some (.ref (He.ga K "InvalidPlan")) := He.glo_ok X G (c.base.fact 67 rfl)
  have cl_Farm : Cls K (He.ga K "Farm") := He.cls_ok (c.base.fact 30 rfl)
  have cl_Moment : Cls K (He.ga K "Moment") := He.cls_ok (c.base.fact 32 rfl)
  have cl_LiveFarm : Cls K (He.ga K "LiveFarm") := He.cls_ok (c.base.fact 34 rfl)
  have cl_Decoder : Cls K (He.ga K "Decoder") := He.cls_ok (c.base.fact 36 rfl)
  have na_Farm_rows : NoAttr K (He.ga K "Farm") "rows" := He.noat_ok (c.base.fact 68 rfl)
  have na_Decoder_data : NoAttr K (He.ga K "Decoder") "data" := He.noat_ok (c.base.fact 69 rfl)
  have na_Decoder_place : NoAttr K (He.ga K "Decoder") "place" := He.noat_ok (c.base.fact 70 rfl)
  have na_Moment_day : NoAttr K (He.ga K "Moment") "day" := He.noat_ok (c.base.fact 71 rfl)
  have na_Moment_spans : NoAttr K (He.ga K "Moment") "spans" := He.noat_ok (c.base.fact 72 rfl)
  have na_Moment_left : NoAttr K (He.ga K "Moment") "left" := He.noat_ok (c.base.fact 73 rfl)
  have na_Moment_done : NoAttr K (He.ga K "Moment") "done" := He.noat_ok (c.base.fact 74 rfl)
  have na_Moment_gone : NoAttr K (He.ga K "Moment") "gone" := He.noat_ok (c.base.fact 75 rfl)
  have na_LiveFarm_farm : NoAttr K (He.ga K "LiveFarm") "farm" := He.noat_ok (c.base.fact 76 rfl)
  have na_LiveFarm_moment : NoAttr K (He.ga K "LiveFarm") "moment" := He.noat_ok (c.base.fact 77 rfl)
  have na_LiveFarm_past : NoAttr K (He.ga K "LiveFarm") "past" := He.noat_ok (c.base.fact 78 rfl)
  have na_LiveFarm_undone : NoAttr K (He.ga K "LiveFarm") "undone" := He.noat_ok (c.base.fact 79 rfl)
  obtain ⟨M, e_Farm, e_Moment, e_LiveFarm, e_Decoder, e_InvalidNumber, e_UnknownField⟩ : ∃ M : Md K mg, M.a_Farm = He.ga K "Farm" ∧ M.a_Moment = He.ga K "Moment" ∧ M.a_LiveFarm = He.ga K "LiveFarm" ∧ M.a_Decoder = He.ga K "Decoder" ∧ M.a_InvalidNumber = He.ga K "InvalidNumber" ∧ M.a_UnknownField = He.ga K "UnknownField" := ⟨{ b := hB, g_LETTERS := He.str_ok X G (c.base.fact 20 rfl), g_HARVEST := He.str_ok X G (c.base.fact 21 rfl), g_WAIT := He.str_ok X G (c.base.fact 22 rfl), g_CHANGE := He.str_ok X G (c.base.fact 23 rfl), g_MAX_LETTERS := He.int_ok X G (c.base.fact 24 rfl), g_MAX_LIMIT := He.int_ok X G (c.base.fact 25 rfl), g_MAX_WAIT := He.int_ok X G (c.base.fact 26 rfl), g_TAG := He.int_ok X G (c.base.fact 27 rfl), g_MODULUS := He.int_ok X G (c.base.fact 28 rfl), k_Farm_MAX_FIELDS := gconB_ok g_Farm (c.more 7 rfl), k_Farm_MAX_STATES := gconB_ok g_Farm (c.more 8 rfl), a_Farm := He.ga K "Farm", a_Moment := He.ga K "Moment", a_LiveFarm := He.ga K "LiveFarm", a_Decoder := He.ga K "Decoder", a_InvalidNumber := He.ga K "InvalidNumber", a_UnknownField := He.ga K "UnknownField", f_Farm := ⟨cl_Farm, na_Farm_rows⟩, f_Moment := ⟨ ⟨cl_Moment, na_Moment_day⟩, ⟨cl_Moment, na_Moment_spans⟩, ⟨cl_Moment, na_Moment_left⟩, ⟨cl_Moment, na_Moment_done⟩, ⟨cl_Moment, na_Moment_gone⟩ ⟩, f_Live := ⟨ ⟨cl_LiveFarm, na_LiveFarm_farm⟩, ⟨cl_LiveFarm, na_LiveFarm_moment⟩, ⟨cl_LiveFarm, na_LiveFarm_past⟩, ⟨cl_LiveFarm, na_LiveFarm_undone⟩ ⟩, f_Decoder := ⟨ ⟨cl_Decoder, na_Decoder_data⟩, ⟨cl_Decoder, na_Decoder_place⟩ ⟩ }, rfl, rfl, rfl, rfl, rfl, rfl⟩
  have G_require_field : Gd K mg "require_field" s_require_field := by
    obtain ⟨fd, F⟩ := c.base.def_ 0 rfl
    exact ⟨_, fd, He.glo_ok X G (c.base.fact 37 rfl), F⟩
  have G_validate_number : Gd K mg "validate_number" s_validate_number := by
    obtain ⟨fd, F⟩ := c.base.def_ 1 rfl
    exact ⟨_, fd, He.glo_ok X G (c.base.fact 38 rfl), F⟩
  have G_replaced : Gd K mg "replaced" s_replaced := by
    obtain ⟨fd, F⟩ := c.base.def_ 2 rfl
    exact ⟨_, fd, He.glo_ok X G (c.base.fact 39 rfl), F⟩
  have G_is_name : Gd K mg "is_name" s_is_name := by
    obtain ⟨fd, F⟩ := c.base.def_ 3 rfl
    exact ⟨_, fd, He.glo_ok X G (c.base.fact 40 rfl), F⟩
  have G_checksum : Gd K mg "checksum" s_checksum := by
    obtain ⟨fd, F⟩ := c.base.def_ 4 rfl
    exact ⟨_, fd, He.glo_ok X G (c.base.fact 41 rfl), F⟩
  have G_decode_farm : Gd K mg "decode_farm" s_decode_farm := by
    obtain ⟨fd, F⟩ := c.base.def_ 5 rfl
    exact ⟨_, fd, He.glo_ok X G (c.base.fact 42 rfl), F⟩
  have G_law_random : Gd K mg "_law_random" s_law_random := by
    obtain ⟨fd, F⟩ := c.base.def_ 6 rfl
    exact ⟨_, fd, He.glo_ok X G (c.base.fact 43 rfl), F⟩
  have G_law_below : Gd K mg "_law_below" s_law_below := by
    obtain ⟨fd, F⟩ := c.base.def_ 7 rfl
    exact ⟨_, fd, He.glo_ok X G (c.base.fact 44 rfl), F⟩
  have G_law_shuffled : Gd K mg "_law_shuffled" s_law_shuffled := by
    obtain ⟨fd, F⟩ := c.base.def_ 8 rfl
    exact ⟨_, fd, He.glo_ok X G (c.base.fact 45 rfl), F⟩
  have G_law_fields : Gd K mg "_law_fields" s_law_fields := by
    obtain ⟨fd, F⟩ := c.base.def_ 9 rfl
    exact ⟨_, fd, He.glo_ok X G (c.base.fact 46 rfl), F⟩
  have G_law_bytes : Gd K mg "_law_bytes" s_law_bytes := by
    obtain ⟨fd, F⟩ := c.base.def_ 10 rfl
    exact ⟨_, fd, He.glo_ok X G (c.base.fact 47 rfl), F⟩
  have G_law_farm : Gd K mg "_law_farm" s_law_farm := by
    obtain ⟨fd, F⟩ := c.base.def_ 11 rfl
    exact ⟨_, fd, He.glo_ok X G (c.base.fact 48 rfl), F⟩
  have G_law_first : Gd K mg "_law_first" s_law_first := by
    obtain ⟨fd, F⟩ := c.base.def_ 12 rfl
    exact ⟨_, fd, He.glo_ok X G (c.base.fact 49 rfl), F⟩
  have G_law_small : Gd K mg "_law_small" s_law_small := by
    obtain ⟨fd, F⟩ := c.base.def_ 13 rfl
    exact ⟨_, fd, He.glo_ok X G (c.base.fact 50 rfl), F⟩
  have G_law_later : Gd K mg "_law_later" s_law_later := by
    obtain ⟨fd, F⟩ := c.base.def_ 14 rfl
    exact ⟨_, fd, He.glo_ok X G (c.base.fact 51 rfl), F⟩
  have G_law_operation : Gd K mg "_law_operation" s_law_operation := by
    obtain ⟨fd, F⟩ := c.base.def_ 15 rfl
    exact ⟨_, fd, He.glo_ok X G (c.base.fact 52 rfl), F⟩
  have G_law_changed : Gd K mg "_law_changed" s_law_changed := by
    obtain ⟨fd, F⟩ := c.base.def_ 16 rfl
    exact ⟨_, fd, He.glo_ok X G (c.base.fact 53 rfl), F⟩
  have G_law_worked : Gd K mg "_law_worked" s_law_worked := by
    obtain ⟨fd, F⟩ := c.base.def_ 17 rfl
    exact ⟨_, fd, He.glo_ok X G (c.base.fact 54 rfl), F⟩
  have G_law_do : Gd K mg "_law_do" s_law_do := by
    obtain ⟨fd, F⟩ := c.base.def_ 18 rfl
    exact ⟨_, fd, He.glo_ok X G (c.base.fact 55 rfl), F⟩
  have G_law_equal : Gd K mg "_law_equal" s_law_equal := by
    obtain ⟨fd, F⟩ := c.base.def_ 19 rfl
    exact ⟨_, fd, He.glo_ok X G (c.base.fact 56 rfl), F⟩
  have G_law_stands : Gd K mg "_law_stands" s_law_stands := by
    obtain ⟨fd, F⟩ := c.base.def_ 20 rfl
    exact ⟨_, fd, He.glo_ok X G (c.base.fact 57 rfl), F⟩
  have G_law_error_of : Gd K mg "_law_error_of" s_law_error_of := by
    obtain ⟨fd, F⟩ := c.base.def_ 21 rfl
    exact ⟨_, fd, He.glo_ok X G (c.base.fact 58 rfl), F⟩
  have G_Farm___len__ : Gm K M.a_Farm "__len__" "Farm.__len__" s_Farm___len__ := by
    rw [e_Farm]
    obtain ⟨fd, F⟩ := c.base.def_ 23 rfl
    exact ⟨cl_Farm, _, fd, He.meth_ok (c.base.fact 80 rfl), F⟩
  have G_Moment_later : Gm K M.a_Moment "later" "Moment.later" s_Moment_later := by
    rw [e_Moment]
    obtain ⟨fd, F⟩ := c.base.def_ 24 rfl
    exact ⟨cl_Moment, _, fd, He.meth_ok (c.base.fact 81 rfl), F⟩
  have G_LiveFarm_enter : Gm K M.a_LiveFarm "enter" "LiveFarm.enter" s_LiveFarm_enter := by
    rw [e_LiveFarm]
    obtain ⟨fd, F⟩ := c.base.def_ 25 rfl
    exact ⟨cl_LiveFarm, _, fd, He.meth_ok (c.base.fact 82 rfl), F⟩
  have G_LiveFarm_undo : Gm K M.a_LiveFarm "undo" "LiveFarm.undo" s_LiveFarm_undo := by
    rw [e_LiveFarm]
    obtain ⟨fd, F⟩ := c.base.def_ 26 rfl
    exact ⟨cl_LiveFarm, _, fd, He.meth_ok (c.base.fact 83 rfl), F⟩
  have G_LiveFarm_redo : Gm K M.a_LiveFarm "redo" "LiveFarm.redo" s_LiveFarm_redo := by
    rw [e_LiveFarm]
    obtain ⟨fd, F⟩ := c.base.def_ 27 rfl
    exact ⟨cl_LiveFarm, _, fd, He.meth_ok (c.base.fact 84 rfl), F⟩
  have G_LiveFarm_harvest : Gm K M.a_LiveFarm "harvest" "LiveFarm.harvest" s_LiveFarm_harvest := by
    rw [e_LiveFarm]
    obtain ⟨fd, F⟩ := c.base.def_ 28 rfl
    exact ⟨cl_LiveFarm, _, fd, He.meth_ok (c.base.fact 85 rfl), F⟩
  have G_LiveFarm_wait : Gm K M.a_LiveFarm "wait" "LiveFarm.wait" s_LiveFarm_wait := by
    rw [e_LiveFarm]
    obtain ⟨fd, F⟩ := c.base.def_ 29 rfl
    exact ⟨cl_LiveFarm, _, fd, He.meth_ok (c.base.fact 86 rfl), F⟩
  have G_LiveFarm_change_limit : Gm K M.a_LiveFarm "change_limit" "LiveFarm.change_limit" s_LiveFarm_change_limit := by
    rw [e_LiveFarm]
    obtain ⟨fd, F⟩ := c.base.def_ 30 rfl
    exact ⟨cl_LiveFarm, _, fd, He.meth_ok (c.base.fact 87 rfl), F⟩
  have G_Decoder_take : Gm K M.a_Decoder "take" "Decoder.take" s_Decoder_take := by
    rw [e_Decoder]
    obtain ⟨fd, F⟩ := c.base.def_ 31 rfl
    exact ⟨cl_Decoder, _, fd, He.meth_ok (c.base.fact 88 rfl), F⟩
  have G_Decoder_take_field : Gm K M.a_Decoder "take_field" "Decoder.take_field" s_Decoder_take_field := by
    rw [e_Decoder]
    obtain ⟨fd, F⟩ := c.base.def_ 32 rfl
    exact ⟨cl_Decoder, _, fd, He.meth_ok (c.base.fact 89 rfl), F⟩
  have G_Moment___init__ : Gk K mg "Moment" M.a_Moment "Moment.__init__" s_Moment___init__ := by
    rw [e_Moment]
    obtain ⟨fd, F⟩ := c.base.def_ 33 rfl
    exact ⟨g_Moment, _, fd, He.mkr_ok (c.base.fact 90 rfl), F⟩
  have G_LiveFarm___init__ : Gk K mg "LiveFarm" M.a_LiveFarm "LiveFarm.__init__" s_LiveFarm___init__ := by
    rw [e_LiveFarm]
    obtain ⟨fd, F⟩ := c.base.def_ 34 rfl
    exact ⟨g_LiveFarm, _, fd, He.mkr_ok (c.base.fact 91 rfl), F⟩
  have G_Decoder___init__ : Gk K mg "Decoder" M.a_Decoder "Decoder.__init__" s_Decoder___init__ := by
    rw [e_Decoder]
    obtain ⟨fd, F⟩ := c.base.def_ 35 rfl
    exact ⟨g_Decoder, _, fd, He.mkr_ok (c.base.fact 92 rfl), F⟩
  have G_Farm___init__ : Gk K mg "Farm" M.a_Farm "Farm.__init__" s_Farm___init__ := by
    rw [e_Farm]
    obtain ⟨fd, F⟩ := c.base.def_ 36 rfl
    exact ⟨g_Farm, _, fd, He.mkr_ok (c.base.fact 93 rfl), F⟩
  have G_Farm_names : Gp K M.a_Farm "names" "Farm.names" s_Farm_names := by
    rw [e_Farm]
    obtain ⟨fd, F⟩ := c.base.def_ 37 rfl
    exact ⟨cl_Farm, _, _, fd, propB_ok (c.more 0 rfl), F⟩
  have G_Farm_limits : Gp K M.a_Farm "limits" "Farm.limits" s_Farm_limits := by
    rw [e_Farm]
    obtain ⟨fd, F⟩ := c.base.def_ 38 rfl
    exact ⟨cl_Farm, _, _, fd, propB_ok (c.more 1 rfl), F⟩
  have G_LiveFarm_now : Gp K M.a_LiveFarm "now" "LiveFarm.now" s_LiveFarm_now := by
    rw [e_LiveFarm]
    obtain ⟨fd, F⟩ := c.base.def_ 39 rfl
    exact ⟨cl_LiveFarm, _, _, fd, propB_ok (c.more 2 rfl), F⟩
  have G_LiveFarm_rotten : Gp K M.a_LiveFarm "rotten" "LiveFarm.rotten" s_LiveFarm_rotten := by
    rw [e_LiveFarm]
    obtain ⟨fd, F⟩ := c.base.def_ 40 rfl
    exact ⟨cl_LiveFarm, _, _, fd, propB_ok (c.more 3 rfl), F⟩
  have G_LiveFarm_history : Gp K M.a_LiveFarm "history" "LiveFarm.history" s_LiveFarm_history := by
    rw [e_LiveFarm]
    obtain ⟨fd, F⟩ := c.base.def_ 41 rfl
    exact ⟨cl_LiveFarm, _, _, fd, propB_ok (c.more 4 rfl), F⟩
  have G_LiveFarm_days_left : Gp K M.a_LiveFarm "days_left" "LiveFarm.days_left" s_LiveFarm_days_left := by
    rw [e_LiveFarm]
    obtain ⟨fd, F⟩ := c.base.def_ 42 rfl
    exact ⟨cl_LiveFarm, _, _, fd, propB_ok (c.more 5 rfl), F⟩
  have G_LiveFarm_limits_now : Gp K M.a_LiveFarm "limits_now" "LiveFarm.limits_now" s_LiveFarm_limits_now := by
    rw [e_LiveFarm]
    obtain ⟨fd, F⟩ := c.base.def_ 43 rfl
    exact ⟨cl_LiveFarm, _, _, fd, propB_ok (c.more 6 rfl), F⟩
  obtain ⟨fd, F⟩ := c.base.def_ 22 rfl
  have e := hfa.symm.trans (He.glo_ok X G (c.base.fact 59 rfl))
  cases e
  have b := FunD.bindsA (ps := ["_law_script"]) F fun _ _ _ _ _ _ us hl => match us, hl with | [_], _ => rfl
  refine ⟨fd, fun s v => b s [v] rfl, fun base _ _ tabs => ?_⟩
  have EF : ErrF K mg (errCs K) (He.ga K "FarmError") := errB_ok (c.more 9 rfl) g_FarmError (fun j => match j with | 0 => g_InvalidCart | 1 => g_InvalidOperation | 2 => g_InvalidText | 3 => g_DecodeError | 4 => g_UnknownField | 5 => g_InvalidNumber | 6 => g_InvalidPlan) (He.free_ok X G (c.base.fact 19 rfl))
  have IV : InitV K mg "FarmError" := initB_ok g_FarmError (c.more 10 rfl)
  obtain ⟨fdu, FU⟩ := c.base.def_ 44 rfl
  have R_UnknownField : ExcR P w K mg base "UnknownField" M.a_UnknownField 2 "name" := by
    rw [e_UnknownField]
    exact ok_excU (oexB_ok (c.more 12 rfl)) EF.no4 IV g_UnknownField (He.eqO_ok (c.more 13 rfl)) (of_decide_eq_true (c.more 14 rfl)) FU
  have R_InvalidNumber : ExcT K mg "InvalidNumber" M.a_InvalidNumber := by
    rw [e_InvalidNumber]
    exact excTB_ok g_InvalidNumber (c.more 11 rfl)
  obtain ⟨fo, fdo, at_err, F_err⟩ := G_law_error_of
  have B_err := F_err.bindsN (ps := ["_law_call"]) (fun _ _ _ _ _ _ us hl => match us, hl with | [_], _ => rfl)
  have P_Farm_names := ok_Farm_names (P := P) (w := w) (base := base) M G_Farm_names 
  have P_Farm_limits := ok_Farm_limits (P := P) (w := w) (base := base) M G_Farm_limits 
  have M_Farm___len__ := ok_Farm___len__ (P := P) (w := w) (base := base) M G_Farm___len__ 
  have R_require_field := ok_require_field (P := P) (w := w) (base := base) M G_require_field P_Farm_names R_UnknownField
  have R_validate_number := ok_validate_number (P := P) (w := w) (base := base) M G_validate_number R_InvalidNumber
  have R_replaced := ok_replaced (P := P) (w := w) (base := base) M G_replaced 
  have KR_Moment := ok_Moment___init__ (P := P) (w := w) (base := base) M G_Moment___init__ 
  have K_Moment : MakeD P w K mg base "Moment" M.a_Moment _ _ _ := ⟨KR_Moment, mk_Moment M⟩
  have M_Moment_later := ok_Moment_later (P := P) (w := w) (base := base) M G_Moment_later K_Moment
  have M_LiveFarm_enter := ok_LiveFarm_enter (P := P) (w := w) (base := base) M G_LiveFarm_enter 
  have P_LiveFarm_now := ok_LiveFarm_now (P := P) (w := w) (base := base) M G_LiveFarm_now 
  have P_LiveFarm_rotten := ok_LiveFarm_rotten (P := P) (w := w) (base := base) M G_LiveFarm_rotten 
  have M_LiveFarm_undo := ok_LiveFarm_undo (P := P) (w := w) (base := base) M G_LiveFarm_undo 
  have M_LiveFarm_redo := ok_LiveFarm_redo (P := P) (w := w) (base := base) M G_LiveFarm_redo 
  have P_LiveFarm_history := ok_LiveFarm_history (P := P) (w := w) (base := base) M G_LiveFarm_history 
  have KR_LiveFarm := ok_LiveFarm___init__ (P := P) (w := w) (base := base) M G_LiveFarm___init__ P_Farm_limits M_Farm___len__ K_Moment
  have K_LiveFarm : MakeD P w K mg base "LiveFarm" M.a_LiveFarm _ _ _ := ⟨KR_LiveFarm, mk_LiveFarm M⟩
  have M_LiveFarm_harvest := ok_LiveFarm_harvest (P := P) (w := w) (base := base) M G_LiveFarm_harvest P_Farm_names R_require_field R_replaced M_LiveFarm_enter K_Moment
  have M_LiveFarm_wait := ok_LiveFarm_wait (P := P) (w := w) (base := base) M G_LiveFarm_wait P_Farm_names R_validate_number M_Moment_later M_LiveFarm_enter
  have M_LiveFarm_change_limit := ok_LiveFarm_change_limit (P := P) (w := w) (base := base) M G_LiveFarm_change_limit P_Farm_names R_require_field R_validate_number R_replaced M_LiveFarm_enter K_Moment
  have P_LiveFarm_days_left := ok_LiveFarm_days_left (P := P) (w := w) (base := base) M G_LiveFarm_days_left P_Farm_names
  have P_LiveFarm_limits_now := ok_LiveFarm_limits_now (P := P) (w := w) (base := base) M G_LiveFarm_limits_now P_Farm_names
  have R_law_random := ok_law_random (P := P) (w := w) (base := base) M G_law_random 
  have R_law_below := ok_law_below (P := P) (w := w) (base := base) M G_law_below 
  have R_law_shuffled := ok_law_shuffled (P := P) (w := w) (base := base) M G_law_shuffled R_law_below
  have R_law_fields := ok_law_fields (P := P) (w := w) (base := base) M G_law_fields R_law_below R_law_shuffled
  have R_law_bytes := ok_law_bytes (P := P) (w := w) (base := base) M G_law_bytes 
  have R_checksum := ok_checksum (P := P) (w := w) (base := base) M G_checksum 
  have KR_Decoder := ok_Decoder___init__ (P := P) (w := w) (base := base) M G_Decoder___init__ 
  have K_Decoder : MakeD P w K mg base "Decoder" M.a_Decoder _ _ _ := ⟨KR_Decoder, mk_Decoder M⟩
  have M_Decoder_take := ok_Decoder_take (P := P) (w := w) (base := base) M G_Decoder_take 
  have M_Decoder_take_field := ok_Decoder_take_field (P := P) (w := w) (base := base) M G_Decoder_take_field M_Decoder_take
  have R_is_name := ok_is_name (P := P) (w := w) (base := base) M G_is_name 
  have KR_Farm := ok_Farm___init__ (P := P) (w := w) (base := base) M G_Farm___init__ R_is_name
  have K_Farm : MakeD P w K mg base "Farm" M.a_Farm _ _ _ := ⟨KR_Farm, mk_Farm M⟩
  have R_decode_farm := ok_decode_farm (P := P) (w := w) (base := base) M G_decode_farm R_checksum M_Decoder_take M_Decoder_take_field K_Decoder K_Farm
  have R_law_farm := ok_law_farm (P := P) (w := w) (base := base) M G_law_farm R_law_bytes R_decode_farm
  have R_law_first := ok_law_first (P := P) (w := w) (base := base) M G_law_first 
  have R_law_small := ok_law_small (P := P) (w := w) (base := base) M G_law_small R_law_fields R_law_first
  have R_law_later := ok_law_later (P := P) (w := w) (base := base) M G_law_later 
  have R_law_operation := ok_law_operation (P := P) (w := w) (base := base) M G_law_operation R_law_below
  have R_law_changed := ok_law_changed (P := P) (w := w) (base := base) M G_law_changed R_law_later
  have R_law_worked := ok_law_worked (P := P) (w := w) (base := base) M G_law_worked R_law_changed
  have R_law_do := ok_law_do (P := P) (w := w) (base := base) M G_law_do M_LiveFarm_harvest M_LiveFarm_wait M_LiveFarm_change_limit M_LiveFarm_undo M_LiveFarm_redo
  have R_law_equal := ok_law_equal (P := P) (w := w) (base := base) M G_law_equal 4
  have R_law_stands := ok_law_stands (P := P) (w := w) (base := base) M G_law_stands R_law_equal P_LiveFarm_now P_LiveFarm_rotten P_LiveFarm_history P_LiveFarm_days_left P_LiveFarm_limits_now
  exact ok_law M F (tabs _ (List.mem_map.mpr ⟨("law", none), by simp [endTf], rfl⟩)) (code_at (p := ("law", none)) F) EF (e_UnknownField.trans rfl) (e_InvalidNumber.trans rfl) at_err F_err B_err R_law_random R_law_small R_law_farm R_law_operation R_law_worked R_law_do R_law_equal R_law_stands K_LiveFarm P_LiveFarm_rotten P_LiveFarm_history
end HC
open PySem PySem.W PySem.Calls PyProof.Rows in
set_option maxRecDepth 100000 in set_option maxHeartbeats 0 in
theorem PySem.Challenge.cw_harvestcarts_k35_live_farms_holds : PySem.Challenge.rw_harvestcarts_k35_live_farms.Holds := by
  w_on; o_law
  refine HandSHeadRun.head_any (r := OpenLaw.row PySem.Challenge.rw_harvestcarts_k35_live_farms) (q := view (OpenLaw.row PySem.Challenge.rw_harvestcarts_k35_live_farms).prog [51]) (H := HC.endHk) (ob := HC.endOb) (M := 40000) (loose := HC.endNames) (d := HandSHeadRun.topDef (OpenLaw.row PySem.Challenge.rw_harvestcarts_k35_live_farms).prog 51) (kwd := []) HC.endOb_eq
    (by kernel_rfl) (fun s => by kernel_rfl) HC.endRun (by kernel_rfl) (by kernel_rfl) (by kernel_rfl) (by rfl) (by first | assumption | decide +kernel) (by decide +kernel) ⟨rfl, rfl, rfl, rfl, rfl, by decide +kernel⟩ ?hw ?hc
  case hw => w_witness2
  case hc =>
    refine LamX.walk_ofTsE (l := PySem.Challenge.rw_harvestcarts_k35_live_farms) (n := 63) (k := 14) (x := "_law_script") (CX := fun _ => L2.CX0) rfl (by decide) (by kernel_rfl) ⟨rfl, by decide, by decide⟩ ?F (fun _ _ _ _ _ z => z)
    intro w mg fa h Y G hmg0
    obtain ⟨K, KX, c⟩ := Y
    have hmg : mg (PySem.Str.ofString "law") = some (.ref fa) := by
      have e : (HandSHeadRun.topDef (OpenLaw.row PySem.Challenge.rw_harvestcarts_k35_live_farms).prog 51).name = ("law" : PySem.Str) := by kernel_rfl
      rw [← e]
      exact hmg0
    obtain ⟨fd, hb, hF⟩ := HC.endFacts (P := (PySem.Challenge.rw_harvestcarts_k35_live_farms).prog) (w := w) KX G hmg c
    have back : ∀ {p : Addr × Addr}, p ∈ HC.endTf.map (He.cT K) → ∃ q ∈ HC.endTf, He.cT K q = p := fun hp => List.mem_map.mp hp
    refine ⟨K, KX, fd, HC.endTf.map (He.cT K), HC.sp_law K (He.cT K ("law", none)).2, fun p hp => ?_, fun p hp => ?_, fun p hp => ?_, hb, fun H a ns hl _ hTb hS => ⟨a, ns, rfl, hS, hl, hTb _ (List.mem_map.mpr ⟨("law", none), by simp [HC.endTf], rfl⟩), fun _ => rfl⟩, hF⟩
    · obtain ⟨q, hq, rfl⟩ := back hp; exact c.empty q hq
    · obtain ⟨q, hq, rfl⟩ := back hp; exact c.out q hq
    · obtain ⟨q, hq, rfl⟩ := back hp; exact codeHd_of_K KX (c.hd q hq)
