import PyProof.Rows.All
import Wide.All
import OpenK.AllK
import Wide.FinOn
import KE.KStateDown
import KE.GoesNew
import KE.GoesMore
import HandS.ForMost
import HandS.ForExc
import HandS.Defaults
import HandS.Star
import HandS.Property
import HandS.ClsMeth
import HandS.IsInst
import HandS.Style
import HandS.TupAny
import HandS.Deep
import HandS.Replace
import HandS.Conv
import HandS.Walk
import HandS.Codes
import HandS.Zip
import HandS.Steps
import HandS.Evl
import Lean
import HandS.Head0
import HandS.Head1
import HandS.Head2
import HandS.HeadEnd
import HandS.HeadHook1
import HandS.HeadHook2
import HandS.HeadHook3
import HandS.HeadNt
import OpenK.KMeth
import KE.KOpsOwn
import KE.KStar
import PyProof.SetRoads
import PyProof.Rows.SetFrom
import PyProof.Rows.SetObj
import PyProof.WalksMore
import PyProof.ListStr
import HandS.GenYield
import HandS.GenCall
import HandS.GenList
import HandS.NamedTupSort
import PyProof.InstEq
import KE.KUnpackStar
import HandS.FStr
import HandS.Text
import PyProof.CallStr
import KE.KIntText
import PySem.Challenge.RW_harvestcarts_k55_whole_plans_shifted_and
set_option Elab.async false
set_option linter.all false
set_option maxRecDepth 100000
set_option maxHeartbeats 4100000
/-! promises of defs, methods, makers and properties, and how a call uses them: each by the layer's own rule -/
namespace HC
open PyProof.Rows PySem L2 PySem.Spec
abbrev CXW (P : Program) (w : World) : CXT := L2.CX P w
section
variable {P : Program} {w : World} {K : PySem.W.Frag}
variable {mg : Str → Option Value} {base : Heap} {k : Nat} {f : Addr} {sp : Sp}
/-- a def that takes its parameters by place and keeps sp -/
def FnU (P : Program) (w : World) (K : PySem.W.Frag) (mg : Str → Option Value) (base : Heap) (k : Nat) (f : Addr) (sp : Sp) : Prop := ∃ fd ps, FnOk P w K mg base (CXW P w) k f fd ps sp ∧ Binds K fd ps []
theorem fnr_mk {fd : FuncData} {ps : List Str} (F : FnOk P w K mg base (CXW P w) k f fd ps sp) (B : Binds K fd ps []) : FnU P w K mg base k f sp := ⟨fd, ps, F, B⟩
theorem FnU.raw (F : FnU P w K mg base k f sp) : FnR P w K mg base (CXW P w) k f sp := by
  obtain ⟨fd, ps, F, B⟩ := F
  refine FnR.imp (F.raw B .nil) fun vs H Q E h => ?_
  simpa using h
/-- the module's def x keeps sp -/
structure DefR (P : Program) (w : World) (K : PySem.W.Frag) (mg : Str → Option Value) (base : Heap) (x : Str) (k : Nat) (sp : Sp) : Prop where
  ex : ∃ f, mg x = some (.ref f) ∧ PySem.W.keepIn K (.ref f) = true ∧ FnU P w K mg base k f sp
/-- the method m of the class at C keeps sp -/
structure MethR (P : Program) (w : World) (K : PySem.W.Frag) (mg : Str → Option Value) (base : Heap) (C : Addr) (m : Str) (k : Nat) (sp : Sp) : Prop where
  cl : Cls K C
  ex : ∃ f, Meth K C m f ∧ FnR P w K mg base (CXW P w) k f sp
theorem MethR.at_ {C : Addr} {m : Str} (M : MethR P w K mg base C m k sp) : Meth K C m M.ex.choose := M.ex.choose_spec.1
theorem MethR.fn {C : Addr} {m : Str} (M : MethR P w K mg base C m k sp) : FnR P w K mg base (CXW P w) k M.ex.choose sp := M.ex.choose_spec.2
/-- the class x at C is made by an __init__ that keeps sp -/
structure MakeR (P : Program) (w : World) (K : PySem.W.Frag) (mg : Str → Option Value) (base : Heap) (x : Str) (C : Addr) (k : Nat) (sp : Sp) : Prop where
  at_ : mg x = some (.ref C)
  ex : ∃ f, Mk K C f ∧ FnR P w K mg base (CXW P w) k f sp
/-- the property f of the class at C -/
structure PropR (P : Program) (w : World) (K : PySem.W.Frag) (mg : Str → Option Value) (base : Heap) (C : Addr) (f : Str) (k : Nat) (sp : Sp) : Prop where
  cl : Cls K C
  ex : ∃ p g, PropOf K C f p g ∧ FnU P w K mg base k g sp
/-- what a body owes, the frame's slots laid as start says -/
abbrev Owes (P : Program) (w : World) (K : PySem.W.Frag) (mg : Str → Option Value) (base : Heap) (N : List Str) (qual : Str) (scope : Scope) (body : List Stmt) (k : Nat) (f : Addr) (sp : Sp) (cdv : Value) : Prop :=
  ∀ (A : Around) (outer : List Env) (s : Shared) (H : Hp) (vs : List V) (Q : VK) (E : XK),
    Room k (A.deeper (envOfC qual scope s.heap.objs.size f cdv)) → sp vs H Q E →
    ∃ t, PSs (cxOf (CXW P w) P w K mg base N qual scope f cdv A outer s H E) body t ∧ t { nx := fun _ H' => Q .non H', rt := Q } (start N vs) H
/-- def f(self, *v): by the layer's fn_star -/
theorem fnr_star1 {x qual : Str} {params : Arguments} {body : List Stmt} {scope : Scope} {fd : FuncData} {N : List Str} {p1 pv : Str} (F : FunD K x qual params body scope [] [] f fd) (S : FnScope N ([p1] ++ [pv]) scope)
    (h0 : ∀ (kV doc pm : Value) (an : Option Addr) (cdv ct : Value) (a : Value), bindArgs (PySem.W.fnOf x qual params body scope .none kV doc pm an cdv ct) ⟨[a], []⟩ = (newTuple [] >>= fun t => pure [(p1, a), (pv, t)]))
    (h1 : ∀ (kV doc pm : Value) (an : Option Addr) (cdv ct : Value) (a r : Value) (rs : List Value), bindArgs (PySem.W.fnOf x qual params body scope .none kV doc pm an cdv ct) ⟨a :: r :: rs, []⟩ = (newTuple (r :: rs) >>= fun t => pure [(p1, a), (pv, t)]))
    (owes : ∀ cdv, Owes P w K mg base N qual scope body k f sp cdv) :
    FnR P w K mg base (CXW P w) (k + 1) f (fun vs H Q E => ∃ w0 rest, vs = w0 :: rest ∧ rest.length ≤ sizeLine ∧ ∀ p, H p = none → sp [w0, V.ref p] (upd H p (.tup rest)) Q E) := by
  rcases F.ex with ⟨c1, c2, dv, kv, dc, pm, an, cdv, ct, sl, e, at_, code, dfl, _⟩
  subst e
  have dn : dv = .none := dfl.elim (fun z => z.2) (fun z => absurd rfl z.1)
  subst dn
  have both := StX.bind_star1 (B := fun us => bindArgs (PySem.W.fnOf x qual params body scope .none kv dc pm an cdv ct) ⟨us, []⟩) (h0 kv dc pm an cdv ct) (h1 kv dc pm an cdv ct)
  exact FnR.imp (StX.fn_star (P := P) (w := w) (mg := mg) (base := base) (k := k) (sp := sp) at_ code S StX.cxUp both (owes cdv)) fun vs H Q E ⟨w0, rest, z, hl, h⟩ => ⟨[w0], rest, z, rfl, hl, h⟩
end
section
variable {X : Cx} {k : Nat} {C : Addr} {sp : Sp} {E : XK} {x m f : Str} {e o : Expr} {es : List Expr} {ta te : TE} {t : TA} {p pos apos : Pos}
theorem passN : Passes (CXW X.prog X.w) X E0 := passL
/-- f(e, ..) -/
def tCallR (sp : Sp) (E : XK) (t : TA) : TE := fun σ H Q => t σ H fun vs H1 => sp vs H1 Q E
theorem tCallR_eq (sp : Sp) (E : XK) (t : TA) : tCall sp [] E t = tCallR sp E t := by
  funext σ H Q
  simp only [tCall, tCallR, List.append_nil]
theorem pe_callR (D : DefR X.prog X.w X.K X.mg X.base x k sp) (room : Room k X.A) (leave : Passes (CXW X.prog X.w) X E) (args : PA X (e :: es) t) (glob : Gl X x := by rfl) (nodeb : (x == ("__debug__" : Str)) = false := by decide) (one : starEach (e :: es) X.env = (false, eval e X.env) :: starEach es X.env := by rfl) (plain : (backTo pos (starEach es X.env)).any (·.1) = false := by rfl) : PE X (.Call (.Name x p) (e :: es) [] pos) (tCallR sp E t) := by
  obtain ⟨g, at_, kp, fd, ps, F, B⟩ := D.ex
  rw [← tCallR_eq]
  exact pe_call F room glob at_ kp B .nil leave args nodeb one plain
/-- f( *e) -/
def tStar1 (K : PySem.W.Frag) (te : TE) : TA := fun σ H Q => te σ H fun y H1 => ∃ a xs, y = V.ref a ∧ (SqT K H1 a xs ∨ SqL K H1 a xs) ∧ Q xs H1
/-- C( *e): the class stands in K, so it is called as a def of K is -/
theorem pe_makeS (M : MakeR X.prog X.w X.K X.mg X.base x C k sp) (room : Room (k + 1) X.A) (leave : Passes (CXW X.prog X.w) X E) (arg : PE X e te) (glob : Gl X x := by rfl) (nodeb : (x == ("__debug__" : Str)) = false := by decide) (one : starEach [.Starred e apos] X.env = [(true, eval e X.env)] := by rfl) : PE X (.Call (.Name x p) [.Starred e apos] [] pos) (StX.tMakeR C sp E (tStar1 X.K te)) := by
  constructor
  intro pn sh σ H Q inv h
  obtain ⟨g, made, F⟩ := M.ex
  have argRun := arg.run pn sh σ H _ inv h
  refine wpAny_Call_Name_kw (ld_glob inv glob M.at_ (PySem.W.callWith_S (h₀ := X.base) inv.ok.mod.kin made.kp (thn argRun ?_) one) nodeb)
  rintro v s1 ⟨y, H1, inv1, rel, a, xs, rfl, sq, q⟩
  cases rel
  exact StX.star_any inv1 sq fun us s2 inv2 vals => ⟨inv2.kIn, StX.run_makeR made F room leave inv2 vals q⟩
/-- C(e, ..) -/
theorem pe_makeP (M : MakeR X.prog X.w X.K X.mg X.base x C k sp) (room : Room (k + 1) X.A) (leave : Passes (CXW X.prog X.w) X E) (args : PA X (e :: es) t) (glob : Gl X x := by rfl) (nodeb : (x == ("__debug__" : Str)) = false := by decide) (one : starEach (e :: es) X.env = (false, eval e X.env) :: starEach es X.env := by rfl) (plain : (backTo pos (starEach es X.env)).any (·.1) = false := by rfl) : PE X (.Call (.Name x p) (e :: es) [] pos) (StX.tMakeR C sp E t) := by
  obtain ⟨g, made, F⟩ := M.ex
  exact StX.pe_makeR made F room glob M.at_ leave args nodeb one plain
/-- o.f, a property -/
def tPropR (C : Addr) (sp : Sp) (ta : TE) : TE := tProp C sp [] E0 ta
theorem pe_propR (M : PropR X.prog X.w X.K X.mg X.base C f k sp) (room : Room (k + 1) X.A) (obj : PE X e ta) (plain : attributeBase e f X.env (eval e X.env) = eval e X.env := by rfl) : PE X (.Attribute e f pos) (tPropR C sp ta) := by
  obtain ⟨pr, g, is, fd, ps, F, B⟩ := M.ex
  exact pe_prop (CX := CXW X.prog X.w) obj M.cl is F room B .nil (passL (X := X.nox)) plain
/-- len(o), o an instance with an own __len__ -/
def rLenO (C : Addr) (sp : Sp) : List V → Hp → VK → Prop := fun xs H Q => ∃ a dx fs, xs = [.ref a] ∧ H a = some (.ins C dx fs) ∧ sp [.ref a] H (fun v H' => ∃ n : Int, v = .int n ∧ 0 ≤ n ∧ n < 2 ^ 63 ∧ Q (.int n) H') E0
theorem call_lenO (M : MethR X.prog X.w X.K X.mg X.base C "__len__" k sp) (room : Room (k + 1) X.A) : CallR X (.builtin "len") (rLenO C sp) := by
  rintro pn sh σ H _ us Q inv rel ⟨a, dx, fs, rfl, obj, owed⟩
  obtain ⟨_, rfl, rfl⟩ := vals1 rel
  have look := (ins_get inv.hok obj).choose_spec.1.look
  have call := M.fn X.A.in1 X.stack sh H [.ref a] [.ref a] _ E0 room.in1 inv.env0.in1 (.cons rfl .nil) owed
  refine PySem.W.len_K inv.fr.choose_spec inv.mod.kin look.choose_spec.1 M.at_.at_ M.at_.fn (wpAny_call (codeAny_mono call ?_))
  rintro (er | fl) sh' got
  · rcases got with ⟨_, _, _, _, _, _, _, _, _, _, _, _, none_leaves⟩
    exact none_leaves.elim
  · cases fl with
    | ret val =>
      obtain ⟨v, H', inv', rel', n, rfl, low, high, q⟩ := inv.after got
      obtain ⟨tk, rfl⟩ := rel'
      exact ⟨⟨low, high⟩, V.int n, H', inv'.tok _, ⟨_, rfl⟩, q⟩
    | _ => exact got.elim
end
/-! ### enumerate over a tuple: the turns by GoesN.enumFrom over Draws.tuple; only the call with one argument is walked here -/
namespace EnT
/-- the record that enumerate() makes over the iterator at it -/
abbrev fresh (it : Addr) : Obj := { cls := .type "enumerate", data := .fields #[.none, .bool false, .ref it, rawInt 0, .none, .none] }
theorem new_of {v : Value} {o : Obj} {Z : Heap → Prop} (B : Begins v o Z) :
    Meets (Builtin.«enumerate.__new__» ⟨[.type "enumerate", v], []⟩) (fun _ R s => Z s.heap ∧ R (.ok (.ret (.ref (s.heap.push o).objs.size))) { s with heap := (s.heap.push o).push (fresh s.heap.objs.size) }) := by
  refine .of_wp fun prog w A R s owed => ?_
  have sub := sub_enumerate
  obtain ⟨start, goal⟩ := owed
  wp_walk using B.iter prog w _ _ _ _ start
  refine wpAny_stack_any fun frames => ?_
  refine wpAny_pure ?_
  split
  · rename_i c _ _ _ _ _
    generalize (c == Value.type "enumerate") = short
    cases short <;> (wp_walk using B.iter prog w _ _ _ _ start) <;> exact ⟨_, rfl, goal⟩
  · wp_walk using B.iter prog w _ _ _ _ start
    exact ⟨_, rfl, goal⟩
/-- enumerate(v): an iterator of v's, then the record over it -/
theorem call_of {prog : Program} {w : World} {A : Around} {E : Value → Shared → Prop} {s : Shared} {v : Value} {o : Obj} {Z : Heap → Prop} {Q : Value → Shared → Prop} (B : Begins v o Z) (start : Z s.heap)
    (go : ∀ h, (s.heap.push o).push (fresh s.heap.objs.size) = h → h.get? s.heap.objs.size = some o → IsEnum h (s.heap.objs.size + 1) s.heap.objs.size 0 .none → (∀ b ob, s.heap.get? b = some ob → h.get? b = some ob) →
      Q (.ref (s.heap.objs.size + 1)) { s with heap := h }) : wpAny (model prog w) A (call (.type "enumerate") [v]) Q E s := by
  have size1 : (s.heap.push o).objs.size = s.heap.objs.size + 1 := Heap.size_push ..
  have mine : ((s.heap.push o).push (fresh s.heap.objs.size)).get? (s.heap.objs.size + 1) = some (fresh s.heap.objs.size) := by
    rw [← size1]; exact Heap.get?_push_size _ rfl
  refine callType_new F.called_enumerate (by decide) (F.typeCall_enumerate_1 v) (F.newCall_enumerate_1 v) (fun obj => F.args_object_init_2 obj v) F.entry_enumerate_new (new_of B) ⟨start, ?_⟩
  refine ⟨⟨fresh s.heap.objs.size, ?_, rfl⟩, ?_⟩
  · show Heap.get? _ (s.heap.push o).objs.size = _
    rw [size1]
    exact mine
  · rw [size1]
    exact go _ rfl (Heap.get?_push_of_some _ (Heap.get?_push_size _ B.free)) mine fun b ob z => Heap.get?_push_of_some _ (Heap.get?_push_of_some _ z)
end EnT
/-- enumerate over the tuple at a, of n items: pairs, each new -/
def IteT (K : PySem.W.Frag) (a : Addr) (n : Nat) : It where
  go i H := i < n ∧ ∃ xs, SqT K H a xs ∧ xs.length = n
  yld i H v H' := ∃ T x, v = .ref T ∧ H T = none ∧ H' = upd H T (.tup [.int (i : Nat), x]) ∧ ∀ xs, SqT K H a xs → xs[i]? = some x
  stop i H := n ≤ i ∧ ∃ xs, SqT K H a xs ∧ xs.length = n
/-- what the heap says between two turns -/
structure TnE (a e it : Addr) (n i : Nat) (h : Heap) : Prop where
  le : i ≤ n
  rec_ : ∃ old, IsEnum h e it (0 + (i : Int)) old
  iter : h.IsTupleIter it a i
theorem two {b x y : Addr} (h : b ∈ [x, y]) : b = x ∨ b = y := by simpa using h
section
variable {P : Program} {w : World} {K : PySem.W.Frag} {elts : List Expr} {kk n : Nat} {tpos : Pos} {a e it : Addr}
theorem walkE {A : Around} (calm : A.in1.handled = none) (ai : a ≠ it) (ae : a ≠ e) (ei : e ≠ it) (cells : Array Value) :
    GoesN P w A (.Tuple elts kk tpos) e [e, it, a] [e, it] cells.size (fun i h₀ v h => ∃ T t x, v = .ref T ∧ h₀.objs.size ≤ T ∧ cells[i]? = some x ∧ h.IsTuple T #[.int (0 + (i : Int)) t, x]) (fun i h => (∃ old, IsEnum h e it (0 + (i : Int)) old) ∧ h.IsTupleIter it a i ∧ h.IsTuple a cells) :=
  GoesN.enumFrom 0 (Draws.tuple calm it a ai cells) e ei (by simp [ei, Ne.symm ae]) (by simp)
theorem turn_enumT (ai : a ≠ it) (ae : a ≠ e) (ei : e ≠ it) : Turn P w K (.Tuple elts kk tpos) (IteT K a n) [e, it] e (TnE a e it n) := by
  constructor
  · simp
  · intro i h now b hb
    rcases two hb with rfl | rfl
    · obtain ⟨old, z⟩ := now.rec_
      exact ⟨_, z, nofun⟩
    · obtain ⟨o, z, _, dat⟩ := now.iter
      refine ⟨o, z, fun v c => ?_⟩
      rw [dat] at c
      exact nomatch c
  · intro i h h' now same
    refine ⟨now.le, ?_, now.iter.at (same it (by simp))⟩
    obtain ⟨old, z⟩ := now.rec_
    exact ⟨old, same e (by simp) _ z⟩
  · rintro X rfl rfl rfl calm i pn s σ H E inv fp now ⟨lt, xs, sq, len⟩
    obtain ⟨cells, vals, tup, _⟩ := inv.tuple sq
    have sz : cells.toArray.size = n := by
      have := vals.length
      simp only [List.size_toArray]
      omega
    refine (walkE (P := X.prog) (w := X.w) (A := X.A) (show X.A.in1.handled = none from inv.ok.hd calm) ai ae ei cells.toArray).goes i s _ E (by omega) ⟨now.rec_, now.iter, tup⟩ ?_
    rintro _ h' tk ⟨T, t, u, rfl, new, at_, pair⟩ ⟨rec', iter', _⟩ same _
    have atX : i < xs.length := by omega
    obtain ⟨u', hu, ru⟩ := vals.get (List.getElem?_eq_getElem atX)
    have uu : u' = u := by
      rw [List.getElem?_toArray] at at_
      exact Option.some.inj (hu.symm.trans at_)
    subst uu
    rw [Int.zero_add] at pair
    have ob : ObjOk X.prog X.w (upd H T (.tup [.int (i : Nat), xs[i]])) h' T (.tup [.int (i : Nat), xs[i]]) := by
      refine ⟨?_, _, .cons ⟨t, rfl⟩ (.cons ru .nil), pair⟩
      show 2 ≤ sizeLine
      decide
    refine ⟨.ref T, _, inv.turnedNew same fp new ob, rfl, ⟨T, xs[i], rfl, inv.hok.fresh new, rfl, fun ys hy => ?_⟩, ⟨lt, rec', iter'⟩, fun b hb => ?_⟩
    · rw [inv.tuple_inj hy sq]
      exact List.getElem?_eq_getElem atX
    · refine (upd_ne fun z => ?_).trans (fp b hb).1
      obtain ⟨o, live⟩ : ∃ o, s.heap.get? b = some o := by
        rcases two hb with rfl | rfl
        · obtain ⟨old, q⟩ := now.rec_
          exact ⟨_, q⟩
        · obtain ⟨o, q, _⟩ := now.iter
          exact ⟨o, q⟩
      have := Heap.lt_size live
      rw [z] at this
      exact Nat.lt_irrefl _ (Nat.lt_of_lt_of_le this new)
  · rintro X rfl rfl rfl calm i pn s σ H E inv fp now ⟨ge, xs, sq, len⟩
    obtain ⟨cells, vals, tup, _⟩ := inv.tuple sq
    have sz : cells.toArray.size = i := by
      have := vals.length
      have := now.le
      simp only [List.size_toArray]
      omega
    have W := walkE (P := X.prog) (w := X.w) (A := X.A) (elts := elts) (kk := kk) (tpos := tpos) (show X.A.in1.handled = none from inv.ok.hd calm) ai ae ei cells.toArray
    rw [sz] at W
    exact W.stops s _ E ⟨now.rec_, now.iter, tup⟩ fun h' tk same _ => inv.turnedL same fp
  · intro A i s Q E now q
    obtain ⟨old, z⟩ := now.rec_
    exact wpAny_pyIter_enum z q
end
def iEnumT (K : PySem.W.Frag) (ta : TA) : TI := fun σ H R => ta σ H fun vs H1 => ∃ a xs, vs = [.ref a] ∧ SqT K H1 a xs ∧ R (IteT K a xs.length) H1
theorem pi_enumT {X : Cx} {e : Expr} {ta : TA} {p pos tpos : Pos} {elts : List Expr} {kk : Nat} (glob : Gl X "enumerate") (free : X.mg "enumerate" = none) (args : PA X [e] ta) (one : starEach [e] X.env = [(false, eval e X.env)] := by rfl) : PI X (.Tuple elts kk tpos) (.Call (.Name "enumerate" p) [e] [] pos) (iEnumT X.K ta) := by
  constructor
  intro pn s σ H R inv h
  refine Call_ (ld_blt inv glob free boot_enumerate ?_)
  refine PyProof.Rows.callWith_type1 (thn (args.run pos pn s σ H _ inv h) ?_) one rfl
  rintro us s1 ⟨vs, H1, inv1, rel, a, xs, rfl, sq, q⟩
  obtain ⟨_, rfl, rfl⟩ := vals1 rel
  obtain ⟨cells, vals, tup, _⟩ := inv1.tuple sq
  have below : a < s1.heap.objs.size := by
    obtain ⟨o, z, _⟩ := tup
    exact Heap.lt_size z
  refine EnT.call_of (begins_tuple a cells.toArray) tup fun h' _ isIter isRec same => wpAny_pyIter_enum isRec ?_
  refine ⟨s1.heap.objs.size + 1, [s1.heap.objs.size + 1, s1.heap.objs.size], TnE a _ _ xs.length, IteT X.K a xs.length, H1, rfl, inv1.kept (t' := s1.toks) same, turn_enumT ?_ ?_ ?_, ⟨Nat.zero_le _, ⟨.none, isRec⟩, _, isIter, rfl, rfl⟩, fun b hb => ?_, q⟩
  · exact Nat.ne_of_lt below
  · exact Nat.ne_of_lt (Nat.lt_succ_of_lt below)
  · exact Nat.succ_ne_self _
  · have up : s1.heap.objs.size ≤ b := by
      rcases two hb with z | z <;> rw [z]
      · exact Nat.le_succ _
      · exact Nat.le_refl _
    exact inv1.fpOk up (inv1.hok.fresh up)
theorem walk_enumT {K : PySem.W.Frag} {a : Addr} {xs : List V} : Walk (IteT K a xs.length) xs.length (fun H => SqT K H a xs) (YPair (fun i => some (.int (i : Nat))) (fun i => xs[i]?)) := by
  constructor
  · exact fun i H lt sq => ⟨lt, xs, sq, rfl⟩
  · exact fun H sq => ⟨Nat.le_refl _, xs, sq, rfl⟩
  · rintro i H v H' _ sq ⟨T, x, e1, e2, e3, e4⟩
    exact ⟨T, _, x, e1, e2, e3, rfl, e4 xs sq⟩
end HC
/-! operators whatever the types, and the steps of a reading -/
namespace HC
open PyProof.Rows PySem L2 PySem.Spec

/-! ### heaps -/
theorem same_new {H : Hp} {p : Addr} {o : HO} (h : H p = none) : Same H (upd H p o) := fun b u e => by rw [upd_ne (ne_of_none e h)]; exact e
/-- all but d is as it was -/
def Keep (d : Addr) (H H' : Hp) : Prop := ∀ b o, b ≠ d → H b = some o → H' b = some o
theorem Keep.refl (d : Addr) (H : Hp) : Keep d H H := fun _ _ _ h => h
theorem Keep.trans {d : Addr} {H H1 H2 : Hp} (a : Keep d H H1) (b : Keep d H1 H2) : Keep d H H2 := fun c o n h => b c o n (a c o n h)
theorem keep_upd {H : Hp} {d : Addr} {o : HO} : Keep d H (upd H d o) := fun b u n e => by rw [upd_ne n]; exact e
end HC
namespace L2
open PySem PySem.Spec PyProof.Rows HC
theorem Same.keep {d : Addr} {H H' : Hp} (a : Same H H') : Keep d H H' := fun b o _ h => a b o h
end L2
namespace HC
open PyProof.Rows PySem L2 PySem.Spec
theorem keep_same {d : Addr} {H H' : Hp} (a : Keep d H H') (h : H d = none) : Same H H' := fun b o e => a b o (ne_of_none e h) e
theorem same_l {K : PySem.W.Frag} {H H' : Hp} {a : Addr} {xs : List V} (e : Same H H') (h : SqL K H a xs) : SqL K H' a xs := e.seq h
theorem same_t {K : PySem.W.Frag} {H H' : Hp} {a : Addr} {xs : List V} (e : Same H H') (h : SqT K H a xs) : SqT K H' a xs := h.imp (fun z => z.imp (e a _) fun ⟨o, q⟩ => ⟨o, e a _ q⟩) id
mutual
theorem dp_same {K : PySem.W.Frag} {H H' : Hp} (e : Same H H') : ∀ (d : PyData) (v : V), Dp K H v d → Dp K H' v d
  | .none, _, .non => .non
  | .bool _, _, .bl b => .bl b
  | .int _, _, .int i => .int i
  | .str _, _, .str x => .str x
  | .list ds, _, .lst h a => .lst (same_l e h) (dp_sameAll e ds _ a)
  | .tuple ds, _, .tup h a => .tup (same_t e h) (dp_sameAll e ds _ a)
theorem dp_sameAll {K : PySem.W.Frag} {H H' : Hp} (e : Same H H') : ∀ (ds : List PyData) (vs : List V), DpAll K H vs ds → DpAll K H' vs ds
  | [], _, .nil => .nil
  | d :: ds, _, .cons a b => .cons (dp_same e d _ a) (dp_sameAll e ds _ b)
end
end HC
namespace L2
open PySem PySem.Spec PyProof.Rows HC
theorem Same.dp {K : PySem.W.Frag} {H H' : Hp} {v : V} {d : PyData} (e : Same H H') (h : Dp K H v d) : Dp K H' v d := dp_same e d v h
theorem Same.dpa {K : PySem.W.Frag} {H H' : Hp} {vs : List V} {ds : List PyData} (e : Same H H') (h : DpAll K H vs ds) : DpAll K H' vs ds := dp_sameAll e ds vs h
theorem DpAll.length {K : PySem.W.Frag} {H : Hp} : ∀ {vs : List V} {ds : List PyData}, DpAll K H vs ds → vs.length = ds.length
  | _, _, .nil => rfl
  | _, _, .cons _ b => congrArg Nat.succ (DpAll.length b)
theorem DpAll.get {K : PySem.W.Frag} {H : Hp} {vs : List V} {ds : List PyData} {i : Nat} {v : V} (h : DpAll K H vs ds) (e : vs[i]? = some v) : ∃ d, ds[i]? = some d ∧ Dp K H v d :=
  match i, h, e with
  | 0, .cons a _, e => ⟨_, rfl, Option.some.inj e ▸ a⟩
  | j + 1, .cons _ b, e => DpAll.get (i := j) b e
theorem DpAll.getD {K : PySem.W.Frag} {H : Hp} {vs : List V} {ds : List PyData} {i : Nat} {d : PyData} (h : DpAll K H vs ds) (e : ds[i]? = some d) : ∃ v, vs[i]? = some v ∧ Dp K H v d :=
  match i, h, e with
  | 0, .cons a _, e => ⟨_, rfl, Option.some.inj e ▸ a⟩
  | j + 1, .cons _ b, e => DpAll.getD (i := j) b e
theorem DpAll.append {K : PySem.W.Frag} {H : Hp} : ∀ {vs ws : List V} {ds es : List PyData}, DpAll K H vs ds → DpAll K H ws es → DpAll K H (vs ++ ws) (ds ++ es)
  | _, _, _, _, .nil, s => s
  | _, _, _, _, .cons r t, s => .cons r (DpAll.append t s)
end L2
namespace HC
open PyProof.Rows PySem L2 PySem.Spec
theorem dpa_take {K : PySem.W.Frag} {H : Hp} : ∀ {vs : List V} {ds : List PyData} (n : Nat), DpAll K H vs ds → DpAll K H (vs.take n) (ds.take n)
  | _, _, 0, _ => .nil
  | _, _, _ + 1, .nil => .nil
  | _, _, n + 1, .cons r t => .cons r (dpa_take n t)
theorem getm {α β : Type} {f : α → β} {l : List α} {i : Nat} {d : β} (h : (l.map f)[i]? = some d) : ∃ x, l[i]? = some x ∧ f x = d := by
  rw [List.getElem?_map] at h
  exact Option.map_eq_some_iff.mp h
theorem dpa_ints {K : PySem.W.Frag} {H : Hp} : ∀ ns : List Int, DpAll K H (ns.map V.int) (ns.map PyData.int)
  | [] => .nil
  | n :: r => .cons (.int n) (dpa_ints r)
theorem dpa_strs {K : PySem.W.Frag} {H : Hp} : ∀ ns : List Str, DpAll K H (ns.map V.str) (ns.map PyData.str)
  | [] => .nil
  | n :: r => .cons (.str n) (dpa_strs r)


/-! ### data -/
abbrev pInts (ns : List Int) : PyData := .list (ns.map .int)
theorem dp_lst {K : PySem.W.Frag} {H : Hp} {a : Addr} {xs : List V} {ds : List PyData} (h : H a = some (.lst xs)) (h2 : DpAll K H xs ds) : Dp K H (.ref a) (.list ds) := .lst (SqL.of h) h2
theorem dp_tup {K : PySem.W.Frag} {H : Hp} {a : Addr} {xs : List V} {ds : List PyData} (h : H a = some (.tup xs)) (h2 : DpAll K H xs ds) : Dp K H (.ref a) (.tuple ds) := .tup (SqT.of h) h2
end HC
namespace L2
open PySem PySem.Spec PyProof.Rows HC
theorem Dp.inv_l {K : PySem.W.Frag} {H : Hp} {v : V} {ds : List PyData} (h : Dp K H v (.list ds)) : ∃ a xs, v = .ref a ∧ SqL K H a xs ∧ DpAll K H xs ds := by
  cases h with
  | lst h1 h2 => exact ⟨_, _, rfl, h1, h2⟩
theorem Dp.inv_t {K : PySem.W.Frag} {H : Hp} {v : V} {ds : List PyData} (h : Dp K H v (.tuple ds)) : ∃ a xs, v = .ref a ∧ SqT K H a xs ∧ DpAll K H xs ds := by
  cases h with
  | tup h1 h2 => exact ⟨_, _, rfl, h1, h2⟩
theorem Dp.inv_i {K : PySem.W.Frag} {H : Hp} {v : V} {i : Int} (h : Dp K H v (.int i)) : v = .int i := by cases h; rfl
theorem Dp.inv_s {K : PySem.W.Frag} {H : Hp} {v : V} {i : Str} (h : Dp K H v (.str i)) : v = .str i := by cases h; rfl
theorem Dp.inv_b {K : PySem.W.Frag} {H : Hp} {v : V} {i : Bool} (h : Dp K H v (.bool i)) : v = .bl i := by cases h; rfl
theorem Dp.inv_n {K : PySem.W.Frag} {H : Hp} {v : V} (h : Dp K H v .none) : v = .non := by cases h; rfl
theorem DpAll.inv1 {K : PySem.W.Frag} {H : Hp} {vs : List V} {d : PyData} {ds : List PyData} (h : DpAll K H vs (d :: ds)) : ∃ v r, vs = v :: r ∧ Dp K H v d ∧ DpAll K H r ds :=
  match h with | .cons first more => ⟨_, _, rfl, first, more⟩
theorem DpAll.inv0 {K : PySem.W.Frag} {H : Hp} {vs : List V} (h : DpAll K H vs []) : vs = [] := by cases h; rfl
theorem DpAll.inv2 {K : PySem.W.Frag} {H : Hp} {vs : List V} {d e : PyData} (h : DpAll K H vs [d, e]) : ∃ v u, vs = [v, u] ∧ Dp K H v d ∧ Dp K H u e := by
  obtain ⟨v, r, rfl, h1, h2⟩ := h.inv1
  obtain ⟨u, r, rfl, h3, h4⟩ := h2.inv1
  obtain rfl := h4.inv0
  exact ⟨v, u, rfl, h1, h3⟩
end L2
namespace HC
open PyProof.Rows PySem L2 PySem.Spec

/-! data without lists stand whatever list or instance changes -/
mutual
def noL : PyData → Bool
  | .list _ => false
  | .tuple ds => noLs ds
  | .none | .bool _ | .int _ | .str _ | .dict _ => true
def noLs : List PyData → Bool
  | [] => true
  | d :: ds => noL d && noLs ds
end
def NotT : Option HO → Prop
  | some (.tup _) => False
  | some (.frz _ (.tup _)) => False
  | _ => True
theorem keep_t {K : PySem.W.Frag} {H H' : Hp} {d a : Addr} {xs : List V} (e : Keep d H H') (hd : NotT (H d)) (h : SqT K H a xs) : SqT K H' a xs := by
  refine h.imp (fun z => z.imp (fun q => e a _ (fun ad => ?_) q) (fun ⟨o, q⟩ => ⟨o, e a _ (fun ad => ?_) q⟩)) id
  all_goals (subst ad; rw [q] at hd; exact hd)
mutual
theorem dp_keep {K : PySem.W.Frag} {H H' : Hp} {d : Addr} (e : Keep d H H') (hd : NotT (H d)) : ∀ (x : PyData) (v : V), noL x = true → Dp K H v x → Dp K H' v x
  | .none, _, _, .non => .non
  | .bool _, _, _, .bl b => .bl b
  | .int _, _, _, .int i => .int i
  | .str _, _, _, .str x => .str x
  | .list ds, _, n, .lst h a => by simp [noL] at n
  | .tuple ds, _, n, .tup h a => .tup (keep_t e hd h) (dp_keepAll e hd ds _ (by simpa [noL] using n) a)
theorem dp_keepAll {K : PySem.W.Frag} {H H' : Hp} {d : Addr} (e : Keep d H H') (hd : NotT (H d)) : ∀ (xs : List PyData) (vs : List V), noLs xs = true → DpAll K H vs xs → DpAll K H' vs xs
  | [], _, _, .nil => .nil
  | x :: xs, _, n, .cons a b => by
    have n' : noL x = true ∧ noLs xs = true := by simpa [noLs] using n
    exact .cons (dp_keep e hd x _ n'.1 a) (dp_keepAll e hd xs _ n'.2 b)
end
theorem noLs_of {ds : List PyData} (h : ∀ d ∈ ds, noL d = true) : noLs ds = true := by
  induction ds with
  | nil => rfl
  | cons d r ih => simp [noLs, h d (by simp), ih fun e he => h e (by simp [he])]
theorem notT_l {H : Hp} {d : Addr} {xs : List V} (h : H d = some (.lst xs)) : NotT (H d) := by rw [h]; trivial
theorem notT_n {H : Hp} {d : Addr} (h : H d = none) : NotT (H d) := by rw [h]; trivial
theorem notT_i {H : Hp} {d C dx : Addr} {fs : List (Str × V)} (h : H d = some (.ins C dx fs)) : NotT (H d) := by rw [h]; trivial
/-- data that the layer's == speaks of, to a depth -/
def Sh (n : Nat) (d : PyData) : Prop := d.canLay0 = true ∧ d.depth ≤ n
theorem Sh.ok {n : Nat} {d : PyData} (h : Sh n d) (hn : n ≤ 64) : SeqAt.shaped d = true := by
  unfold SeqAt.shaped
  rw [h.1, Bool.true_and]
  exact decide_eq_true (Nat.le_trans h.2 hn)
theorem Sh.mono {n m : Nat} {d : PyData} (h : Sh n d) (hn : n ≤ m) : Sh m d := ⟨h.1, Nat.le_trans h.2 hn⟩
theorem sh_i (i : Int) : Sh 0 (.int i) := ⟨by simp [PyData.canLay0], by simp [PyData.depth]⟩
theorem sh_s {i : Str} (h : PyData.strOk i = true) : Sh 0 (.str i) := ⟨by simp [PyData.canLay0, h], by simp [PyData.depth]⟩
theorem sh_b (i : Bool) : Sh 0 (.bool i) := ⟨by simp [PyData.canLay0], by simp [PyData.depth]⟩
theorem sh_n : Sh 0 .none := ⟨by simp [PyData.canLay0], by simp [PyData.depth]⟩
theorem lay_all {ds : List PyData} (h : ∀ d ∈ ds, d.canLay0 = true) : PyData.canLayAll0 ds = true := by
  induction ds with
  | nil => simp [PyData.canLayAll0]
  | cons d r ih => simp [PyData.canLayAll0, h d (by simp), ih fun e he => h e (by simp [he])]
theorem depth_all {ds : List PyData} {n : Nat} (h : ∀ d ∈ ds, d.depth ≤ n) : PyData.depthAll ds ≤ n := by
  induction ds with
  | nil => simp [PyData.depthAll]
  | cons d r ih =>
    have h1 := h d (by simp)
    have h2 := ih fun e he => h e (by simp [he])
    simp only [PyData.depthAll]
    omega
theorem sh_l {n : Nat} {ds : List PyData} (h : ∀ d ∈ ds, Sh n d) : Sh (n + 1) (.list ds) := by
  refine ⟨by simp only [PyData.canLay0]; exact lay_all fun d hd => (h d hd).1, ?_⟩
  have := depth_all fun d hd => (h d hd).2
  simp only [PyData.depth]
  omega
theorem sh_t {n : Nat} {ds : List PyData} (h : ∀ d ∈ ds, Sh n d) : Sh (n + 1) (.tuple ds) := by
  refine ⟨by simp only [PyData.canLay0]; exact lay_all fun d hd => (h d hd).1, ?_⟩
  have := depth_all fun d hd => (h d hd).2
  simp only [PyData.depth]
  omega
theorem sh_ints (ns : List Int) : Sh 1 (pInts ns) := sh_l fun d hd => by
  obtain ⟨i, _, rfl⟩ := List.mem_map.mp hd
  exact sh_i i
theorem eqv_refl {n : Nat} {d : PyData} (h : Sh n d) : PyData.eqv d d = true := SeqAt.eqv_refl d h.1
theorem eqv_nil (ds : List PyData) : PyData.eqv (.list ds) (.list []) = ds.isEmpty := by
  cases ds <;> simp [PyData.eqv, PyData.eqvAll]
theorem eqv_nilT (ds : List PyData) : PyData.eqv (.tuple ds) (.tuple []) = ds.isEmpty := by
  cases ds <;> simp [PyData.eqv, PyData.eqvAll]
/-! ### operators -/
section
variable {X : Cx} {K : PySem.W.Frag} {H H' : Hp} {Q : VK} {σ : L2.St} {D : Ends}
def uAdd (K : PySem.W.Frag) : R2 := fun x y H Q => rI0 (fun i j => .int (i + j)) x y H Q ∨ (∃ i j, x = .str i ∧ y = .str j ∧ i.length + j.length ≤ sizeLine ∧ Q (.str (i ++ j)) H) ∨ rCat x y H Q ∨ rCatA K x y H Q
theorem op_addU : OpR X (binaryOp .Add) (uAdd X.K) := op_add.or (op_add_str.or (op_cat.or op_catA))
theorem g_add_i {i j : Int} (h : Q (.int (i + j)) H) : uAdd K (.int i) (.int j) H Q := .inl ⟨i, j, rfl, rfl, h⟩
theorem g_add_s {i j : Str} (hz : i.length + j.length ≤ sizeLine) (h : Q (.str (i ++ j)) H) : uAdd K (.str i) (.str j) H Q := .inr (.inl ⟨i, j, rfl, rfl, hz, h⟩)
theorem g_add_l {a b : Addr} {xs ys : List V} (h1 : H a = some (.lst xs)) (h2 : H b = some (.lst ys)) (hz : xs.length + ys.length ≤ sizeLine)
    (h : ∀ p H', H p = none → Same H H' → H' p = some (.lst (xs ++ ys)) → Q (.ref p) H') : uAdd K (.ref a) (.ref b) H Q :=
  .inr (.inr (.inl ⟨a, b, xs, ys, rfl, rfl, h1, h2, hz, fun p hp => h p _ hp (same_new hp) upd_same⟩))
theorem g_sub {i j : Int} (h : Q (.int (i - j)) H) : rI0 (fun i j => .int (i - j)) (.int i) (.int j) H Q := ⟨i, j, rfl, rfl, h⟩
theorem g_neg {i : Int} (h : Q (.int (-i)) H) : rU (fun i => .int (-i)) (.int i) H Q := ⟨i, rfl, h⟩
theorem g_mul {i j : Int} (hc : CMul i j) (h : Q (.int (i * j)) H) : rI CMul (fun i j => .int (i * j)) (.int i) (.int j) H Q := ⟨i, j, rfl, rfl, hc, h⟩
theorem g_fdiv {i j : Int} (h1 : 0 < j) (h2 : j < 1073741824) (h : Q (.int (i / j)) H) : rI CDiv (fun i j => .int (i / j)) (.int i) (.int j) H Q := ⟨i, j, rfl, rfl, ⟨h1, h2⟩, h⟩
theorem g_mod {i j : Int} (h1 : 0 < j) (h : Q (.int (i % j)) H) : rI (fun _ j => 0 < j) (fun i j => .int (i % j)) (.int i) (.int j) H Q := ⟨i, j, rfl, rfl, h1, h⟩
theorem g_pow {i j : Int} (hc : CPow i j) (h : Q (.int (i ^ j.toNat)) H) : rI CPow (fun i j => .int (i ^ j.toNat)) (.int i) (.int j) H Q := ⟨i, j, rfl, rfl, hc, h⟩
theorem g_lt {i j : Int} (h : Q (.bl (decide (i < j))) H) : rI0 (fun i j => .bl (decide (i < j))) (.int i) (.int j) H Q := ⟨i, j, rfl, rfl, h⟩
theorem g_le {i j : Int} (h : Q (.bl (decide (i ≤ j))) H) : rI0 (fun i j => .bl (decide (i ≤ j))) (.int i) (.int j) H Q := ⟨i, j, rfl, rfl, h⟩
theorem g_gt {i j : Int} (h : Q (.bl (decide (j < i))) H) : rI0 (fun i j => .bl (decide (j < i))) (.int i) (.int j) H Q := ⟨i, j, rfl, rfl, h⟩
theorem g_ge {i j : Int} (h : Q (.bl (decide (j ≤ i))) H) : rI0 (fun i j => .bl (decide (j ≤ i))) (.int i) (.int j) H Q := ⟨i, j, rfl, rfl, h⟩
def uEq (K : PySem.W.Frag) : R2 := fun x y H Q => rEq x y H Q ∨ rEqD K x y H Q
def uNe (K : PySem.W.Frag) : R2 := fun x y H Q => rNe x y H Q ∨ rNeD K x y H Q
theorem op_eqU {k : Nat} (hr : Room k X.A) : OpR X (compareOp .Eq) (uEq X.K) := op_eq.or (op_eqD hr.units)
theorem op_neU {k : Nat} (hr : Room k X.A) : OpR X (compareOp .NotEq) (uNe X.K) := op_ne.or (op_neD hr.units)
theorem dec_i {i j : Int} : decide (V.int i = V.int j) = decide (i = j) := by
  by_cases e : i = j
  · subst e; simp
  · rw [decide_eq_false e, decide_eq_false fun q => e (V.int.inj q)]
theorem dec_s {i j : Str} : decide (V.str i = V.str j) = decide (i = j) := by
  by_cases e : i = j
  · subst e; simp
  · rw [decide_eq_false e, decide_eq_false fun q => e (V.str.inj q)]
theorem dec_b {i j : Bool} : decide (V.bl i = V.bl j) = decide (i = j) := by
  by_cases e : i = j
  · subst e; simp
  · rw [decide_eq_false e, decide_eq_false fun q => e (V.bl.inj q)]
theorem g_eq_i {i j : Int} (h : Q (.bl (decide (i = j))) H) : uEq K (.int i) (.int j) H Q := .inl ⟨rfl, by rw [dec_i]; exact h⟩
theorem g_eq_s {i j : Str} (h : Q (.bl (decide (i = j))) H) : uEq K (.str i) (.str j) H Q := .inl ⟨rfl, by rw [dec_s]; exact h⟩
theorem g_eq_b {i j : Bool} (h : Q (.bl (decide (i = j))) H) : uEq K (.bl i) (.bl j) H Q := .inl ⟨rfl, by rw [dec_b]; exact h⟩
theorem g_ne_i {i j : Int} (h : Q (.bl (!decide (i = j))) H) : uNe K (.int i) (.int j) H Q := .inl ⟨rfl, by rw [dec_i]; exact h⟩
theorem g_ne_s {i j : Str} (h : Q (.bl (!decide (i = j))) H) : uNe K (.str i) (.str j) H Q := .inl ⟨rfl, by rw [dec_s]; exact h⟩
theorem g_ne_b {i j : Bool} (h : Q (.bl (!decide (i = j))) H) : uNe K (.bl i) (.bl j) H Q := .inl ⟨rfl, by rw [dec_b]; exact h⟩
theorem g_eq_d {x y : V} (d e : PyData) (h1 : Dp K H x d) (h2 : Dp K H y e) (s1 : SeqAt.shaped d = true) (s2 : SeqAt.shaped e = true) (h : Q (.bl (PyData.eqv d e)) H) : uEq K x y H Q := .inr ⟨d, e, h1, h2, s1, s2, h⟩
theorem g_ne_d {x y : V} (d e : PyData) (h1 : Dp K H x d) (h2 : Dp K H y e) (s1 : SeqAt.shaped d = true) (s2 : SeqAt.shaped e = true) (h : Q (.bl (!PyData.eqv d e)) H) : uNe K x y H Q := .inr ⟨d, e, h1, h2, s1, s2, h⟩
theorem g_isN {x : V} (h : Q (.bl (decide (x = .non))) H) : rIsN x .non H Q := ⟨rfl, h⟩
theorem g_notN {x : V} (h : Q (.bl (!decide (x = .non))) H) : rNotN x .non H Q := ⟨rfl, h⟩
/-- in -/
def uIn (K : PySem.W.Frag) : R2 := fun x y H Q => rIn K false x y H Q ∨ (∃ (c : Nat) (z : Str), x = .str ⟨#[c]⟩ ∧ y = .str z ∧ Q (.bl (decide (c ∈ z.cps.toList))) H) ∨ rInD K x y H Q
def uNotIn (K : PySem.W.Frag) : R2 := fun x y H Q => rIn K true x y H Q ∨ (∃ (c : Nat) (z : Str), x = .str ⟨#[c]⟩ ∧ y = .str z ∧ Q (.bl (!decide (c ∈ z.cps.toList))) H) ∨ rNotInD K x y H Q
theorem units65 {k : Nat} {A : Around} (hr : Room k A) : A.units + 65 < cLine := by have := hr.un; omega
theorem op_inU {k : Nat} (hr : Room k X.A) : OpR X (compareOp .In) (uIn X.K) := op_in_seq.or (op_in_sign.or (op_inD (units65 hr)))
theorem op_notInU {k : Nat} (hr : Room k X.A) : OpR X (compareOp .NotIn) (uNotIn X.K) := op_notIn_seq.or (op_notIn_sign.or (op_notInD (units65 hr)))
theorem g_in_sign {c : Nat} {z : Str} (h : Q (.bl (decide (c ∈ z.cps.toList))) H) : uIn K (.str ⟨#[c]⟩) (.str z) H Q := .inr (.inl ⟨c, z, rfl, rfl, h⟩)
theorem g_in_seq {x : V} {p : Addr} {xs : List V} (h1 : SqL K H p xs ∨ SqT K H p xs) (h2 : flatV x = true) (h3 : xs.all flatV = true) (h : Q (.bl (inV x xs)) H) : uIn K x (.ref p) H Q := .inl ⟨p, xs, rfl, h1, h2, h3, h⟩
theorem g_notIn_seq {x : V} {p : Addr} {xs : List V} (h1 : SqL K H p xs ∨ SqT K H p xs) (h2 : flatV x = true) (h3 : xs.all flatV = true) (h : Q (.bl (!inV x xs)) H) : uNotIn K x (.ref p) H Q := .inl ⟨p, xs, rfl, h1, h2, h3, h⟩
/-- x[i] -/
theorem g_ix_l {p : Addr} {xs : List V} {i : Int} {v : V} (h1 : SqL K H p xs) (h2 : atI xs i = some v) (h : Q v H) : rIx K (.ref p) (.int i) H Q := .inl ⟨p, xs, i, v, rfl, rfl, h1, h2, h⟩
theorem g_ix_t {p : Addr} {xs : List V} {i : Int} {v : V} (h1 : SqT K H p xs) (h2 : atI xs i = some v) (h : Q v H) : rIx K (.ref p) (.int i) H Q := .inr (.inl ⟨p, xs, i, v, rfl, rfl, h1, h2, h⟩)
theorem g_ix_s {z : Str} {i : Int} {c : Nat} (h1 : z.length ≤ sizeLine) (h2 : atI z.cps.toList i = some c) (h : Q (.str ⟨#[c]⟩) H) : rIx K (.str z) (.int i) H Q := .inr (.inr ⟨z, i, c, rfl, rfl, h1, h2, h⟩)
/-- len -/
def uLen (K : PySem.W.Frag) : List V → Hp → VK → Prop := fun xs H Q => (∃ z, xs = [.str z] ∧ z.length ≤ sizeLine ∧ Q (.int z.length) H) ∨ ∃ p ys, xs = [.ref p] ∧ (SqL K H p ys ∨ SqT K H p ys) ∧ Q (.int ys.length) H
theorem call_lenU : CallR X (.builtin "len") (uLen X.K) := call_len_str.or call_len_seq
theorem g_len_s {z : Str} (hz : z.length ≤ sizeLine) (h : Q (.int z.length) H) : uLen K [.str z] H Q := .inl ⟨z, rfl, hz, h⟩
theorem g_len_l {p : Addr} {ys : List V} (h1 : SqL K H p ys) (h : Q (.int ys.length) H) : uLen K [.ref p] H Q := .inr ⟨p, ys, rfl, .inl h1, h⟩
theorem g_len_t {p : Addr} {ys : List V} (h1 : SqT K H p ys) (h : Q (.int ys.length) H) : uLen K [.ref p] H Q := .inr ⟨p, ys, rfl, .inr h1, h⟩

/-! ### steps -/
variable {ta tb te : TE} {tA tB' : TT} {i : Nat} {v : V} {t u : TS} {ts : TA}
theorem g_var (e : σ[i]? = some (some v)) (h : Q v H) : tVar i σ H Q := ⟨v, e, h⟩
theorem g_c (h : Q v H) : tC v σ H Q := h
theorem g_op {r : R2} (h : ta σ H fun x H1 => tb σ H1 fun y H2 => r x y H2 Q) : tOp r ta tb σ H Q := h
theorem g_un {r : V → Hp → VK → Prop} (h : ta σ H fun x H1 => r x H1 Q) : tUn r ta σ H Q := h
def Bl (Q : Bool → Hp → Prop) : VK := fun x H => ∃ k, x = .bl k ∧ Q k H
theorem g_bl {b : Bool} {Q : Bool → Hp → Prop} (h : Q b H) : Bl Q (.bl b) H := ⟨b, rfl, h⟩
theorem g_test {Q : Bool → Hp → Prop} (h : te σ H (Bl Q)) : tTest te σ H Q := h
theorem g_tB {Q : Bool → Hp → Prop} (h : te σ H (Bl Q)) : tB te σ H Q := h
def Ch (r' : R2) (tc : TE) (y : V) (σ : L2.St) (Q : VK) : VK := fun z H3 => ∃ k, z = .bl k ∧ (if k = true then tc σ H3 fun w' H4 => r' y w' H4 Q else Q (.bl false) H3)
theorem g_chain {r r' : R2} {tc : TE} (h : ta σ H fun x H1 => tb σ H1 fun y H2 => r x y H2 (Ch r' tc y σ Q)) : tChain r r' ta tb tc σ H Q := h
theorem g_ch {r' : R2} {tc : TE} {y : V} {b : Bool} (h1 : b = true → tc σ H fun w' H4 => r' y w' H4 Q) (h2 : b = false → Q (.bl false) H) : Ch r' tc y σ Q (.bl b) H := ⟨b, rfl, by
  cases b with
  | true => exact iteT (h1 rfl)
  | false => exact iteF (h2 rfl)⟩
theorem g_and {Q : Bool → Hp → Prop} (h : tA σ H fun c H1 => if c = true then tB' σ H1 Q else Q false H1) : tAnd tA tB' σ H Q := h
theorem g_or {Q : Bool → Hp → Prop} (h : tA σ H fun c H1 => if c = true then Q true H1 else tB' σ H1 Q) : tOr tA tB' σ H Q := h
theorem g_not {Q : Bool → Hp → Prop} (h : tA σ H fun c H1 => Q (!c) H1) : tNot tA σ H Q := h
theorem g_andV (h : ta σ H (Bl fun c H1 => if c = true then tb σ H1 Q else Q (.bl false) H1)) : tAndV ta tb σ H Q := h
theorem g_orV (h : ta σ H (Bl fun c H1 => if c = true then Q (.bl true) H1 else tb σ H1 Q)) : tOrV ta tb σ H Q := h
theorem g_notV (h : ta σ H (Bl fun c H1 => Q (.bl (!c)) H1)) : tNotV ta σ H Q := h
theorem g_if (h : tA σ H fun c H1 => if c = true then ta σ H1 Q else tb σ H1 Q) : tIf tA ta tb σ H Q := h
theorem g_nil {Q : List V → Hp → Prop} (h : Q [] H) : tNil σ H Q := h
theorem g_cons {Q : List V → Hp → Prop} (h : te σ H fun x H1 => ts σ H1 fun xs H2 => Q (x :: xs) H2) : tCons te ts σ H Q := h
theorem g_cb {r : List V → Hp → VK → Prop} (h : ts σ H fun vs H1 => r vs H1 Q) : tCB r ts σ H Q := h
theorem g_callR {sp : Sp} {E : XK} (h : ts σ H fun vs H1 => sp vs H1 Q E) : tCallR sp E ts σ H Q := h
def NewT (xs : List V) (H : Hp) (Q : VK) : Prop := xs.length ≤ sizeLine ∧ ∀ p, H p = none → Q (.ref p) (upd H p (.tup xs))
def NewL (xs : List V) (H : Hp) (Q : VK) : Prop := xs.length ≤ sizeLine ∧ ∀ p, H p = none → Q (.ref p) (upd H p (.lst xs))
theorem g_tup (h : ts σ H fun xs H1 => NewT xs H1 Q) : tTup ts σ H Q := h
theorem g_lst (h : ts σ H fun xs H1 => NewL xs H1 Q) : tLst ts σ H Q := h
theorem n_tup {xs : List V} (hz : xs.length ≤ sizeLine) (h : ∀ p H', H p = none → Same H H' → H' p = some (.tup xs) → Q (.ref p) H') : NewT xs H Q := ⟨hz, fun p hp => h p _ hp (same_new hp) upd_same⟩
theorem n_lst {xs : List V} (hz : xs.length ≤ sizeLine) (h : ∀ p H', H p = none → Same H H' → H' p = some (.lst xs) → Q (.ref p) H') : NewL xs H Q := ⟨hz, fun p hp => h p _ hp (same_new hp) upd_same⟩
theorem g_seq (h : t { D with nx := u D } σ H) : tSeq t u D σ H := h
theorem g_next (h : D.nx σ H) : tNext D σ H := h
theorem g_asg {g : TG} (h : te σ H fun x H1 => g x σ H1 D.nx) : tAsg te g D σ H := h
theorem g_name {Q : L2.St → Hp → Prop} {σ' : L2.St} (e : σ.set i (some v) = σ') (h : Q σ' H) : gName i v σ H Q := by subst e; exact h
theorem g_ret (h : te σ H D.rt) : tRet te D σ H := h
theorem g_drop (h : te σ H fun _ H1 => D.nx σ H1) : tDrop te D σ H := h
theorem g_ifS (h : tA σ H fun b H1 => if b = true then t D σ H1 else u D σ H1) : tIfS tA t u D σ H := h
theorem if_T {c : Bool} {A B : Prop} (e : c = true) (h : A) : if c = true then A else B := by rw [if_pos e]; exact h
theorem if_F {c : Bool} {A B : Prop} (e : c = false) (h : B) : if c = true then A else B := by rw [if_neg (by rw [e]; decide)]; exact h
theorem if_C {c : Bool} {A B : Prop} (h1 : c = true → A) (h2 : c = false → B) : if c = true then A else B := by
  cases c with
  | true => exact iteT (h1 rfl)
  | false => exact iteF (h2 rfl)
theorem if_D {p : Prop} [Decidable p] {A B : Prop} (h1 : p → A) (h2 : ¬ p → B) : if decide p = true then A else B := by
  by_cases c : p
  · rw [if_pos (decide_eq_true c)]; exact h1 c
  · rw [if_neg (by rw [decide_eq_false c]; decide)]; exact h2 c
theorem if_ND {p : Prop} [Decidable p] {A B : Prop} (h1 : ¬ p → A) (h2 : p → B) : if (!decide p) = true then A else B := by
  by_cases c : p
  · rw [if_neg (by rw [decide_eq_true c]; decide)]; exact h2 c
  · rw [if_pos (by rw [decide_eq_false c]; decide)]; exact h1 c

/-! lists changed, asked -/
theorem atI_c0 {α : Type} {a : α} {l : List α} : atI (a :: l) 0 = some a := atI_nat (j := 0) rfl
theorem atI_c1 {α : Type} {a b : α} {l : List α} : atI (a :: b :: l) 1 = some b := atI_nat (j := 1) rfl
theorem atI_c2 {α : Type} {a b c : α} {l : List α} : atI (a :: b :: c :: l) 2 = some c := atI_nat (j := 2) rfl
theorem atI_c3 {α : Type} {a b c d : α} {l : List α} : atI (a :: b :: c :: d :: l) 3 = some d := atI_nat (j := 3) rfl
theorem atI_c4 {α : Type} {a b c d e : α} {l : List α} : atI (a :: b :: c :: d :: e :: l) 4 = some e := atI_nat (j := 4) rfl
theorem atI_c5 {α : Type} {a b c d e f : α} {l : List α} : atI (a :: b :: c :: d :: e :: f :: l) 5 = some f := atI_nat (j := 5) rfl
theorem atI_i {α : Type} {l : List α} {i : Int} {x : α} (h0 : 0 ≤ i) (h : l[i.toNat]? = some x) : atI l i = some x := by
  have := atI_nat h
  rwa [Int.toNat_of_nonneg h0] at this
theorem ixN_i {n : Nat} {i : Int} (h0 : 0 ≤ i) (h : i < n) : ixN n i = some i.toNat := by unfold ixN; rw [if_pos h0, if_pos h]
theorem seqIx_i {n : Nat} {i : Int} (h0 : 0 ≤ i) (h : i < n) : seqIndex? i n = some i.toNat := (ixN_seq (ixN_i h0 h)).1
def Ty (K : PySem.W.Frag) (T : String) (x : V) (H : Hp) (P : Prop) : Prop := tyV K T x H ∧ P
theorem g_bm {T : String} {r : V → List V → Hp → VK → Prop} {to : TE} (h : to σ H fun x H1 => Ty K T x H1 (ts σ H1 fun xs H2 => r x xs H2 Q)) : tBM K T r to ts σ H Q := h
theorem g_bm0 {T : String} {r : V → List V → Hp → VK → Prop} {to : TE} (h : to σ H fun x H1 => Ty K T x H1 (r x [] H1 Q)) : tBM0 K T r to σ H Q := h
theorem g_tyL {p : Addr} {xs : List V} {P : Prop} (h1 : SqL K H p xs) (h : P) : Ty K "list" (.ref p) H P := ⟨.inl ⟨rfl, _, h1⟩, h⟩
def TyS (x : V) (P : Prop) : Prop := (∃ a, x = .str a) ∧ P
theorem g_m1 {r : V → List V → Hp → VK → Prop} {to : TE} (h : to σ H fun x H1 => TyS x (te σ H1 fun y H2 => r x [y] H2 Q)) : tM1 r to te σ H Q := h
theorem g_m0 {r : V → List V → Hp → VK → Prop} {to : TE} (h : to σ H fun x H1 => TyS x (r x [] H1 Q)) : tM0 r to σ H Q := h
theorem g_tyS {z : Str} {P : Prop} (h : P) : TyS (.str z) P := ⟨⟨z, rfl⟩, h⟩
theorem g_append {l : Addr} {xs : List V} {y : V} (h1 : H l = some (.lst xs)) (hz : xs.length < sizeLine) (h : ∀ H', Keep l H H' → H' l = some (.lst (xs ++ [y])) → Q .non H') : rAppend (.ref l) [y] H Q := ⟨l, xs, y, rfl, rfl, h1, hz, h _ keep_upd upd_same⟩
theorem g_extend {l b : Addr} {xs zs : List V} (h1 : H l = some (.lst xs)) (h2 : H b = some (.lst zs)) (hz : xs.length + zs.length ≤ sizeLine) (h : ∀ H', Keep l H H' → H' l = some (.lst (xs ++ zs)) → Q .non H') : rExtend (.ref l) [.ref b] H Q := ⟨l, b, xs, zs, rfl, rfl, h1, h2, hz, h _ keep_upd upd_same⟩
theorem g_popAt {l : Addr} {xs : List V} {i : Int} {y : V} (h1 : H l = some (.lst xs)) (h0 : 0 ≤ i) (hi : xs[i.toNat]? = some y) (hz : xs.length ≤ sizeLine) (h : ∀ H', Keep l H H' → H' l = some (.lst (xs.eraseIdx i.toNat)) → Q y H') : rPopAt (.ref l) [.int i] H Q := by
  have hl : i.toNat < xs.length := (List.getElem?_eq_some_iff.mp hi).1
  have hs : (sizeLine : Nat) < 2 ^ 63 := line63
  exact ⟨l, xs, i, i.toNat, y, rfl, rfl, h1, by omega, by omega, seqIx_i h0 (by omega), hi, h _ keep_upd upd_same⟩
theorem g_pop {l : Addr} {xs : List V} {y : V} (h1 : H l = some (.lst xs)) (hi : xs[xs.length - 1]? = some y) (h : ∀ H', Keep l H H' → H' l = some (.lst xs.dropLast) → Q y H') : rPop (.ref l) [] H Q := ⟨l, xs, y, rfl, rfl, h1, hi, h _ keep_upd upd_same⟩
theorem g_gsub {Q : L2.St → Hp → Prop} {to ti : TE} {rs : TSet} (h : to σ H fun o H1 => ti σ H1 fun i H2 => rs o i v H2 fun H3 => Q σ H3) : gSub to ti rs v σ H Q := h
theorem g_setL {p : Addr} {xs : List V} {k : Int} {j : Nat} {Q : Hp → Prop} (h1 : H p = some (.lst xs)) (hj : ixN xs.length k = some j) (h : ∀ H', Keep p H H' → H' p = some (.lst (xs.set j v)) → Q H') : rSetL (.ref p) (.int k) v H Q := ⟨p, xs, k, j, rfl, rfl, h1, hj, h _ keep_upd upd_same⟩
/-! slices -/
theorem g_sl {r : V → Option Int → Option Int → Hp → VK → Prop} {tl th : TO} (h : te σ H fun x H1 => tl σ H1 fun l H2 => th σ H2 fun u H3 => r x l u H3 Q) : tSl r te tl th σ H Q := h
theorem g_noPart {Q : Option Int → Hp → Prop} (h : Q none H) : tNoPart σ H Q := h
def PartI (Q : Option Int → Hp → Prop) : VK := fun x H => ∃ i, x = .int i ∧ Q (some i) H
theorem g_part {Q : Option Int → Hp → Prop} (h : te σ H (PartI Q)) : tPart te σ H Q := h
theorem g_partI {i : Int} {Q : Option Int → Hp → Prop} (h : Q (some i) H) : PartI Q (.int i) H := ⟨i, rfl, h⟩
theorem g_slL {a : Addr} {xs : List V} {lo hi : Option Int} (h1 : SqL K H a xs) (h : ∀ p H', H p = none → Same H H' → H' p = some (.lst (cutV xs lo hi)) → Q (.ref p) H') : rSlL K (.ref a) lo hi H Q := ⟨a, xs, rfl, h1, fun p hp => h p _ hp (same_new hp) upd_same⟩
theorem cutV_all (xs : List V) : cutV xs none none = xs := by unfold cutV; rw [HT.sIx_none, HT.sIx_none]; simp
theorem cutV_to (xs : List V) (k : Nat) : cutV xs none (some (k : Int)) = xs.take k := by
  unfold cutV
  rw [HT.sIx_none, HT.sIx_nat, Nat.sub_zero, List.drop_zero]
  rcases Nat.le_total k xs.length with le | ge
  · congr 1
    exact Nat.min_eq_left le
  · rw [Nat.min_eq_right ge, List.take_length, List.take_of_length_le ge]
theorem cutV_from (xs : List V) (k : Nat) : cutV xs (some (k : Int)) none = xs.drop k := by
  unfold cutV
  rw [HT.sIx_none, HT.sIx_nat]
  rcases Nat.le_total k xs.length with le | ge
  · have z := Nat.min_eq_left le
    rw [z, ← List.length_drop, List.take_length]
  · rw [Nat.min_eq_right ge, List.drop_length, List.drop_of_length_le ge, List.take_nil]
theorem g_slT {a : Addr} {xs : List V} {lo hi : Option Int} (h1 : SqT K H a xs) (h : ∀ p H', Same H H' → SqT K H' p (cutV xs lo hi) → Q (.ref p) H') : rSlA K (.ref a) lo hi H Q := by
  refine ⟨a, xs, rfl, h1, fun hw => ?_, fun hw p hp => h p _ (same_new hp) (SqT.of upd_same)⟩
  refine h a H (Same.refl H) ?_
  have e : cutV xs lo hi = xs := by
    unfold cutV; rw [hw.1, hw.2]; simp
  rw [e]; exact h1
/-! loops -/
/-- the turns of a for over J -/
def LoopJ (J : It) (g : TG) (tb : TS) (D : Ends) (σ : L2.St) (H : Hp) : Prop := tFor (fun _ H1 R => R J H1) g tb D σ H
variable {g : TG} {tbs : TS}
def ItL (K : PySem.W.Frag) (g : TG) (tb : TS) (D : Ends) (σ : L2.St) : VK := fun x H1 => ∃ a, x = .ref a ∧ (∃ xs, SqL K H1 a xs) ∧ LoopJ (Itl K a) g tb D σ H1
theorem g_forL (h : te σ H (ItL K g tbs D σ)) : tFor (iList K te) g tbs D σ H := h
theorem n_forL {a : Addr} {xs : List V} (h1 : SqL K H a xs) (Pv : Nat → L2.St → Hp → Prop) (h0 : Pv 0 σ H) (hl : ∀ i σ H, Pv i σ H → SqL K H a xs)
    (hs : ∀ i x σ H, xs[i]? = some x → Pv i σ H → g x σ H fun σ2 H2 => tbs { D with nx := Pv (i + 1), ct := Pv (i + 1), bk := D.nx } σ2 H2) (hd : ∀ σ H, Pv xs.length σ H → D.nx σ H) : ItL K g tbs D σ (.ref a) H :=
  ⟨a, rfl, ⟨xs, h1⟩, for_list Pv h0 (fun i σ H _ p => hl i σ H p) hs hd⟩
def ItT (K : PySem.W.Frag) (g : TG) (tb : TS) (D : Ends) (σ : L2.St) : VK := fun x H1 => ∃ a, x = .ref a ∧ (∃ xs, SqT K H1 a xs) ∧ LoopJ (Itt K a) g tb D σ H1
theorem g_forT (h : te σ H (ItT K g tbs D σ)) : tFor (iTup K te) g tbs D σ H := h
theorem n_forT {a : Addr} {xs : List V} (h1 : SqT K H a xs) (Pv : Nat → L2.St → Hp → Prop) (h0 : Pv 0 σ H) (hl : ∀ i σ H, Pv i σ H → SqT K H a xs)
    (hs : ∀ i x σ H, xs[i]? = some x → Pv i σ H → g x σ H fun σ2 H2 => tbs { D with nx := Pv (i + 1), ct := Pv (i + 1), bk := D.nx } σ2 H2) (hd : ∀ σ H, Pv xs.length σ H → D.nx σ H) : ItT K g tbs D σ (.ref a) H :=
  ⟨a, rfl, ⟨xs, h1⟩, for_tup Pv h0 (fun i σ H _ p => hl i σ H p) hs hd⟩
def ItS (g : TG) (tb : TS) (D : Ends) (σ : L2.St) : VK := fun x H1 => ∃ z, x = .str z ∧ LoopJ (Its z) g tb D σ H1
theorem g_forS (h : te σ H (ItS g tbs D σ)) : tFor (iStr te) g tbs D σ H := h
theorem n_forS {z : Str} (Pv : Nat → L2.St → Hp → Prop) (h0 : Pv 0 σ H)
    (hs : ∀ i c σ H, z.cps[i]? = some c → Pv i σ H → g (.str ⟨#[c]⟩) σ H fun σ2 H2 => tbs { D with nx := Pv (i + 1), ct := Pv (i + 1), bk := D.nx } σ2 H2) (hd : ∀ σ H, Pv z.cps.size σ H → D.nx σ H) : ItS g tbs D σ (.str z) H :=
  ⟨z, rfl, for_it (walk_str (z := z)) Pv h0 (fun _ _ _ _ _ => trivial) (fun i x σ H H' hi p ⟨e, c, hc, ex⟩ => by subst e ex; exact hs i c σ _ hc p) hd⟩
def ItR1 (g : TG) (tb : TS) (D : Ends) (σ : L2.St) (vs : List V) (H1 : Hp) : Prop := ∃ j, vs = [.int j] ∧ -(2 ^ 62) ≤ j ∧ j < 2 ^ 62 ∧ LoopJ (Itr 0 j.toNat) g tb D σ H1
theorem g_forR1 (h : ts σ H (ItR1 g tbs D σ)) : tFor (iRng1 ts) g tbs D σ H := h
theorem n_forR1 {j : Int} (hj : -(2 ^ 62) ≤ j) (hk : j < 2 ^ 62) (Pv : Nat → L2.St → Hp → Prop) (h0 : Pv 0 σ H)
    (hs : ∀ (i : Nat) σ H, i < j.toNat → Pv i σ H → g (.int i) σ H fun σ2 H2 => tbs { D with nx := Pv (i + 1), ct := Pv (i + 1), bk := D.nx } σ2 H2) (hd : ∀ σ H, Pv j.toNat σ H → D.nx σ H) : ItR1 g tbs D σ [.int j] H :=
  ⟨j, rfl, hj, hk, for_range Pv h0 (fun i σ H hi p => by rw [Int.zero_add]; exact hs i σ H hi p) hd⟩
def ItR2 (g : TG) (tb : TS) (D : Ends) (σ : L2.St) (vs : List V) (H1 : Hp) : Prop := ∃ lo hi, vs = [.int lo, .int hi] ∧ (-(2 ^ 62) ≤ lo ∧ lo < 2 ^ 62 ∧ -(2 ^ 62) ≤ hi ∧ hi < 2 ^ 62) ∧ LoopJ (Itr lo (hi - lo).toNat) g tb D σ H1
theorem g_forR2 (h : ts σ H (ItR2 g tbs D σ)) : tFor (iRng2 ts) g tbs D σ H := h
theorem n_forR2 {lo hi : Int} (h1 : -(2 ^ 62) ≤ lo) (h2 : lo < 2 ^ 62) (h3 : -(2 ^ 62) ≤ hi) (h4 : hi < 2 ^ 62) (Pv : Nat → L2.St → Hp → Prop) (h0 : Pv 0 σ H)
    (hs : ∀ (i : Nat) σ H, i < (hi - lo).toNat → Pv i σ H → g (.int (lo + i)) σ H fun σ2 H2 => tbs { D with nx := Pv (i + 1), ct := Pv (i + 1), bk := D.nx } σ2 H2) (hd : ∀ σ H, Pv (hi - lo).toNat σ H → D.nx σ H) : ItR2 g tbs D σ [.int lo, .int hi] H :=
  ⟨lo, hi, rfl, ⟨h1, h2, h3, h4⟩, for_range Pv h0 hs hd⟩
def ItET (K : PySem.W.Frag) (g : TG) (tb : TS) (D : Ends) (σ : L2.St) (vs : List V) (H1 : Hp) : Prop := ∃ a xs, vs = [.ref a] ∧ SqT K H1 a xs ∧ LoopJ (IteT K a xs.length) g tb D σ H1
theorem g_forET (h : ts σ H (ItET K g tbs D σ)) : tFor (iEnumT K ts) g tbs D σ H := h
theorem n_forET {a : Addr} {xs : List V} (h1 : SqT K H a xs) (Pv : Nat → L2.St → Hp → Prop) (h0 : Pv 0 σ H) (hl : ∀ i σ H, Pv i σ H → SqT K H a xs)
    (hs : ∀ (i : Nat) x T σ H H', xs[i]? = some x → Pv i σ H → H T = none → Same H H' → H' T = some (.tup [.int i, x]) → g (.ref T) σ H' fun σ2 H2 => tbs { D with nx := Pv (i + 1), ct := Pv (i + 1), bk := D.nx } σ2 H2) (hd : ∀ σ H, Pv xs.length σ H → D.nx σ H) : ItET K g tbs D σ [.ref a] H :=
  ⟨a, xs, rfl, h1, for_it (walk_enumT (K := K) (a := a) (xs := xs)) Pv h0 (fun i σ H _ p => hl i σ H p) (fun i x σ H H' hi p ⟨T, u, y, ex, hn, eH, e1, e2⟩ => by
    have eu := Option.some.inj e1
    subst ex eH eu
    exact hs i y T σ H _ e2 p hn (same_new hn) upd_same) hd⟩
/-- unpack a pair -/
theorem g_gtup {n : Nat} {t : TGs} {a : Addr} {xs : List V} {Q : L2.St → Hp → Prop} (h1 : SqT K H a xs) (h2 : xs.length = n) (h : t xs σ H Q) : gTup K n t (.ref a) σ H Q := ⟨a, xs, rfl, h1, h2, h⟩
theorem g_gcons {t : TG} {u : TGs} {x : V} {r : List V} {Q : L2.St → Hp → Prop} (h : t x σ H fun σ' H' => u r σ' H' Q) : gCons t u (x :: r) σ H Q := ⟨x, r, rfl, h⟩
theorem g_gnil {Q : L2.St → Hp → Prop} (h : Q σ H) : gNil [] σ H Q := ⟨rfl, h⟩
/-! comprehensions -/
/-- the turns of a list comprehension over J -/
def LcJ (J : It) (g : TG) (tt : TT) (te : TE) (vs : List Nat) (σ : L2.St) (Q : VK) (H : Hp) : Prop := tLc (fun _ H1 R => R J H1) g tt te vs σ H Q
/-- what a turn of a comprehension owes: the list so far stands at D -/
def LcEnd (D : Addr) (P : Hp → V → Prop) : VK := fun y H4 => ∃ acc, H4 D = some (.lst acc) ∧ acc.length < sizeLine ∧ P (upd H4 D (.lst (acc ++ [y]))) y
variable {tt : TT} {vs : List Nat} {ti : TE}
def LcL (K : PySem.W.Frag) (g : TG) (tt : TT) (te : TE) (vs : List Nat) (σ : L2.St) (Q : VK) : VK := fun x H1 => ∃ a, x = .ref a ∧ (∃ xs, SqL K H1 a xs) ∧ LcJ (Itl K a) g tt te vs σ Q H1
theorem g_lcL (h : ti σ H (LcL K g tt te vs σ Q)) : tLc (iList K ti) g tt te vs σ H Q := h
def LcT (K : PySem.W.Frag) (g : TG) (tt : TT) (te : TE) (vs : List Nat) (σ : L2.St) (Q : VK) : VK := fun x H1 => ∃ a, x = .ref a ∧ (∃ xs, SqT K H1 a xs) ∧ LcJ (Itt K a) g tt te vs σ Q H1
theorem g_lcT (h : ti σ H (LcT K g tt te vs σ Q)) : tLc (iTup K ti) g tt te vs σ H Q := h
def LcS (g : TG) (tt : TT) (te : TE) (vs : List Nat) (σ : L2.St) (Q : VK) : VK := fun x H1 => ∃ z, x = .str z ∧ LcJ (Its z) g tt te vs σ Q H1
theorem g_lcS (h : ti σ H (LcS g tt te vs σ Q)) : tLc (iStr ti) g tt te vs σ H Q := h
def LcR1 (g : TG) (tt : TT) (te : TE) (us : List Nat) (σ : L2.St) (Q : VK) (vs : List V) (H1 : Hp) : Prop := ∃ j, vs = [.int j] ∧ -(2 ^ 62) ≤ j ∧ j < 2 ^ 62 ∧ LcJ (Itr 0 j.toNat) g tt te us σ Q H1
theorem g_lcR1 (h : ts σ H (LcR1 g tt te vs σ Q)) : tLc (iRng1 ts) g tt te vs σ H Q := h

def NxP (P : Nat → List V → Hp → Prop) (C : Addr) (i : Nat) : Hp → Prop := fun H => ∃ acc, acc.length ≤ i ∧ H C = some (.lst acc) ∧ P i acc H
def LcK (C : Addr) (Nx : Hp → Prop) : VK := fun y H4 => ∃ acc, H4 C = some (.lst acc) ∧ acc.length < sizeLine ∧ Nx (upd H4 C (.lst (acc ++ [y])))
def LcIf (C : Addr) (te : TE) (σ2 : L2.St) (Nx : Hp → Prop) : Bool → Hp → Prop := fun b H3 => if b = true then te σ2 H3 (LcK C Nx) else Nx H3
theorem g_lcIfT {C : Addr} {Nx : Hp → Prop} (h : te σ H (LcK C Nx)) : LcIf C te σ Nx true H := iteT h
theorem g_lcIfF {C : Addr} {Nx : Hp → Prop} (h : Nx H) : LcIf C te σ Nx false H := iteF h
theorem g_yes {Q : Bool → Hp → Prop} (h : Q true H) : tYes σ H Q := h
theorem n_lcK {C : Addr} {P : Nat → List V → Hp → Prop} {i : Nat} {acc : List V} {y : V} (h1 : H C = some (.lst acc)) (hi : acc.length < i) (hn : i ≤ 1000000) (h : ∀ H', Keep C H H' → H' C = some (.lst (acc ++ [y])) → P i (acc ++ [y]) H') : LcK C (NxP P C i) y H :=
  ⟨acc, h1, Nat.lt_of_lt_of_le (Nat.lt_of_lt_of_le hi hn) (by decide), acc ++ [y], by rw [List.length_append]; exact hi, upd_same, h _ keep_upd upd_same⟩
theorem n_lcN {C : Addr} {P : Nat → List V → Hp → Prop} {i : Nat} {acc : List V} (h1 : H C = some (.lst acc)) (hi : acc.length ≤ i) (h : P i acc H) : NxP P C i H := ⟨acc, hi, h1, h⟩
/-- the comprehension's turns, one after another: at turn i the list at C is acc; P i acc H what else holds -/
theorem lc_run {J : It} {n : Nat} {G : Hp → Prop} {Y : Nat → Hp → V → Hp → Prop} (w : Walk J n G Y) (P : Nat → List V → Hp → Prop) {H1 : Hp}
    (h0 : ∀ C H', H1 C = none → Same H1 H' → H' C = some (.lst []) → P 0 [] H')
    (hG : ∀ i acc H C, H1 C = none → H C = some (.lst acc) → P i acc H → G H)
    (hs : ∀ C i acc x H H', H1 C = none → i < n → acc.length ≤ i → H C = some (.lst acc) → P i acc H → Y i H x H' → g x (wipe σ vs) H' fun σ2 H2 => wipe σ2 vs = wipe σ vs ∧ tt σ2 H2 (LcIf C te σ2 (NxP P C (i + 1))))
    (hd : ∀ C acc H, H1 C = none → H C = some (.lst acc) → P n acc H → Q (.ref C) H) : LcJ J g tt te vs σ Q H1 := by
  intro C hC
  refine ⟨fun i m H => m = n - i ∧ i ≤ n ∧ NxP P C i H, ⟨n, by simp, Nat.zero_le _, [], Nat.le_refl _, upd_same, h0 C _ hC (same_new hC) upd_same⟩, ?_⟩
  rintro i m H ⟨rfl, hi, acc, hl, hC', p⟩
  have q := hG i acc H C hC hC' p
  by_cases hlt : i < n
  · exact .inr ⟨w.goes i H hlt q, NxP P C (i + 1), fun H' q' => ⟨n - (i + 1), by omega, rfl, hlt, q'⟩, fun x H' y => hs C i acc x H H' hC hlt hl hC' p (w.yields i H x H' hlt q y)⟩
  · have e : i = n := by omega
    subst e
    exact .inl ⟨w.stops H q, hd C acc H hC hC' p⟩
theorem n_lcL {a : Addr} {xs : List V} (h1 : SqL K H a xs) (h : LcJ (Itl K a) g tt te vs σ Q H) : LcL K g tt te vs σ Q (.ref a) H := ⟨a, rfl, ⟨xs, h1⟩, h⟩
theorem n_lcT {a : Addr} {xs : List V} (h1 : SqT K H a xs) (h : LcJ (Itt K a) g tt te vs σ Q H) : LcT K g tt te vs σ Q (.ref a) H := ⟨a, rfl, ⟨xs, h1⟩, h⟩
theorem n_lcS {z : Str} (h : LcJ (Its z) g tt te vs σ Q H) : LcS g tt te vs σ Q (.str z) H := ⟨z, rfl, h⟩
theorem n_lcR1 {j : Int} (h1 : -(2 ^ 62) ≤ j) (h2 : j < 2 ^ 62) (h : LcJ (Itr 0 j.toNat) g tt te vs σ Q H) : LcR1 g tt te vs σ Q [.int j] H := ⟨j, rfl, h1, h2, h⟩
/-! fields -/
def Fl (K : PySem.W.Frag) (f : Str) (Q : VK) : VK := fun x H1 => ∃ a C dx fs v, x = .ref a ∧ H1 a = some (.ins C dx fs) ∧ Cls K C ∧ NoAttr K C f ∧ fs.lookup f = some v ∧ Q v H1
theorem g_fld {f : Str} (h : ta σ H (Fl K f Q)) : tFld K ta f σ H Q := h
theorem n_fld {a C dx : Addr} {fs : List (Str × V)} {f : Str} {v : V} (h1 : H a = some (.ins C dx fs)) (h2 : Cls K C) (h3 : NoAttr K C f) (h4 : fs.lookup f = some v) (h : Q v H) : Fl K f Q (.ref a) H := ⟨a, C, dx, fs, v, rfl, h1, h2, h3, h4, h⟩
def Pr (C : Addr) (sp : Sp) (Q : VK) : VK := fun x H1 => ∃ a dx fs, x = .ref a ∧ H1 a = some (.ins C dx fs) ∧ sp [.ref a] H1 Q E0
theorem g_prop {C : Addr} {sp : Sp} (h : ta σ H (Pr C sp Q)) : tPropR C sp ta σ H Q := h
theorem n_prop {a C dx : Addr} {fs : List (Str × V)} {sp : Sp} (h1 : H a = some (.ins C dx fs)) (h : sp [.ref a] H Q E0) : Pr C sp Q (.ref a) H := ⟨a, dx, fs, rfl, h1, h⟩
def Mt (C : Addr) (m : Str) (sp : Sp) (E : XK) (ts : TA) (σ : L2.St) (Q : VK) : VK := fun x H1 => ∃ a dx fs, x = .ref a ∧ H1 a = some (.ins C dx fs) ∧ fs.lookup m = none ∧ ts σ H1 fun vs H2 => sp (x :: vs) H2 Q E
theorem g_meth {C : Addr} {m : Str} {sp : Sp} {E : XK} (h : ta σ H (Mt C m sp E ts σ Q)) : tMethR C m sp E ta ts σ H Q := h
theorem n_meth {a C dx : Addr} {fs : List (Str × V)} {m : Str} {sp : Sp} {E : XK} (h1 : H a = some (.ins C dx fs)) (h2 : fs.lookup m = none) (h : ts σ H fun vs H2 => sp (.ref a :: vs) H2 Q E) : Mt C m sp E ts σ Q (.ref a) H := ⟨a, dx, fs, rfl, h1, h2, h⟩
def MkK (C : Addr) (sp : Sp) (E : XK) (Q : VK) (vs : List V) (H1 : Hp) : Prop := ∀ x dx, H1 x = none → H1 dx = none → dx ≠ x → sp (.ref x :: vs) (upd (upd H1 dx (.own x)) x (.ins C dx [])) (fun v H2 => v = .non ∧ Q (.ref x) H2) E
theorem g_make {C : Addr} {sp : Sp} {E : XK} (h : ts σ H (MkK C sp E Q)) : StX.tMakeR C sp E ts σ H Q := h
theorem n_make {C : Addr} {sp : Sp} {E : XK} {vs : List V} (h : ∀ x dx H', H x = none → H dx = none → dx ≠ x → Same H H' → H' x = some (.ins C dx []) → H' dx = some (.own x) → sp (.ref x :: vs) H' (fun v H2 => v = .non ∧ Q (.ref x) H2) E) : MkK C sp E Q vs H := fun x dx hx hd ne =>
  h x dx _ hx hd ne (fun b o e => by rw [upd_ne (ne_of_none e hx), upd_ne (ne_of_none e hd)]; exact e) upd_same (by rw [upd_ne ne, upd_same])
def St1 (K : PySem.W.Frag) (Q : List V → Hp → Prop) : VK := fun y H1 => ∃ a xs, y = V.ref a ∧ (SqT K H1 a xs ∨ SqL K H1 a xs) ∧ Q xs H1
theorem g_star1 {Q : List V → Hp → Prop} (h : te σ H (St1 K Q)) : tStar1 K te σ H Q := h
theorem n_star1 {a : Addr} {xs : List V} {Q : List V → Hp → Prop} (h1 : SqT K H a xs ∨ SqL K H a xs) (h : Q xs H) : St1 K Q (.ref a) H := ⟨a, xs, rfl, h1, h⟩
def StA (K : PySem.W.Frag) (t : TA) (σ : L2.St) (Q : List V → Hp → Prop) : VK := fun x H1 => ∃ p xs, x = V.ref p ∧ (SqT K H1 p xs ∨ SqL K H1 p xs) ∧ t σ H1 fun ys H2 => Q (xs ++ ys) H2
theorem g_star {Q : List V → Hp → Prop} (h : te σ H (StA K ts σ Q)) : StX.tStar K te ts σ H Q := h
theorem n_star {a : Addr} {xs : List V} {Q : List V → Hp → Prop} (h1 : SqT K H a xs ∨ SqL K H a xs) (h : ts σ H fun ys H2 => Q (xs ++ ys) H2) : StA K ts σ Q (.ref a) H := ⟨a, xs, rfl, h1, h⟩
def SFl (K : PySem.W.Frag) (f : Str) (y : V) (D : Ends) (σ : L2.St) : VK := fun x H2 => ∃ a C dx fs, x = .ref a ∧ H2 a = some (.ins C dx fs) ∧ Cls K C ∧ NoAttr K C f ∧ fs.length < 1000 ∧ D.nx σ (upd H2 a (.ins C dx (putF f y fs)))
theorem g_sfld {f : Str} {tv : TE} (h : tv σ H fun y H1 => ta σ H1 (SFl K f y D σ)) : sFld K ta tv f D σ H := h
theorem n_sfld {a C dx : Addr} {fs : List (Str × V)} {f : Str} {y : V} (h1 : H a = some (.ins C dx fs)) (h2 : Cls K C) (h3 : NoAttr K C f) (h4 : fs.length < 1000) (h : ∀ H', Keep a H H' → H' a = some (.ins C dx (putF f y fs)) → D.nx σ H') : SFl K f y D σ (.ref a) H := ⟨a, C, dx, fs, rfl, h1, h2, h3, h4, h _ keep_upd upd_same⟩

/-! words between -/
def tCutE (t : TE) : TE := fun σ H Q => ∃ Mid : V → Hp → Prop, t σ H Mid ∧ ∀ v H', Mid v H' → Q v H'
def tCutT (t : TT) : TT := fun σ H Q => ∃ Mid : Bool → Hp → Prop, t σ H Mid ∧ ∀ b H', Mid b H' → Q b H'
theorem pe_cut {e : Expr} {t : TE} (h : PE X e t) : PE X e (tCutE t) := ⟨fun pins s σ H Q I ⟨Mid, q, k⟩ => thn (h.run pins s σ H Mid I q) fun v s1 ⟨x, H1, I1, r1, q1⟩ => ⟨x, H1, I1, r1, k x H1 q1⟩⟩
theorem pt_cut {e : Expr} {t : TT} (h : PT X e t) : PT X e (tCutT t) := ⟨fun pins s σ H Q I ⟨Mid, q, k⟩ => thn (h.run pins s σ H Mid I q) fun b s1 ⟨H1, I1, q1⟩ => ⟨H1, I1, k b H1 q1⟩⟩
theorem g_cut {t u : TS} (Mid : L2.St → Hp → Prop) (h1 : t { D with nx := Mid } σ H) (h2 : ∀ σ' H', Mid σ' H' → u D σ' H') : C8.tCut t u D σ H := ⟨Mid, h1, h2⟩
theorem g_cutE {t : TE} (Mid : V → Hp → Prop) (h1 : t σ H Mid) (h2 : ∀ v H', Mid v H' → Q v H') : tCutE t σ H Q := ⟨Mid, h1, h2⟩
theorem g_cutT {t : TT} {Q : Bool → Hp → Prop} (Mid : Bool → Hp → Prop) (h1 : t σ H Mid) (h2 : ∀ b H', Mid b H' → Q b H') : tCutT t σ H Q := ⟨Mid, h1, h2⟩

/-! while -/
def WhK (Pv : Nat → L2.St → Hp → Prop) (m : Nat) (tb : TS) (D : Ends) (σ : L2.St) : Bool → Hp → Prop := fun b H1 => if b = true then ∃ N : L2.St → Hp → Prop, (∀ σ' H', N σ' H' → ∃ m', m' < m ∧ Pv m' σ' H') ∧ tb { D with nx := N, ct := N, bk := D.nx } σ H1 else D.nx σ H1
theorem n_while {c : TT} (Pv : Nat → L2.St → Hp → Prop) (m : Nat) (h0 : Pv m σ H) (hs : ∀ m σ H, Pv m σ H → c σ H (WhK Pv m tbs D σ)) : tWhile c tbs D σ H := ⟨Pv, ⟨m, h0⟩, hs⟩
theorem n_whT {Pv : Nat → L2.St → Hp → Prop} {m : Nat} (h : tbs { D with nx := fun σ' H' => ∃ m', m' < m ∧ Pv m' σ' H', ct := fun σ' H' => ∃ m', m' < m ∧ Pv m' σ' H', bk := D.nx } σ H) : WhK Pv m tbs D σ true H := iteT ⟨_, fun _ _ z => z, h⟩
theorem n_whF {Pv : Nat → L2.St → Hp → Prop} {m : Nat} (h : D.nx σ H) : WhK Pv m tbs D σ false H := iteF h

/-! a, b = x, y -/
def ParK (i j : Nat) (D : Ends) (σ : L2.St) (vs : List V) (H1 : Hp) : Prop := ∃ v w, vs = [v, w] ∧ D.nx ((σ.set i (some v)).set j (some w)) H1
theorem g_par {i j : Nat} (h : ts σ H (ParK i j D σ)) : tPar i j ts D σ H := h
theorem n_par {i j : Nat} {v w : V} {σ' : L2.St} (e : (σ.set i (some v)).set j (some w) = σ') (h : D.nx σ' H) : ParK i j D σ [v, w] H := ⟨v, w, rfl, by rw [e]; exact h⟩
def ParK3 (i j l : Nat) (D : Ends) (σ : L2.St) (vs : List V) (H1 : Hp) : Prop := ∃ u v w, vs = [u, v, w] ∧ D.nx (((σ.set i (some u)).set j (some v)).set l (some w)) H1
theorem g_par3 {i j l : Nat} (h : ts σ H (ParK3 i j l D σ)) : tPar3 i j l ts D σ H := h
theorem n_par3 {i j l : Nat} {u v w : V} {σ' : L2.St} (e : ((σ.set i (some u)).set j (some v)).set l (some w) = σ') (h : D.nx σ' H) : ParK3 i j l D σ [u, v, w] H := ⟨u, v, w, rfl, by rw [e]; exact h⟩
def AugK (i : Nat) (D : Ends) (σ : L2.St) : VK := fun z H2 => D.nx (σ.set i (some z)) H2
theorem g_aug {i : Nat} {x : V} {tip : TIp} (e : σ[i]? = some (some x)) (h : te σ H fun y H1 => tip x y H1 (AugK i D σ)) : tAug i te tip D σ H := ⟨x, e, h⟩
theorem n_aug {i : Nat} {z : V} {σ' : L2.St} (e : σ.set i (some z) = σ') (h : D.nx σ' H) : AugK i D σ z H := by subst e; exact h
theorem g_ipI {f : Int → Int → Int} {i j : Int} (h : Q (.int (f i j)) H) : ipI f (.int i) (.int j) H Q := ⟨i, j, rfl, rfl, h⟩
theorem g_rAdd {i j : Int} (h : Q (.int (i + j)) H) : rAdd (.int i) (.int j) H Q := ⟨i, j, rfl, rfl, h⟩
theorem g_rSub {i j : Int} (h : Q (.int (i - j)) H) : rSub (.int i) (.int j) H Q := ⟨i, j, rfl, rfl, h⟩
def FAK (K : PySem.W.Frag) (f : Str) (tv : TE) (rd : V → V → Hp → VK → Prop) (D : Ends) (σ : L2.St) : VK := fun x H => sFldAug K (fun _ H1 R => R x H1) tv rd f D σ H
def FAE (C a : Addr) (f : Str) (D : Ends) (σ : L2.St) : VK := fun z H3 => ∃ dx' fs', H3 a = some (.ins C dx' fs') ∧ fs'.length < 1000 ∧ D.nx σ (upd H3 a (.ins C dx' (putF f z fs')))
theorem g_fldaug {f : Str} {tv : TE} {rd : V → V → Hp → VK → Prop} (h : ta σ H (FAK K f tv rd D σ)) : sFldAug K ta tv rd f D σ H := h
theorem n_fldaug {a C dx : Addr} {fs : List (Str × V)} {f : Str} {v : V} {tv : TE} {rd : V → V → Hp → VK → Prop} (h1 : H a = some (.ins C dx fs)) (h2 : Cls K C) (h3 : NoAttr K C f) (h4 : fs.lookup f = some v) (h : tv σ H fun y H2 => rd v y H2 (FAE C a f D σ)) : FAK K f tv rd D σ (.ref a) H := ⟨a, C, dx, fs, v, rfl, h1, h2, h3, h4, h⟩
theorem n_fae {a C dx : Addr} {fs : List (Str × V)} {f : Str} {z : V} (h1 : H a = some (.ins C dx fs)) (h4 : fs.length < 1000) (h : ∀ H', Keep a H H' → H' a = some (.ins C dx (putF f z fs)) → D.nx σ H') : FAE C a f D σ z H := ⟨dx, fs, h1, h4, h _ keep_upd upd_same⟩
theorem g_minL {a : Addr} {ns : List Int} (h1 : SqL K H a (ns.map V.int)) (h2 : 0 < ns.length) (h : ∀ m, m ∈ ns → (∀ y, y ∈ ns → m ≤ y) → Q (.int m) H) : rMin K [.ref a] H Q := ⟨a, ns, rfl, h1, h2, h⟩
theorem g_maxL {a : Addr} {ns : List Int} (h1 : SqL K H a (ns.map V.int)) (h2 : 0 < ns.length) (h : ∀ m, m ∈ ns → (∀ y, y ∈ ns → y ≤ m) → Q (.int m) H) : rMax K [.ref a] H Q := ⟨a, ns, rfl, h1, h2, h⟩
theorem g_sumL {a : Addr} {ns : List Int} (h1 : SqL K H a (ns.map V.int)) (h : Q (.int ns.sum) H) : rSum K [.ref a] H Q := ⟨a, ns, rfl, h1, h⟩
theorem g_all {a : Addr} {bs : List Bool} (h1 : SqL K H a (bs.map V.bl)) (h : Q (.bl (bs.all id)) H) : rAll K [.ref a] H Q := ⟨a, bs, rfl, h1, h⟩
theorem g_any {a : Addr} {bs : List Bool} (h1 : SqL K H a (bs.map V.bl)) (h : Q (.bl (bs.any id)) H) : rAny K [.ref a] H Q := ⟨a, bs, rfl, h1, h⟩

/-! a comprehension whose i-th item is f i -/
def PMap (f : Nat → V) (H1 : Hp) : Nat → List V → Hp → Prop := fun i acc H' => Same H1 H' ∧ acc = (List.range i).map f
theorem n_mapK {f : Nat → V} {H1 : Hp} {C : Addr} {i : Nat} {y : V} (hC : H1 C = none) (h1 : Same H1 H) (h2 : H C = some (.lst ((List.range i).map f))) (e : y = f i) (hn : i < 1000000 := by omega) : LcK C (NxP (PMap f H1) C (i + 1)) y H := by
  refine n_lcK h2 (by simp) (by omega) fun H' k hc => ⟨fun b o e => k _ _ (ne_of_none e hC) (h1 _ _ e), ?_⟩
  rw [List.range_succ, List.map_append, e]; rfl
theorem lc_map {J : It} {n : Nat} {G : Hp → Prop} {Y : Nat → Hp → V → Hp → Prop} (w : Walk J n G Y) (f : Nat → V) {H1 : Hp} (hG : ∀ H, Same H1 H → G H)
    (hs : ∀ C i x H H', H1 C = none → i < n → Same H1 H → H C = some (.lst ((List.range i).map f)) → Y i H x H' → g x (wipe σ vs) H' fun σ2 H2 => wipe σ2 vs = wipe σ vs ∧ tt σ2 H2 (LcIf C te σ2 (NxP (PMap f H1) C (i + 1))))
    (hd : ∀ C H, H1 C = none → Same H1 H → H C = some (.lst ((List.range n).map f)) → Q (.ref C) H) : LcJ J g tt te vs σ Q H1 := by
  refine lc_run w (PMap f H1) (fun C H' nC s h => ⟨s, rfl⟩) (fun i acc H C nC hC ⟨s, _⟩ => hG H s) ?_ ?_
  · rintro C i acc x H H' nC hi hl hC ⟨s, rfl⟩ y
    exact hs C i x H H' nC hi s hC y
  · rintro C acc H nC hC ⟨s, rfl⟩
    exact hd C H nC s hC
theorem range_getD {α β : Type} (xs : List α) (d : α) (F : α → β) : (List.range xs.length).map (fun i => F (xs.getD i d)) = xs.map F := by
  apply List.ext_getElem
  · simp
  · intro i h1 h2
    simp at h1
    simp [List.getD, List.getElem?_eq_getElem h1]
theorem getD_of {α : Type} {xs : List α} {i : Nat} {x d : α} (h : xs[i]? = some x) : xs.getD i d = x := by simp [List.getD, h]
theorem cps_get {z : Str} {i c : Nat} (h : z.cps[i]? = some c) : z.cps.toList[i]? = some c := by simpa using h
end
end HC
/-! short words for terms -/
namespace HC
open PyProof.Rows PySem L2 PySem.Spec
theorem bt_len : bootBuiltins "len" = some (.builtin "len") := by decide +kernel
theorem bt_abs : bootBuiltins "abs" = some (.builtin "abs") := by decide +kernel
theorem bt_min : bootBuiltins "min" = some (.builtin "min") := by decide +kernel
theorem bt_max : bootBuiltins "max" = some (.builtin "max") := by decide +kernel
theorem bt_all : bootBuiltins "all" = some (.builtin "all") := by decide +kernel
theorem bt_any : bootBuiltins "any" = some (.builtin "any") := by decide +kernel
theorem bt_sum : bootBuiltins "sum" = some (.builtin "sum") := by decide +kernel
theorem bt_isinstance : bootBuiltins "isinstance" = some (.builtin "isinstance") := by decide +kernel
theorem bt_list : bootBuiltins "list" = some (.type "list") := by decide +kernel
theorem bt_tuple : bootBuiltins "tuple" = some (.type "tuple") := by decide +kernel
theorem bt_int : bootBuiltins "int" = some (.type "int") := by decide +kernel
theorem bt_str : bootBuiltins "str" = some (.type "str") := by decide +kernel
theorem bt_bool : bootBuiltins "bool" = some (.type "bool") := by decide +kernel
theorem bt_dict : bootBuiltins "dict" = some (.type "dict") := by decide +kernel
/-- the builtins' names are not the module's -/
structure Bts (mg : Str → Option Value) : Prop where
  len : mg "len" = none
  abs : mg "abs" = none
  min : mg "min" = none
  max : mg "max" = none
  all : mg "all" = none
  any : mg "any" = none
  sum : mg "sum" = none
  isinstance : mg "isinstance" = none
  list : mg "list" = none
  tuple : mg "tuple" = none
  int : mg "int" = none
  str : mg "str" = none
  bool : mg "bool" = none
  dict : mg "dict" = none
  range : mg "range" = none
  enumerate : mg "enumerate" = none
  zip : mg "zip" = none
  sorted : mg "sorted" = none
  set : mg "set" = none
def GInt (mg : Str → Option Value) (x : Str) (i : Int) : Prop := ∃ t, mg x = some (.int i t)
def GStr (mg : Str → Option Value) (x : Str) (z : Str) : Prop := ∃ t, mg x = some (.str z t)
/-- the class x (at C) has the int constant f -/
structure GCon (K : PySem.W.Frag) (mg : Str → Option Value) (x f : Str) (v : V) : Prop where
  ex : ∃ C mc u, mg x = some (.ref C) ∧ ClX.CRead K C mc ∧ ClX.CVal K C mc f v u
section
variable {X : Cx} {e e2 o : Expr} {es : List Expr} {te te2 to : TE} {ts : TA} {p pos apos tpos : Pos} {x f : Str}
theorem pe_gi {i : Int} (h : GInt X.mg x i) (hg : Gl X x := by rfl) (hd : (x == ("__debug__" : Str)) = false := by decide) : PE X (.Name x pos) (tC (.int i)) := by
  obtain ⟨t, h⟩ := h
  exact pe_glob hg h ⟨t, rfl⟩ hd
theorem pe_gs {z : Str} (h : GStr X.mg x z) (hg : Gl X x := by rfl) (hd : (x == ("__debug__" : Str)) = false := by decide) : PE X (.Name x pos) (tC (.str z)) := by
  obtain ⟨t, h⟩ := h
  exact pe_glob hg h ⟨t, rfl⟩ hd
theorem pe_gcon {v : V} (h : GCon X.K X.mg x f v) (hg : Gl X x := by rfl) (hb : attributeBase (.Name x p) f X.env (eval (.Name x p) X.env) = eval (.Name x p) X.env := by rfl) (hd : (x == ("__debug__" : Str)) = false := by decide) : PE X (.Attribute (.Name x p) f pos) (tC v) := by
  obtain ⟨C, mc, u, h1, h2, h3⟩ := h.ex
  exact ⟨fun pins s σ H Q I h => (ClX.pe_cval (pe_glob (v := .ref C) hg h1 rfl hd) hb).run pins s σ H Q I ⟨C, mc, v, u, rfl, h2, h3, h⟩⟩
theorem pe_len0 (m : Bts X.mg) (he : PE X e te) (hg : Gl X "len" := by rfl) (hs : starEach (e :: []) X.env = (false, eval e X.env) :: starEach [] X.env := by rfl) : PE X (.Call (.Name "len" p) [e] [] pos) (tCB (uLen X.K) (tCons te tNil)) :=
  pe_callB call_lenU hg m.len bt_len (pa_cons he pa_nil hs) (by decide) (by decide) hs rfl
theorem pe_len (K' : PySem.W.Frag) (m : Bts X.mg) (he : PE X e te) (hg : Gl X "len" := by rfl) (hs : starEach (e :: []) X.env = (false, eval e X.env) :: starEach [] X.env := by rfl) (hK : X.K = K' := by rfl) : PE X (.Call (.Name "len" p) [e] [] pos) (tCB (uLen K') (tCons te tNil)) := by
  subst hK
  exact pe_len0 m he hg hs
def rAbs : List V → Hp → VK → Prop := fun xs H Q => ∃ i, xs = [.int i] ∧ Q (.int (if i < 0 then -i else i)) H
theorem pe_abs (m : Bts X.mg) (he : PE X e te) (hg : Gl X "abs" := by rfl) (hs : starEach (e :: []) X.env = (false, eval e X.env) :: starEach [] X.env := by rfl) : PE X (.Call (.Name "abs" p) [e] [] pos) (tCB rAbs (tCons te tNil)) :=
  pe_callB call_abs hg m.abs bt_abs (pa_cons he pa_nil hs) (by decide) (by decide) hs rfl
def rMin2 : List V → Hp → VK → Prop := fun xs H Q => ∃ i j, xs = [.int i, .int j] ∧ Q (.int (if j < i then j else i)) H
theorem pe_min2 (m : Bts X.mg) (ha : PA X [e, e2] ts) (hc : X.calm = true := by rfl) (hg : Gl X "min" := by rfl) (he : starEach [e, e2] X.env = (false, eval e X.env) :: starEach [e2] X.env := by rfl) (hpl : (backTo pos (starEach [e2] X.env)).any (·.1) = false := by rfl) :
    PE X (.Call (.Name "min" p) [e, e2] [] pos) (tCB rMin2 ts) := pe_callB (call_min2 hc) hg m.min bt_min ha (by decide) (by decide) he hpl
theorem pe_max2 (m : Bts X.mg) (ha : PA X [e, e2] ts) (hc : X.calm = true := by rfl) (hg : Gl X "max" := by rfl) (he : starEach [e, e2] X.env = (false, eval e X.env) :: starEach [e2] X.env := by rfl) (hpl : (backTo pos (starEach [e2] X.env)).any (·.1) = false := by rfl) :
    PE X (.Call (.Name "max" p) [e, e2] [] pos) (tCB Evl.rMax2 ts) := pe_callB (call_max2 hc) hg m.max bt_max ha (by decide) (by decide) he hpl
theorem pe_min10 (m : Bts X.mg) (he : PE X e te) (hc : X.calm = true := by rfl) (hg : Gl X "min" := by rfl) (hs : starEach (e :: []) X.env = (false, eval e X.env) :: starEach [] X.env := by rfl) : PE X (.Call (.Name "min" p) [e] [] pos) (tCB (rMin X.K) (tCons te tNil)) :=
  pe_callB (cr_min hc) hg m.min bt_min (pa_cons he pa_nil hs) (by decide) (by decide) hs rfl
theorem pe_min1 (K' : PySem.W.Frag) (m : Bts X.mg) (he : PE X e te) (hc : X.calm = true := by rfl) (hg : Gl X "min" := by rfl) (hs : starEach (e :: []) X.env = (false, eval e X.env) :: starEach [] X.env := by rfl) (hK : X.K = K' := by rfl) : PE X (.Call (.Name "min" p) [e] [] pos) (tCB (rMin K') (tCons te tNil)) := by
  subst hK
  exact pe_min10 m he hc hg hs
theorem pe_max10 (m : Bts X.mg) (he : PE X e te) (hc : X.calm = true := by rfl) (hg : Gl X "max" := by rfl) (hs : starEach (e :: []) X.env = (false, eval e X.env) :: starEach [] X.env := by rfl) : PE X (.Call (.Name "max" p) [e] [] pos) (tCB (rMax X.K) (tCons te tNil)) :=
  pe_callB (cr_max hc) hg m.max bt_max (pa_cons he pa_nil hs) (by decide) (by decide) hs rfl
theorem pe_max1 (K' : PySem.W.Frag) (m : Bts X.mg) (he : PE X e te) (hc : X.calm = true := by rfl) (hg : Gl X "max" := by rfl) (hs : starEach (e :: []) X.env = (false, eval e X.env) :: starEach [] X.env := by rfl) (hK : X.K = K' := by rfl) : PE X (.Call (.Name "max" p) [e] [] pos) (tCB (rMax K') (tCons te tNil)) := by
  subst hK
  exact pe_max10 m he hc hg hs
theorem pe_sum10 (m : Bts X.mg) (he : PE X e te) (hc : X.calm = true := by rfl) (hg : Gl X "sum" := by rfl) (hs : starEach (e :: []) X.env = (false, eval e X.env) :: starEach [] X.env := by rfl) : PE X (.Call (.Name "sum" p) [e] [] pos) (tCB (rSum X.K) (tCons te tNil)) :=
  pe_callB (cr_sum hc) hg m.sum bt_sum (pa_cons he pa_nil hs) (by decide) (by decide) hs rfl
theorem pe_sum1 (K' : PySem.W.Frag) (m : Bts X.mg) (he : PE X e te) (hc : X.calm = true := by rfl) (hg : Gl X "sum" := by rfl) (hs : starEach (e :: []) X.env = (false, eval e X.env) :: starEach [] X.env := by rfl) (hK : X.K = K' := by rfl) : PE X (.Call (.Name "sum" p) [e] [] pos) (tCB (rSum K') (tCons te tNil)) := by
  subst hK
  exact pe_sum10 m he hc hg hs
theorem pe_all0 (m : Bts X.mg) (he : PE X e te) (hc : X.calm = true := by rfl) (hg : Gl X "all" := by rfl) (hs : starEach (e :: []) X.env = (false, eval e X.env) :: starEach [] X.env := by rfl) : PE X (.Call (.Name "all" p) [e] [] pos) (tCB (rAll X.K) (tCons te tNil)) :=
  pe_callB (cr_all hc) hg m.all bt_all (pa_cons he pa_nil hs) (by decide) (by decide) hs rfl
theorem pe_all (K' : PySem.W.Frag) (m : Bts X.mg) (he : PE X e te) (hc : X.calm = true := by rfl) (hg : Gl X "all" := by rfl) (hs : starEach (e :: []) X.env = (false, eval e X.env) :: starEach [] X.env := by rfl) (hK : X.K = K' := by rfl) : PE X (.Call (.Name "all" p) [e] [] pos) (tCB (rAll K') (tCons te tNil)) := by
  subst hK
  exact pe_all0 m he hc hg hs
theorem pe_any0 (m : Bts X.mg) (he : PE X e te) (hc : X.calm = true := by rfl) (hg : Gl X "any" := by rfl) (hs : starEach (e :: []) X.env = (false, eval e X.env) :: starEach [] X.env := by rfl) : PE X (.Call (.Name "any" p) [e] [] pos) (tCB (rAny X.K) (tCons te tNil)) :=
  pe_callB (cr_any hc) hg m.any bt_any (pa_cons he pa_nil hs) (by decide) (by decide) hs rfl
theorem pe_any (K' : PySem.W.Frag) (m : Bts X.mg) (he : PE X e te) (hc : X.calm = true := by rfl) (hg : Gl X "any" := by rfl) (hs : starEach (e :: []) X.env = (false, eval e X.env) :: starEach [] X.env := by rfl) (hK : X.K = K' := by rfl) : PE X (.Call (.Name "any" p) [e] [] pos) (tCB (rAny K') (tCons te tNil)) := by
  subst hK
  exact pe_any0 m he hc hg hs
def rInt1 : List V → Hp → VK → Prop := fun xs H Q => (∃ i, xs = [.int i] ∧ Q (.int i) H) ∨ ∃ k, xs = [.bl k] ∧ Q (.int (if k then 1 else 0)) H
theorem pe_int1 (m : Bts X.mg) (he : PE X e te) (hg : Gl X "int" := by rfl) (hs : starEach (e :: []) X.env = (false, eval e X.env) :: starEach [] X.env := by rfl) : PE X (.Call (.Name "int" p) [e] [] pos) (tCB rInt1 (tCons te tNil)) :=
  pe_callTy call_int1 hg m.int bt_int (pa_cons he pa_nil hs) (by decide) (by decide) hs rfl
def rListOf (K : PySem.W.Frag) : List V → Hp → VK → Prop := fun xs H Q => ∃ p ys, xs = [.ref p] ∧ (SqL K H p ys ∨ SqT K H p ys) ∧ ∀ l, H l = none → Q (.ref l) (upd H l (.lst ys))
def rTupleOf (K : PySem.W.Frag) : List V → Hp → VK → Prop := fun xs H Q => ∃ p ys, xs = [.ref p] ∧ ((SqL K H p ys ∧ ∀ l, H l = none → Q (.ref l) (upd H l (.tup ys))) ∨ (SqT K H p ys ∧ Q (.ref p) H))
theorem pe_listOf0 (m : Bts X.mg) (he : PE X e te) (hg : Gl X "list" := by rfl) (hs : starEach (e :: []) X.env = (false, eval e X.env) :: starEach [] X.env := by rfl) : PE X (.Call (.Name "list" p) [e] [] pos) (tCB (rListOf X.K) (tCons te tNil)) :=
  pe_callTy call_list_of hg m.list bt_list (pa_cons he pa_nil hs) (by decide) (by decide) hs rfl
theorem pe_listOf (K' : PySem.W.Frag) (m : Bts X.mg) (he : PE X e te) (hg : Gl X "list" := by rfl) (hs : starEach (e :: []) X.env = (false, eval e X.env) :: starEach [] X.env := by rfl) (hK : X.K = K' := by rfl) : PE X (.Call (.Name "list" p) [e] [] pos) (tCB (rListOf K') (tCons te tNil)) := by
  subst hK
  exact pe_listOf0 m he hg hs
theorem pe_tupOf0 (m : Bts X.mg) (he : PE X e te) (hg : Gl X "tuple" := by rfl) (hs : starEach (e :: []) X.env = (false, eval e X.env) :: starEach [] X.env := by rfl) : PE X (.Call (.Name "tuple" p) [e] [] pos) (tCB (rTupleOf X.K) (tCons te tNil)) :=
  pe_callTy call_tuple_of hg m.tuple bt_tuple (pa_cons he pa_nil hs) (by decide) (by decide) hs rfl
theorem pe_tupOf (K' : PySem.W.Frag) (m : Bts X.mg) (he : PE X e te) (hg : Gl X "tuple" := by rfl) (hs : starEach (e :: []) X.env = (false, eval e X.env) :: starEach [] X.env := by rfl) (hK : X.K = K' := by rfl) : PE X (.Call (.Name "tuple" p) [e] [] pos) (tCB (rTupleOf K') (tCons te tNil)) := by
  subst hK
  exact pe_tupOf0 m he hg hs
/-- isinstance(e, T), T a built-in class -/
theorem pe_isiB0 {T : String} {n : Str} (m : Bts X.mg) (hn : X.mg n = none) (hb : bootBuiltins n = some (.type T)) (he : PE X e te) (hg : Gl X "isinstance" := by rfl) (hg2 : Gl X n := by rfl) (hd1 : n ≠ "__name__" := by decide) (hd2 : (n == ("__debug__" : Str)) = false := by decide)
    (hs : starEach [e, .Name n tpos] X.env = (false, eval e X.env) :: starEach [.Name n tpos] X.env := by rfl) (hs2 : starEach [.Name n tpos] X.env = (false, eval (.Name n tpos) X.env) :: starEach [] X.env := by rfl) (hpl : (backTo pos (starEach [.Name n tpos] X.env)).any (·.1) = false := by rfl) :
    PE X (.Call (.Name "isinstance" p) [e, .Name n tpos] [] pos) (tCB (rIsi X.K) (tCons te (tCons (tC (.ty T)) tNil))) :=
  pe_callB (p := p) (pos := pos) call_isi hg m.isinstance bt_isinstance (pa_cons he (pa_cons (pe_bltn (pos := tpos) (v := .ty T) hg2 hn hb rfl hd1 hd2) pa_nil hs2) hs) (by decide) (by decide) hs hpl
theorem pe_isiB (K' : PySem.W.Frag) {T : String} {n : Str} (m : Bts X.mg) (hn : X.mg n = none) (hb : bootBuiltins n = some (.type T)) (he : PE X e te) (hg : Gl X "isinstance" := by rfl) (hg2 : Gl X n := by rfl) (hd1 : n ≠ "__name__" := by decide) (hd2 : (n == ("__debug__" : Str)) = false := by decide)
    (hs : starEach [e, .Name n tpos] X.env = (false, eval e X.env) :: starEach [.Name n tpos] X.env := by rfl) (hs2 : starEach [.Name n tpos] X.env = (false, eval (.Name n tpos) X.env) :: starEach [] X.env := by rfl) (hpl : (backTo pos (starEach [.Name n tpos] X.env)).any (·.1) = false := by rfl) (hK : X.K = K' := by rfl) :
    PE X (.Call (.Name "isinstance" p) [e, .Name n tpos] [] pos) (tCB (rIsi K') (tCons te (tCons (tC (.ty T)) tNil))) := by
  subst hK
  exact pe_isiB0 m hn hb he hg hg2 hd1 hd2 hs hs2 hpl
/-- isinstance(e, C), C a class of the module -/
theorem pe_isiC0 {C : Addr} {n : Str} (m : Bts X.mg) (hn : X.mg n = some (.ref C)) (he : PE X e te) (hg : Gl X "isinstance" := by rfl) (hg2 : Gl X n := by rfl) (hd2 : (n == ("__debug__" : Str)) = false := by decide)
    (hs : starEach [e, .Name n tpos] X.env = (false, eval e X.env) :: starEach [.Name n tpos] X.env := by rfl) (hs2 : starEach [.Name n tpos] X.env = (false, eval (.Name n tpos) X.env) :: starEach [] X.env := by rfl) (hpl : (backTo pos (starEach [.Name n tpos] X.env)).any (·.1) = false := by rfl) :
    PE X (.Call (.Name "isinstance" p) [e, .Name n tpos] [] pos) (tCB (rIsi X.K) (tCons te (tCons (tC (.ref C)) tNil))) :=
  pe_callB (p := p) (pos := pos) call_isi hg m.isinstance bt_isinstance (pa_cons he (pa_cons (pe_glob (pos := tpos) (v := .ref C) hg2 hn rfl hd2) pa_nil hs2) hs) (by decide) (by decide) hs hpl
/-! methods of built-in types -/
variable {K : PySem.W.Frag} {H : Hp} {Q : VK} {σ : L2.St}
theorem pe_isiC (K' : PySem.W.Frag) {C : Addr} {n : Str} (m : Bts X.mg) (hn : X.mg n = some (.ref C)) (he : PE X e te) (hg : Gl X "isinstance" := by rfl) (hg2 : Gl X n := by rfl) (hd2 : (n == ("__debug__" : Str)) = false := by decide)
    (hs : starEach [e, .Name n tpos] X.env = (false, eval e X.env) :: starEach [.Name n tpos] X.env := by rfl) (hs2 : starEach [.Name n tpos] X.env = (false, eval (.Name n tpos) X.env) :: starEach [] X.env := by rfl) (hpl : (backTo pos (starEach [.Name n tpos] X.env)).any (·.1) = false := by rfl) (hK : X.K = K' := by rfl) :
    PE X (.Call (.Name "isinstance" p) [e, .Name n tpos] [] pos) (tCB (rIsi K') (tCons te (tCons (tC (.ref C)) tNil))) := by
  subst hK
  exact pe_isiC0 m hn he hg hg2 hd2 hs hs2 hpl
end
section
variable {X : Cx} {K : PySem.W.Frag} {H : Hp} {Q : VK} {σ : L2.St}
theorem g_abs {i : Int} (h : Q (.int (if i < 0 then -i else i)) H) : rAbs [.int i] H Q := ⟨i, rfl, h⟩
theorem g_min2 {i j : Int} (h : Q (.int (if j < i then j else i)) H) : rMin2 [.int i, .int j] H Q := ⟨i, j, rfl, h⟩
theorem g_max2 {i j : Int} (h : Q (.int (if j > i then j else i)) H) : Evl.rMax2 [.int i, .int j] H Q := ⟨i, j, rfl, h⟩
theorem g_int_i {i : Int} (h : Q (.int i) H) : rInt1 [.int i] H Q := .inl ⟨i, rfl, h⟩
theorem g_int_b {k : Bool} (h : Q (.int (if k then 1 else 0)) H) : rInt1 [.bl k] H Q := .inr ⟨k, rfl, h⟩
theorem g_listOf {p : Addr} {ys : List V} (h1 : SqL K H p ys ∨ SqT K H p ys) (h : ∀ l H', H l = none → Same H H' → H' l = some (.lst ys) → Q (.ref l) H') : rListOf K [.ref p] H Q := ⟨p, ys, rfl, h1, fun l hl => h l _ hl (same_new hl) upd_same⟩
theorem g_tupOf_l {p : Addr} {ys : List V} (h1 : SqL K H p ys) (h : ∀ l H', H l = none → Same H H' → H' l = some (.tup ys) → Q (.ref l) H') : rTupleOf K [.ref p] H Q := ⟨p, ys, rfl, .inl ⟨h1, fun l hl => h l _ hl (same_new hl) upd_same⟩⟩
theorem g_tupOf_t {p : Addr} {ys : List V} (h1 : SqT K H p ys) (h : Q (.ref p) H) : rTupleOf K [.ref p] H Q := ⟨p, ys, rfl, .inr ⟨h1, h⟩⟩
theorem g_isi {x : V} {t T : String} {b : Bool} (h1 : TyX K H x (.type t)) (h2 : kitB t T = some b) (h : Q (.bl b) H) : rIsi K [x, .ty T] H Q := ⟨x, .ty T, .type t, .type T, b, rfl, .ty T, h1, kit_ty h2, h⟩
end

section
variable {X : Cx} {K : PySem.W.Frag} {a b e e2 o value : Expr} {es : List Expr} {ta tb te to tl : TE} {ts : TA} {p pos apos cpos tpos p2 pos' : Pos} {f name : Str}
theorem op_addK (K) (hK : X.K = K := by rfl) : OpR X (binaryOp .Add) (uAdd K) := by subst hK; exact op_addU
theorem op_eqK (K) {k : Nat} (hr : Room k X.A) (hK : X.K = K := by rfl) : OpR X (compareOp .Eq) (uEq K) := by subst hK; exact op_eqU hr
theorem op_neK (K) {k : Nat} (hr : Room k X.A) (hK : X.K = K := by rfl) : OpR X (compareOp .NotEq) (uNe K) := by subst hK; exact op_neU hr
theorem op_inK (K) {k : Nat} (hr : Room k X.A) (hK : X.K = K := by rfl) : OpR X (compareOp .In) (uIn K) := by subst hK; exact op_inU hr
theorem op_notInK (K) {k : Nat} (hr : Room k X.A) (hK : X.K = K := by rfl) : OpR X (compareOp .NotIn) (uNotIn K) := by subst hK; exact op_notInU hr
theorem ix_K (K) (hK : X.K = K := by rfl) : IxR X (rIx K) := by subst hK; exact ix_seq
theorem sl_listK (K) (hK : X.K = K := by rfl) : SlR X (rSlL K) := by subst hK; exact sl_list
theorem sl_tupK (K) (hK : X.K = K := by rfl) : SlR X (rSlA K) := by subst hK; exact sl_tupA
theorem pe_fldK (K) (he : PE X e ta) (hb : attributeBase e f X.env (eval e X.env) = eval e X.env := by rfl) (hK : X.K = K := by rfl) : PE X (.Attribute e f pos) (tFld K ta f) := by subst hK; exact pe_fld he hb
theorem ps_fldK (K) (ha : PE X o ta) (hv : PE X value te) (hs : swapsWith value (some (.Attribute o f pos')) pos.line X.env = pure false := by rfl) (hK : X.K = K := by rfl) : PS X (.Assign [.Attribute o f pos'] value pos) (sFld K ta te f) := by subst hK; exact ps_fld ha hv hs
theorem ps_fldaugK (K) {op : Operator} {rd : V → V → Hp → VK → Prop} (ha : PE X o ta) (hv : PE X value te) (hop : InOp X op rd) (hK : X.K = K := by rfl) : PS X (.AugAssign (.Attribute o f tpos) op value pos) (sFldAug K ta te rd f) := by subst hK; exact ps_fldaug ha hv hop
theorem as_bm (K) {c : Expr} {T : String} {r : V → List V → Hp → VK → Prop} (h : PE X c (tBM X.K T r to ts)) (hK : X.K = K := by rfl) : PE X c (tBM K T r to ts) := by subst hK; exact h
theorem pi_listK (K) {tg : Expr} (hl : PE X e tl) (hK : X.K = K := by rfl) : PI X tg e (iList K tl) := by subst hK; exact pi_list hl
theorem pi_tupK (K) {tg : Expr} (hl : PE X e tl) (hK : X.K = K := by rfl) : PI X tg e (iTup K tl) := by subst hK; exact pi_tup hl
theorem pi_enumTK (K) {elts : List Expr} {kk : Nat} (hg : Gl X "enumerate") (hm : X.mg "enumerate" = none) (ha : PA X [e] ts) (hs : starEach [e] X.env = [(false, eval e X.env)] := by rfl) (hK : X.K = K := by rfl) :
    PI X (.Tuple elts kk tpos) (.Call (.Name "enumerate" p) [e] [] pos) (iEnumT K ts) := by subst hK; exact pi_enumT hg hm ha hs
theorem pi_enumLK (K) {elts : List Expr} {kk : Nat} (hg : Gl X "enumerate") (hm : X.mg "enumerate" = none) (ha : PA X [e] ts) (hs : starEach [e] X.env = [(false, eval e X.env)] := by rfl) (hK : X.K = K := by rfl) :
    PI X (.Tuple elts kk tpos) (.Call (.Name "enumerate" p) [e] [] pos) (iEnum K ts) := by subst hK; exact pi_enum hg hm ha hs
theorem pi_zipK (K) {elts : List Expr} {kk : Nat} (hg : Gl X "zip") (hm : X.mg "zip" = none) (ha : PA X [e, e2] ts) (hs : starEach [e, e2] X.env = (false, eval e X.env) :: starEach [e2] X.env := by rfl) (hpl : (backTo pos (starEach [e2] X.env)).any (·.1) = false := by rfl) (hK : X.K = K := by rfl) :
    PI X (.Tuple elts kk tpos) (.Call (.Name "zip" p) [e, e2] [] pos) (RZ.iZipA K ts) := by subst hK; exact RZ.pi_zipA hg hm ha hs hpl
theorem pg_tupK (K) {k : Nat} {t : TGs} {n : Nat} (hc : X.calm = true) (h : PGs X es t) (hn : (assignEach es X.env).length = n := by rfl) (hst : (assignEach es X.env).findIdx? (·.1) = none := by rfl) (hK : X.K = K := by rfl) : PG X (.Tuple es k pos) (gTup K n t) := by subst hK; exact pg_tup hc h hn hst
theorem pa_starK (K) (he : PE X e te) (hr : PA X es ts) (hs : starEach (.Starred e p :: es) X.env = (true, eval e X.env) :: starEach es X.env := by rfl) (hK : X.K = K := by rfl) : PA X (.Starred e p :: es) (StX.tStar K te ts) := by subst hK; exact StX.pa_star he hr hs
def rJoin (K : PySem.W.Frag) : V → List V → Hp → VK → Prop := fun x xs H Q => ∃ a p, ∃ ys : List Str, x = .str a ∧ xs = [.ref p] ∧ (SqL K H p (ys.map V.str) ∨ SqT K H p (ys.map V.str)) ∧ (ys.map (·.length)).sum + ys.length * a.length ≤ 16777216 ∧ Q (.str (Txt.join a ys)) H
theorem pe_joinK (K) (ho : PE X o to) (he : PE X e te) (hs : starEach [e] X.env = [(false, eval e X.env)] := by rfl) (hbase : attributeBase o "join" X.env (eval o X.env) = eval o X.env := by rfl) (hline : (apos.endLine == pos.line) = true := by rfl) (hK : X.K = K := by rfl) :
    PE X (.Call (.Attribute o "join" apos) [e] [] pos) (tM1 (rJoin K) to te) := by subst hK; exact pe_join ho he hs hbase hline
theorem pe_makeSK (K) {x : Str} {C : Addr} {k : Nat} {sp : Sp} {E : XK} (M : MakeR X.prog X.w X.K X.mg X.base x C k sp) (hr : Room (k + 1) X.A) (hx : Passes (CXW X.prog X.w) X E) (he : PE X e te) (hg : Gl X x := by rfl) (hd : (x == ("__debug__" : Str)) = false := by decide)
    (hst : starEach [.Starred e apos] X.env = [(true, eval e X.env)] := by rfl) (hK : X.K = K := by rfl) : PE X (.Call (.Name x p) [.Starred e apos] [] pos) (StX.tMakeR C sp E (tStar1 K te)) := by subst hK; exact pe_makeS M hr hx he hg hd hst
end
end HC
/-! the head's facts: defs at any address, facts by names, properties, constants of classes -/
namespace HC
open PySem PySem.W PySem.Calls PyProof.Rows He He5 L2
/-- a property's getter -/
def pgA (K : Frag) (C : Addr) (f : PySem.Str) : Addr := match recIn K (ma K C f) "property" with
  | some (.ref g :: _) => g
  | _ => 0
def propB (K : Frag) (C : Addr) (f : PySem.Str) : Bool := eqO (findIn K (.ref C) f) (some (some (.ref (ma K C f)))) && (eqO (specialIn K (.ref (ma K C f)) "__get__") (some (some (.builtin "property.__get__"))) &&
  (decide (takesIn K (.ref (ma K C f)) = some true) && (match recIn K (ma K C f) "property" with
    | some (.ref _ :: _) => true
    | _ => false)))
theorem propB_ok {K : Frag} {C : Addr} {f : PySem.Str} (h : propB K C f = true) : PropOf K C f (ma K C f) (pgA K C f) := by
  obtain ⟨h1, h⟩ := ba h
  obtain ⟨h2, h⟩ := ba h
  obtain ⟨h3, h4⟩ := ba h
  refine ⟨eqO_ok h1, eqO_ok h2, of_decide_eq_true h3, ?_⟩
  unfold pgA
  split at h4
  · rename_i g r e
    exact ⟨r, by rw [e]⟩
  · cases h4
def gconB (K : Frag) (C : Addr) (f : PySem.Str) (v : V) : Bool := readsIn K C (.type "type") && (eqO (specialIn K (.ref C) "__getattribute__") (some (some (.builtin "type.__getattribute__"))) && (match findCls K (.ref C) (.type "type") f with
  | some (.val u) => relB v u
  | _ => false))
theorem gconB_ok {K : Frag} {mg : PySem.Str → Option Value} {x f : PySem.Str} {C : Addr} {v : V} (hx : mg x = some (.ref C)) (h : gconB K C f v = true) : GCon K mg x f v := by
  obtain ⟨h1, h⟩ := ba h
  obtain ⟨h2, h3⟩ := ba h
  split at h3
  · rename_i u e
    exact ⟨C, .type "type", u, hx, ⟨h1, eqO_ok h2⟩, ⟨e, relB_ok h3⟩⟩
  · cases h3
/-- facts that He.Fa has no word for -/
inductive Fx where
  | prop (c f : PySem.Str)
  | con (c f : PySem.Str) (v : V)
def Fx.ok (K : Frag) : Fx → Bool
  | .prop c f => propB K (ga K c) f
  | .con c f v => gconB K (ga K c) f v
/-- the library's observation of facts and defs, and these facts beside it -/
def obsH (fx : List Fx) (fa : List Fa) (fn : List DefA) (K : Frag) : He.AlD × Bool := (obsA fa fn K, fx.all (Fx.ok K))
structure SaysH (fx : List Fx) (fa : List Fa) (fn : List DefA) (K : Frag) : Prop where
  base : SaysA fa fn K
  also : fx.all (Fx.ok K) = true
theorem SaysH.more {fx : List Fx} {fa : List Fa} {fn : List DefA} {K : Frag} (c : SaysH fx fa fn K) (i : Nat) {f : Fx} (at_ : fx[i]? = some f := by rfl) : f.ok K = true :=
  (List.all_eq_true.mp c.also) f (List.mem_of_getElem? at_)
def obsHG (n : Nat) (fx : List Fx) (fa : List Fa) (fn : List DefA) (g : Addr → Option Obj) : He.AlD × Bool := obsH fx fa fn (frG g (asA g n))
def hookH (n : Nat) (fx : List Fx) (fa : List Fa) (fn : List DefA) : PySem.W.Hook where
  α := He.AlD × Bool
  obs s := obsHG n fx fa fn s.heap.get?
  val _ := (valA fn, true)
  says _ h := ∃ K : Frag, K.In h ∧ SaysH fx fa fn K
  of _ _ both := ⟨_, frG_in, congrArg Prod.fst both, congrArg Prod.snd both⟩
  keeps _ _ _ here up := let ⟨K, inH, says⟩ := here; ⟨K, inH.keeps up, says⟩
theorem obsHG_eq {n : Nat} {fx : List Fx} {fa : List Fa} {fn : List DefA} {g : Addr → Option Obj} {s : Shared} (same : ∀ a, g a = s.heap.get? a) : obsHG n fx fa fn g = (hookH n fx fa fn).obs s := congrArg (obsHG n fx fa fn) (funext same)
end HC
/-! own operators, and makers with a star and a keyword -/
namespace HC
open PyProof.Rows PySem L2 PySem.Spec
section
variable {X : Cx} {k : Nat} {C : Addr} {sp : Sp} {m : Str}
/-- an instance's address, as its class asks it -/
theorem instAt {pins : List (Addr × Obj)} {s : Shared} {σ : L2.St} {H : Hp} {a C dx : Addr} {fs : List (Str × V)} (inv : L2.Inv X pins σ H s) (at_ : H a = some (.ins C dx fs)) : ∃ ox od, PySem.W.InstAt s.heap a ox C od := by
  obtain ⟨mA, obj, _⟩ := ins_get inv.hok at_
  obtain ⟨od, is, _⟩ := obj.look
  exact ⟨_, _, is⟩
/-- a value of ours is never NotImplemented -/
theorem cmpBack {pins : List (Addr × Obj)} {σ : L2.St} {Q : VK} {v : Value} {s : Shared} (h : EP X pins σ Q v s) : PySem.W.CmpBack (EP X pins σ Q) v s := by
  obtain ⟨x, H, inv, rel, q⟩ := h
  cases v <;> first | exact ⟨x, H, inv, rel, q⟩ | (cases x <;> simp [L2.RelV] at rel)
/-- x op y by the own method of x's class, both of the class at C -/
def rOwn2 (C : Addr) (sp : Sp) : R2 := fun x y H Q => ∃ a b dx dy fs gs, x = .ref a ∧ y = .ref b ∧ H a = some (.ins C dx fs) ∧ H b = some (.ins C dy gs) ∧ sp [.ref a, .ref b] H Q E0
theorem op_own2 {op : Operator} (M : MethR X.prog X.w X.K X.mg X.base C m k sp) (self : PySem.W.selfFirst X.K C = true) (room : Room k X.A) (nm : PySem.dunder op.info.2 = m := by first | rfl | decide) : OpR X (binaryOp op) (rOwn2 C sp) := by
  rintro pins s σ H _ _ v u Q inv rv ru ⟨a, b, dx, dy, fs, gs, rfl, rfl, ha, hb, owed⟩
  cases rv
  cases ru
  obtain ⟨ox, od, isA⟩ := instAt inv ha
  obtain ⟨oy, od', isB⟩ := instAt inv hb
  obtain ⟨mm, fr⟩ := inv.fr
  have called := run_fnR (us := [.ref a, .ref b]) (vs := [V.ref a, V.ref b]) M.fn room passN inv (.cons (by rfl) (.cons (by rfl) .nil)) owed
  exact PySem.W.binop_K fr inv.mod.kin isA isB.type self (nm ▸ M.at_.at_) M.at_.fn (wpAny_mono (wpAny_call called) (fun _ _ => cmpBack) fun _ _ z => z)
end
theorem callWith_SKW {M : Model} {A : Around} {E : Value → Shared → Prop} {s : Shared} {K : PySem.W.Frag} {env : Env} {pos p : Pos} {f : Value} {first : List Value} {Q : Value → Shared → Prop} {e : Expr} {kws : List Keyword} (kept : PySem.W.keepIn K f = true)
    (named : (backToKw pos (keywordEach kws env)).all (·.1.isSome) = true)
    (h : wpAny M A (eval e env) (fun v s1 => wpAny M A (evalAll ((backToKw pos (keywordEach kws env)).map (·.2))) (fun ks s2 => PySem.W.StarOf M A E v (fun vs s3 => K.In s3.heap ∧ wpAny M A (call f (first ++ vs) (((backToKw pos (keywordEach kws env)).filterMap (·.1)).zip ks)) Q E s3) s2) E s1) E s)
    (one : starEach [.Starred e p] env = [(true, eval e env)] := by rfl) : wpAny M A (callWith pos f first (backTo pos (starEach [.Starred e p] env)) (backToKw pos (keywordEach kws env))) Q E s := by
  rw [one]
  unfold callWith evalArgs
  apply wpAny_bind; apply wpAny_holding
  simp only [named, if_true, backTo]
  simp only [List.map_cons, List.map_nil, if_true]
  refine wpAny_bind (wpAny_bind (wpAny_mono h (fun v s1 h1 => wpAny_bind (wpAny_standAt (wpAny_pure ?_))) fun _ _ z => z))
  refine wpAny_bind (wpAny_pure (wpAny_holding (wpAny_bind (wpAny_mono h1 (fun ks s2 h2 => ?_) fun _ _ z => z))))
  refine wpAny_bind (wpAny_bind (wpAny_mono h2 (fun b s3 hb => ?_) fun _ _ z => z))
  obtain ⟨rfl, hb⟩ := hb
  rw [if_neg (fun z : false = true => nomatch z)]
  refine wpAny_holding (wpAny_mono hb (fun vs s4 done => wpAny_pure ?_) fun _ _ z => z)
  obtain ⟨kin, called⟩ := done
  apply wpAny_bind; apply wpAny_standAt
  obtain ⟨keeper, which, looks⟩ := PySem.W.keeps_K (M := M) kept _ kin
  simp only [List.any_cons, Bool.true_or]
  refine wpAny_bind (looks.here ?_)
  have ends : ∀ {m : Sem Value}, wpAny M A m Q E s4 → wpAny M A (do let r ← m; holding [r] point; pure r) Q E s4 := fun {m} hm =>
    wpAny_bind (wpAny_mono hm (fun r s5 q => wpAny_bind (wpAny_holding (wpAny_point (wpAny_pure q)))) fun _ _ z => z)
  rcases which with rfl | rfl | rfl
  · exact ends (by unfold callMarked; exact Calls.wpAny_keep called)
  · exact ends (wpAny_operating called)
  · exact ends (wpAny_operating called)
section
variable {P : Program} {w : World} {K : PySem.W.Frag}
variable {mg : Str → Option Value} {base : Heap} {k : Nat} {f : Addr} {sp : Sp}
/-- a def called by place and with the keyword kw: sp is told of the keyword's value, then of the others -/
def FnRK (P : Program) (w : World) (K : PySem.W.Frag) (mg : Str → Option Value) (base : Heap) (k : Nat) (f : Addr) (kw : Str) (sp : Sp) : Prop :=
  ∀ (A : Around) (outer : List Env) (s : Shared) (H : Hp) (us : List Value) (vs : List V) (u : Value) (z : V) (Q : VK) (E : XK), Room k A → Env0 P w K mg base A outer s H → Vals vs us → L2.RelV z u → sp (z :: vs) H Q E →
    codeAny (model P w) A (.call (.ref f) ⟨us, [(kw, u)]⟩) (CR (CXW P w) outer P w H s Q E) s
/-- def f(self, *v, kw=..), called with kw -/
theorem fnk_star1 {x qual : Str} {params : Arguments} {body : List Stmt} {scope : Scope} {kws : List (Str × V)} {fd : FuncData} {N : List Str} {p1 pv kw : Str} (F : FunD K x qual params body scope [] kws f fd) (S : FnScope N [p1, kw, pv] scope)
    (h0 : ∀ (kV doc pm : Value) (an : Option Addr) (cdv ct : Value) (a u : Value), bindArgs (PySem.W.fnOf x qual params body scope .none kV doc pm an cdv ct) ⟨[a], [(kw, u)]⟩ = (newTuple [] >>= fun t => pure [(p1, a), (kw, u), (pv, t)]))
    (h1 : ∀ (kV doc pm : Value) (an : Option Addr) (cdv ct : Value) (a u r : Value) (rs : List Value), bindArgs (PySem.W.fnOf x qual params body scope .none kV doc pm an cdv ct) ⟨a :: r :: rs, [(kw, u)]⟩ = (newTuple (r :: rs) >>= fun t => pure [(p1, a), (kw, u), (pv, t)]))
    (owes : ∀ cdv, Owes P w K mg base N qual scope body k f sp cdv) :
    FnRK P w K mg base (k + 1) f kw (fun vs H Q E => ∃ z w0 rest, vs = z :: w0 :: rest ∧ rest.length ≤ sizeLine ∧ ∀ p, H p = none → sp [w0, z, V.ref p] (upd H p (.tup rest)) Q E) := by
  rcases F.ex with ⟨c1, c2, dv, kv, dc, pm, an, cdv, ct, sl, e, at_, code, dfl, _⟩
  subst e
  have dn : dv = .none := dfl.elim (fun z => z.2) (fun z => absurd rfl z.1)
  subst dn
  rintro A outer s H us vs u z Q E room env rel relz ⟨z', w0, rest, ev, size, owed⟩
  injection ev with ez ev
  subst ez ev
  cases rel with
  | @cons _ a _ more ra rmore =>
    have free : H s.heap.objs.size = none := env.hok.fresh (Nat.le_refl _)
    have size' : more.length ≤ sizeLine := rmore.length ▸ size
    have bind : bindArgs (PySem.W.fnOf x qual params body scope .none kv dc pm an cdv ct) ⟨a :: more, [(kw, u)]⟩ = (newTuple more >>= fun t => pure [(p1, a), (kw, u), (pv, t)]) := by
      cases more with
      | nil => exact h0 kv dc pm an cdv ct a u
      | cons r rs => exact h1 kv dc pm an cdv ct a u r rs
    refine StX.run_bnd at_ code S room env (G := fun xs H2 => ∃ p, H p = none ∧ xs = [w0, z, V.ref p] ∧ H2 = upd H p (.tup rest)) ?_ ?_
    · intro A' Ex Q' go
      rw [bind]
      refine wpAny_bind (wpAny_newTuple (wpAny_pure ?_) size')
      have fresh : ObjOk P w (upd H s.heap.objs.size (.tup rest)) (s.heap.push { cls := .type "tuple", data := .seq more.toArray }) s.heap.objs.size (.tup rest) := ⟨size, more, rmore, _, Heap.get?_push_size _ rfl, rfl, _, rfl⟩
      have grown := StX.un_laid (fs := frs outer) (s := s) (o := { cls := .type "tuple", data := .seq more.toArray }) (u := .tup rest) free
      exact go _ _ [w0, z, .ref s.heap.objs.size] [a, u, .ref s.heap.objs.size] (StX.env0_laid env fresh) grown rfl (fun e s' => StX.cxUp outer s H _ _ E e s' grown (fun b o q => Heap.get?_push_of_some _ q) rfl) (.cons ra (.cons relz (.cons rfl .nil))) rfl ⟨_, free, rfl, rfl⟩
    · rintro s2 _ _ ⟨p, hp, rfl, rfl⟩ room'
      exact owes cdv A outer s2 _ _ Q E room' (owed p hp)
end
/-- the class x at C is made by an __init__ that keeps sp, the keyword kw given -/
structure MakeRK (P : Program) (w : World) (K : PySem.W.Frag) (mg : Str → Option Value) (base : Heap) (x : Str) (C : Addr) (k : Nat) (kw : Str) (sp : Sp) : Prop where
  at_ : mg x = some (.ref C)
  ex : ∃ f, Mk K C f ∧ FnRK P w K mg base k f kw sp
section
variable {X : Cx} {k : Nat} {C f : Addr} {sp : Sp} {E : XK} {x kw : Str} {e ke : Expr} {es : List Expr} {te tk : TE} {t : TA} {p pos apos kpos : Pos}
/-- what the maker owes: the new instance and its dict, then __init__ -/
def Makes (C : Addr) (sp : Sp) (E : XK) (Q : VK) (z : V) (vs : List V) (H : Hp) : Prop := ∀ x dx, H x = none → H dx = none → dx ≠ x → sp (z :: V.ref x :: vs) (upd (upd H dx (.own x)) x (.ins C dx [])) (fun v H2 => v = .non ∧ Q (.ref x) H2) E
theorem run_makeRK {pins : List (Addr × Obj)} {σ : L2.St} {H : Hp} {s : Shared} {Q : VK} {us : List Value} {vs : List V} {u : Value} {z : V} (made : Mk X.K C f) (F : FnRK X.prog X.w X.K X.mg X.base k f kw sp) (room : Room (k + 1) X.A) (leave : Passes (CXW X.prog X.w) X E) (inv : L2.Inv X pins σ H s)
    (rel : Vals vs us) (relz : L2.RelV z u) (owed : Makes C sp E Q z vs H) : wpAny (model X.prog X.w) X.A (call (.ref C) us [(kw, u)]) (EP X pins σ Q) X.xe s := by
  have inv2 := Inv.made (C := C) inv
  have here := owed _ _ (inv.hok.fresh (Nat.le_succ _)) (inv.hok.fresh (Nat.le_refl _)) (Nat.ne_of_lt (Nat.lt_succ_self _))
  have run := F _ X.stack _ _ (Value.ref (s.heap.objs.size + 1) :: us) (V.ref (s.heap.objs.size + 1) :: vs) u z _ E (room.make C us [(kw, u)]) (inv2.env0.make C us [(kw, u)]) (.cons rfl rel) relz here
  refine wpAny_call (make_map (f := f) inv.kIn made.makes made.init (beq_iff_eq.mp made.fn) (codeAny_mono run ?_))
  rintro (er | fl) s' got
  · exact leave pins σ _ _ er s' inv2 got
  · cases fl with
    | ret v =>
      obtain ⟨y, H', inv3, ry, ey, q⟩ := inv2.after got
      subst ey
      exact ⟨ry, V.ref (s.heap.objs.size + 1), H', inv3, rfl, q⟩
    | _ => exact got.elim
/-- one keyword's value, then the maker -/
def KwMk (C : Addr) (sp : Sp) (E : XK) (Q : VK) (vs : List V) (zs : List V) (H : Hp) : Prop := ∃ z, zs = [z] ∧ Makes C sp E Q z vs H
/-- C(e, .., kw=v) -/
def tMakeKW (C : Addr) (sp : Sp) (E : XK) (t tk : TA) : TE := fun σ H Q => t σ H fun vs H1 => tk σ H1 (KwMk C sp E Q vs)
theorem pe_makeKW {tk : TA} (M : MakeRK X.prog X.w X.K X.mg X.base x C k kw sp) (room : Room (k + 1) X.A) (leave : Passes (CXW X.prog X.w) X E) (args : PA X (e :: es) t) (key : PK X [⟨some kw, ke, kpos⟩] tk) (glob : Gl X x := by rfl) (nodeb : (x == ("__debug__" : Str)) = false := by decide)
    (named : (backToKw pos (keywordEach [⟨some kw, ke, kpos⟩] X.env)).all (·.1.isSome) = true := by rfl) (nm : (backToKw pos (keywordEach [⟨some kw, ke, kpos⟩] X.env)).filterMap (·.1) = [kw] := by rfl)
    (plain : ((backTo pos (starEach (e :: es) X.env)).any (·.1) || (backToKw pos (keywordEach [⟨some kw, ke, kpos⟩] X.env)).any (·.1.isNone)) = false := by rfl) (one : starEach (e :: es) X.env = (false, eval e X.env) :: starEach es X.env := by rfl) :
    PE X (.Call (.Name x p) (e :: es) [⟨some kw, ke, kpos⟩] pos) (tMakeKW C sp E t tk) := by
  constructor
  intro pn s σ H Q inv h
  obtain ⟨g, made, F⟩ := M.ex
  refine wpAny_Call_Name_kw (ld_glob inv glob M.at_ (PySem.W.callWith_KW (h₀ := X.base) inv.ok.mod.kin made.kp named (thn (args.run pos pn s σ H _ inv h) ?_) plain one) nodeb)
  rintro us s1 ⟨vs, H1, inv1, rel, q⟩
  refine thn (key.run pos pn s1 σ H1 _ inv1 q) ?_
  rintro ws s2 ⟨_, H2, inv2, relz, z, rfl, owed⟩
  obtain ⟨u, rfl, ru⟩ := vals1 relz
  refine ⟨inv2.kIn, ?_⟩
  rw [nm]
  exact run_makeRK made F room leave inv2 rel ru owed
/-- C( *e, kw=v): e's value, the keyword's, then e's items -/
def tMakeSKW (K : PySem.W.Frag) (C : Addr) (sp : Sp) (E : XK) (te : TE) (tk : TA) : TE := fun σ H Q => te σ H fun y H1 => tk σ H1 fun zs H2 => ∃ a xs, y = V.ref a ∧ (SqT K H2 a xs ∨ SqL K H2 a xs) ∧ KwMk C sp E Q xs zs H2
theorem pe_makeSKW {tk : TA} (M : MakeRK X.prog X.w X.K X.mg X.base x C k kw sp) (room : Room (k + 1) X.A) (leave : Passes (CXW X.prog X.w) X E) (arg : PE X e te) (key : PK X [⟨some kw, ke, kpos⟩] tk) (glob : Gl X x := by rfl) (nodeb : (x == ("__debug__" : Str)) = false := by decide)
    (named : (backToKw pos (keywordEach [⟨some kw, ke, kpos⟩] X.env)).all (·.1.isSome) = true := by rfl) (nm : (backToKw pos (keywordEach [⟨some kw, ke, kpos⟩] X.env)).filterMap (·.1) = [kw] := by rfl) (one : starEach [.Starred e apos] X.env = [(true, eval e X.env)] := by rfl) :
    PE X (.Call (.Name x p) [.Starred e apos] [⟨some kw, ke, kpos⟩] pos) (tMakeSKW X.K C sp E te tk) := by
  constructor
  intro pn s σ H Q inv h
  obtain ⟨g, made, F⟩ := M.ex
  refine wpAny_Call_Name_kw (ld_glob inv glob M.at_ (callWith_SKW made.kp named (thn (arg.run pn s σ H _ inv h) ?_) one) nodeb)
  rintro v s1 ⟨y, H1, inv1, rel, q⟩
  refine thn (key.run pos pn s1 σ H1 _ inv1 q) ?_
  rintro ws s2 ⟨_, H2, inv2, relz, a, xs, rfl, sq, z, rfl, owed⟩
  obtain ⟨u, rfl, ru⟩ := vals1 relz
  cases rel
  refine StX.star_any inv2 sq fun us s3 inv3 rv => ⟨inv3.kIn, ?_⟩
  rw [nm]
  exact run_makeRK made F room leave inv3 rv ru owed
end
section
variable {X : Cx} {K : PySem.W.Frag} {H : Hp} {Q : VK} {σ : L2.St} {C : Addr} {sp : Sp} {E : XK} {t tk : TA} {te : TE} {c : Expr}
theorem as_skw (K) (h : PE X c (tMakeSKW X.K C sp E te tk)) (hK : X.K = K := by rfl) : PE X c (tMakeSKW K C sp E te tk) := by subst hK; exact h
theorem n_own2 {a b dx dy : Addr} {fs gs : List (Str × V)} (h1 : H a = some (.ins C dx fs)) (h2 : H b = some (.ins C dy gs)) (h : sp [.ref a, .ref b] H Q E0) : rOwn2 C sp (.ref a) (.ref b) H Q := ⟨a, b, dx, dy, fs, gs, rfl, rfl, h1, h2, h⟩
theorem g_mkw (h : t σ H fun vs H1 => tk σ H1 (KwMk C sp E Q vs)) : tMakeKW C sp E t tk σ H Q := h
/-- the items of what stood behind the star, then the maker -/
def SkwK (K : PySem.W.Frag) (C : Addr) (sp : Sp) (E : XK) (Q : VK) (y : V) (zs : List V) (H : Hp) : Prop := ∃ a xs, y = V.ref a ∧ (SqT K H a xs ∨ SqL K H a xs) ∧ KwMk C sp E Q xs zs H
theorem g_mskw (h : te σ H fun y H1 => tk σ H1 (SkwK K C sp E Q y)) : tMakeSKW K C sp E te tk σ H Q := h
theorem n_mskw {a : Addr} {xs zs : List V} (h1 : SqT K H a xs ∨ SqL K H a xs) (h : KwMk C sp E Q xs zs H) : SkwK K C sp E Q (.ref a) zs H := ⟨a, xs, rfl, h1, h⟩
theorem n_kwmk {vs : List V} {z : V} (h : ∀ x dx H', H x = none → H dx = none → dx ≠ x → Same H H' → H' x = some (.ins C dx []) → H' dx = some (.own x) → sp (z :: .ref x :: vs) H' (fun v H2 => v = .non ∧ Q (.ref x) H2) E) : KwMk C sp E Q vs [z] H :=
  ⟨z, rfl, fun x dx hx hd ne => h x dx _ hx hd ne ((same_new hd).trans (same_new (by rw [upd_ne (Ne.symm ne)]; exact hx))) upd_same (by rw [upd_ne ne]; exact upd_same)⟩
theorem g_add_t {a b : Addr} {xs ys : List V} (h1 : SqT K H a xs) (h2 : SqT K H b ys) (hz : xs.length + ys.length ≤ sizeLine) (h : ∀ p H', Same H H' → SqT K H' p (xs ++ ys) → Q (.ref p) H') : uAdd K (.ref a) (.ref b) H Q := by
  refine .inr (.inr (.inr ⟨a, b, xs, ys, rfl, rfl, h1, h2, hz, fun e => ?_, fun _ e => ?_, fun _ _ p hp => h p _ (same_new hp) (SqT.of upd_same)⟩))
  · subst e
    exact h b H (Same.refl H) h2
  · subst e
    exact h a H (Same.refl H) (by simpa using h1)
end
theorem dpa_app {K : PySem.W.Frag} {H : Hp} : ∀ {vs us : List V} {ds es : List PyData}, DpAll K H vs ds → DpAll K H us es → DpAll K H (vs ++ us) (ds ++ es)
  | _, _, _, _, .nil, b => b
  | _, _, _, _, .cons a r, b => .cons a (dpa_app r b)
theorem dpa_drop {K : PySem.W.Frag} {H : Hp} : ∀ {vs : List V} {ds : List PyData} (n : Nat), DpAll K H vs ds → DpAll K H (vs.drop n) (ds.drop n)
  | _, _, 0, h => h
  | _, _, _ + 1, .nil => .nil
  | _, _, n + 1, .cons _ t => dpa_drop n t
end HC
/-! set(t) of a tuple of texts that differ, and its length -/
namespace HC
open PyProof.Rows PySem L2 PySem.Spec
section
variable {P : Program} {w : World} {A : Around} {E : Value → Shared → Prop} {s : Shared} {I S : Addr} {fp wr : List Addr} {Pv : Nat → Value → Prop} {St : Nat → Heap → Prop} {R : Result → Shared → Prop}
/-- a set is what its own record says -/
theorem setOf_kept {h h' : Heap} {B : Str → Bool} {n : Nat} (has : h.SetOf (PySem.strKind P w) S B n) (same : ∀ o, h.get? S = some o → h'.get? S = some o) : h'.SetOf (PySem.strKind P w) S B n := by
  obtain ⟨o, es, ep, t, at_, rest⟩ := has
  exact ⟨o, es, ep, t, same o at_, rest⟩
/-- one turn of set.update's loop -/
abbrev upTurn (S I : Addr) : Code := .builtin "set.update.loop" ⟨[.ref S, .ref I], []⟩
theorem upIn (h : wpAny (model P w) A.in1 (Builtin.«set.update.loop» ⟨[.ref S, .ref I], []⟩) (fun fin s' => match fin with
    | .done f => R (.ok f) s'
    | .again c => c.quiet = true ∧ codeAny (model P w) A c R s') (fun e s' => R (.error e) s') s) : codeAny (model P w) A (upTurn S I) R s :=
  codeAny_builtin F.entry_set_update_loop (by rw [Around.under_plainId F.plain_set_update_loop]; exact h)
/-- set.update's loop over any walk that gives the texts zs, all new -/
theorem fills {zs : List Str} (W : Walks P w A.in1 I fp wr zs.length Pv St) (off : S ∉ fp) (nz : zs.Nodup) (room : zs.length + 1 < scanBound) (val : ∀ i v, Pv i v → ∃ z t, zs[i]? = some z ∧ v = Value.str z t) (more : Nat) : ∀ (i : Nat) (s : Shared), i + more = zs.length → St i s.heap →
    s.heap.SetOf (PySem.strKind P w) S (fun z => decide (z ∈ zs.take i)) i →
    (∀ h' tk, (∀ b o, b ∉ S :: wr → s.heap.get? b = some o → h'.get? b = some o) → h'.SetOf (PySem.strKind P w) S (fun z => decide (z ∈ zs)) zs.length → R (.ok (.ret .none)) { s with heap := h', toks := tk }) →
    codeAny (model P w) A (upTurn S I) R s := by
  have offw : S ∉ wr := fun z => off (W.sub _ z)
  induction more with
  | zero =>
    intro i s sum now has done
    have last : i = zs.length := sum
    subst last
    rw [List.take_length] at has
    apply upIn
    refine wpAny_bind (W.done s _ _ now fun h' tk same => wpAny_pure (done h' tk (fun b o nb => same b o fun z => nb (List.mem_cons_of_mem _ z)) ?_))
    exact setOf_kept has fun o e => same S o offw e
  | succ more ih =>
    intro i s sum now has done
    have lt : i < zs.length := by omega
    apply upIn
    refine wpAny_bind (W.item i s _ _ lt now fun v h' tk pv now' same => ?_)
    obtain ⟨z, t, hz, rfl⟩ := val i v pv
    have fresh : z ∉ zs.take i := fun hm => by
      have ⟨j, hj⟩ := List.getElem?_of_mem hm
      rw [List.getElem?_take] at hj
      split at hj
      · rename_i ji
        have := (List.getElem?_inj (by omega) nz).mp (hj.trans hz.symm)
        omega
      · cases hj
    have has' : h'.SetOf (PySem.strKind P w) S (fun y => decide (y ∈ zs.take i)) i := setOf_kept has fun o e => same S o offw e
    apply wpAny_bind; apply wpAny_holding
    unfold setAdd
    refine wpAny_holding (wpAny_bind ((PySem.strKind P w).pyHash (k := z) ?_ ?_))
    · exact PySem.strKind_is P w z t
    refine wpAny_setAddHashed_of (knd := PySem.strKind P w) (s := { s with heap := h', toks := tk + 1 }) (PySem.strKind_is P w z t) rfl has' (by omega) fun h2 but has2 => ?_
    rw [decide_eq_false fresh] at has2
    have has3 : h2.SetOf (PySem.strKind P w) S (fun y => decide (y ∈ zs.take (i + 1))) (i + 1) := SetOf_congr has2 (fun y => by rw [List.take_add_one, hz]; simp [List.mem_append]) rfl
    refine wpAny_pure ⟨plainId_quiet F.plain_set_update_loop _, ih (i + 1) _ (by omega) (W.frame _ _ _ now' fun b hb o e => ?_) has3 fun h3 tk3 same3 fin => ?_⟩
    · rw [but.2 b fun q => off (q ▸ hb)]
      exact e
    · refine done h3 tk3 (fun b o nb e => same3 b o nb ?_) fin
      show h2.get? b = some o
      rw [but.2 b fun q => nb (q ▸ List.mem_cons_self)]
      exact same b o (fun q => nb (List.mem_cons_of_mem _ q)) e
/-- T(args) of a built-in class, its __init__ run as it stands -/
theorem callType_by {T newId initId : String} {args : List Value} {Q Q₁ : Value → Shared → Prop} (ft : TypeCalled T newId initId) (fit : checkTypeCall T ⟨args, []⟩ = pure ())
    (new : codeAny (model P w) A.in1 (.call (.builtin newId) ⟨.type T :: args, []⟩) (wants Q₁ E) s)
    (next : ∀ obj s₁, Q₁ obj s₁ → s₁.TypeIs obj T ∧ codeAny (model P w) A.in1 (.call (.builtin initId) ⟨obj :: args, []⟩) (wants (fun r s₂ => r = .none ∧ Q obj s₂) E) s₁) : wpAny (model P w) A (call (.type T) args) Q E s := by
  obtain ⟨first, others, mro⟩ := ft.mro
  have made := ft.made
  have sub := ft.sub
  have notT := ft.notType
  have can := ft.canCreate
  apply wpAny_call
  apply codeAny_of_tree
  change wpAny _ _ (callAny (.type T) _) _ _ _
  apply wpAny_pure
  refine ⟨Code.quiet_builtin _ (by decide +kernel), codeAny_builtin F.entry_type_call ?_⟩
  have same := Around.under_plain (A := A) (weight_type_call_type T args []) (units_type_call_type T args [])
  rw [same]
  repeat any_goals first | assumption | wp_step
  refine codeAny_mono new ?_
  rintro (er | fl) s1 got
  · exact got
  · cases fl with
    | ret obj =>
      obtain ⟨is, run⟩ := next obj s1 got
      have look := ft.init.lookup
      have bound := ft.init.bind obj
      repeat any_goals first | assumption | wp_step
      refine codeAny_mono run ?_
      rintro (er | fl) s2 back
      · exact back
      · cases fl with
        | ret v =>
          obtain ⟨rfl, q⟩ := back
          exact wpAny_pure (wpAny_pure q)
        | _ => exact back
    | _ => exact got
/-- set(t) -/
theorem call_setS {l : Addr} {cells : Array Value} {zs : List Str} {Q : Value → Shared → Prop} (calm : A.handled = none) (tup : s.heap.IsTuple l cells) (size : cells.size = zs.length) (texts : ∀ (i : Nat) (v : Value), cells[i]? = some v → ∃ z t, zs[i]? = some z ∧ v = Value.str z t) (nz : zs.Nodup) (room : zs.length + 1 < scanBound)
    (go : ∀ h' tk, h'.SetOf (PySem.strKind P w) s.heap.objs.size (fun z => decide (z ∈ zs)) zs.length → (∀ b o, s.heap.get? b = some o → h'.get? b = some o) → Q (.ref s.heap.objs.size) { s with heap := h', toks := tk }) :
    wpAny (model P w) A (call (Value.type "set") [Value.ref l]) Q E s := by
  refine callType_by F.called_set (F.typeCall_set_1 _) (code_set_new_1 (.ref l) (Q₁ := fun obj s1 => obj = .ref s.heap.objs.size ∧ ∃ led, s1 = { s with heap := s.heap.push { cls := .type "set", dict := none, data := .set #[] 0 (.fresh 0 0 led) } }) fun led => ⟨rfl, led, rfl⟩) ?_
  rintro _ _ ⟨rfl, led, rfl⟩
  have at_ : (s.heap.push { cls := .type "set", dict := none, data := .set #[] 0 (.fresh 0 0 led) }).get? s.heap.objs.size = some { cls := .type "set", dict := none, data := .set #[] 0 (.fresh 0 0 led) } := Heap.get?_push_size _ rfl
  have is : Shared.TypeIs { s with heap := s.heap.push { cls := .type "set", dict := none, data := .set #[] 0 (.fresh 0 0 led) } } (.ref s.heap.objs.size) "set" := ⟨_, at_, rfl⟩
  have subTS : isSubtype (.type "tuple") (.type "set") = pure false := by rw [isSubtype_type]; kernel_rfl
  have subTF : isSubtype (.type "tuple") (.type "frozenset") = pure false := by rw [isSubtype_type]; kernel_rfl
  have tup' : (s.heap.push { cls := .type "set", dict := none, data := .set #[] 0 (.fresh 0 0 led) }).IsTuple l cells := tup.at fun o e => Heap.get?_push_of_some _ e
  obtain ⟨⟨c, dct, dt, sl⟩, getT, clsT, n, datT⟩ := tup'
  simp only at clsT datT
  subst clsT datT
  refine ⟨is, codeAny_call_builtin F.called_set.init.plain F.entry_set_init (check_set_init_1 is ?_)⟩
  have isT : Heap.IsTuple (s.heap.push { cls := .type "set", dict := none, data := .set #[] 0 (.fresh 0 0 led) }) l cells := ⟨_, getT, rfl, n, rfl⟩
  unfold Builtin.«set.__init__»
  wp_walk using PySem.AutoSeq1.wpAny_loadPart' at_, PySem.AutoSeq1.wpAny_loadPart' getT, wpAny_pyIter_tuple isT
  have sz : (s.heap.push { cls := .type "set", dict := none, data := .set #[] 0 (.fresh 0 0 led) }).objs.size = s.heap.objs.size + 1 := Heap.size_push ..
  have low : l < s.heap.objs.size := by
    obtain ⟨o, z, _⟩ := tup
    exact Heap.lt_size z
  have W := Walks.tuple (prog := P) (w := w) (A := A.in1.in1.in1) calm (s.heap.push { cls := .type "set", dict := none, data := .set #[] 0 (.fresh 0 0 led) }).objs.size l (by rw [sz]; exact Nat.ne_of_lt (Nat.lt_succ_of_lt low)) cells
  rw [size] at W
  refine fills (S := s.heap.objs.size) W ?_ nz room (fun i v h => texts i v h) zs.length 0 _ (Nat.zero_add _) ⟨⟨_, Heap.get?_push_size _ rfl, rfl, rfl⟩, isT.at fun o e => Heap.get?_push_of_some _ e⟩ ?_ ?_
  · simp only [List.mem_cons, List.not_mem_nil, or_false, not_or, sz]
    exact ⟨Nat.ne_of_lt (Nat.lt_succ_self _), Nat.ne_of_gt low⟩
  · exact SetOf_congr ((setObjOf_fresh led).setOf (Heap.get?_push_of_some _ at_) (by decide)) (fun y => by simp) rfl
  · intro h' tk same fin
    refine wpAny_pure (wpAny_pure ⟨rfl, go h' tk fin fun b o e => same b o ?_ (Heap.get?_push_of_some _ (Heap.get?_push_of_some _ e))⟩)
    have lt := Heap.lt_size e
    simp only [List.mem_cons, List.not_mem_nil, or_false, not_or, sz]
    exact ⟨Nat.ne_of_lt lt, Nat.ne_of_lt (Nat.lt_succ_of_lt lt)⟩
end
/-- len(set(e)), e a tuple of texts that differ -/
def tLenSet (K : PySem.W.Frag) (te : TE) : TE := fun σ H Q => te σ H fun y H1 => ∃ (a : Addr) (zs : List Str), y = V.ref a ∧ SqT K H1 a (zs.map V.str) ∧ zs.Nodup ∧ zs.length ≤ 1000 ∧ Q (.int zs.length) H1
theorem pe_lenSet {X : Cx} {e : Expr} {te : TE} {p p2 q pos : Pos} (calm : X.calm = true) (gl : Gl X "len") (ml : X.mg "len" = none) (gs : Gl X "set") (ms : X.mg "set" = none) (arg : PE X e te) (one : starEach [e] X.env = (false, eval e X.env) :: starEach [] X.env := by rfl) :
    PE X (.Call (.Name "len" p) [.Call (.Name "set" p2) [e] [] q] [] pos) (tLenSet X.K te) := by
  constructor
  intro pn s σ H Q inv h
  refine Call_ (ld_blt inv gl ml PySem.boot_len (PyProof.Rows.callWith_builtin1 (PyProof.Rows.args_cons ?_ rfl) rfl rfl))
  refine Call_ (ld_blt inv gs ms PyProof.Rows.boot_set ?_)
  refine PyProof.Rows.callWith_type1 (PyProof.Rows.args_cons (thn (arg.run pn s σ H _ inv h) ?_) one) one rfl
  rintro v s1 ⟨y, H1, inv1, rel, a, zs, rfl, sq, nz, few, q⟩
  cases rel
  apply PyProof.Rows.args_nil
  obtain ⟨cells, vals, tup, _⟩ := inv1.tuple sq
  have len : cells.length = zs.length := by
    have := vals.length
    simpa using this.symm
  refine call_setS (inv1.ok.hd calm) tup (by simpa using len) (fun i v at_ => ?_) nz (by unfold scanBound; omega) fun h' tk has same => ?_
  · rw [List.getElem?_toArray] at at_
    have lt : i < zs.length := by
      have := (List.getElem?_eq_some_iff.mp at_).1
      omega
    obtain ⟨u, hu, ru⟩ := vals.get (i := i) (x := V.str zs[i]) (by simp [lt])
    rw [hu] at at_
    cases at_
    obtain ⟨t, rfl⟩ := ru
    exact ⟨zs[i], t, List.getElem?_eq_getElem lt, rfl⟩
  · apply PyProof.Rows.args_nil
    obtain ⟨o, es, ep, tb, at_, exact_, dat, _, _, _, fits, num⟩ := has
    have inv2 : L2.Inv X pn σ H1 { s1 with heap := h', toks := tk } := inv1.kept same
    refine call_len_set at_ exact_ dat fits (by rw [num]; omega) ⟨V.int zs.length, H1, inv2.tok _, ⟨_, by rw [num]⟩, q⟩
theorem as_lenSet {X : Cx} (K) {c : Expr} {te : TE} (h : PE X c (tLenSet X.K te)) (hK : X.K = K := by rfl) : PE X c (tLenSet K te) := by subst hK; exact h
/-- what len(set( .. )) asks of the tuple -/
def LsK (K : PySem.W.Frag) (Q : VK) : VK := fun y H1 => ∃ (a : Addr) (zs : List Str), y = V.ref a ∧ SqT K H1 a (zs.map V.str) ∧ zs.Nodup ∧ zs.length ≤ 1000 ∧ Q (.int zs.length) H1
theorem g_lenSet {K : PySem.W.Frag} {te : TE} {σ : L2.St} {H : Hp} {Q : VK} (h : te σ H (LsK K Q)) : tLenSet K te σ H Q := h
theorem n_lenSet {K : PySem.W.Frag} {H : Hp} {Q : VK} {a : Addr} {zs : List Str} (h1 : SqT K H a (zs.map V.str)) (h2 : zs.Nodup) (h3 : zs.length ≤ 1000) (h : Q (.int zs.length) H) : LsK K Q (.ref a) H := ⟨a, zs, rfl, h1, h2, h3, h⟩
end HC
/-! facts carried along heaps -/
namespace HC
open PyProof.Rows PySem L2 PySem.Spec
theorem same_at {H H' : Hp} {a : Addr} {o : HO} (e : Same H H') (h : H a = some o) : H' a = some o := e _ _ h
theorem keep_at {H H' : Hp} {d a : Addr} {o : HO} (e : Keep d H H') (n : a ≠ d) (h : H a = some o) : H' a = some o := e _ _ n h
/-- what stood before d was made stands when d changes -/
theorem same_keep {H0 H H' : Hp} {d : Addr} (s : Same H0 H) (n : H0 d = none) (e : Keep d H H') : Same H0 H' := fun b o h => e b o (ne_of_none h n) (s b o h)
theorem same_mid {H0 H1 H : Hp} {d : Addr} (s : Same H0 H1) (n : H1 d = none) : H0 d = none := s.free n
theorem sqt_keep {K : PySem.W.Frag} {H H' : Hp} {d a : Addr} {xs ys : List V} (e : Keep d H H') (hd : H d = some (.lst ys)) (h : SqT K H a xs) : SqT K H' a xs := keep_t e (notT_l hd) h
/-- a chain link of the list at l: items are only added -/
theorem app_tail {α : Type} (l : List α) (i : Nat) {x : α} (h : l[i]? = some x) : l.take (i + 1) = l.take i ++ [x] := by rw [List.take_add_one, h]; rfl
/-! a comprehension with a test: what passes, in order -/
section
variable {α : Type} {K : PySem.W.Frag} {H : Hp} {Q : VK} {σ : L2.St} {g : TG} {tt : TT} {te : TE} {vs : List Nat}
def PFilt (xs : List α) (p : α → Bool) (f : α → V) (H1 : Hp) : Nat → List V → Hp → Prop := fun i acc H' => Same H1 H' ∧ acc = ((xs.take i).filter p).map f
theorem n_filtT {xs : List α} {p : α → Bool} {f : α → V} {H1 : Hp} {C : Addr} {i : Nat} {x : α} {y : V} (hx : xs[i]? = some x) (hp : p x = true) (e : y = f x) (hC : H1 C = none) (h1 : Same H1 H) (h2 : H C = some (.lst (((xs.take i).filter p).map f))) (hn : i < 1000000 := by omega) : LcK C (NxP (PFilt xs p f H1) C (i + 1)) y H := by
  have hl : (((xs.take i).filter p).map f).length ≤ i := by
    rw [List.length_map]
    exact Nat.le_trans (List.length_filter_le _ _) (by rw [List.length_take]; exact Nat.min_le_left _ _)
  refine n_lcK h2 (by omega) (by omega) fun H' k hc => ⟨fun b o e => k _ _ (ne_of_none e hC) (h1 _ _ e), ?_⟩
  rw [app_tail _ _ hx, List.filter_append, List.map_append, e]
  simp [hp]
theorem n_filtF {xs : List α} {p : α → Bool} {f : α → V} {H1 : Hp} {C : Addr} {i : Nat} {x : α} (hx : xs[i]? = some x) (hp : p x = false) (h1 : Same H1 H) (h2 : H C = some (.lst (((xs.take i).filter p).map f))) : NxP (PFilt xs p f H1) C (i + 1) H := by
  have hl : (((xs.take i).filter p).map f).length ≤ i := by
    rw [List.length_map]
    exact Nat.le_trans (List.length_filter_le _ _) (by rw [List.length_take]; exact Nat.min_le_left _ _)
  refine n_lcN h2 (by omega) ⟨h1, ?_⟩
  rw [app_tail _ _ hx, List.filter_append]
  simp [hp]
theorem lc_filt {J : It} {G : Hp → Prop} {Y : Nat → Hp → V → Hp → Prop} (xs : List α) (w : Walk J xs.length G Y) (p : α → Bool) (f : α → V) {H1 : Hp} (hG : ∀ H, Same H1 H → G H)
    (hs : ∀ C i x v H H', H1 C = none → xs[i]? = some x → i < xs.length → Same H1 H → H C = some (.lst (((xs.take i).filter p).map f)) → Y i H v H' → g v (wipe σ vs) H' fun σ2 H2 => wipe σ2 vs = wipe σ vs ∧ tt σ2 H2 (LcIf C te σ2 (NxP (PFilt xs p f H1) C (i + 1))))
    (hd : ∀ C H, H1 C = none → Same H1 H → H C = some (.lst ((xs.filter p).map f)) → Q (.ref C) H) : LcJ J g tt te vs σ Q H1 := by
  refine lc_run w (PFilt xs p f H1) (fun C H' nC s h => ⟨s, by simp⟩) (fun i acc H C nC hC ⟨s, _⟩ => hG H s) ?_ ?_
  · rintro C i acc v H H' nC hi hl hC ⟨s, rfl⟩ y
    exact hs C i xs[i] v H H' nC (List.getElem?_eq_getElem hi) hi s hC y
  · rintro C acc H nC hC ⟨s, rfl⟩
    rw [List.take_length] at hC
    exact hd C H nC s hC
end
/-! keeping lists of data that hold no list -/
theorem dpa_keep {K : PySem.W.Frag} {H H' : Hp} {d : Addr} {ys vs : List V} {xs : List PyData} (e : Keep d H H') (hd : H d = some (.lst ys)) (n : noLs xs = true) (h : DpAll K H vs xs) : DpAll K H' vs xs := dp_keepAll e (notT_l hd) xs vs n h
theorem noLs_map {α : Type} {f : α → PyData} (l : List α) (h : ∀ x, noL (f x) = true) : noLs (l.map f) = true := noLs_of fun d hd => by
  obtain ⟨x, _, rfl⟩ := List.mem_map.mp hd
  exact h x
/-! isinstance(e, (tuple, list)) -/
section
variable {X : Cx} {e : Expr} {te : TE} {p pos p1 p2 tpos : Pos} {kk : Nat} {K : PySem.W.Frag} {H : Hp} {Q : VK} {σ : L2.St}
def tIsTT (K : PySem.W.Frag) (te : TE) : TE := tCB (rIsiT K) (tCons te (tCons (tTup (tCons (tC (.ty "tuple")) (tCons (tC (.ty "list")) tNil))) tNil))
theorem pe_isiTT (K' : PySem.W.Frag) (m : Bts X.mg) (he : PE X e te) (hg : Gl X "isinstance" := by rfl) (hg1 : Gl X "tuple" := by rfl) (hg2 : Gl X "list" := by rfl)
    (hs : starEach [e, .Tuple [.Name "tuple" p1, .Name "list" p2] kk tpos] X.env = (false, eval e X.env) :: starEach [.Tuple [.Name "tuple" p1, .Name "list" p2] kk tpos] X.env := by rfl) (hK : X.K = K' := by rfl) :
    PE X (.Call (.Name "isinstance" p) [e, .Tuple [.Name "tuple" p1, .Name "list" p2] kk tpos] [] pos) (tIsTT K' te) := by
  subst hK
  exact pe_callB (p := p) (pos := pos) call_isiT hg m.isinstance bt_isinstance (pa_cons he (pa_cons (pe_tup (pa_cons (pe_bltn (v := .ty "tuple") hg1 m.tuple bt_tuple rfl (by decide) (by decide)) (pa_cons (pe_bltn (v := .ty "list") hg2 m.list bt_list rfl (by decide) (by decide)) pa_nil))) pa_nil) hs) (by decide) (by decide) hs rfl
def IsTTK (K : PySem.W.Frag) (Q : VK) : VK := fun x H1 => NewT [.ty "tuple", .ty "list"] H1 fun y H2 => rIsiT K [x, y] H2 Q
theorem g_isTT (h : te σ H (IsTTK K Q)) : tIsTT K te σ H Q := h
theorem n_isTT {x : V} {t : String} {b c : Bool} (h0 : ∀ H', Same H H' → TyX K H' x (.type t)) (h1 : kitB t "tuple" = some b) (h2 : kitB t "list" = some c) (h : ∀ H', Same H H' → Q (.bl (b || c)) H') : IsTTK K Q x H := by
  refine ⟨by simp [sizeLine_eq], fun T hT => ?_⟩
  have s := same_new (o := .tup [.ty "tuple", .ty "list"]) hT
  refine ⟨x, T, _, .type t, [.type "tuple", .type "list"], b || c, rfl, upd_same, .cons (.ty _) (.cons (.ty _) .nil), h0 _ s, ?_, h _ s⟩
  refine kitAny_cons (kit_ty h1) (fun e => ?_) (fun e => by rw [e]; rfl)
  subst e
  refine kitAny_cons (kit_ty h2) (fun e => ?_) (fun e => by rw [e]; rfl)
  subst e
  rfl
end
/-- a list or a tuple, by its type's name -/
def SqQ (K : PySem.W.Frag) (H : Hp) (T : String) (a : Addr) (xs : List V) : Prop := (T = "list" ∧ SqL K H a xs) ∨ (T = "tuple" ∧ SqT K H a xs)
theorem SqQ.same {K : PySem.W.Frag} {H H' : Hp} {T : String} {a : Addr} {xs : List V} (e : Same H H') (h : SqQ K H T a xs) : SqQ K H' T a xs := h.imp (fun z => ⟨z.1, same_l e z.2⟩) (fun z => ⟨z.1, same_t e z.2⟩)
theorem SqQ.or {K : PySem.W.Frag} {H : Hp} {T : String} {a : Addr} {xs : List V} (h : SqQ K H T a xs) : SqL K H a xs ∨ SqT K H a xs := h.imp (·.2) (·.2)
end HC
/-! list(text); dicts: made of pairs, read, stored -/
namespace HC
open PyProof.Rows PySem L2 PySem.Spec
/-- the signs of a text, one by one -/
def signs (z : Str) : List Str := z.cps.toList.map fun c => ⟨#[c]⟩
def rListS : List V → Hp → VK → Prop := fun xs H Q => ∃ z : Str, xs = [.str z] ∧ z.cps.size ≤ sizeLine ∧ ∀ l, H l = none → Q (.ref l) (upd H l (.lst ((signs z).map V.str)))
theorem vals_signs {z : Str} {acc : Array Value} (h : ItemsOf (SignAt z) acc z.cps.size) : Vals ((signs z).map V.str) acc.toList := by
  have key : ∀ (cs : List Nat) (us : List Value), cs.length = us.length → (∀ (j : Nat) v, us[j]? = some v → ∃ c u, cs[j]? = some c ∧ v = Value.str ⟨#[c]⟩ u) → Vals (cs.map fun c => V.str ⟨#[c]⟩) us := by
    intro cs
    induction cs with
    | nil => intro us hl _; cases us with | nil => exact .nil | cons _ _ => simp at hl
    | cons c cs ih =>
      intro us hl hj
      cases us with
      | nil => simp at hl
      | cons u us =>
        obtain ⟨c', t, h1, h2⟩ := hj 0 u rfl
        cases h1
        refine .cons ⟨t, h2⟩ (ih us (by simpa using hl) fun j v hv => ?_)
        exact hj (j + 1) v (by simpa using hv)
  have e : (signs z).map V.str = z.cps.toList.map fun c => V.str ⟨#[c]⟩ := by simp [signs]
  rw [e]
  refine key _ _ (by simp [h.1]) fun j v hv => ?_
  obtain ⟨c, u, h1, h2⟩ := h.2 j v (by simpa using hv)
  exact ⟨c, u, by simpa using h1, h2⟩
section
variable {X : Cx} {e o i value : Expr} {te td ty tv : TE} {p pos pos' : Pos} {K : PySem.W.Frag} {H : Hp} {Q : VK} {σ : L2.St} {D : Ends}
theorem call_list_txt (calm : X.calm = true) : CallR X (.type "list") rListS := by
  rintro pins s σ H xs us Q inv rel ⟨z, rfl, hz, q⟩
  obtain ⟨_, rfl, t, rfl⟩ := vals1 rel
  refine call_list_str (inv.ok.hd calm) z t (fun h' tk acc c kept at_ items => ?_) hz
  have rv := vals_signs items
  have len : ((signs z).map V.str).length ≤ sizeLine := by simpa [signs] using hz
  exact ⟨.ref s.heap.objs.size, _, inv.laid (t' := tk) kept (Nat.le_refl _) (show ObjOk X.prog X.w _ h' _ (.lst _) from ⟨len, acc.toList, c, rv, at_⟩), rfl, q _ (inv.hok.fresh (Nat.le_refl _))⟩
theorem pe_listTxt (m : Bts X.mg) (he : PE X e te) (calm : X.calm = true := by rfl) (hg : Gl X "list" := by rfl) (hs : starEach (e :: []) X.env = (false, eval e X.env) :: starEach [] X.env := by rfl) : PE X (.Call (.Name "list" p) [e] [] pos) (tCB rListS (tCons te tNil)) :=
  pe_callTy (call_list_txt calm) hg m.list bt_list (pa_cons he pa_nil hs) (by decide) (by decide) hs rfl
theorem g_listS {z : Str} (hz : z.cps.size ≤ sizeLine) (h : ∀ l H', H l = none → Same H H' → H' l = some (.lst ((signs z).map V.str)) → Q (.ref l) H') : rListS [.str z] H Q := ⟨z, rfl, hz, fun l hl => h l _ hl (same_new hl) upd_same⟩
/-! dicts -/
def rDictP (K : PySem.W.Frag) : List V → Hp → VK → Prop := fun xs H Q => ∃ (a : Addr) (ps : List Addr) (kvs : List (Key × V)), xs = [.ref a] ∧ SqL K H a (ps.map V.ref) ∧ Paired (fun p kv => SqT K H p [kV kv.1, kv.2]) ps kvs ∧ ∀ p, H p = none → Q (.ref p) (upd H p (.dK (mergeK [] kvs)))
theorem pe_dictP (K' : PySem.W.Frag) (m : Bts X.mg) (he : PE X e te) (calm : X.calm = true := by rfl) (hg : Gl X "dict" := by rfl) (hs : starEach (e :: []) X.env = (false, eval e X.env) :: starEach [] X.env := by rfl) (hK : X.K = K' := by rfl) : PE X (.Call (.Name "dict" p) [e] [] pos) (tCB (rDictP K') (tCons te tNil)) := by
  subst hK
  exact pe_callTy (call_dictP calm) hg m.dict bt_dict (pa_cons he pa_nil hs) (by decide) (by decide) hs rfl
theorem g_dictP {a : Addr} {ps : List Addr} {kvs : List (Key × V)} (h1 : SqL K H a (ps.map V.ref)) (h2 : Paired (fun p kv => SqT K H p [kV kv.1, kv.2]) ps kvs) (h : ∀ l H', H l = none → Same H H' → H' l = some (.dK (mergeK [] kvs)) → Q (.ref l) H') : rDictP K [.ref a] H Q := ⟨a, ps, kvs, rfl, h1, h2, fun l hl => h l _ hl (same_new hl) upd_same⟩
/-- d[y]: what is asked of the dict -/
def DgK (y : V) (Q : VK) (x : V) : Hp → Prop := fun H => ∃ a v, x = .ref a ∧ DGet H a y (some v) ∧ Q v H
theorem g_dget (h : td σ H fun x H1 => ty σ H1 fun y H2 => DgK y Q x H2) : tDGet td ty σ H Q := h
theorem n_dget {a : Addr} {kvs : List (Key × V)} {k : Key} {v : V} (h1 : H a = some (.dK kvs)) (h2 : valV kvs k = some v) (h : Q v H) : DgK (kV k) Q (.ref a) H := ⟨a, v, rfl, h2 ▸ DGet.k h1, h⟩
theorem n_dgetS {a : Addr} {kvs : List (Key × V)} {k : Str} {v : V} (h1 : H a = some (.dK kvs)) (h2 : valV kvs (.inr k) = some v) (h : Q v H) : DgK (.str k) Q (.ref a) H := n_dget (k := .inr k) h1 h2 h
def DpK (y v : V) (D : Ends) (σ : L2.St) (x : V) : Hp → Prop := fun H => ∃ a H4, x = .ref a ∧ DPut H a y v H4 ∧ D.nx σ H4
theorem g_dput (h : tv σ H fun v H1 => td σ H1 fun x H2 => ty σ H2 fun y H3 => DpK y v D σ x H3) : sDPut td ty tv D σ H := h
theorem n_dput {a : Addr} {kvs : List (Key × V)} {k : Key} {v : V} (h1 : H a = some (.dK kvs)) (hz : kvs.length < sizeLine) (h : ∀ H', Keep a H H' → H' a = some (.dK (putK kvs k v)) → D.nx σ H') : DpK (kV k) v D σ (.ref a) H := ⟨a, _, rfl, DPut.k h1 hz, h _ keep_upd upd_same⟩
theorem n_dputS {a : Addr} {kvs : List (Key × V)} {k : Str} {v : V} (h1 : H a = some (.dK kvs)) (hz : kvs.length < sizeLine) (h : ∀ H', Keep a H H' → H' a = some (.dK (putK kvs (.inr k) v)) → D.nx σ H') : DpK (.str k) v D σ (.ref a) H := n_dput (k := .inr k) h1 hz h
theorem units2 {k : Nat} {A : Around} (hr : Room k A) : A.units + 1 < cLine := by have := units65 hr; omega
end
theorem notT_d {H : Hp} {d : Addr} {kvs : List (Key × V)} (h : H d = some (.dK kvs)) : NotT (H d) := by rw [h]; trivial
end HC
/-! the head's facts, further ones as tests of the written part -/
namespace HC
open PySem PySem.W PySem.Calls PyProof.Rows He He5 L2
abbrev Tst := Frag → Bool
/-- the library's observation of facts and defs, and these tests beside it -/
def obsJ (fx : List Tst) (fa : List Fa) (fn : List DefA) (K : Frag) : He.AlD × Bool := (obsA fa fn K, fx.all fun t => t K)
structure SaysJ (fx : List Tst) (fa : List Fa) (fn : List DefA) (K : Frag) : Prop where
  base : SaysA fa fn K
  also : (fx.all fun t => t K) = true
theorem SaysJ.more {fx : List Tst} {fa : List Fa} {fn : List DefA} {K : Frag} (c : SaysJ fx fa fn K) (i : Nat) {f : Tst} (at_ : fx[i]? = some f := by rfl) : f K = true :=
  (List.all_eq_true.mp c.also) f (List.mem_of_getElem? at_)
def obsJG (n : Nat) (fx : List Tst) (fa : List Fa) (fn : List DefA) (g : Addr → Option Obj) : He.AlD × Bool := obsJ fx fa fn (frG g (asA g n))
def hookJ (n : Nat) (fx : List Tst) (fa : List Fa) (fn : List DefA) : PySem.W.Hook where
  α := He.AlD × Bool
  obs s := obsJG n fx fa fn s.heap.get?
  val _ := (valA fn, true)
  says _ h := ∃ K : Frag, K.In h ∧ SaysJ fx fa fn K
  of _ _ both := ⟨_, frG_in, congrArg Prod.fst both, congrArg Prod.snd both⟩
  keeps _ _ _ here up := let ⟨K, inH, says⟩ := here; ⟨K, inH.keeps up, says⟩
theorem obsJG_eq {n : Nat} {fx : List Tst} {fa : List Fa} {fn : List DefA} {g : Addr → Option Obj} {s : Shared} (same : ∀ a, g a = s.heap.get? a) : obsJG n fx fa fn g = (hookJ n fx fa fn).obs s := congrArg (obsJG n fx fa fn) (funext same)
end HC
/-! generators: if and for in their bodies; defs and methods that are generators -/
namespace HC
open PyProof.Rows PySem L2 PySem.Spec GenW
section
variable {X : Cx} {test tg iter : Expr} {body orelse : List Stmt} {pos : Pos}
/-- if in a generator -/
def tGIf (c : TT) (t u : TGn) : TGn := fun D ys σ H => c σ H fun b H1 => if b = true then t D ys σ H1 else u D ys σ H1
theorem gs_if {tc : TT} {t u : TGn} (hc : PT X test tc) (yes : GSs X body t) (no : GSs X orelse u) : GS X (.If test body orelse pos) (tGIf tc t u) := by
  constructor
  intro A S ip R n ys s₀ c fs K J gd lv s σ H D g size k now owed
  obtain ⟨acc, cc, rel, inv⟩ := now
  rw [arm_exec_If]
  refine seg_at (seg_bind_wrap (wpAny_pure (seg_bind_wrap ?_)))
  rw [g.over]
  refine wpAny_mono (hc.run _ s σ H _ inv owed) ?_ fun e s' raised => k.exc n s₀ e s' raised
  rintro b s' ⟨H1, inv1, q⟩
  cases b
  · exact no.run A S ip R n ys s₀ c fs K J gd lv s' σ H1 D g size k ⟨acc, cc, rel, inv1⟩ (by simpa using q)
  · exact yes.run A S ip R n ys s₀ c fs K J gd lv s' σ H1 D g size k ⟨acc, cc, rel, inv1⟩ (by simpa using q)
/-- for in a generator: ys is what is out so far -/
def tGFor (wi : TI) (g : TG) (tb : TGn) : TGn := fun D ys σ H => wi σ H fun J H1 => ∃ W : Nat → Nat → List V → L2.St → Hp → Prop, (∃ m, W 0 m ys σ H1) ∧ ∀ i m ys σ H, W i m ys σ H →
  (J.stop i H ∧ D.nx ys σ H) ∨ (J.go i H ∧ ∃ N : List V → L2.St → Hp → Prop, (∀ ys' σ' H', N ys' σ' H' → ∃ m', m' < m ∧ W (i + 1) m' ys' σ' H') ∧ ∀ x H', J.yld i H x H' → g x σ H' fun σ2 H2 => tb { D with nx := N, ct := N, bk := D.nx } ys σ2 H2)
/-- what the code of a loop does with an exception: it is noted, then it leaves -/
abbrev noted (env : Env) (e : Value) : Sem PySem.Fin := (do noteFrame e env; theTreesLotGoes e : Sem Unit).wrap (fun _ => .raise e) .raise id id
theorem noted_eq (env : Env) (e : Value) : ((do noteFrame e env; theTreesLotGoes e : Sem Unit).bind fun _ => (.raise e : Sem PySem.Fin)) = noted env e := Sem.bind_eq_wrap _ _
/-- a turn of the loop's code -/
theorem seg_forTurn {prog : Program} {w : World} {A : Around} {R : GenEnd} {Y : Protocol} {n : Nat} {s₀ s : Shared} {fs : List Frame} {env : Env} {it : Value}
    (h : wpAny (model prog w) (A.over (.forLoop tg it body [] env) fs) (pyNext it) (fun r s1 => match r with
        | none => Seg (model prog w) A R Y n s₀ (.forLoop tg it body [] env) (.pure (.again (.block [] env))) fs s1
        | some v => wpAny (model prog w) (A.over (.forLoop tg it body [] env) fs) (letOwnedTupleGo tg it v) (fun _ s2 => wpAny (model prog w) (A.over (.forLoop tg it body [] env) fs) (assign tg env v) (fun _ s3 =>
            Seg (model prog w) A R Y n s₀ (.forLoop tg it body [] env) ((execs body env).wrap (fun f => match f with
              | .next | .cont => .pure (.again (.forLoop tg it body [] env))
              | .brk => .pure (.done .next)
              | .ret v => .pure (.done (.ret v))) (noted env) id id) fs s3)
          (fun e s' => Seg (model prog w) A R Y n s₀ (.forLoop tg it body [] env) (noted env e) fs s') s2)
          (fun e s' => Seg (model prog w) A R Y n s₀ (.forLoop tg it body [] env) (noted env e) fs s') s1)
      (fun e s' => Seg (model prog w) A R Y n s₀ (.forLoop tg it body [] env) (noted env e) fs s') s) :
    Seg (model prog w) A R Y n s₀ (.forLoop tg it body [] env) ((model prog w).den (.forLoop tg it body [] env)) fs s := by
  show Seg _ A R Y n s₀ _ ((forTurn tg it body [] env).onRaise (fun x => do noteFrame x env; theTreesLotGoes x)) fs s
  unfold forTurn
  rw [Sem.onRaise_eq_wrap]
  simp only [noted_eq]
  refine seg_at (seg_bind_wrap (wpAny_pure (seg_bind_wrap (wpAny_onRaise (wpAny_mono h ?_ fun e s' z => wpAny_standAt z)))))
  rintro (_ | v) s1 h1
  · exact h1
  · refine seg_bind_wrap (wpAny_mono h1 ?_ fun e s' z => z)
    intro _ s2 h2
    refine seg_bind_wrap (wpAny_mono h2 ?_ fun e s' z => z)
    intro _ s3 h3
    rw [Sem.bind_eq_wrap', Sem.wrap_wrap]
    refine (congrArg (fun t => Seg (model prog w) A R Y n s₀ (.forLoop tg it body [] env) t fs s3) (Sem.wrap_congr (execs body env) _ _ (fun f => ?_) (fun e => ?_))).mpr h3
    · cases f <;> rfl
    · rfl
theorem gs_for {wi : TI} {g : TG} {tb : TGn} (hp : PassesOwn (model X.prog X.w) X.A X.env X.xe) (calm : X.calm = true) (hi : PI X tg iter wi) (hg : PG X tg g) (hb : GSs X body tb) (hs : ∀ x, foldedSetIterable iter X.env x = pure x := by intro _; rfl) : GS X (.For tg iter body [] pos) (tGFor wi g tb) := by
  constructor
  intro A S ip R n ys s₀ c fs K J gd lv s σ H D gc size k now owed
  obtain ⟨acc, cc, rel, inv⟩ := now
  rw [arm_exec_For]
  refine seg_at (seg_bind_wrap (wpAny_pure (seg_bind_wrap ?_)))
  rw [gc.over]
  refine wpAny_mono (hi.run _ s σ H _ inv owed) ?_ fun e s' raised => k.exc n s₀ e s' raised
  intro v s1 h1
  rw [hs v]
  refine seg_at (seg_bind_wrap (wpAny_pure (seg_bind_wrap ?_)))
  rw [gc.over]
  refine wpAny_holding (wpAny_mono h1 ?_ fun e s' raised => k.exc n s₀ e s' raised)
  rintro itv s2 ⟨it, fp, tn, J', H2, rfl, inv2, T, st, ok, W, ⟨m0, w0⟩, turn⟩
  have offS : ∀ b ∈ fp, S ≠ b := fun b hb => (ok b hb).2.2.2.2.2 (S, lstObj acc cc) (List.mem_append_right _ List.mem_cons_self)
  have still : ∀ {H' : Hp} {acc' : Array Value} {cc' : Nat}, (∀ b ∈ fp, H' b = none) → ∀ b ∈ fp, FpOk X ((S, lstObj acc' cc') :: ip) H' b := by
    intro H' acc' cc' free b hb
    obtain ⟨_, o1, o2, o3, o4, o5⟩ := ok b hb
    refine ⟨free b hb, o1, o2, o3, o4, fun p hm => ?_⟩
    rcases List.mem_append.mp hm with z | z
    · exact o5 p (List.mem_append_left _ z)
    · rcases List.mem_cons.mp z with rfl | z
      · exact offS b hb
      · exact o5 p (List.mem_append_right _ (List.mem_cons_of_mem _ z))
  refine seg_call fun p => ?_
  have here := fun (kk : Result → Sem PySem.Fin) => gc_loop (k := kk) (c' := .forLoop tg (.ref it) body [] X.env) (l := lv []) (kp := []) (p := p) gc rfl rfl
  have out : ∀ (n : Nat) (s₀ : Shared) (e : Value) (s' : Shared), X.xe e s' → Seg (model X.prog X.w) A R (GY X S) n s₀ (.forLoop tg (.ref it) body [] X.env) (noted X.env e)
      (.ret (fun r => ((match r with
        | .ok f => (.pure f : Sem Flow)
        | .error e => .raise e).onRaise (cameBack X.env)).wrap K J gd lv) none (gd false) (lv []) c p [] :: fs) s' := by
    intro n s₀ e s' raised
    apply seg_wrap
    rw [(here _).over]
    apply wpAny_bind
    refine wpAny_mono (hp e s' raised) (fun _ s3 back => wpAny_theTreesLotGoes ?_) fun e2 s3 back => ?_
    · exact seg_leaf (.error e) (seg_cameBack gc k back)
    · exact seg_leaf (.error e2) (seg_cameBack gc k back)
  have loop : ∀ (m n i : Nat) (ys : List V) (s₀ s : Shared) (σ : L2.St) (H : Hp) (acc : Array Value) (cc : Nat), n + ys.length = sizeLine → W i m ys σ H → Vals ys acc.toList → L2.Inv X ((S, lstObj acc cc) :: ip) σ H s → tn i s.heap → (∀ b ∈ fp, H b = none) →
      Seg (model X.prog X.w) A R (GY X S) n s₀ (.forLoop tg (.ref it) body [] X.env) ((model X.prog X.w).den (.forLoop tg (.ref it) body [] X.env))
        (.ret (fun r => ((match r with
        | .ok f => (.pure f : Sem Flow)
        | .error e => .raise e).onRaise (cameBack X.env)).wrap K J gd lv) none (gd false) (lv []) c p [] :: fs) s := by
    intro m
    induction m using Nat.strongRecOn with | ind m ih =>
      intro n i ys s₀ s σ H acc cc size w rel inv st free
      apply seg_forTurn
      rw [(here _).over]
      rcases turn i m ys σ H w with ⟨stop, q⟩ | ⟨go, N, back, step⟩
      · refine wpAny_mono (T.done X rfl rfl rfl calm i _ s σ H X.xe inv (still free) st stop) ?_ fun e s' raised => out n s₀ e s' raised
        rintro r s4 ⟨rfl, inv4⟩
        refine seg_again rfl ?_
        exact seg_leaf (.ok .next) (k.ok n ys s₀ s4 .next size ⟨σ, H, ⟨acc, cc, rel, inv4⟩, q⟩)
      · refine wpAny_mono (T.item X rfl rfl rfl calm i _ s σ H X.xe inv (still free) st go) ?_ fun e s' raised => out n s₀ e s' raised
        rintro r s4 ⟨u, rfl, h4⟩
        refine wpAny_mono h4 ?_ fun e s' raised => out n s₀ e s' raised
        rintro _ s5 ⟨x, H5, inv5, ru, yl, st5, free5⟩
        refine wpAny_mono (hg.run _ s5 σ H5 x u _ (inv5.pinned (still free5) (T.obj _ _ st5)) ru (step x H5 yl)) ?_ fun e s' raised => out n s₀ e s' raised
        rintro _ s6 ⟨σ6, H6, inv6, q6⟩
        have again : ∀ {n' : Nat} {ys' : List V} {s₀' s7 : Shared} {σ7 : L2.St} {H7 : Hp}, n' + ys'.length = sizeLine → GI X S (ip ++ pinsAt fp s5.heap) ys' σ7 H7 s7 → N ys' σ7 H7 →
            Seg (model X.prog X.w) A R (GY X S) n' s₀' (.forLoop tg (.ref it) body [] X.env) (.pure (.again (.forLoop tg (.ref it) body [] X.env)))
              (.ret (fun r => ((match r with
        | .ok f => (.pure f : Sem Flow)
        | .error e => .raise e).onRaise (cameBack X.env)).wrap K J gd lv) none (gd false) (lv []) c p [] :: fs) s7 := by
          rintro n' ys' s₀' s7 σ7 H7 size' ⟨acc7, cc7, rel7, inv7⟩ n7
          obtain ⟨m', lt, w7⟩ := back ys' σ7 H7 n7
          have pin : ∀ b ∈ fp, ∀ o, s5.heap.get? b = some o → s7.heap.get? b = some o ∧ H7 b = none := fun b hb o at_ =>
            have z := inv7.pin (b, o) (List.mem_append_right _ (List.mem_cons_of_mem _ (List.mem_append_right _ (mem_pinsAt hb at_))))
            ⟨z.1, z.2.1⟩
          refine seg_again rfl (ih m' lt n' (i + 1) ys' s₀' s7 σ7 H7 acc7 cc7 size' w7 rel7 (Inv.unpinned (pins := (S, lstObj acc7 cc7) :: ip) (pl := pinsAt fp s5.heap) inv7) (T.keep _ _ _ st5 fun b hb o at_ => (pin b hb o at_).1) fun b hb => ?_)
          obtain ⟨o, at_, _⟩ := T.obj _ _ st5 b hb
          exact (pin b hb o at_).2
        refine hb.run A S (ip ++ pinsAt fp s5.heap) R n ys s₀ _ _ _ _ id id s6 σ6 H6 { D with nx := N, ct := N, bk := D.nx } ⟨gc.pn, fun q hq => ?_, gc.apart, (here _).over, (here _).split, (here _).guard, rfl⟩ size ⟨fun n' ys' s₀' s7 f size' got => ?_, fun n' s₀' e s7 raised => out n' s₀' e s7 raised⟩ ⟨acc, cc, rel, inv6⟩ q6
        · rcases List.mem_append.mp hq with z | z
          · exact gc.ip q z
          · exact (offS _ (of_pinsAt z).1).symm
        · cases f with
          | next =>
            obtain ⟨σ7, H7, G7, n7⟩ := got
            exact again size' G7 n7
          | cont =>
            obtain ⟨σ7, H7, G7, n7⟩ := got
            exact again size' G7 n7
          | brk =>
            obtain ⟨σ7, H7, ⟨acc7, cc7, rel7, inv7⟩, n7⟩ := got
            exact seg_leaf (.ok .next) (k.ok n' ys' s₀' s7 .next size' ⟨σ7, H7, ⟨acc7, cc7, rel7, Inv.unpinned (pins := (S, lstObj acc7 cc7) :: ip) (pl := pinsAt fp s5.heap) inv7⟩, n7⟩)
          | ret v =>
            obtain ⟨x7, σ7, H7, ⟨acc7, cc7, rel7, inv7⟩, r7, n7⟩ := got
            exact seg_leaf (.ok (.ret v)) (k.ok n' ys' s₀' s7 (.ret v) size' ⟨x7, σ7, H7, ⟨acc7, cc7, rel7, Inv.unpinned (pins := (S, lstObj acc7 cc7) :: ip) (pl := pinsAt fp s5.heap) inv7⟩, r7, n7⟩)
  exact loop m0 n 0 ys s₀ s2 σ H2 acc cc size w0 rel inv2 st fun b hb => (ok b hb).1
end
end HC
/-! signs of own classes: x op int, x[i], x(..), x != y and x == y by an own __eq__ -/
namespace HC
open PyProof.Rows PySem L2 PySem.Spec
/-- what op between an instance of C and an int asks of the written part -/
structure BinI (K : PySem.W.Frag) (C : Addr) (nm : Str × Str) : Prop where
  self : PySem.W.selfFirst K C = true
  noR : PySem.W.findIn K (.ref C) nm.2 = some none
  i1 : ∃ fo, PySem.W.findIn K (.type "int") nm.1 = some fo
  i2 : ∃ ro, PySem.W.findIn K (.type "int") nm.2 = some ro
  sub : PySem.W.subIn K (.type "int") (.ref C) = some false
def binIB (K : PySem.W.Frag) (C : Addr) (nm : Str × Str) : Bool := PySem.W.selfFirst K C && (decide (PySem.W.findIn K (.ref C) nm.2 = some none) && ((PySem.W.findIn K (.type "int") nm.1).isSome && ((PySem.W.findIn K (.type "int") nm.2).isSome && decide (PySem.W.subIn K (.type "int") (.ref C) = some false))))
theorem binIB_ok {K : PySem.W.Frag} {C : Addr} {nm : Str × Str} (h : binIB K C nm = true) : BinI K C nm := by
  simp only [binIB, Bool.and_eq_true, decide_eq_true_eq] at h
  exact ⟨h.1, h.2.1, Option.isSome_iff_exists.mp h.2.2.1, Option.isSome_iff_exists.mp h.2.2.2.1, h.2.2.2.2⟩
section
variable {X : Cx} {k : Nat} {C : Addr} {sp : Sp} {m : Str}
def rOwnI (C : Addr) (sp : Sp) : R2 := fun x y H Q => ∃ a dx fs i, x = .ref a ∧ y = .int i ∧ H a = some (.ins C dx fs) ∧ sp [.ref a, .int i] H Q E0
theorem op_ownI {op : Operator} {nm : Str × Str} (M : MethR X.prog X.w X.K X.mg X.base C m k sp) (B : BinI X.K C nm) (room : Room k X.A) (h1 : PySem.dunder op.info.2 = m := by first | rfl | decide) (h2 : PySem.dunder op.info.2 = nm.1 := by first | rfl | decide) (h3 : PySem.dunderR op.info.2 = nm.2 := by first | rfl | decide) : OpR X (binaryOp op) (rOwnI C sp) := by
  rintro pins s σ H _ _ v u Q inv rv ru ⟨a, dx, fs, i, rfl, rfl, ha, owed⟩
  cases rv
  obtain ⟨t, rfl⟩ := ru
  obtain ⟨ox, od, isA⟩ := instAt inv ha
  obtain ⟨mm, fr⟩ := inv.fr
  obtain ⟨fo, i1⟩ := B.i1
  obtain ⟨ro, i2⟩ := B.i2
  have called := run_fnR (us := [.ref a, .int i t]) (vs := [V.ref a, V.int i]) M.fn room passN inv (.cons (by rfl) (.cons ⟨t, rfl⟩ .nil)) owed
  exact PySem.W.ksp_binT (T := "int") fr inv.mod.kin isA rfl B.self (h1 ▸ M.at_.at_) M.at_.fn (h3 ▸ B.noR) (.inl rfl) (h2 ▸ i1) (h3 ▸ i2) B.sub (wpAny_mono (wpAny_call called) (fun _ _ => cmpBack) fun _ _ z => z)
theorem n_ownI {H : Hp} {Q : VK} {a dx : Addr} {fs : List (Str × V)} {i : Int} (h1 : H a = some (.ins C dx fs)) (h : sp [.ref a, .int i] H Q E0) : rOwnI C sp (.ref a) (.int i) H Q := ⟨a, dx, fs, i, rfl, rfl, h1, h⟩
/-- o[i] by an own __getitem__ -/
def tOwnIx (C : Addr) (sp : Sp) (to ti : TE) : TE := fun σ H Q => to σ H fun x H1 => ti σ H1 fun i H2 => ∃ a dx fs, x = V.ref a ∧ H2 a = some (.ins C dx fs) ∧ sp [x, i] H2 Q E0
theorem pe_ownIx {o i : Expr} {to ti : TE} {pos : Pos} (M : MethR X.prog X.w X.K X.mg X.base C "__getitem__" k sp) (fi : ∀ f, Meth X.K C "__getitem__" f → PySem.W.fnIn X.K f = true) (room : Room (k + 1) X.A) (ho : PE X o to) (hi : PE X i ti)
    (plain : ∀ (a : Addr) (v : Value), subscripted i true (.ref a) v = runValue (.builtin "lifetime.subscript" ⟨[.ref a, v], []⟩) := by intro _ _; rfl) : PE X (.Subscript o i pos) (tOwnIx C sp to ti) := by
  constructor
  intro pn s σ H Q inv h
  refine Subscript_ (thn (ho.run pn s σ H _ inv h) ?_)
  rintro u s1 ⟨x, H1, inv1, rx, q1⟩
  refine thn (hi.run pn s1 σ H1 _ inv1 q1) ?_
  rintro v s2 ⟨y, H2, inv2, ry, a, dx, fs, rfl, ha, owed⟩
  cases rx
  obtain ⟨ox, od, isA⟩ := instAt inv2 ha
  obtain ⟨mm, fr⟩ := inv2.fr
  have called := M.fn X.A.in1 X.stack s2 H2 [.ref a, v] [.ref a, y] Q E0 room.in1 inv2.env0.in1 (.cons rfl (.cons ry .nil)) owed
  refine PySem.W.sub_K fr inv2.mod.kin isA M.at_.at_ (fi _ M.at_) M.at_.fn (wpAny_call (codeAny_mono called ?_)) (plain a v)
  rintro (er | fl) s3 got
  · rcases got with ⟨_, _, _, _, _, _, _, _, _, _, _, _, none_leaves⟩
    exact none_leaves.elim
  · cases fl with
    | ret val => exact inv2.after got
    | _ => exact got.elim
def OixK (C : Addr) (sp : Sp) (Q : VK) (x : V) : VK := fun i H2 => ∃ a dx fs, x = V.ref a ∧ H2 a = some (.ins C dx fs) ∧ sp [x, i] H2 Q E0
theorem g_ownIx {to ti : TE} {σ : L2.St} {H : Hp} {Q : VK} (h : to σ H fun x H1 => ti σ H1 (OixK C sp Q x)) : tOwnIx C sp to ti σ H Q := h
theorem n_ownIx {H : Hp} {Q : VK} {a dx : Addr} {fs : List (Str × V)} {i : V} (h1 : H a = some (.ins C dx fs)) (h : sp [.ref a, i] H Q E0) : OixK C sp Q (.ref a) i H := ⟨a, dx, fs, rfl, h1, h⟩
/-! == and != by an own __eq__ -/
structure EqO (K : PySem.W.Frag) (C : Addr) : Prop where
  ne : PySem.W.findIn K (.ref C) "__ne__" = some (some (.builtin "object.__ne__"))
  obj : PySem.W.subIn K (.ref C) (.type "object") = some true
def eqOB (K : PySem.W.Frag) (C : Addr) : Bool := decide (PySem.W.findIn K (.ref C) "__ne__" = some (some (.builtin "object.__ne__"))) && decide (PySem.W.subIn K (.ref C) (.type "object") = some true)
theorem eqOB_ok {K : PySem.W.Frag} {C : Addr} (h : eqOB K C = true) : EqO K C := by
  simp only [eqOB, Bool.and_eq_true, decide_eq_true_eq] at h
  exact ⟨h.1, h.2⟩
/-- both of the class at C; b: the answer of __eq__ -/
def rOwnEq (neg : Bool) (C : Addr) (sp : Sp) : R2 := fun x y H Q => ∃ a b dx dy fs gs, x = .ref a ∧ y = .ref b ∧ H a = some (.ins C dx fs) ∧ H b = some (.ins C dy gs) ∧ sp [.ref a, .ref b] H (fun v H' => ∃ r : Bool, v = .bl r ∧ Q (.bl (if neg then !r else r)) H') E0
theorem notFirst_self {K : PySem.W.Frag} {C : Addr} : PySem.W.notFirst K C (.ref C) = true := by unfold PySem.W.notFirst; simp
theorem ne_bind (self : Value) : bindSpecial (.builtin "object.__ne__") self = pure (.builtin "object.__ne__", [self]) := by kernel_rfl
theorem op_ownEq (M : MethR X.prog X.w X.K X.mg X.base C "__eq__" k sp) (room : Room (k + 1) X.A) : OpR X (compareOp .Eq) (rOwnEq false C sp) := by
  rintro pins s σ H _ _ v u Q inv rv ru ⟨a, b, dx, dy, fs, gs, rfl, rfl, ha, hb, owed⟩
  cases rv
  cases ru
  obtain ⟨ox, od, isA⟩ := instAt inv ha
  obtain ⟨oy, od', isB⟩ := instAt inv hb
  obtain ⟨mm, fr⟩ := inv.fr
  have called := run_fnR (us := [.ref a, .ref b]) (vs := [V.ref a, V.ref b]) M.fn (room.mono (Nat.le_succ k)) passN inv (.cons (by rfl) (.cons (by rfl) .nil)) owed
  show wpAny _ _ (richCompare .Eq (.ref a) (.ref b)) _ _ _
  refine PySem.W.cmp_K (by have := units65 room; omega) fr inv.mod.kin isA isB.type notFirst_self M.at_.at_ M.at_.fn (wpAny_mono (wpAny_call called) ?_ fun _ _ z => z)
  rintro r s1 ⟨x, H1, inv1, rx, br, rfl, q⟩
  obtain rfl : r = Value.bool br := rx
  exact ⟨.bl br, H1, inv1, rfl, by simpa using q⟩
theorem op_ownNe (M : MethR X.prog X.w X.K X.mg X.base C "__eq__" k sp) (O : EqO X.K C) (room : Room (k + 1) X.A) : OpR X (compareOp .NotEq) (rOwnEq true C sp) := by
  rintro pins s σ H _ _ v u Q inv rv ru ⟨a, b, dx, dy, fs, gs, rfl, rfl, ha, hb, owed⟩
  cases rv
  cases ru
  obtain ⟨ox, od, isA⟩ := instAt inv ha
  obtain ⟨oy, od', isB⟩ := instAt inv hb
  have un := units65 room
  have called := M.fn X.A.in1 X.stack s H [.ref a, .ref b] [.ref a, .ref b] _ E0 room.in1 inv.env0.in1 (.cons rfl (.cons rfl .nil)) owed
  have look : PySem.W.Looks (model X.prog X.w) s.heap (specialOf (.ref a) "__ne__") (some (.builtin "object.__ne__")) := isA.type.andThen (PySem.W.looks_findIn inv.kIn O.ne)
  have isObj : PySem.W.Looks (model X.prog X.w) s.heap (isInstance (.ref a) (.type "object")) true := isA.type.andThen (PySem.W.looks_subIn inv.kIn O.obj)
  have inner : wpAny (model X.prog X.w) X.A.in1 (Builtin.«object.__ne__» ⟨[.ref a, .ref b], []⟩) (fun fin s' => ∃ r : Bool, fin = .done (.ret (.bool r)) ∧ EP X pins σ Q (.bool r) s') X.xe s := by
    unfold Builtin.«object.__ne__»; refine wpAny_bind (wpAny_pure (wpAny_bind (wpAny_cRoomFor (by show X.A.in1.units < cLine; exact Nat.lt_of_le_of_lt (Nat.le_of_eq rfl) (by have : X.A.in1.units ≤ X.A.units + 1 := Nat.le_of_eq rfl; omega)) (wpAny_bind (PySem.W.ifBound_K inv.kIn isA M.at_.at_ M.at_.fn (wpAny_call (codeAny_mono called ?_)))))))
    rintro (er | fl) s1 got
    · rcases got with ⟨_, _, _, _, _, _, _, _, _, _, _, _, none_leaves⟩
      exact none_leaves.elim
    · cases fl with
      | ret val =>
        obtain ⟨x, H1, inv1, rx, br, rfl, q⟩ := inv.after got
        obtain rfl : val = Value.bool br := rx
        refine wpAny_bind (wpAny_truthy_bool (wpAny_pure ⟨!br, rfl, .bl (!br), H1, inv1, rfl, by simpa using q⟩))
      | _ => exact got.elim
  show wpAny _ _ (richCompare .NotEq (.ref a) (.ref b)) _ _ _
  unfold richCompare
  simp only [oneThing_ref]
  refine wpAny_holding (wpAny_bind (wpAny_cRoomFor (by omega) (wpAny_bind (isA.type.here (wpAny_bind (isB.type.here ?_))))))
  simp only [bne_self_eq_false, Bool.false_eq_true, if_false, Bool.false_and]
  refine wpAny_bind (wpAny_pure (show _ from ?_)); simp only [Bool.false_eq_true, if_false]; unfold tryCompare
  refine wpAny_bind (wpAny_bind (NtL.csib look (ne_bind _) ?_))
  refine wpAny_call (codeAny_call_builtin (by decide +kernel) F.cmpEntry_ne (PySem.W.check_slot F.cmpKind_ne F.cmpSplit_ne isObj (F.cmpArgs_ne _ _) (wpAny_mono inner ?_ fun _ _ z => z)))
  rintro fin s1 ⟨r, rfl, q⟩
  exact wpAny_pure (wpAny_pure q)
theorem n_ownEq {neg : Bool} {H : Hp} {Q : VK} {a b dx dy : Addr} {fs gs : List (Str × V)} (h1 : H a = some (.ins C dx fs)) (h2 : H b = some (.ins C dy gs)) (h : sp [.ref a, .ref b] H (fun v H' => ∃ r : Bool, v = .bl r ∧ Q (.bl (if neg then !r else r)) H') E0) : rOwnEq neg C sp (.ref a) (.ref b) H Q := ⟨a, b, dx, dy, fs, gs, rfl, rfl, h1, h2, h⟩
end
end HC
/-! head, *rest = list; str(int), int(text), text.split(text), f-strings -/
namespace HC
open PyProof.Rows PySem L2 PySem.Spec
/-- a list taken apart: its first item, and a new list of the others; nothing else is touched -/
theorem unpack_head {prog : Program} {w : World} {A : Around} {E : Value → Shared → Prop} {s : Shared} {l : Addr} {v : Value} {vs : List Value} {Q : List Value → Shared → Prop} (is : s.heap.IsList l (v :: vs).toArray) (calm : A.handled = none) (short : vs.length + 1 ≤ sizeLine)
    (go : ∀ (h' : Heap) (tk : Nat), (∀ b o, s.heap.get? b = some o → h'.get? b = some o) → Q [v, .ref h'.objs.size] { s with heap := h'.push { cls := .type "list", data := .seq vs.toArray }, toks := tk }) : wpAny (model prog w) A (unpackItems (.ref l) 2 (some 1)) Q E s := by
  obtain ⟨ol, at_, _⟩ := id is
  have low := Heap.lt_size at_
  have off : l ≠ s.heap.objs.size := Nat.ne_of_lt low
  unfold unpackItems notIterableAtAll
  refine wpAny_bind (wpAny_bind (wpAny_specialOf is.typeIs PySem.F.slot_list_iter.lookup (wpAny_pure ?_)))
  rw [if_neg (fun z : false = true => nomatch z)]
  refine wpAny_bind (wpAny_holding (wpAny_pyIter_list is (wpAny_bind (wpAny_holding (PySem.W.kun_draw off 1 0 _ _ ⟨_, Heap.get?_push_size _ rfl, rfl, rfl⟩ (is.push _) (by simp) fun h1 it1 same1 => ?_)))))
  have is1 : h1.IsList l (v :: vs).toArray := (is.push _).extBut same1.extBut off
  obtain ⟨oi, ati, _⟩ := id it1
  obtain ⟨ol1, at1, _⟩ := id is1
  refine wpAny_bind (wpAny_holding (PySem.W.kun_collect (s := { s with heap := h1 }) (T := "list_iterator") (items := (v :: vs).toArray) (.inr (.inr (.inl rfl))) (Walks.list (A := A.in1) calm s.heap.objs.size l off _) (fun j u st => st.1.typeIs) (k := 1) (by simp) ⟨it1, is1⟩ (Heap.lt_size ati) (Heap.lt_size at1) (fun h2 tk kept => ?_) (by simpa using short)))
  have all : ∀ b o, s.heap.get? b = some o → h2.get? b = some o := fun b o e => kept b o (Nat.ne_of_lt (Heap.lt_size e)) (same1.extBut b o (Nat.ne_of_lt (Heap.lt_size e)) (Heap.get?_push_of_some _ e))
  have cut : (((v :: vs).toArray.toList.drop 1).length - (2 - 1 - 1)) = vs.length := by simp
  show wpAny _ _ (if ((v :: vs).toArray.toList.drop 1).length < 2 - 1 - 1 then _ else _) _ _ _
  rw [if_neg (by simp)]
  show wpAny _ _ (newList (((v :: vs).toArray.toList.drop 1).take (((v :: vs).toArray.toList.drop 1).length - (2 - 1 - 1))) >>= fun d => pure (((v :: vs).toArray.toList.drop 0).take 1 ++ [d] ++ ((v :: vs).toArray.toList.drop 1).drop (((v :: vs).toArray.toList.drop 1).length - (2 - 1 - 1)))) _ _ _
  rw [cut]
  have e1 : ((v :: vs).toArray.toList.drop 1).take vs.length = vs := by simp
  have e2 : ((v :: vs).toArray.toList.drop 1).drop vs.length = [] := by simp
  rw [e1, e2]
  exact wpAny_bind (wpAny_newList (s := { s with heap := h2, toks := tk }) (wpAny_pure (by simpa using go h2 tk all)) (by omega))
section
variable {X : Cx} {e o t1 t2 : Expr} {te to : TE} {p q pos apos : Pos} {k : Nat} {K : PySem.W.Frag} {H : Hp} {Q : VK} {σ : L2.St}
/-- t1, *t2 = list -/
def gStar1 (K : PySem.W.Frag) (g : TGs) : TG := fun v σ H Q => ∃ a x xs, v = .ref a ∧ SqL K H a (x :: xs) ∧ ∀ p, H p = none → g [x, .ref p] σ (upd H p (.lst xs)) Q
theorem pg_star1 (K' : PySem.W.Frag) {g : TGs} (calm : X.calm = true) (h : PGs X [t1, t2] g) (e1 : (assignEach [t1, .Starred t2 p] X.env).map (·.2) = (assignEach [t1, t2] X.env).map (·.2) := by rfl) (e2 : (assignEach [t1, .Starred t2 p] X.env).length = 2 := by rfl) (e3 : (assignEach [t1, .Starred t2 p] X.env).findIdx? (·.1) = some 1 := by rfl) (hK : X.K = K' := by rfl) :
    PG X (.Tuple [t1, .Starred t2 p] k pos) (gStar1 K' g) := by
  subst hK
  constructor
  rintro pins s σ H _ u Q inv rel ⟨a, x, xs, rfl, sq, owed⟩
  cases rel
  obtain ⟨its, rv, pl, hz⟩ := inv.list sq
  cases rv with
  | @cons _ v _ vs rx rxs =>
    rw [assign_Tuple]
    refine wpAny_bind (wpAny_standAt ?_); unfold unpack
    rw [e2, e3, e1]
    refine wpAny_bind (wpAny_holding (unpack_head pl.isList (inv.ok.hd calm) (by have := rxs.length; simpa [← this] using hz) fun h' tk kept => ?_))
    have inv1 : L2.Inv X pins σ H { s with heap := h', toks := tk } := inv.kept kept
    have free : H h'.objs.size = none := inv1.hok.fresh (Nat.le_refl _)
    have len : xs.length ≤ sizeLine := Nat.le_trans (Nat.le_succ _) (by simpa using hz)
    have ok : ObjOk X.prog X.w (upd H h'.objs.size (.lst xs)) (h'.push { cls := .type "list", data := .seq vs.toArray }) h'.objs.size (.lst xs) := ⟨len, vs, 0, rxs, Heap.get?_push_size _ rfl⟩
    have inv2 := inv1.laid (t' := tk) (a := h'.objs.size) (o := .lst xs) (h' := h'.push { cls := .type "list", data := .seq vs.toArray }) (fun b o z => Heap.get?_push_of_some _ z) (Nat.le_refl _) ok
    exact h.run pins _ σ _ [x, V.ref h'.objs.size] _ Q inv2 (.cons rx (.cons rfl .nil)) (owed _ free)
theorem n_star1P {g : TGs} {a : Addr} {x : V} {xs : List V} {Q : L2.St → Hp → Prop} (h1 : SqL K H a (x :: xs)) (h : ∀ p H', H p = none → Same H H' → H' p = some (.lst xs) → g [x, .ref p] σ H' Q) : gStar1 K g (.ref a) σ H Q := ⟨a, x, xs, rfl, h1, fun p hp => h p _ hp (same_new hp) upd_same⟩
/-- the text of a number -/
def numS (i : Int) : Str := Str.ofString (toString i)
def rStr1 : List V → Hp → VK → Prop := fun xs H Q => ∃ i, xs = [.int i] ∧ i.natAbs.log2 < 1920 ∧ Q (.str (numS i)) H
theorem call_strI : CallR X (.type "str") rStr1 := by
  rintro pins s σ H xs us Q inv rel ⟨i, rfl, small, q⟩
  obtain ⟨_, rfl, t, rfl⟩ := vals1 rel
  exact PySem.P.str_of_int small ⟨.str (numS i), H, inv.tok _, ⟨_, rfl⟩, q⟩
theorem pe_strI (m : Bts X.mg) (he : PE X e te) (hg : Gl X "str" := by rfl) (hs : starEach (e :: []) X.env = (false, eval e X.env) :: starEach [] X.env := by rfl) : PE X (.Call (.Name "str" p) [e] [] pos) (tCB rStr1 (tCons te tNil)) :=
  pe_callTy call_strI hg m.str bt_str (pa_cons he pa_nil hs) (by decide) (by decide) hs rfl
theorem g_strI {i : Int} (h1 : i.natAbs.log2 < 1920) (h : Q (.str (numS i)) H) : rStr1 [.int i] H Q := ⟨i, rfl, h1, h⟩
def rIntS : List V → Hp → VK → Prop := fun xs H Q => ∃ a n, xs = [.str a] ∧ PySem.intText? a = some n ∧ a.length ≤ 640 ∧ Q (.int n) H
theorem pe_intS (m : Bts X.mg) (he : PE X e te) (hg : Gl X "int" := by rfl) (hs : starEach (e :: []) X.env = (false, eval e X.env) :: starEach [] X.env := by rfl) : PE X (.Call (.Name "int" p) [e] [] pos) (tCB rIntS (tCons te tNil)) :=
  pe_callTy call_int_str hg m.int bt_int (pa_cons he pa_nil hs) (by decide) (by decide) hs rfl
theorem g_intS {a : Str} {n : Int} (h1 : PySem.intText? a = some n) (h2 : a.length ≤ 640) (h : Q (.int n) H) : rIntS [.str a] H Q := ⟨a, n, rfl, h1, h2, h⟩
theorem num_small {i : Int} (h0 : 0 ≤ i) (h1 : i < 2 ^ 64) : i.natAbs.log2 < 1920 := by
  have : i.natAbs < 2 ^ 1920 := Nat.lt_of_lt_of_le (by omega : i.natAbs < 2 ^ 64) (Nat.pow_le_pow_right (by decide) (by decide))
  by_cases z : i.natAbs = 0
  · rw [z]; decide
  · exact (Nat.log2_lt z).mpr this
/-- text.split(text) -/
def rSplit : V → List V → Hp → VK → Prop := fun x xs H Q => ∃ a b, x = .str a ∧ xs = [.str b] ∧ (b.length == 0) = false ∧ a.length + 2 ≤ sizeLine ∧ rNewStrs (Txt.split a b) H Q
theorem g_split {a b : Str} (h1 : (b.length == 0) = false) (h2 : a.length + 2 ≤ sizeLine) (h : ∀ p H', H p = none → Same H H' → H' p = some (.lst ((Txt.split a b).map V.str)) → Q (.ref p) H') : rSplit (.str a) [.str b] H Q := ⟨a, b, rfl, rfl, h1, h2, fun p hp => h p _ hp (same_new hp) upd_same⟩
/-- f'..' of two parts and more -/
def tFs (ts : List TE) : TE := fun σ H Q => tJs ts Str.empty σ H fun out H1 => Q (.str out) H1
def FsK (ts : List TE) (acc : Str) (σ : L2.St) (Q : VK) : VK := fun x H1 => ∃ y : Str, x = .str y ∧ (acc ++ y).length ≤ sizeLine ∧ tJs ts (acc ++ y) σ H1 fun out H2 => Q (.str out) H2
theorem g_fs {t : TE} {ts : List TE} (h : t σ H (FsK ts Str.empty σ Q)) : tFs (t :: ts) σ H Q := h
theorem n_fs0 {acc y : Str} (hz : (acc ++ y).length ≤ sizeLine) (h : Q (.str (acc ++ y)) H) : FsK [] acc σ Q (.str y) H := ⟨y, rfl, hz, h⟩
theorem n_fs {acc y : Str} {t : TE} {ts : List TE} (hz : (acc ++ y).length ≤ sizeLine) (h : t σ H (FsK ts (acc ++ y) σ Q)) : FsK (t :: ts) acc σ Q (.str y) H := ⟨y, rfl, hz, h⟩
def FmK (Q : VK) : VK := fun x H1 => (∃ y : Str, x = .str y ∧ y.length ≤ sizeLine ∧ Q (.str y) H1) ∨ ∃ i : Int, x = .int i ∧ i.natAbs.log2 < 1920 ∧ Q (.str (numS i)) H1
theorem g_fmt (h : te σ H (FmK Q)) : tFmt te σ H Q := h
theorem n_fmtS {y : Str} (hz : y.length ≤ sizeLine) (h : Q (.str y) H) : FmK Q (.str y) H := .inl ⟨y, rfl, hz, h⟩
theorem n_fmtI {i : Int} (hz : i.natAbs.log2 < 1920) (h : Q (.str (numS i)) H) : FmK Q (.int i) H := .inr ⟨i, rfl, hz, h⟩
end
end HC
/-! generator methods: their promises, list(o.m(..)); instances called; steps of generator bodies -/
namespace HC
open PyProof.Rows PySem L2 PySem.Spec
section
variable {K : PySem.W.Frag} {P : Program} {w : World} {base : Heap} {mg : Str → Option Value}
/-- the method m of the class at C is a generator that keeps sp -/
structure MethG (P : Program) (w : World) (K : PySem.W.Frag) (mg : Str → Option Value) (base : Heap) (C : Addr) (m : Str) (k : Nat) (sp : SpG) : Prop where
  cl : Cls K C
  ex : ∃ f fd ps, Meth K C m f ∧ GFn P w K mg base k f fd ps sp ∧ Binds K fd ps []
theorem gfn_body {x qual : Str} {params : Arguments} {body : List Stmt} {scope : Scope} {f : Addr} {fd : FuncData} {N ps : List Str} {k : Nat} {sp : SpG} (F : FunD K x qual params body scope [] [] f fd) (S : GScope N ps scope) (len : ∀ vs H Q E, sp vs H Q E → vs.length = ps.length)
    (owes : ∀ (cdv : Value) (A : Around) (outer : List Env) (s : Shared) (H : Hp) (vs : List V) (Q : List V → Hp → Prop) (E : XK) (pn : List (Addr × Obj)), Room k (A.deeper (envOfC qual scope s.heap.objs.size f cdv)) → sp vs H Q E →
      ∃ t, GSs (gcxOf P w K mg base N qual scope f cdv A outer s H E pn) body t ∧ t { nx := fun ys _ H' => Q ys H', rt := fun ys v H' => v = .non ∧ Q ys H' } [] (start N vs) H) : GFn P w K mg base (k + 1) f fd ps sp := by
  rcases F.ex with ⟨c1, c2, dv, kv, dc, pm, an, cdv, ct, sl, e, at_, code, _⟩
  subst e
  exact gfn_of at_ code S len (owes cdv)
end
section
variable {X : Cx} {k : Nat} {C : Addr} {sp : SpG} {m : Str} {o e : Expr} {es : List Expr} {to : TE} {t : TA} {p q pos apos : Pos} {K : PySem.W.Frag} {H : Hp} {Q : VK} {σ : L2.St}
theorem noStop0 : NoStop X.K E0 := fun _ _ _ z => z.elim
/-- list(o.m(e, ..)), m a generator method -/
theorem pe_listM {pl : Sem Bool} (M : MethG X.prog X.w X.K X.mg X.base C m k sp) (room : Room (k + 3) X.A) (b : Bts X.mg) (ho : PE X o to) (ha : PA X (e :: es) t) (hg : Gl X "list" := by rfl)
    (hs : starEach [.Call (.Attribute o m apos) (e :: es) [] q] X.env = (false, eval (.Call (.Attribute o m apos) (e :: es) [] q) X.env) :: starEach [] X.env := by rfl)
    (hst : starEach (e :: es) X.env = (false, eval e X.env) :: starEach es X.env := by rfl) (hpl : (backTo q (starEach es X.env)).any (·.1) = false := by rfl)
    (ht : eval (.Call (.Attribute o m apos) (e :: es) [] q) X.env = (do
      let ov ← eval o X.env
      standAt apos.atName
      let (fn, rest) ← holding [ov] (getMethod ov m pl)
      callWith q fn rest (backTo q (starEach (e :: es) X.env)) (backToKw q (keywordEach [] X.env))) := by rfl) :
    PE X (.Call (.Name "list" p) [.Call (.Attribute o m apos) (e :: es) [] q] [] pos) (tListG (tMethG C m sp [] E0 to t)) := by
  obtain ⟨f, fd, ps, at_, F, bnd⟩ := M.ex
  exact pe_listG (pgen_meth (pl := pl) ho M.cl at_ F (room.mono (by omega)) bnd .nil ha hst hpl ht) passN noStop0 room hg b.list bt_list (by decide) (by decide) hs
/-- the object, then the arguments, then what the generator promises -/
def GmK (C : Addr) (m : Str) (sp : SpG) (t : TA) (σ : L2.St) (Q : VK) : VK := fun x H1 => ∃ a dx fs, x = .ref a ∧ H1 a = some (.ins C dx fs) ∧ fs.lookup m = none ∧ t σ H1 fun vs H2 => sp (x :: (vs ++ [])) H2 (fun out H3 => ∀ p, H3 p = none → Q (.ref p) (upd H3 p (.lst out))) E0
theorem g_listM (h : to σ H (GmK C m sp t σ Q)) : tListG (tMethG C m sp [] E0 to t) σ H Q := h
theorem n_listM {a dx : Addr} {fs : List (Str × V)} (h1 : H a = some (.ins C dx fs)) (h2 : fs.lookup m = none) (h : t σ H fun vs H2 => sp (V.ref a :: (vs ++ [])) H2 (fun out H3 => ∀ p, H3 p = none → Q (.ref p) (upd H3 p (.lst out))) E0) : GmK C m sp t σ Q (.ref a) H := ⟨a, dx, fs, rfl, h1, h2, h⟩
end
section
variable {X : Cx} {k : Nat} {C : Addr} {sp : Sp} {fe e : Expr} {es : List Expr} {tf : TE} {t : TA} {p pos : Pos} {H : Hp} {Q : VK} {σ : L2.St}
/-- x(e, ..), x an instance of the class at C -/
theorem pe_callI (M : MethR X.prog X.w X.K X.mg X.base C "__call__" k sp) (fi : ∀ f, Meth X.K C "__call__" f → PySem.W.fnIn X.K f = true) (room : Room k X.A) (hf : PE X fe tf) (ha : PA X (e :: es) t)
    (ht : eval (.Call fe (e :: es) [] pos) X.env = (do
      callWith pos (← eval fe X.env) [] (backTo pos (starEach (e :: es) X.env)) (backToKw pos (keywordEach [] X.env))) := by rfl) (he : starEach (e :: es) X.env = (false, eval e X.env) :: starEach es X.env := by rfl) (hpl : (backTo pos (starEach es X.env)).any (·.1) = false := by rfl) : PE X (.Call fe (e :: es) [] pos) (StX.tCallO X C sp E0 tf t) :=
  StX.pe_callO hf ⟨M.at_.at_, M.at_.fn, fi _ M.at_⟩ M.fn room passN ha ht he hpl
def CiK (X : Cx) (C : Addr) (sp : Sp) (t : TA) (σ : L2.St) (Q : VK) : VK := fun y H1 => ∃ a, y = V.ref a ∧ t σ H1 fun vs H2 => StX.InsC X H2 a C ∧ sp (V.ref a :: vs) H2 Q E0
theorem g_callI (h : tf σ H (CiK X C sp t σ Q)) : StX.tCallO X C sp E0 tf t σ H Q := h
theorem n_callI {a : Addr} (h : t σ H fun vs H2 => StX.InsC X H2 a C ∧ sp (V.ref a :: vs) H2 Q E0) : CiK X C sp t σ Q (.ref a) H := ⟨a, rfl, h⟩
theorem insC_of {a dx : Addr} {fs : List (Str × V)} (h : H a = some (.ins C dx fs)) : StX.InsC X H a C := .inr ⟨dx, fs, h⟩
theorem pe_splitH {o : Expr} {to te : TE} {apos : Pos} (ho : PE X o to) (he : PE X e te) (hs : starEach [e] X.env = [(false, eval e X.env)] := by rfl) (hbase : attributeBase o "split" X.env (eval o X.env) = eval o X.env := by rfl) (hline : (apos.endLine == pos.line) = true := by rfl) :
    PE X (.Call (.Attribute o "split" apos) [e] [] pos) (tM1 rSplit to te) := pe_split ho he hs hbase hline
theorem pe_fs {v1 v2 : Expr} {rest : List Expr} {ts : List TE} (h : PJ X (v1 :: v2 :: rest) ts) : PE X (.JoinedStr (v1 :: v2 :: rest) pos) (tFs ts) := pe_joined h
end
/-! steps of a generator's body -/
section
variable {D : GEnds} {ys : List V} {σ : L2.St} {H : Hp} {t u : TGn} {te : TE} {tp : TS} {tc : TT} {g : TG} {ts : TA}
theorem g_gthen (h : t { D with nx := fun ys' σ' H' => u D ys' σ' H' } ys σ H) : tGThen t u D ys σ H := h
theorem g_gplain (h : tp { nx := D.nx ys, rt := D.rt ys, bk := D.bk ys, ct := D.ct ys } σ H) : tPlain tp D ys σ H := h
theorem g_gif (h : tc σ H fun b H1 => if b = true then t D ys σ H1 else u D ys σ H1) : tGIf tc t u D ys σ H := h
theorem g_g0 (h : D.nx ys σ H) : tG0 D ys σ H := h
theorem n_yield (hz : ys.length < sizeLine) (h : te σ H fun x H1 => D.nx (ys ++ [x]) σ H1) : tGYield te D ys σ H := ⟨hz, h⟩
def GiR2 (g : TG) (tb : TGn) (D : GEnds) (ys : List V) (σ : L2.St) (vs : List V) (H1 : Hp) : Prop := ∃ lo hi, vs = [.int lo, .int hi] ∧ (-(2 ^ 62) ≤ lo ∧ lo < 2 ^ 62 ∧ -(2 ^ 62) ≤ hi ∧ hi < 2 ^ 62) ∧ tGFor (fun _ H2 R => R (Itr lo (hi - lo).toNat) H2) g tb D ys σ H1
theorem g_gforR2 (h : ts σ H (GiR2 g t D ys σ)) : tGFor (iRng2 ts) g t D ys σ H := h
theorem n_gforR2 {lo hi : Int} (h1 : -(2 ^ 62) ≤ lo) (h2 : lo < 2 ^ 62) (h3 : -(2 ^ 62) ≤ hi) (h4 : hi < 2 ^ 62) (Pv : Nat → List V → L2.St → Hp → Prop) (h0 : Pv 0 ys σ H)
    (hs : ∀ (i : Nat) ys σ H, i < (hi - lo).toNat → Pv i ys σ H → g (.int (lo + i)) σ H fun σ2 H2 => t { D with nx := Pv (i + 1), ct := Pv (i + 1), bk := D.nx } ys σ2 H2) (hd : ∀ ys σ H, Pv (hi - lo).toNat ys σ H → D.nx ys σ H) : GiR2 g t D ys σ [.int lo, .int hi] H := by
  refine ⟨lo, hi, rfl, ⟨h1, h2, h3, h4⟩, fun i m ys σ H => m = (hi - lo).toNat - i ∧ i ≤ (hi - lo).toNat ∧ Pv i ys σ H, ⟨_, rfl, Nat.zero_le _, h0⟩, ?_⟩
  rintro i m ys σ H ⟨rfl, le, p⟩
  have W := walk_range (lo := lo) (n := (hi - lo).toNat)
  by_cases lt : i < (hi - lo).toNat
  · refine .inr ⟨W.goes i H lt trivial, Pv (i + 1), fun ys' σ' H' p' => ⟨_, by omega, rfl, lt, p'⟩, fun x H' y => ?_⟩
    obtain ⟨rfl, rfl⟩ := W.yields i H x H' lt trivial y
    exact hs i ys σ H' lt p
  · obtain rfl : i = (hi - lo).toNat := by omega
    exact .inl ⟨W.stops H trivial, hd ys σ H p⟩
end
end HC
/-! def f(self, *v, kw=d), called without kw -/
namespace HC
open PyProof.Rows PySem L2 PySem.Spec
/-- the binder looks one name up in the dict at D, then goes on as g tells -/
def Looks1 {α : Type} (D : Addr) (kw : Str) (t : Sem α) (g : Value → Sem α) : Prop := ∃ (β γ : Type) (k1 : Option Value → Sem β) (k2 : β → Sem γ) (k3 : γ → Sem α), t = ((nsGet D kw >>= k1) >>= k2) >>= k3 ∧ ∀ u, ∃ b, k1 (some u) = pure b ∧ (k2 b >>= k3) = g u
theorem looks1_run {α : Type} {M : Model} {A : Around} {E : Value → Shared → Prop} {s : Shared} {K : PySem.W.Frag} {D : Addr} {kw : Str} {t : Sem α} {g : Value → Sem α} {u : Value} {Q : α → Shared → Prop} (X : K.In s.heap) (at_ : PySem.W.nsIn K D kw = some (some u)) (l : Looks1 D kw t g) (h : wpAny M A (g u) Q E s) : wpAny M A t Q E s := by
  obtain ⟨β, γ, k1, k2, k3, rfl, more⟩ := l
  obtain ⟨b, e1, e2⟩ := more u
  have one : PySem.W.Looks M s.heap (nsGet D kw >>= k1) b := (PySem.W.looks_nsIn X at_).andThen (PySem.W.Looks.of_pure e1)
  rw [bind_assoc]
  refine wpAny_bind (one.here ?_)
  show wpAny M A (k2 b >>= k3) Q E s
  rw [e2]
  exact h
section
variable {P : Program} {w : World} {K : PySem.W.Frag} {mg : Str → Option Value} {base : Heap} {k : Nat} {f : Addr} {sp : Sp}
theorem fnd_star1 {x qual : Str} {params : Arguments} {body : List Stmt} {scope : Scope} {dv : V} {fd : FuncData} {N : List Str} {p1 pv kw : Str} (F : FunD K x qual params body scope [] [(kw, dv)] f fd) (S : FnScope N [p1, kw, pv] scope)
    (h0 : ∀ (D : Addr) (doc pm : Value) (an : Option Addr) (cdv ct : Value) (a : Value), Looks1 D kw (bindArgs (PySem.W.fnOf x qual params body scope .none (.ref D) doc pm an cdv ct) ⟨[a], []⟩) fun u => newTuple [] >>= fun t => pure [(p1, a), (kw, u), (pv, t)])
    (h1 : ∀ (D : Addr) (doc pm : Value) (an : Option Addr) (cdv ct : Value) (a r : Value) (rs : List Value), Looks1 D kw (bindArgs (PySem.W.fnOf x qual params body scope .none (.ref D) doc pm an cdv ct) ⟨a :: r :: rs, []⟩) fun u => newTuple (r :: rs) >>= fun t => pure [(p1, a), (kw, u), (pv, t)])
    (owes : ∀ cdv, Owes P w K mg base N qual scope body k f sp cdv) :
    FnR P w K mg base (CXW P w) (k + 1) f (fun vs H Q E => ∃ w0 rest, vs = w0 :: rest ∧ rest.length ≤ sizeLine ∧ ∀ p, H p = none → sp [w0, dv, V.ref p] (upd H p (.tup rest)) Q E) := by
  rcases F.ex with ⟨c1, c2, dV, kV, dc, pm, an, cdv, ct, sl, e, at_, code, dfl, kwd⟩
  subst e
  have dn : dV = .none := dfl.elim (fun z => z.2) (fun z => absurd rfl z.1)
  subst dn
  rcases kwd with z | ⟨D, rfl, has⟩
  · exact absurd z (by simp)
  obtain ⟨u, atD, ru⟩ := has (kw, dv) (by simp)
  rintro A outer s H us vs Q E room env rel ⟨w0, rest, rfl, size, owed⟩
  cases rel with
  | @cons _ a _ more ra rmore =>
    have free : H s.heap.objs.size = none := env.hok.fresh (Nat.le_refl _)
    have size' : more.length ≤ sizeLine := rmore.length ▸ size
    have KX : K.In s.heap := env.mod.kin.keeps fun b o e => (env.bs b o e).1
    have bind : Looks1 D kw (bindArgs (PySem.W.fnOf x qual params body scope .none (.ref D) dc pm an cdv ct) ⟨a :: more, []⟩) fun u => newTuple more >>= fun t => pure [(p1, a), (kw, u), (pv, t)] := by
      cases more with
      | nil => exact h0 D dc pm an cdv ct a
      | cons r rs => exact h1 D dc pm an cdv ct a r rs
    refine StX.run_bnd at_ code S room env (G := fun xs H2 => ∃ p, H p = none ∧ xs = [w0, dv, V.ref p] ∧ H2 = upd H p (.tup rest)) ?_ ?_
    · intro A' Ex Q' go
      refine looks1_run KX atD bind (wpAny_bind (wpAny_newTuple (wpAny_pure ?_) size'))
      have fresh : ObjOk P w (upd H s.heap.objs.size (.tup rest)) (s.heap.push { cls := .type "tuple", data := .seq more.toArray }) s.heap.objs.size (.tup rest) := ⟨size, more, rmore, _, Heap.get?_push_size _ rfl, rfl, _, rfl⟩
      have grown := StX.un_laid (fs := frs outer) (s := s) (o := { cls := .type "tuple", data := .seq more.toArray }) (u := .tup rest) free
      exact go _ _ [w0, dv, .ref s.heap.objs.size] [a, u, .ref s.heap.objs.size] (StX.env0_laid env fresh) grown rfl (fun e s' => StX.cxUp outer s H _ _ E e s' grown (fun b o q => Heap.get?_push_of_some _ q) rfl) (.cons ra (.cons ru (.cons rfl .nil))) rfl ⟨_, free, rfl, rfl⟩
    · rintro s2 _ _ ⟨p, hp, rfl, rfl⟩ room'
      exact owes cdv A outer s2 _ _ Q E room' (owed p hp)
end
end HC
namespace HC
open PyProof.Rows PySem L2 PySem.Spec
local macro_rules | `(tactic| walk_at "sm") => `(tactic| first | assumption | exact Same.refl _ | (refine Same.trans ?_ (by assumption); walk_at "sm"))
local macro_rules | `(tactic| walk_at "hp") => `(tactic| first
  | assumption | exact upd_same
  | ((with_reducible refine same_at (by assumption) ?_); walk_at "hp") | ((with_reducible refine same_t (by assumption) ?_); walk_at "hp") | ((with_reducible refine same_l (by assumption) ?_); walk_at "hp")
  | ((with_reducible refine Same.dp (by assumption) ?_); walk_at "hp") | ((with_reducible refine Same.dpa (by assumption) ?_); walk_at "hp")
  | ((with_reducible refine SqT.of ?_); walk_at "hp") | ((with_reducible refine SqL.of ?_); walk_at "hp"))
local macro_rules | `(tactic| walk_at "go1") => `(tactic| first
  | with_reducible refine g_seq ?_ | with_reducible refine g_asg ?_ | with_reducible refine g_op ?_ | ((with_reducible refine' g_var ?hv ?_); (case hv => exact rfl))
  | with_reducible refine g_c ?_ | with_reducible refine g_cons ?_ | with_reducible refine g_nil ?_ | with_reducible refine g_cb ?_ | with_reducible refine g_callR ?_
  | ((with_reducible refine' g_name ?hv ?_); (case hv => first | (simp only [List.set]; rfl) | (simp only [wipe, List.map, List.set]; rfl)))
  | with_reducible refine g_ret ?_ | with_reducible refine g_drop ?_ | with_reducible refine g_ifS ?_ | with_reducible refine g_test ?_ | with_reducible refine g_tB ?_ | with_reducible refine g_bl ?_
  | with_reducible refine g_add_i ?_ | with_reducible refine g_sub ?_ | with_reducible refine g_lt ?_ | with_reducible refine g_le ?_ | with_reducible refine g_gt ?_ | with_reducible refine g_ge ?_
  | with_reducible refine g_eq_i ?_ | with_reducible refine g_ne_i ?_ | with_reducible refine g_eq_s ?_ | with_reducible refine g_ne_s ?_ | with_reducible refine g_eq_b ?_ | with_reducible refine g_ne_b ?_ | with_reducible refine g_isN ?_ | with_reducible refine g_notN ?_
  | with_reducible refine g_and ?_ | with_reducible refine g_or ?_ | with_reducible refine g_not ?_ | with_reducible refine g_andV ?_ | with_reducible refine g_orV ?_ | with_reducible refine g_notV ?_ | with_reducible refine g_if ?_ | with_reducible refine g_chain ?_
  | with_reducible refine g_tup ?_ | with_reducible refine g_lst ?_ | with_reducible refine g_un ?_ | with_reducible refine g_next ?_
  | with_reducible refine g_bm ?_ | with_reducible refine g_bm0 ?_ | with_reducible refine g_m1 ?_ | with_reducible refine g_m0 ?_ | with_reducible refine g_tyS ?_ | with_reducible refine g_gsub ?_
  | with_reducible refine g_fld ?_ | with_reducible refine g_prop ?_ | with_reducible refine g_meth ?_ | with_reducible refine g_make ?_ | with_reducible refine g_star1 ?_ | with_reducible refine g_star ?_ | with_reducible refine g_sfld ?_
  | with_reducible refine g_forL ?_ | with_reducible refine g_forT ?_ | with_reducible refine g_forS ?_ | with_reducible refine g_forR1 ?_ | with_reducible refine g_forR2 ?_ | with_reducible refine g_forET ?_
  | with_reducible refine g_lcL ?_ | with_reducible refine g_lcT ?_ | with_reducible refine g_lcS ?_ | with_reducible refine g_lcR1 ?_ | with_reducible refine g_yes ?_ | with_reducible refine g_lcIfT ?_ | with_reducible refine g_lcIfF ?_
  | with_reducible refine g_isTT ?_ | with_reducible refine g_mkw ?_ | with_reducible refine g_lenSet ?_ | with_reducible refine g_mskw ?_
  | with_reducible refine g_gcons ?_ | with_reducible refine g_gnil ?_ | with_reducible refine g_sl ?_ | with_reducible refine g_noPart ?_ | with_reducible refine g_part ?_ | with_reducible refine g_partI ?_
  | with_reducible refine g_par ?_ | with_reducible refine g_par3 ?_ | ((with_reducible refine' n_par ?hv ?_); (case hv => (simp only [List.set]; rfl))) | ((with_reducible refine' n_par3 ?hv ?_); (case hv => (simp only [List.set]; rfl)))
  | ((with_reducible refine' g_aug ?hv ?_); (case hv => exact rfl)) | ((with_reducible refine' n_aug ?hv ?_); (case hv => (simp only [List.set]; rfl))) | with_reducible refine g_ipI ?_ | with_reducible refine g_rAdd ?_ | with_reducible refine g_rSub ?_ | with_reducible refine g_fldaug ?_
  | with_reducible refine g_ownIx ?_ | with_reducible refine g_callI ?_ | with_reducible refine g_listM ?_ | with_reducible refine g_fs ?_ | with_reducible refine g_fmt ?_ | with_reducible refine g_gthen ?_ | with_reducible refine g_gplain ?_ | with_reducible refine g_gif ?_ | with_reducible refine g_g0 ?_ | with_reducible refine g_gforR2 ?_
  | with_reducible refine g_dget ?_ | with_reducible refine g_dput ?_ | with_reducible refine g_neg ?_ | with_reducible refine g_abs ?_ | with_reducible refine g_min2 ?_ | with_reducible refine g_max2 ?_ | with_reducible refine g_int_i ?_ | with_reducible refine g_int_b ?_ | with_reducible refine g_in_sign ?_
  | ((with_reducible refine' g_mod ?hv ?_); (case hv => first | assumption | omega | decide)) | ((with_reducible refine' g_fdiv ?hv ?hw ?_); (case hv => first | assumption | omega | decide); (case hw => first | assumption | omega | decide))
  | ((with_reducible refine' g_mul ?hv ?_); (case hv => first | assumption | (unfold CMul; omega)))
  | ((with_reducible refine' g_ix_l ?hv ?hw ?_); (case hv => exact SqL.of (by walk_at "hp")); (case hw => first | exact atI_c0 | exact atI_c1 | exact atI_c2 | exact atI_c3))
  | ((with_reducible refine' g_tyL ?hv ?_); (case hv => exact SqL.of (by walk_at "hp")))
  | ((with_reducible refine' g_len_l ?hv ?_); (case hv => exact SqL.of (by walk_at "hp"))))
local macro_rules | `(tactic| walk_at "go") => `(tactic| repeat walk_at "go1")
section
variable {P : Program} {w : World} {K : PySem.W.Frag}
variable {mg : Str → Option Value} {base : Heap}
def top (i : Nat) : Stmt := PySem.Challenge.pw_harvestcarts_k55_whole_plans_shifted_and.main.body.getD i (.Pass ⟨0, 0, 0, 0⟩)
structure Md (K : PySem.W.Frag) (mg : Str → Option Value) : Prop where
  b : Bts mg
  g_LETTERS : GStr mg "LETTERS" "abcdefghijklmnopqrstuvwxyz"
  g_DIGITS : GStr mg "DIGITS" "0123456789"
  g_LEAD : GStr mg "LEAD" "lead"
  g_NOBODY : GStr mg "NOBODY" "-"
  g_MAX_LETTERS : GInt mg "MAX_LETTERS" 8
  g_MAX_DAY : GInt mg "MAX_DAY" 1000000000000000000
  g_MAX_DAYS : GInt mg "MAX_DAYS" 5000
  g_MAX_DIGITS : GInt mg "MAX_DIGITS" 4
abbrev FnD (K : PySem.W.Frag) (x q : Str) (st : Stmt) (f : Addr) (fd : FuncData) : Prop := FunD K x q (defArgs st) (defBody st) (defScope st) [] [] f fd
/-- a def of the module; a method; a property's getter -/
def Gd (K : PySem.W.Frag) (mg : Str → Option Value) (x : Str) (st : Stmt) : Prop := ∃ f fd, mg x = some (.ref f) ∧ FnD K x x st f fd
def Gm (K : PySem.W.Frag) (C : Addr) (m q : Str) (st : Stmt) : Prop := Cls K C ∧ ∃ f fd, Meth K C m f ∧ FnD K m q st f fd
def Gk (K : PySem.W.Frag) (mg : Str → Option Value) (x : Str) (C : Addr) (q : Str) (st : Stmt) : Prop := mg x = some (.ref C) ∧ ∃ f fd, Mk K C f ∧ FnD K "__init__" q st f fd
def Gp (K : PySem.W.Frag) (C : Addr) (f q : Str) (st : Stmt) : Prop := Cls K C ∧ ∃ p g fd, PropOf K C f p g ∧ FnD K f q st g fd
theorem def_mk {x : Str} {st : Stmt} {k : Nat} {sp : Sp} (G : Gd K mg x st) (h : ∀ f fd, FnD K x x st f fd → FnU P w K mg base k f sp) : DefR P w K mg base x k sp := by
  obtain ⟨f, fd, h1, h2⟩ := G
  exact ⟨f, h1, h2.kp, h f fd h2⟩
theorem meth_mk {C : Addr} {m q : Str} {st : Stmt} {k : Nat} {sp : Sp} (G : Gm K C m q st) (h : ∀ f fd, FnD K m q st f fd → FnR P w K mg base (CXW P w) k f sp) : MethR P w K mg base C m k sp := by
  obtain ⟨c, f, fd, h1, h2⟩ := G
  exact ⟨c, f, h1, h f fd h2⟩
theorem make_mk {x : Str} {C : Addr} {q : Str} {st : Stmt} {k : Nat} {sp : Sp} (G : Gk K mg x C q st) (h : ∀ f fd, FnD K "__init__" q st f fd → FnR P w K mg base (CXW P w) k f sp) : MakeR P w K mg base x C k sp := by
  obtain ⟨c, f, fd, h1, h2⟩ := G
  exact ⟨c, f, h1, h f fd h2⟩
theorem prop_mk {C : Addr} {f q : Str} {st : Stmt} {k : Nat} {sp : Sp} (G : Gp K C f q st) (h : ∀ g fd, FnD K f q st g fd → FnU P w K mg base k g sp) : PropR P w K mg base C f k sp := by
  obtain ⟨c, p, g, fd, h1, h2⟩ := G
  exact ⟨c, p, g, h1, h g fd h2⟩
/-- a class made by an __init__ with one keyword-only parameter -/
def GkK (K : PySem.W.Frag) (mg : Str → Option Value) (x : Str) (C : Addr) (q : Str) (st : Stmt) (kws : List (Str × V)) : Prop := mg x = some (.ref C) ∧ ∃ f fd, Mk K C f ∧ FunD K "__init__" q (defArgs st) (defBody st) (defScope st) [] kws f fd
theorem makeK_mk {x : Str} {C : Addr} {q kw : Str} {st : Stmt} {kws : List (Str × V)} {k : Nat} {sp : Sp} (G : GkK K mg x C q st kws) (h : ∀ f fd, FunD K "__init__" q (defArgs st) (defBody st) (defScope st) [] kws f fd → FnRK P w K mg base k f kw sp) : MakeRK P w K mg base x C k kw sp := by
  obtain ⟨c, f, fd, h1, h2⟩ := G
  exact ⟨c, f, h1, h f fd h2⟩
/-- a generator method -/
theorem methG_mk {C : Addr} {m q : Str} {st : Stmt} {k : Nat} {sp : SpG} (G : Gm K C m q st) (h : ∀ f fd, FnD K m q st f fd → ∃ ps, GFn P w K mg base k f fd ps sp ∧ Binds K fd ps []) : MethG P w K mg base C m k sp := by
  obtain ⟨c, f, fd, h1, h2⟩ := G
  obtain ⟨ps, h3, h4⟩ := h f fd h2
  exact ⟨c, f, fd, ps, h1, h3, h4⟩
/-- a def of K is a function there -/
theorem fi_of {C : Addr} {m q : Str} {st : Stmt} (G : Gm K C m q st) : ∀ f, Meth K C m f → PySem.W.fnIn K f = true := by
  obtain ⟨c, f, fd, h1, h2⟩ := G
  intro g hg
  have e : g = f := by
    have := hg.at_.symm.trans h1.at_
    simpa using this
  subst e
  obtain ⟨c1, c2, dv, kv, dc, pm, an, cdv, ct, sl, e, at_, _⟩ := h2.ex
  unfold PySem.W.fnIn
  rw [at_]
/-- tuples stand -/
def TK (K : PySem.W.Frag) (H H' : Hp) : Prop := ∀ a xs, SqT K H a xs → SqT K H' a xs
mutual
theorem dp_tk {H H' : Hp} (e : TK K H H') : ∀ (x : PyData) (v : V), noL x = true → Dp K H v x → Dp K H' v x
  | .none, _, _, .non => .non
  | .bool _, _, _, .bl b => .bl b
  | .int _, _, _, .int i => .int i
  | .str _, _, _, .str x => .str x
  | .list ds, _, n, .lst h a => by simp [noL] at n
  | .tuple ds, _, n, .tup h a => .tup (e _ _ h) (dpa_tk e ds _ (by simpa [noL] using n) a)
theorem dpa_tk {H H' : Hp} (e : TK K H H') : ∀ (xs : List PyData) (vs : List V), noLs xs = true → DpAll K H vs xs → DpAll K H' vs xs
  | [], _, _, .nil => .nil
  | x :: xs, _, n, .cons a b => by
    have n' : noL x = true ∧ noLs xs = true := by simpa [noLs] using n
    exact .cons (dp_tk e x _ n'.1 a) (dpa_tk e xs _ n'.2 b)
end
theorem Same.tk {H H' : Hp} (e : Same H H') : TK K H H' := fun _ _ h => same_t e h
theorem TK.trans {H H1 H2 : Hp} (a : TK K H H1) (b : TK K H1 H2) : TK K H H2 := fun c xs h => b c xs (a c xs h)
theorem keep_tk {H H' : Hp} {l : Addr} {ys : List V} (e : Keep l H H') (h : H l = some (.lst ys)) : TK K H H' := fun _ _ z => sqt_keep e h z
/-- all but the two addresses is as it was -/
def Keep2 (d l : Addr) (H H' : Hp) : Prop := ∀ b o, b ≠ d → b ≠ l → H b = some o → H' b = some o
/-- the source of draws at d, its cells at l -/
structure Src (K : PySem.W.Frag) (H : Hp) (d l : Addr) : Prop where
  ne : d ≠ l
  ex : ∃ (m i : Int) (ns : List Int), H d = some (.lst [.int m, .ref l, .int i]) ∧ H l = some (.lst (ns.map V.int)) ∧ 0 ≤ m ∧ m < 2147483647 ∧ 0 ≤ i ∧ ns.length ≤ 63
theorem Src.same {H H' : Hp} {d l : Addr} (e : Same H H') (h : Src K H d l) : Src K H' d l := by
  obtain ⟨ne, m, i, ns, h1, h2, h⟩ := h
  exact ⟨ne, m, i, ns, e _ _ h1, e _ _ h2, h⟩
/-- an address that was free while the source stood -/
structure Fr2 (d l p : Addr) : Prop where
  nd : p ≠ d
  nl : p ≠ l
theorem Src.fr {H : Hp} {d l p : Addr} (h : Src K H d l) (n : H p = none) : Fr2 d l p := by
  obtain ⟨ne, m, i, ns, h1, h2, h⟩ := h
  exact ⟨(ne_of_none h1 n).symm, (ne_of_none h2 n).symm⟩
theorem Src.keep {H H' : Hp} {d l p : Addr} (h : Src K H d l) (e : Keep p H H') (f : Fr2 d l p) : Src K H' d l := by
  obtain ⟨ne, m, i, ns, h1, h2, h⟩ := h
  exact ⟨ne, m, i, ns, e _ _ f.nd.symm h1, e _ _ f.nl.symm h2, h⟩
theorem Src.tk {H H' : Hp} {d l : Addr} (h : Src K H d l) (e : Keep2 d l H H') : TK K H H' := by
  obtain ⟨ne, m, i, ns, h1, h2, h⟩ := h
  intro a xs z
  refine z.imp (fun y => y.imp (fun q => e a _ (fun ad => ?_) (fun al => ?_) q) (fun ⟨o, q⟩ => ⟨o, e a _ (fun ad => ?_) (fun al => ?_) q⟩)) id
  · rw [ad, h1] at q; cases q
  · rw [al, h2] at q; cases q
  · rw [ad, h1] at q; cases q
  · rw [al, h2] at q; cases q
theorem Keep2.trans {d l : Addr} {H H1 H2 : Hp} (a : Keep2 d l H H1) (b : Keep2 d l H1 H2) : Keep2 d l H H2 := fun c o n1 n2 h => b c o n1 n2 (a c o n1 n2 h)
theorem Same.k2 {d l : Addr} {H H' : Hp} (e : Same H H') : Keep2 d l H H' := fun b o _ _ h => e b o h
theorem Keep2.refl (d l : Addr) (H : Hp) : Keep2 d l H H := fun _ _ _ _ h => h
/-- what stood before p was made stands when p changes -/
theorem Keep2.then {d l p : Addr} {H0 H H' : Hp} (a : Keep2 d l H0 H) (n : H0 p = none) (e : Keep p H H') : Keep2 d l H0 H' := fun b o n1 n2 h => e b o (ne_of_none h n) (a b o n1 n2 h)
theorem Keep2.free {d l p : Addr} {H0 H : Hp} (a : Keep2 d l H0 H) (f : Fr2 d l p) (n : H p = none) : H0 p = none := by
  cases e : H0 p with
  | none => rfl
  | some o =>
    have := a p o f.nd f.nl e
    rw [n] at this
    cases this

end
abbrev s_law_mix : Stmt := top 25
abbrev N_law_mix : List Str := ["_law_script", "_law_seed", "_law_state", "_law_cell"]
theorem sc_law_mix : FnScope N_law_mix ["_law_script", "_law_seed"] (defScope s_law_mix) := ⟨rfl, rfl, rfl, by decide +kernel, rfl, by decide +kernel, by decide +kernel⟩
abbrev s_law_next : Stmt := top 26
abbrev N_law_next : List Str := ["_law_h", "_law_limit", "_law_cell"]
theorem sc_law_next : FnScope N_law_next ["_law_h", "_law_limit"] (defScope s_law_next) := ⟨rfl, rfl, rfl, by decide +kernel, rfl, by decide +kernel, by decide +kernel⟩
section
variable {P : Program} {w : World} {K : PySem.W.Frag}
variable {mg : Str → Option Value} {base : Heap}
def sp_law_mix (K : PySem.W.Frag) : Sp := fun vs H Q _ => ∃ (a : Addr) (ns : List Int) (m : Int), vs = [.ref a, .int m] ∧ SqL K H a (ns.map V.int) ∧ ns.length ≤ 63 ∧ 0 ≤ m ∧ m < 2147483647 ∧ ∀ H' d l, Same H H' → H d = none → Src K H' d l → Q (.ref d) H'
theorem ok_law_mix (M : Md K mg) (G : Gd K mg "_law_mix" s_law_mix) : DefR P w K mg base "_law_mix" 2 (sp_law_mix K) := by
  refine def_mk G fun f fd F => fnr_mk (F.ok sc_law_mix ?_ (fun cdv A outer s H vs Q E hr h => ?_)) (F.bindsN (fun _ _ _ _ _ _ us hl => match us, hl with | [_, _], _ => rfl))
  · rintro vs H Q E ⟨a, ns, m, rfl, _⟩; rfl
  · obtain ⟨a, ns, m, rfl, hS, h63, m0, m1, k⟩ := h; have nd := sc_law_mix.nd
    refine ⟨_, PSs.nox (pss_cons (ps_set (i := 2) nd rfl (by first | exact Or.inl rfl | exact Or.inr rfl) (pv 1))
    (pss_cons (ps_for PassesOwn.never rfl (pi_listK K (pv 0)) (pg_name (i := 3) nd rfl (by first | exact Or.inl rfl | exact Or.inr rfl)) (pss_one (ps_set (i := 2) nd rfl (by first | exact Or.inl rfl | exact Or.inr rfl) (pe_op op_mod (pe_int1 M.b (pe_op (op_addK K) (pe_op (op_addK K) (pe_op op_mul (pv 2) pe_int) (pe_op op_mod (pe_int1 M.b (pv 3)) pe_int)) pe_int)) pe_int))))
    (pss_one (ps_ret (pe_lst (pa_cons (pv 2) (pa_cons (pe_listOf K M.b (pv 0)) (pa_cons pe_int pa_nil)))))))), ?_⟩
    show (_ : TS) _ [some (.ref a), some (.int m), none, none] H
    walk_at "go"
    refine n_forL hS (fun i σ H' => H' = H ∧ ∃ (y : Int) (c : Option V), σ = [some (.ref a), some (.int m), some (.int y), c] ∧ 0 ≤ y ∧ y < 2147483647) ⟨rfl, _, _, rfl, m0, m1⟩ (fun i σ H' ⟨e, _⟩ => e ▸ hS) ?_ ?_
    · rintro i x σ H' hx ⟨rfl, y, c, rfl, y0, y1⟩
      obtain ⟨z, hz, rfl⟩ : ∃ z, ns[i]? = some z ∧ V.int z = x := by simpa using hx
      walk_at "go"
      exact ⟨rfl, _, _, rfl, Int.emod_nonneg _ (by decide), Int.emod_lt_of_pos _ (by decide)⟩
    · rintro σ H' ⟨rfl, y, c, rfl, y0, y1⟩
      walk_at "go"
      refine g_listOf (.inl hS) fun l H1 nl s1 hl1 => ?_
      walk_at "go"
      refine n_lst (by simp [sizeLine_eq]) fun d H2 nd2 s2 hd => ?_
      exact k H2 d l (s1.trans s2) (s1.free nd2) ⟨(ne_of_none hl1 nd2).symm, y, 0, ns, hd, s2 _ _ hl1, y0, y1, by decide, h63⟩
def sp_law_next (K : PySem.W.Frag) : Sp := fun vs H Q _ => ∃ (d l : Addr) (n : Int), vs = [.ref d, .int n] ∧ Src K H d l ∧ 0 < n ∧ n < 1073741824 ∧ ∀ H' r, 0 ≤ r → r < n → Keep2 d l H H' → Src K H' d l → Q (.int r) H'
theorem ok_law_next (M : Md K mg) (G : Gd K mg "_law_next" s_law_next) : DefR P w K mg base "_law_next" 2 (sp_law_next K) := by
  refine def_mk G fun f fd F => fnr_mk (F.ok sc_law_next ?_ (fun cdv A outer s H vs Q E hr h => ?_)) (F.bindsN (fun _ _ _ _ _ _ us hl => match us, hl with | [_, _], _ => rfl))
  · rintro vs H Q E ⟨d, l, n, rfl, _⟩; rfl
  · obtain ⟨d, l, n, rfl, ⟨dl, m, i, ns, hd, hl, m0, m1, i0, h63⟩, n0, n1, k⟩ := h
    have nd := sc_law_next.nd
    refine ⟨_, PSs.nox (pss_cons (ps_set (i := 2) nd rfl (by first | exact Or.inl rfl | exact Or.inr rfl) (pe_ix (ix_K K) (pe_op (op_addK K) (pe_ix (ix_K K) (pv 0) pe_int (fun _ _ => rfl)) (pe_lst (pa_cons pe_int pa_nil))) (pe_op op_mod (pe_int1 M.b (pe_ix (ix_K K) (pv 0) pe_int (fun _ _ => rfl))) (pe_max2 M.b (pa_cons pe_int (pa_cons (pe_len K M.b (pe_ix (ix_K K) (pv 0) pe_int (fun _ _ => rfl))) pa_nil)))) (fun _ _ => rfl)))
    (pss_cons (ps_if (pt_cmpR op_ge (pv 2) (pe_op op_pow pe_int pe_int) (nomark _)) (pss_cons (ps_asg (pe_op op_fdiv (pv 2) (pv 1)) (pg_sub (pe_ix (ix_K K) (pv 0) pe_int (fun _ _ => rfl)) (pe_op op_mod (pe_int1 M.b (pe_ix (ix_K K) (pv 0) pe_int (fun _ _ => rfl))) (pe_len K M.b (pe_ix (ix_K K) (pv 0) pe_int (fun _ _ => rfl)))) set_list))
    (pss_one (ps_ret (pe_op op_mod (pe_int1 M.b (pv 2)) (pv 1))))) pss_nil)
    (pss_cons (ps_asg (pe_op op_mod (pe_int1 M.b (pe_op (op_addK K) (pe_op (op_addK K) (pe_op op_mul (pe_ix (ix_K K) (pv 0) pe_int (fun _ _ => rfl)) pe_int) (pe_op op_mul (pv 2) pe_int)) pe_int)) pe_int) (pg_sub (pv 0) pe_int set_list))
    (pss_cons (ps_asg (pe_op (op_addK K) (pe_ix (ix_K K) (pv 0) pe_int (fun _ _ => rfl)) pe_int) (pg_sub (pv 0) pe_int set_list))
    (pss_one (ps_ret (pe_op op_mod (pe_int1 M.b (pe_op op_fdiv (pe_ix (ix_K K) (pv 0) pe_int (fun _ _ => rfl)) pe_int)) (pv 1)))))))), ?_⟩
    show (_ : TS) _ [some (.ref d), some (.int n), none] H
    walk_at "go"
    refine n_lst (by simp [sizeLine_eq]) fun z H1 nz s1 hz => ?_
    have hd1 := s1 _ _ hd
    have hl1 := s1 _ _ hl
    refine g_add_l hl1 hz (by simp [sizeLine_eq]; omega) fun q H2 nq s2 hq => ?_
    have hd2 := s2 _ _ hd1
    have hl2 := s2 _ _ hl1
    walk_at "go"
    have mx : (0 : Int) < if ((ns.map V.int).length : Int) > 1 then ((ns.map V.int).length : Int) else 1 := by split <;> omega
    generalize hmx : (if ((ns.map V.int).length : Int) > 1 then ((ns.map V.int).length : Int) else 1) = mm at mx ⊢
    have hj0 := Int.emod_nonneg i (by omega : mm ≠ 0)
    have hj1 := Int.emod_lt_of_pos i mx
    have hmle : mm ≤ ns.length + 1 := by
      rw [← hmx, List.length_map]
      split <;> omega
    generalize i % mm = j at hj0 hj1 ⊢
    have hjl : j.toNat < (ns ++ [0]).length := by rw [List.length_append, List.length_singleton]; omega
    refine g_ix_l (v := .int (ns ++ [0])[j.toNat]) (SqL.of hq) (atI_i hj0 ?_) ?_
    · have e : ns.map V.int ++ [V.int 0] = (ns ++ [0]).map V.int := by simp
      rw [e, List.getElem?_map, List.getElem?_eq_getElem hjl]
      rfl
    have hc : j.toNat < ns.length ∨ (ns ++ [0])[j.toNat] = 0 := by
      by_cases z : j.toNat < ns.length
      · exact .inl z
      · refine .inr ?_
        rw [List.getElem_append_right (by omega)]
        simp
    generalize (ns ++ [0])[j.toNat] = cell at hc ⊢
    walk_at "go"
    refine g_pow (by unfold CPow; decide) ?_
    walk_at "go"
    refine if_D (fun e => ?_) (fun e => ?_)
    · have lt : j.toNat < ns.length := hc.resolve_right fun z => by rw [z] at e; exact absurd e (by decide)
      have ln : (0 : Int) < ((ns.map V.int).length : Int) := by rw [List.length_map]; omega
      walk_at "go"
      have r0 := Int.emod_nonneg i (by omega : ((ns.map V.int).length : Int) ≠ 0)
      have r1 := Int.emod_lt_of_pos i ln
      refine g_setL (j := (i % ((ns.map V.int).length : Int)).toNat) hl2 (ixN_i r0 r1) fun H3 k3 hl3 => ?_
      walk_at "go"
      refine k H3 _ (Int.emod_nonneg _ (by omega)) (Int.emod_lt_of_pos _ n0) (fun b o nb nl hb => k3 _ _ nl (s2 _ _ (s1 _ _ hb))) ⟨dl, m, i, ns.set (i % ((ns.map V.int).length : Int)).toNat (cell / n), k3 _ _ dl hd2, ?_, m0, m1, i0, by simpa using h63⟩
      rw [hl3, List.map_set]
    · walk_at "go"
      refine g_setL (j := 0) hd2 (ixN_i (by decide) (by simp)) fun H3 k3 hd3 => ?_
      have hd3' : H3 d = some (.lst [.int ((m * 48271 + cell * 69621 + 11) % 2147483647), .ref l, .int i]) := hd3
      walk_at "go"
      refine g_setL (j := 2) hd3' (ixN_i (by decide) (by simp)) fun H4 k4 hd4 => ?_
      have hd4' : H4 d = some (.lst [.int ((m * 48271 + cell * 69621 + 11) % 2147483647), .ref l, .int (i + 1)]) := hd4
      walk_at "go"
      exact k H4 _ (Int.emod_nonneg _ (by omega)) (Int.emod_lt_of_pos _ n0) (fun b o nb nl hb => k4 _ _ nb (k3 _ _ nb (s2 _ _ (s1 _ _ hb)))) ⟨dl, _, _, ns, hd4', k4 _ _ dl.symm (k3 _ _ dl.symm hl2), Int.emod_nonneg _ (by decide), Int.emod_lt_of_pos _ (by decide), by omega, h63⟩

end
section
variable {P : Program} {w : World} {K : PySem.W.Frag}
variable {mg : Str → Option Value} {base : Heap}
/-! ### plain mathematics of farms -/
abbrev pField (f : Str × Int) : PyData := .tuple [.str f.1, .int f.2]
def NmOk (z : Str) : Prop := 1 ≤ z.cps.toList.length ∧ z.cps.toList.length ≤ 8 ∧ ∀ c ∈ z.cps.toList, 97 ≤ c ∧ c ≤ 122
instance (z : Str) : Decidable (NmOk z) := by unfold NmOk; infer_instance
def prodL (l : List Int) : Int := l.foldl (· * ·) 1
theorem prodL_snoc (l : List Int) (x : Int) : prodL (l ++ [x]) = prodL l * x := by simp [prodL]
structure FOk (fs : List (Str × Int)) : Prop where
  one : 1 ≤ fs.length
  six : fs.length ≤ 6
  nd : (fs.map (·.1)).Nodup
  nm : ∀ f ∈ fs, NmOk f.1
  lo : ∀ f ∈ fs, 1 ≤ f.2 ∧ f.2 ≤ 30
  pr : prodL (fs.map (·.2)) ≤ 4000
theorem NmOk.str {z : Str} (h : NmOk z) : PyData.strOk z = true := by
  unfold PyData.strOk
  rw [← Array.all_toList]
  exact List.all_eq_true.mpr fun c hc => decide_eq_true (by have := (h.2.2 c hc).2; omega)
def six : List Str := ["a", "bo", "carl", "dora", "ella", "hannahhh"]
theorem six_nm : ∀ z ∈ six, NmOk z := by decide +kernel
theorem six_nd : six.Nodup := by decide +kernel
/-- the bytes of a farm -/
def lets (z : Str) : List Int := z.cps.toList.map fun (c : Nat) => ((c - 97 : Nat) : Int)
def encF (f : Str × Int) : List Int := [f.2, (f.1.cps.toList.length : Int)] ++ lets f.1
def bodyOf (fs : List (Str × Int)) : List Int := [72, (fs.length : Int)] ++ fs.flatMap encF
def cks (l : List Int) : Int := l.foldl (fun t v => (3 * t + v) % 233) 5
def bytesOf (fs : List (Str × Int)) : List Int := bodyOf fs ++ [cks (bodyOf fs)]
theorem cks_snoc (l : List Int) (x : Int) : cks (l ++ [x]) = (3 * cks l + x) % 233 := by simp [cks]
theorem cks_lo : ∀ l : List Int, 0 ≤ cks l ∧ cks l < 233 := fun l => by
  rcases List.eq_nil_or_concat l with rfl | ⟨r, x, rfl⟩
  · decide
  · rw [List.concat_eq_append, cks_snoc]; exact ⟨Int.emod_nonneg _ (by decide), Int.emod_lt_of_pos _ (by decide)⟩
def ALPH : Str := "abcdefghijklmnopqrstuvwxyz"
theorem alph_occ : ∀ k : Fin 26, Builtin.Str.occurrences ALPH ⟨#[97 + k.val]⟩ 0 ALPH.length 1 = [k.val] := by decide +kernel
theorem alph_ix {c : Nat} (h1 : 97 ≤ c) (h2 : c ≤ 122) : Builtin.Str.occurrences ALPH ⟨#[c]⟩ 0 ALPH.length 1 = [c - 97] := by
  have := alph_occ ⟨c - 97, by omega⟩
  simpa [show 97 + (c - 97) = c by omega] using this
theorem alph_mem {c : Nat} (h1 : 97 ≤ c) (h2 : c ≤ 122) : c ∈ ALPH.cps.toList := by
  have h : ∀ k : Fin 26, 97 + k.val ∈ ALPH.cps.toList := by decide +kernel
  have := h ⟨c - 97, by omega⟩
  simpa [show 97 + (c - 97) = c by omega] using this
theorem alph_at : ∀ k : Fin 26, ALPH.cps.toList[k.val]? = some (97 + k.val) := by decide +kernel
theorem noL_fields (fs : List (Str × Int)) : noLs (fs.map pField) = true := noLs_of fun d hd => by
  obtain ⟨f, _, rfl⟩ := List.mem_map.mp hd
  simp [pField, noL, noLs]
theorem sh_field {f : Str × Int} (h : NmOk f.1) : Sh 1 (pField f) := sh_t fun d hd => by
  have : d = .str f.1 ∨ d = .int f.2 := by simpa using hd
  rcases this with rfl | rfl
  · exact sh_s h.str
  · exact sh_i _
theorem sh_fields {fs : List (Str × Int)} (h : ∀ f ∈ fs, NmOk f.1) : Sh 2 (.tuple (fs.map pField)) := sh_t fun d hd => by
  obtain ⟨f, hf, rfl⟩ := List.mem_map.mp hd
  exact sh_field (h f hf)

end
abbrev s_is_name : Stmt := top 11
abbrev N_is_name : List Str := ["name", "letter"]
theorem sc_is_name : FnScope N_is_name ["name"] (defScope s_is_name) := ⟨rfl, rfl, rfl, by decide +kernel, rfl, by decide +kernel, by decide +kernel⟩
section
variable {P : Program} {w : World} {K : PySem.W.Frag}
variable {mg : Str → Option Value} {base : Heap}
theorem alph_iff (c : Nat) : c ∈ ALPH.cps.toList ↔ 97 ≤ c ∧ c ≤ 122 := by
  have e : ALPH.cps.toList = (List.range 26).map (fun k => 97 + k) := by decide +kernel
  rw [e, List.mem_map]; simp only [List.mem_range]
  constructor
  · rintro ⟨k, h, rfl⟩; omega
  · intro h; exact ⟨c - 97, by omega, by omega⟩
theorem inV_strs (z : Str) (zs : List Str) : inV (.str z) (zs.map V.str) = decide (z ∈ zs) := by
  unfold inV
  induction zs with
  | nil => rfl
  | cons a r ih =>
    rw [List.map_cons, List.any_cons, ih]
    have h1 : eqV (.str a) (.str z) = decide (a = z) := by
      show (a == z) = decide (a = z)
      exact Bool.beq_eq_decide_eq a z
    rw [h1]
    by_cases h : a = z
    · subst h; simp
    · have h' : ¬ z = a := fun q => h q.symm
      simp [h, h']
theorem flat_strs (zs : List Str) : (zs.map V.str).all flatV = true := by
  rw [List.all_eq_true]; intro x hx; obtain ⟨z, _, rfl⟩ := List.mem_map.mp hx; rfl
def sp_is_name : Sp := fun vs H Q _ => ∃ z : Str, vs = [.str z] ∧ z.length ≤ sizeLine ∧ ∀ H', Same H H' → Q (.bl (decide (NmOk z))) H'
theorem ok_is_name (M : Md K mg) (G : Gd K mg "is_name" s_is_name) : DefR P w K mg base "is_name" 2 sp_is_name := by
  refine def_mk G fun f fd F => fnr_mk (F.ok sc_is_name ?_ (fun cdv A outer s H vs Q E hr h => ?_)) (F.bindsN (fun _ _ _ _ _ _ us hl => match us, hl with | [_], _ => rfl))
  · rintro vs H Q E ⟨z, rfl, _⟩; rfl
  · obtain ⟨z, rfl, hz, k⟩ := h
    have nd := sc_is_name.nd
    have ez : z.length = z.cps.toList.length := by unfold Str.length; simp
    refine ⟨_, PSs.nox (pss_one (ps_ret (pe_and (pe_chain op_le op_le pe_int (pe_len K M.b (pv 0)) (pe_gi M.g_MAX_LETTERS)) (pe_one (pe_all K M.b (pe_lc (own := [("letter", 1)]) (g := (gName 1)) (tt := tYes) rfl nd (pi_str (pv 0)) (blkOk_by (N := N_is_name) (sc := defScope s_is_name) (by decide +kernel)) (fun _ _ _ _ _ => (pg_name (i := 1) nd rfl (by first | exact Or.inl rfl | exact Or.inr rfl))) (fun _ _ _ _ _ => pts_nil) (fun _ _ _ _ _ => (pe_cmpR (op_inK K hr) (pv 1) (pe_gs M.g_LETTERS) rfl)))))))), ?_⟩
    show (_ : TS) _ [some (.str z), none] H
    walk_at "go"
    refine g_len_s hz ?_
    walk_at "go"
    refine g_ch (fun h1 => ?_) (fun h1 => ?_)
    · walk_at "go"
      refine if_D (fun h2 => ?_) (fun h2 => ?_)
      · walk_at "go"
        have h1' : (1 : Int) ≤ z.length := of_decide_eq_true h1
        have b8 : z.cps.size ≤ 8 := by have := ez; simp [Str.length] at h2 this ⊢; omega
        refine n_lcS (lc_map (walk_str (z := z)) (fun j => .bl (decide (z.cps.toList.getD j 0 ∈ ALPH.cps.toList))) (fun _ _ => trivial) ?_ ?_)
        · rintro C j x H5 H6 nC hj s5 hC ⟨e, c, hc, ex⟩
          subst e ex
          walk_at "go"
          refine ⟨rfl, ?_⟩
          walk_at "go"
          exact n_mapK nC s5 hC (by rw [getD_of (cps_get hc)]; rfl) (by omega)
        · intro C H5 nC s5 hC
          have e1 : (List.range z.cps.size).map (fun j => V.bl (decide (z.cps.toList.getD j 0 ∈ ALPH.cps.toList))) = (z.cps.toList.map fun c => decide (c ∈ ALPH.cps.toList)).map V.bl := by
            rw [← Array.length_toList, range_getD z.cps.toList 0 fun c => V.bl (decide (c ∈ ALPH.cps.toList))]
            simp [Function.comp_def]
          rw [e1] at hC
          walk_at "go"
          refine g_all (SqL.of hC) ?_
          have e2 : (z.cps.toList.map fun c => decide (c ∈ ALPH.cps.toList)).all id = decide (NmOk z) := by
            rw [Bool.eq_iff_iff, decide_eq_true_eq, List.all_map, List.all_eq_true]
            unfold NmOk
            constructor
            · intro h
              refine ⟨by rw [← ez]; omega, by rw [← ez]; omega, fun c hc => (alph_iff c).mp ?_⟩
              have := h c hc
              simpa using this
            · intro h c hc
              have := (alph_iff c).mpr (h.2.2 c hc)
              simpa using this
          rw [e2]
          exact k H5 s5
      · have e2 : decide (NmOk z) = false := decide_eq_false fun h => h2 (by rw [ez]; have := h.2.1; omega)
        have := k H (Same.refl H)
        rw [e2] at this
        exact this
    · have h1' : ¬ (1 : Int) ≤ z.length := of_decide_eq_false h1
      have e2 : decide (NmOk z) = false := decide_eq_false fun h => h1' (by rw [ez]; have := h.1; omega)
      walk_at "go"
      refine if_F rfl ?_
      have := k H (Same.refl H)
      rw [e2] at this
      exact this

end
abbrev s_Plan___init__ : Stmt := inClass (top 14) 0
abbrev N_Plan___init__ : List Str := ["self", "lead", "days", "index", "day"]
theorem sc_Plan___init__ : FnScope N_Plan___init__ ["self", "lead", "days"] (defScope s_Plan___init__) := ⟨rfl, rfl, rfl, by decide +kernel, rfl, by decide +kernel, by decide +kernel⟩
abbrev s_Plan_days : Stmt := inClass (top 14) 1
abbrev N_Plan_days : List Str := ["self"]
theorem sc_Plan_days : FnScope N_Plan_days ["self"] (defScope s_Plan_days) := ⟨rfl, rfl, rfl, by decide +kernel, rfl, by decide +kernel, by decide +kernel⟩
abbrev s_Plan_lead : Stmt := inClass (top 14) 2
abbrev N_Plan_lead : List Str := ["self"]
theorem sc_Plan_lead : FnScope N_Plan_lead ["self"] (defScope s_Plan_lead) := ⟨rfl, rfl, rfl, by decide +kernel, rfl, by decide +kernel, by decide +kernel⟩
abbrev s_Plan___len__ : Stmt := inClass (top 14) 4
abbrev N_Plan___len__ : List Str := ["self"]
theorem sc_Plan___len__ : FnScope N_Plan___len__ ["self"] (defScope s_Plan___len__) := ⟨rfl, rfl, rfl, by decide +kernel, rfl, by decide +kernel, by decide +kernel⟩
abbrev s_place_of : Stmt := top 15
abbrev N_place_of : List Str := ["days", "lead", "day"]
theorem sc_place_of : FnScope N_place_of ["days", "lead", "day"] (defScope s_place_of) := ⟨rfl, rfl, rfl, by decide +kernel, rfl, by decide +kernel, by decide +kernel⟩
section
variable {P : Program} {w : World} {K : PySem.W.Frag}
variable {mg : Str → Option Value} {base : Heap}
structure PlanC (K : PySem.W.Frag) (CP : Addr) : Prop where
  cl : Cls K CP
  parts : NoAttr K CP "parts"
  begin_ : NoAttr K CP "begin"
abbrev pDay (zs : List Str) : PyData := .tuple (zs.map .str)
def planFs (t : Addr) (b : Int) : List (Str × V) := [("parts", .ref t), ("begin", .int b)]
def PlanAt (K : PySem.W.Frag) (CP : Addr) (H : Hp) (p : Addr) (ds : List (List Str)) (b : Int) : Prop := ∃ dx t, H p = some (.ins CP dx (planFs t b)) ∧ Dp K H (.ref t) (.tuple (ds.map pDay))
/-- days that a plan takes -/
structure DOk (ds : List (List Str)) (b : Int) : Prop where
  one : 1 ≤ ds.length
  few : ds.length ≤ 100
  nd : ∀ d ∈ ds, d.Nodup
  le : ∀ d ∈ ds, d.length ≤ 8
  b0 : 0 ≤ b
  b1 : b < ds.length
theorem strs_of {H : Hp} : ∀ {ys : List V} {zs : List Str}, DpAll K H ys (zs.map PyData.str) → ys = zs.map V.str
  | _, [], h => h.inv0
  | _, z :: zs, h => by
    obtain ⟨v, r, rfl, h1, h2⟩ := h.inv1
    rw [h1.inv_s, strs_of h2]
    rfl
theorem plan_ne : (("parts" : Str) = ("begin" : Str)) = False := by
  apply eq_false
  decide +kernel
theorem plan_put (t : Addr) (b : Int) : putF "begin" (.int b) [(("parts" : Str), V.ref t)] = planFs t b := by
  show (if ("parts" : Str) = "begin" then _ else (("parts" : Str), V.ref t) :: putF "begin" (.int b) []) = planFs t b
  rw [if_neg (by rw [plan_ne]; exact id)]
  rfl
theorem plan_parts (t : Addr) (b : Int) : (planFs t b).lookup ("parts" : Str) = some (V.ref t) := rfl
theorem plan_begin (t : Addr) (b : Int) : (planFs t b).lookup ("begin" : Str) = some (V.int b) := by
  have h : (("begin" : Str) == ("parts" : Str)) = false := by decide +kernel
  simp [planFs, List.lookup, h]
def sp_plan_init0 (K : PySem.W.Frag) (CP : Addr) : Sp := fun vs H Q _ => ∃ (x dx t : Addr) (ds : List (List Str)) (b : Int), vs = [.ref x, .int b, .ref t] ∧ H x = some (.ins CP dx []) ∧ Dp K H (.ref t) (.tuple (ds.map pDay)) ∧ DOk ds b ∧
  ∀ H', Keep x H H' → H' x = some (.ins CP dx (planFs t b)) → Q .non H'
def sp_plan_init (K : PySem.W.Frag) (CP : Addr) : Sp := fun vs H Q E => ∃ z w0 rest, vs = z :: w0 :: rest ∧ rest.length ≤ sizeLine ∧ ∀ p, H p = none → sp_plan_init0 K CP [w0, z, V.ref p] (upd H p (.tup rest)) Q E
theorem plan_owes {f : Addr} (M : Md K mg) (C : PlanC K CP) (cdv : Value) : Owes P w K mg base N_Plan___init__ "Plan.__init__" (defScope s_Plan___init__) (defBody s_Plan___init__) 3 f (sp_plan_init0 K CP) cdv := by
  intro A outer s H vs Q E hr h
  obtain ⟨x, dx, t, ds, b, rfl, hx, hv, ok, k⟩ := h
  obtain ⟨t', xs, e, hS, hX⟩ := hv.inv_t
  cases e
  have hxl : xs.length = ds.length := by rw [hX.length]; simp
  have nd := sc_Plan___init__.nd
  refine ⟨_, PSs.nox (pss_cons (ps_for PassesOwn.never rfl (pi_enumTK K rfl M.b.enumerate (pa_cons (pv 2) pa_nil)) (pg_tupK K rfl (pgs_cons (pg_name (i := 3) nd rfl (by first | exact Or.inl rfl | exact Or.inr rfl)) (pgs_cons (pg_name (i := 4) nd rfl (by first | exact Or.inl rfl | exact Or.inr rfl)) pgs_nil))) (pss_one (ps_if (PW.pt (pw_or (pt_cmpR (op_eqK K hr) (pv 3) (pe_gi M.g_MAX_DAYS) (nomark _)) (pw_or1 (pt_cmpR op_lt (as_lenSet K (pe_lenSet rfl rfl M.b.len rfl M.b.set (pv 4))) (pe_len K M.b (pv 4)) (nomark _))))) (pss_one ps_never) pss_nil)))
    (pss_cons (ps_if (pt_not (pt_chain op_le op_lt pe_int (pv 1) (pe_len K M.b (pv 2)))) (pss_one ps_never) pss_nil)
    (pss_cons (ps_fldK K (pv 0) (pv 2)) (pss_one (ps_fldK K (pv 0) (pv 1)))))), ?_⟩
  show (_ : TS) _ [some (.ref x), some (.int b), some (.ref t), none, none] H
  walk_at "go"
  refine n_forET hS (fun i σ H' => ∃ u1 u2 : Option V, σ = [some (.ref x), some (.int b), some (.ref t), u1, u2] ∧ Same H H') ⟨_, _, rfl, Same.refl _⟩ (fun i σ H' ⟨_, _, _, s2⟩ => same_t s2 hS) ?_ ?_
  · rintro i y T σ H2 H3 hy ⟨u1, u2, rfl, s2⟩ nT s3 hT
    obtain ⟨dd, hd, hDx⟩ := hX.get hy
    obtain ⟨zs, hzs, rfl⟩ := getm hd
    have zm : zs ∈ ds := List.mem_of_getElem? hzs
    have sA := s2.trans s3
    obtain ⟨t2, ys, rfl, hT2, hY⟩ := (sA.dp hDx).inv_t
    have ey : ys = zs.map V.str := strs_of hY
    subst ey
    refine g_gtup (SqT.of hT) rfl ?_
    walk_at "go"
    refine if_D (fun e => absurd e (by have := (List.getElem?_eq_some_iff.mp hy).1; have := ok.few; omega)) (fun _ => ?_)
    walk_at "go"
    refine n_lenSet hT2 (ok.nd zs zm) (Nat.le_trans (ok.le zs zm) (by decide)) ?_
    walk_at "go"
    refine g_len_t hT2 ?_
    walk_at "go"
    refine if_F (by simp) ?_
    walk_at "go"
    exact ⟨_, _, rfl, sA⟩
  · rintro σ H2 ⟨u1, u2, rfl, s2⟩
    walk_at "go"
    refine g_ch (fun _ => ?_) (fun e => absurd ok.b0 (of_decide_eq_false e))
    walk_at "go"
    refine g_len_t (same_t s2 hS) ?_
    walk_at "go"
    refine if_F (by rw [hxl, decide_eq_true ok.b1]; rfl) ?_
    walk_at "go"
    refine n_sfld (s2 _ _ hx) C.cl C.parts (by show 0 < 1000; decide) fun H3 k3 h3 => ?_
    walk_at "go"
    refine n_sfld h3 C.cl C.begin_ (by show 1 < 1000; decide) fun H4 k4 h4 => ?_
    refine k H4 (fun c o nb hb => k4 _ _ nb (k3 _ _ nb (s2 _ _ hb))) ?_
    rw [h4]; exact congrArg (fun z => some (HO.ins CP dx z)) (plan_put t b)
theorem ok_plan_init (M : Md K mg) (C : PlanC K CP) (G : GkK K mg "Plan" CP "Plan.__init__" s_Plan___init__ kws) : MakeRK P w K mg base "Plan" CP 4 "lead" (sp_plan_init K CP) :=
  makeK_mk G fun f fd F => fnk_star1 F sc_Plan___init__ (fun _ _ _ _ _ _ _ _ => rfl) (fun _ _ _ _ _ _ _ _ _ _ => rfl) fun cdv => plan_owes M C cdv
def sp_plan_days (CP : Addr) : Sp := fun vs H Q _ => ∃ (p dx t : Addr) (b : Int), vs = [.ref p] ∧ H p = some (.ins CP dx (planFs t b)) ∧ Q (.ref t) H
theorem ok_plan_days (C : PlanC K CP) (G : Gp K CP "days" "Plan.days" s_Plan_days) : PropR P w K mg base CP "days" 2 (sp_plan_days CP) := by
  refine prop_mk G fun f fd F => fnr_mk (F.ok sc_Plan_days ?_ (fun cdv A outer s H vs Q E hr h => ?_)) (F.bindsN (fun _ _ _ _ _ _ us hl => match us, hl with | [_], _ => rfl))
  · rintro vs H Q E ⟨z, _, _, _, rfl, _⟩; rfl
  · obtain ⟨p, dx, t, b, rfl, hp, k⟩ := h
    have nd := sc_Plan_days.nd
    refine ⟨_, PSs.nox (pss_one (ps_ret (pe_fldK K (pv 0)))), ?_⟩
    show (_ : TS) _ [some (.ref p)] H
    walk_at "go"
    exact n_fld hp C.cl C.parts (plan_parts t b) k
def sp_plan_lead (CP : Addr) : Sp := fun vs H Q _ => ∃ (p dx t : Addr) (b : Int), vs = [.ref p] ∧ H p = some (.ins CP dx (planFs t b)) ∧ Q (.int b) H
theorem ok_plan_lead (C : PlanC K CP) (G : Gp K CP "lead" "Plan.lead" s_Plan_lead) : PropR P w K mg base CP "lead" 2 (sp_plan_lead CP) := by
  refine prop_mk G fun f fd F => fnr_mk (F.ok sc_Plan_lead ?_ (fun cdv A outer s H vs Q E hr h => ?_)) (F.bindsN (fun _ _ _ _ _ _ us hl => match us, hl with | [_], _ => rfl))
  · rintro vs H Q E ⟨z, _, _, _, rfl, _⟩; rfl
  · obtain ⟨p, dx, t, b, rfl, hp, k⟩ := h
    have nd := sc_Plan_lead.nd
    refine ⟨_, PSs.nox (pss_one (ps_ret (pe_fldK K (pv 0)))), ?_⟩
    show (_ : TS) _ [some (.ref p)] H
    walk_at "go"
    exact n_fld hp C.cl C.begin_ (plan_begin t b) k
def sp_plan_len (K : PySem.W.Frag) (CP : Addr) : Sp := fun vs H Q _ => ∃ (p : Addr) (ds : List (List Str)) (b : Int), vs = [.ref p] ∧ PlanAt K CP H p ds b ∧ Q (.int ds.length) H
theorem ok_plan_len (M : Md K mg) (C : PlanC K CP) (G : Gm K CP "__len__" "Plan.__len__" s_Plan___len__) : MethR P w K mg base CP "__len__" 2 (sp_plan_len K CP) := by
  refine meth_mk G fun f fd F => FnU.raw <| fnr_mk (F.ok sc_Plan___len__ ?_ (fun cdv A outer s H vs Q E hr h => ?_)) (F.bindsN (fun _ _ _ _ _ _ us hl => match us, hl with | [_], _ => rfl))
  · rintro vs H Q E ⟨z, _, _, rfl, _⟩; rfl
  · obtain ⟨p, ds, b, rfl, ⟨dx, t, hp, hv⟩, k⟩ := h
    have nd := sc_Plan___len__.nd
    obtain ⟨t', xs, e, hS, hX⟩ := hv.inv_t
    cases e
    have hxl : xs.length = ds.length := by rw [hX.length]; simp
    refine ⟨_, PSs.nox (pss_one (ps_ret (pe_len K M.b (pe_fldK K (pv 0))))), ?_⟩
    show (_ : TS) _ [some (.ref p)] H
    walk_at "go"
    refine n_fld hp C.cl C.parts (plan_parts t b) ?_
    refine g_len_t hS ?_
    rw [hxl]
    exact k
/-- the place of a day -/
def plc (n : Nat) (b d : Int) : Int := if d < n then d else b + (d - b) % (n - b)
def sp_place_of (K : PySem.W.Frag) : Sp := fun vs H Q _ => ∃ (t : Addr) (xs : List V) (b d : Int), vs = [.ref t, .int b, .int d] ∧ SqT K H t xs ∧ b < xs.length ∧ Q (.int (plc xs.length b d)) H
theorem ok_place_of (M : Md K mg) (G : Gd K mg "place_of" s_place_of) : DefR P w K mg base "place_of" 2 (sp_place_of K) := by
  refine def_mk G fun f fd F => fnr_mk (F.ok sc_place_of ?_ (fun cdv A outer s H vs Q E hr h => ?_)) (F.bindsN (fun _ _ _ _ _ _ us hl => match us, hl with | [_, _, _], _ => rfl))
  · rintro vs H Q E ⟨t, xs, b, d, rfl, _⟩; rfl
  · obtain ⟨t, xs, b, d, rfl, hS, hb, k⟩ := h
    have nd := sc_place_of.nd
    refine ⟨_, PSs.nox (pss_cons (ps_if (pt_cmpR op_lt (pv 2) (pe_len K M.b (pv 0)) (nomark _)) (pss_one (ps_ret (pv 2))) pss_nil)
    (pss_one (ps_ret (pe_op (op_addK K) (pv 1) (pe_op op_mod (pe_int1 M.b (pe_op op_sub (pv 2) (pv 1))) (pe_op op_sub (pe_len K M.b (pv 0)) (pv 1))))))), ?_⟩
    show (_ : TS) _ [some (.ref t), some (.int b), some (.int d)] H
    walk_at "go"
    refine g_len_t hS ?_
    walk_at "go"
    refine if_D (fun e => ?_) (fun e => ?_)
    · walk_at "go"
      rw [plc, if_pos e] at k
      exact k
    · walk_at "go"
      refine g_len_t hS ?_
      walk_at "go"
      rw [plc, if_neg e] at k
      exact k

end
section
variable {P : Program} {w : World} {K : PySem.W.Frag}
variable {mg : Str → Option Value} {base : Heap}
/-! ### days of a plan, by their places -/
def dayOf (ds : List (List Str)) (b : Int) (d : Nat) : List Str := ds.getD (plc ds.length b d).toNat []
theorem plc_lt {n : Nat} {b : Int} (d : Nat) (b0 : 0 ≤ b) (b1 : b < n) : 0 ≤ plc n b d ∧ plc n b d < n := by
  unfold plc
  split
  · omega
  · have h1 := Int.emod_nonneg (d - b) (by omega : (n : Int) - b ≠ 0)
    have h2 := Int.emod_lt_of_pos (d - b) (by omega : (0 : Int) < n - b)
    omega
theorem plc_next {n : Nat} {b : Int} (d : Nat) (b0 : 0 ≤ b) (b1 : b < n) : plc n b ((d + 1 : Nat) : Int) = if plc n b d + 1 < n then plc n b d + 1 else b := by
  unfold plc
  by_cases h : ((d + 1 : Nat) : Int) < n
  · rw [if_pos h, if_pos (by omega : (d : Int) < n), if_pos (by omega)]
    omega
  · rw [if_neg h]
    have hp : (0 : Int) < n - b := by omega
    by_cases h2 : (d : Int) < n
    · rw [if_pos h2, if_neg (by omega)]
      have e : ((d + 1 : Nat) : Int) - b = n - b := by omega
      rw [e, Int.emod_self]
      omega
    · rw [if_neg h2]
      have e : ((d + 1 : Nat) : Int) - b = (d - b) + 1 := by omega
      rw [e, Int.add_emod]
      have h3 := Int.emod_nonneg (d - b) (by omega : (n : Int) - b ≠ 0)
      have h4 := Int.emod_lt_of_pos (d - b) hp
      generalize (d - b) % (n - b) = r at *
      by_cases h5 : (n : Int) - b = 1
      · have r0 : r = 0 := by omega
        rw [h5, Int.emod_one, if_neg (by omega), Int.add_zero]
      · have e1 : (1 : Int) % (n - b) = 1 := Int.emod_eq_of_lt (by omega) (by omega)
        rw [e1]
        by_cases h6 : r + 1 < n - b
        · rw [Int.emod_eq_of_lt (by omega) h6, if_pos (by omega)]
          omega
        · have : r + 1 = n - b := by omega
          rw [this, Int.emod_self, if_neg (by omega)]
          omega
section
variable {ds : List (List Str)} {b : Int}
theorem plc_per {n : Nat} {p d : Nat} (b0 : 0 ≤ b) (b1 : b < n) (hp : (p : Int) = n - b) (hd : (n : Int) ≤ d) : plc n b ((d + p : Nat) : Int) = plc n b d := by
  unfold plc
  rw [if_neg (by omega : ¬ ((d + p : Nat) : Int) < n), if_neg (by omega : ¬ (d : Int) < n)]
  have e : ((d + p : Nat) : Int) - b = (d - b) + (n - b) := by omega
  rw [e, Int.add_emod_right]
theorem day_per {p d : Nat} (b0 : 0 ≤ b) (b1 : b < ds.length) (hp : (p : Int) = ds.length - b) (hd : ds.length ≤ d) : dayOf ds b (d + p) = dayOf ds b d := by
  unfold dayOf
  rw [plc_per b0 b1 hp (by omega)]
end

end
section
variable {P : Program} {w : World} {K : PySem.W.Frag}
variable {mg : Str → Option Value} {base : Heap}
theorem PlanAt.same {H H' : Hp} {p : Addr} {ds : List (List Str)} {b : Int} (e : Same H H') (h : PlanAt K CP H p ds b) : PlanAt K CP H' p ds b := let ⟨dx, t, h1, h2⟩ := h; ⟨dx, t, e _ _ h1, e.dp h2⟩
theorem noL_days (ds : List (List Str)) : noLs (ds.map pDay) = true := noLs_of fun d hd => by
  obtain ⟨zs, _, rfl⟩ := List.mem_map.mp hd
  show noLs (zs.map PyData.str) = true
  exact noLs_of fun e he => by
    obtain ⟨z, _, rfl⟩ := List.mem_map.mp he
    rfl
/-- Plan( .., lead=b): a new plan of these days -/
theorem n_plan {H : Hp} {Q : VK} {E : XK} {xs : List V} {ds : List (List Str)} {b : Int} (hX : DpAll K H xs (ds.map pDay)) (ok : DOk ds b) (h : ∀ H' p, Same H H' → H p = none → PlanAt K CP H' p ds b → Q (.ref p) H') : KwMk CP (sp_plan_init K CP) E Q xs [.int b] H := by
  have hl : xs.length ≤ 100 := by rw [hX.length]; simpa using ok.few
  refine n_kwmk fun fx fdx H8 nfx nfdx nefx s8 hfx hfdx => ?_
  refine ⟨.int b, .ref fx, xs, rfl, by rw [sizeLine_eq]; omega, fun t ht => ?_⟩
  have st := same_new (o := .tup xs) ht
  have hT : Dp K (upd H8 t (.tup xs)) (.ref t) (.tuple (ds.map pDay)) := dp_tup upd_same (st.dpa (s8.dpa hX))
  refine ⟨fx, fdx, t, ds, b, rfl, st _ _ hfx, hT, ok, fun H9 k9 h9 => ⟨rfl, ?_⟩⟩
  exact h H9 fx (fun c o hb => k9 _ _ (ne_of_none hb nfx) (st _ _ (s8 _ _ hb))) nfx ⟨fdx, t, h9, dp_keep k9 (notT_i (st _ _ hfx)) _ _ (by show noLs _ = true; exact noL_days ds) hT⟩
theorem sh_days {ds : List (List Str)} (h : ∀ d ∈ ds, ∀ z ∈ d, NmOk z) : Sh 2 (.tuple (ds.map pDay)) := sh_t fun d hd => by
  obtain ⟨zs, hz, rfl⟩ := List.mem_map.mp hd
  exact sh_t fun e he => by
    obtain ⟨z, hz', rfl⟩ := List.mem_map.mp he
    exact sh_s (h zs hz z hz').str

end
abbrev s_validate_number : Stmt := top 10
abbrev N_validate_number : List Str := ["number", "smallest", "largest"]
theorem sc_validate_number : FnScope N_validate_number ["number", "smallest", "largest"] (defScope s_validate_number) := ⟨rfl, rfl, rfl, by decide +kernel, rfl, by decide +kernel, by decide +kernel⟩
section
variable {P : Program} {w : World} {K : PySem.W.Frag}
variable {mg : Str → Option Value} {base : Heap}
def sp_valid : Sp := fun vs H Q _ => ∃ n a b : Int, vs = [.int n, .int a, .int b] ∧ a ≤ n ∧ n ≤ b ∧ Q .non H
theorem ok_valid (M : Md K mg) (G : Gd K mg "validate_number" s_validate_number) : DefR P w K mg base "validate_number" 2 sp_valid := by
  refine def_mk G fun f fd F => fnr_mk (F.ok sc_validate_number ?_ (fun cdv A outer s H vs Q E hr h => ?_)) (F.bindsN (fun _ _ _ _ _ _ us hl => match us, hl with | [_, _, _], _ => rfl))
  · rintro vs H Q E ⟨n, a, b, rfl, _⟩; rfl
  · obtain ⟨n, a, b, rfl, h1, h2, k⟩ := h
    have nd := sc_validate_number.nd
    refine ⟨_, PSs.nox (pss_one (ps_if (pt_not (pt_chain op_le op_le (pv 1) (pv 0) (pv 2))) (pss_one ps_never) pss_nil)), ?_⟩
    show (_ : TS) _ [some (.int n), some (.int a), some (.int b)] H
    walk_at "go"
    refine g_ch (fun _ => ?_) (fun e => absurd h1 (of_decide_eq_false e))
    walk_at "go"
    refine if_F (by rw [decide_eq_true h2]; rfl) ?_
    exact k

end
abbrev s_Plan___getitem__ : Stmt := inClass (top 14) 5
abbrev N_Plan___getitem__ : List Str := ["self", "day"]
theorem sc_Plan___getitem__ : FnScope N_Plan___getitem__ ["self", "day"] (defScope s_Plan___getitem__) := ⟨rfl, rfl, rfl, by decide +kernel, rfl, by decide +kernel, by decide +kernel⟩
abbrev s_Plan___eq__ : Stmt := inClass (top 14) 7
abbrev N_Plan___eq__ : List Str := ["self", "other"]
theorem sc_Plan___eq__ : FnScope N_Plan___eq__ ["self", "other"] (defScope s_Plan___eq__) := ⟨rfl, rfl, rfl, by decide +kernel, rfl, by decide +kernel, by decide +kernel⟩
abbrev s_Plan___call__ : Stmt := inClass (top 14) 9
abbrev N_Plan___call__ : List Str := ["self", "name", "day", "later"]
theorem sc_Plan___call__ : FnScope N_Plan___call__ ["self", "name", "day"] (defScope s_Plan___call__) := ⟨rfl, rfl, rfl, by decide +kernel, rfl, by decide +kernel, by decide +kernel⟩
abbrev s_Plan_harvests : Stmt := inClass (top 14) 10
abbrev N_Plan_harvests : List Str := ["self", "name", "first", "last", "day"]
theorem sc_Plan_harvests : GScope N_Plan_harvests ["self", "name", "first", "last"] (defScope s_Plan_harvests) := ⟨rfl, rfl, rfl, by decide +kernel, rfl, by decide +kernel, by decide +kernel⟩
section
variable {P : Program} {w : World} {K : PySem.W.Frag}
variable {mg : Str → Option Value} {base : Heap}
/-- what isinstance(x, C) asks of the class at C -/
structure KitIs (K : PySem.W.Frag) (C : Addr) : Prop where
  cl : Cls K C
  at_ : PySem.W.findIn K (.ref C) "__class__" = some (some (.builtin "object.__class__"))
  get : PySem.W.specialIn K (.builtin "object.__class__") "__get__" = some (some (.builtin "getset_descriptor.__get__"))
  tk : PySem.W.takesIn K (.builtin "object.__class__") = some true
  obj : PySem.W.mroIn K C (.type "object") = some true
  one : PySem.W.kitOne K (.ref C) (.ref C) = some true
def kitIsB (K : PySem.W.Frag) (C : Addr) : Bool := decide (PySem.W.findIn K (.ref C) "__class__" = some (some (.builtin "object.__class__"))) && (decide (PySem.W.specialIn K (.builtin "object.__class__") "__get__" = some (some (.builtin "getset_descriptor.__get__"))) && (decide (PySem.W.takesIn K (.builtin "object.__class__") = some true) && (decide (PySem.W.mroIn K C (.type "object") = some true) && decide (PySem.W.kitOne K (.ref C) (.ref C) = some true))))
theorem kitIsB_ok {K : PySem.W.Frag} {C : Addr} (c : Cls K C) (h : kitIsB K C = true) : KitIs K C := by
  simp only [kitIsB, Bool.and_eq_true, decide_eq_true_eq] at h
  exact ⟨c, h.1, h.2.1, h.2.2.1, h.2.2.2.1, h.2.2.2.2⟩
theorem g_isiC {H : Hp} {Q : VK} {a C dx : Addr} {fs : List (Str × V)} (k : KitIs K C) (h : H a = some (.ins C dx fs)) (q : Q (.bl true) H) : rIsi K [.ref a, .ref C] H Q := ⟨_, _, .ref C, .ref C, true, rfl, .own C, .base (.ins h k.cl k.at_ k.get k.tk k.obj), k.one, q⟩
abbrev BIG : Int := 1000000000000000000
def inDay (ds : List (List Str)) (b : Int) (z : Str) (d : Nat) : Bool := decide (z ∈ dayOf ds b d)
theorem plan_day {H : Hp} {t : Addr} {ys : List V} {ds : List (List Str)} {b : Int} (d : Nat) (dok : DOk ds b) (hU : SqT K H t ys) (hY : DpAll K H ys (ds.map pDay)) : ∃ y t2, ys[(plc ds.length b d).toNat]? = some y ∧ y = .ref t2 ∧ SqT K H t2 ((dayOf ds b d).map V.str) := by
  have pb := plc_lt (n := ds.length) d dok.b0 dok.b1
  have hyl : ys.length = ds.length := by rw [hY.length]; simp
  obtain ⟨y, hy⟩ : ∃ y, ys[(plc ds.length b d).toNat]? = some y := ⟨_, List.getElem?_eq_getElem (by omega)⟩
  obtain ⟨dd, hdd, hDy⟩ := hY.get hy
  obtain ⟨zs, hzs, rfl⟩ := getm hdd
  have hz : dayOf ds b d = zs := by simp [dayOf, List.getD, hzs]
  obtain ⟨t2, ws, rfl, hT2, hW⟩ := hDy.inv_t
  have ew : ws = zs.map V.str := strs_of hW
  subst ew
  exact ⟨_, t2, hy, rfl, by rw [hz]; exact hT2⟩
def sp_plan_getitem (K : PySem.W.Frag) (CP : Addr) : Sp := fun vs H Q _ => ∃ (p : Addr) (ds : List (List Str)) (b : Int) (d : Nat), vs = [.ref p, .int d] ∧ PlanAt K CP H p ds b ∧ DOk ds b ∧ (d : Int) ≤ BIG ∧ ∀ t, SqT K H t ((dayOf ds b d).map V.str) → Q (.ref t) H
theorem ok_plan_getitem (M : Md K mg) (C : PlanC K CP) (G : Gm K CP "__getitem__" "Plan.__getitem__" s_Plan___getitem__) (D_validate_number : DefR P w K mg base "validate_number" 2 sp_valid) (D_place_of : DefR P w K mg base "place_of" 2 (sp_place_of K)) : MethR P w K mg base CP "__getitem__" 4 (sp_plan_getitem K CP) := by
  refine meth_mk G fun f fd F => FnU.raw (fnr_mk (F.ok sc_Plan___getitem__ ?_ (fun cdv A outer s H vs Q E hr h => ?_)) (F.bindsN (fun _ _ _ _ _ _ us hl => match us, hl with | [_, _], _ => rfl)))
  · rintro vs H Q E ⟨p, ds, b, d, rfl, _⟩; rfl
  · obtain ⟨p, ds, b, d, rfl, ⟨dx, t, hp, hv⟩, dok, dle, k⟩ := h
    have nd := sc_Plan___getitem__.nd
    obtain ⟨t', ys, e, hU, hY⟩ := hv.inv_t
    cases e
    have hyl : ys.length = ds.length := by rw [hY.length]; simp
    obtain ⟨y, t2, hy, rfl, hT2⟩ := plan_day d dok hU hY
    have pb := plc_lt (n := ds.length) d dok.b0 dok.b1
    refine ⟨_, PSs.nox (pss_cons (ps_expr (pe_callR D_validate_number (hr.mono (by first | decide | omega)) passN (pa_cons (pv 1) (pa_cons pe_int (pa_cons (pe_gi M.g_MAX_DAY) pa_nil)))))
    (pss_one (ps_ret (pe_ix (ix_K K) (pe_fldK K (pv 0)) (pe_callR D_place_of (hr.mono (by first | decide | omega)) passN (pa_cons (pe_fldK K (pv 0)) (pa_cons (pe_fldK K (pv 0)) (pa_cons (pv 1) pa_nil)))) (fun _ _ => rfl))))), ?_⟩
    show (_ : TS) _ [some (.ref p), some (.int d)] H
    walk_at "go"
    refine ⟨d, 0, BIG, rfl, by omega, dle, ?_⟩
    walk_at "go"
    refine n_fld hp C.cl C.parts (plan_parts t b) ?_
    walk_at "go"
    refine n_fld hp C.cl C.parts (plan_parts t b) ?_
    walk_at "go"
    refine n_fld hp C.cl C.begin_ (plan_begin t b) ?_
    walk_at "go"
    refine ⟨t, ys, b, d, rfl, hU, by rw [hyl]; exact dok.b1, ?_⟩
    rw [hyl]
    exact g_ix_t hU (atI_i pb.1 hy) (k t2 hT2)
/-- equal plans -/
def sp_plan_eq (K : PySem.W.Frag) (CP : Addr) : Sp := fun vs H Q _ => ∃ (p q : Addr) (ds : List (List Str)) (b : Int), vs = [.ref p, .ref q] ∧ PlanAt K CP H p ds b ∧ PlanAt K CP H q ds b ∧ (∀ d ∈ ds, ∀ z ∈ d, NmOk z) ∧ Q (.bl true) H
theorem ok_plan_eq (M : Md K mg) (C : PlanC K CP) (c_Plan : mg "Plan" = some (.ref CP)) (self : KitIs K CP) (G : Gm K CP "__eq__" "Plan.__eq__" s_Plan___eq__) : MethR P w K mg base CP "__eq__" 2 (sp_plan_eq K CP) := by
  refine meth_mk G fun f fd F => FnU.raw (fnr_mk (F.ok sc_Plan___eq__ ?_ (fun cdv A outer s H vs Q E hr h => ?_)) (F.bindsN (fun _ _ _ _ _ _ us hl => match us, hl with | [_, _], _ => rfl)))
  · rintro vs H Q E ⟨p, q, ds, b, rfl, _⟩; rfl
  · obtain ⟨p, q, ds, b, rfl, ⟨dx, t, hp, hv⟩, ⟨dy, u, hq, hw⟩, nm, k⟩ := h
    have nd := sc_Plan___eq__.nd
    refine ⟨_, PSs.nox (pss_one (ps_ret (pe_and (pe_isiC K M.b c_Plan (pv 1)) (pe_and (pe_cmpR (op_eqK K hr) (pe_fldK K (pv 0)) (pe_fldK K (pv 1)) (nomark _)) (pe_one (pe_cmpR (op_eqK K hr) (pe_fldK K (pv 0)) (pe_fldK K (pv 1)) (nomark _))))))), ?_⟩
    show (_ : TS) _ [some (.ref p), some (.ref q)] H
    walk_at "go"
    refine g_isiC self hq ?_
    walk_at "go"
    refine if_T rfl ?_
    walk_at "go"
    refine n_fld hp C.cl C.parts (plan_parts t b) ?_
    walk_at "go"
    refine n_fld hq C.cl C.parts (plan_parts u b) ?_
    refine g_eq_d (.tuple (ds.map pDay)) (.tuple (ds.map pDay)) hv hw ((sh_days nm).ok (by decide)) ((sh_days nm).ok (by decide)) ?_
    rw [eqv_refl (sh_days nm)]
    walk_at "go"
    refine if_T rfl ?_
    walk_at "go"
    refine n_fld hp C.cl C.begin_ (plan_begin t b) ?_
    walk_at "go"
    refine n_fld hq C.cl C.begin_ (plan_begin u b) ?_
    walk_at "go"
    rw [decide_eq_true rfl]
    exact k
/-- plan(name, day): the first of the next days that has the name -/
def sp_plan_call (K : PySem.W.Frag) (CP : Addr) : Sp := fun vs H Q _ => ∃ (p : Addr) (z : Str) (d : Nat) (ds : List (List Str)) (b : Int), vs = [.ref p, .str z, .int d] ∧ PlanAt K CP H p ds b ∧ DOk ds b ∧ (d : Int) ≤ BIG ∧
  (∀ k, k < ds.length → inDay ds b z (d + k) = true → (∀ j, j < k → inDay ds b z (d + j) = false) → Q (.int ((d + k : Nat) : Int)) H) ∧ ((∀ k, k < ds.length → inDay ds b z (d + k) = false) → Q .non H)
theorem ok_plan_call (M : Md K mg) (C : PlanC K CP) (G : Gm K CP "__call__" "Plan.__call__" s_Plan___call__) (D_validate_number : DefR P w K mg base "validate_number" 2 sp_valid) (D_place_of : DefR P w K mg base "place_of" 2 (sp_place_of K)) : MethR P w K mg base CP "__call__" 4 (sp_plan_call K CP) := by
  refine meth_mk G fun f fd F => FnU.raw (fnr_mk (F.ok sc_Plan___call__ ?_ (fun cdv A outer s H vs Q E hr h => ?_)) (F.bindsN (fun _ _ _ _ _ _ us hl => match us, hl with | [_, _, _], _ => rfl)))
  · rintro vs H Q E ⟨p, z, d, ds, b, rfl, _⟩; rfl
  · obtain ⟨p, z, d, ds, b, rfl, ⟨dx, t, hp, hv⟩, dok, dle, ky, kn⟩ := h
    have nd := sc_Plan___call__.nd
    have hB : BIG = 1000000000000000000 := rfl
    obtain ⟨t', ys, e, hU, hY⟩ := hv.inv_t
    cases e
    have hyl : ys.length = ds.length := by rw [hY.length]; simp
    have hfew := dok.few
    refine ⟨_, PSs.nox (pss_cons (ps_expr (pe_callR D_validate_number (hr.mono (by first | decide | omega)) passN (pa_cons (pv 2) (pa_cons pe_int (pa_cons (pe_gi M.g_MAX_DAY) pa_nil)))))
    (pss_cons (ps_for PassesOwn.never rfl (pi_range2 rfl M.b.range (pa_cons (pv 2) (pa_cons (pe_op (op_addK K) (pv 2) (pe_len K M.b (pe_fldK K (pv 0)))) pa_nil))) (pg_name (i := 3) nd rfl (by first | exact Or.inl rfl | exact Or.inr rfl)) (pss_one (ps_if (pt_cmpR (op_inK K hr) (pv 1) (pe_ix (ix_K K) (pe_fldK K (pv 0)) (pe_callR D_place_of (hr.mono (by first | decide | omega)) passN (pa_cons (pe_fldK K (pv 0)) (pa_cons (pe_fldK K (pv 0)) (pa_cons (pv 3) pa_nil)))) (fun _ _ => rfl)) rfl) (pss_one (ps_ret (pv 3))) pss_nil))) (pss_one (ps_ret pe_non)))), ?_⟩
    show (_ : TS) _ [some (.ref p), some (.str z), some (.int d), none] H
    walk_at "go"
    refine ⟨d, 0, BIG, rfl, by omega, dle, ?_⟩
    walk_at "go"
    refine n_fld hp C.cl C.parts (plan_parts t b) ?_
    walk_at "go"
    refine g_len_t hU ?_
    walk_at "go"
    rw [hyl]
    refine n_forR2 (by omega) (by omega) (by omega) (by omega) (fun i σ H' => H' = H ∧ ∃ u3 : Option V, σ = [some (.ref p), some (.str z), some (.int d), u3] ∧ ∀ j, j < i → inDay ds b z (d + j) = false) ⟨rfl, _, rfl, fun j hj => absurd hj (Nat.not_lt_zero j)⟩ ?_ ?_
    · rintro i σ H' hi ⟨rfl, u3, rfl, no⟩
      have hid : (d : Int) + i = ((d + i : Nat) : Int) := by omega
      rw [hid]
      obtain ⟨y, t2, hy, rfl, hT2⟩ := plan_day (d + i) dok hU hY
      have pb := plc_lt (n := ds.length) (d + i) dok.b0 dok.b1
      walk_at "go"
      refine n_fld hp C.cl C.parts (plan_parts t b) ?_
      walk_at "go"
      refine n_fld hp C.cl C.parts (plan_parts t b) ?_
      walk_at "go"
      refine n_fld hp C.cl C.begin_ (plan_begin t b) ?_
      walk_at "go"
      refine ⟨t, ys, b, _, rfl, hU, by rw [hyl]; exact dok.b1, ?_⟩
      rw [hyl]
      refine g_ix_t hU (atI_i pb.1 hy) ?_
      refine g_in_seq (.inr hT2) rfl (flat_strs _) ?_
      rw [inV_strs]
      walk_at "go"
      refine if_D (fun e => ?_) (fun e => ?_)
      · walk_at "go"
        exact ky i (by omega) (decide_eq_true e) no
      · walk_at "go"
        refine ⟨rfl, _, rfl, fun j hj => ?_⟩
        by_cases q : j = i
        · rw [q]; exact decide_eq_false e
        · exact no j (by omega)
    · rintro σ H' ⟨rfl, u3, rfl, no⟩
      walk_at "go"
      exact kn fun k hk => no k (by omega)
/-- the days from one on, so many, that have the name -/
def hits (ds : List (List Str)) (b : Int) (z : Str) (d n : Nat) : List Nat := ((List.range n).filter fun k => inDay ds b z (d + k)).map fun k => d + k
theorem hits_T {ds : List (List Str)} {b : Int} {z : Str} {d n : Nat} (h : inDay ds b z (d + n) = true) : hits ds b z d (n + 1) = hits ds b z d n ++ [d + n] := by
  simp [hits, List.range_succ, List.filter_append, h]
theorem hits_F {ds : List (List Str)} {b : Int} {z : Str} {d n : Nat} (h : inDay ds b z (d + n) = false) : hits ds b z d (n + 1) = hits ds b z d n := by
  simp [hits, List.range_succ, List.filter_append, h]
theorem hits_le (ds : List (List Str)) (b : Int) (z : Str) (d n : Nat) : (hits ds b z d n).length ≤ n := by
  rw [hits, List.length_map]
  exact Nat.le_trans (List.length_filter_le _ _) (by rw [List.length_range]; exact Nat.le_refl _)
abbrev natV (k : Nat) : V := .int (k : Int)
def sp_plan_harvests (K : PySem.W.Frag) (CP : Addr) : SpG := fun vs H Q _ => ∃ (p : Addr) (z : Str) (d n : Nat) (ds : List (List Str)) (b : Int), vs = [.ref p, .str z, .int d, .int ((d + n : Nat) : Int)] ∧ PlanAt K CP H p ds b ∧ DOk ds b ∧ ((d + n : Nat) : Int) ≤ BIG ∧ n ≤ 9999 ∧ Q ((hits ds b z d (n + 1)).map natV) H
theorem ok_plan_harvests (M : Md K mg) (C : PlanC K CP) (G : Gm K CP "harvests" "Plan.harvests" s_Plan_harvests) (D_validate_number : DefR P w K mg base "validate_number" 2 sp_valid) (D_place_of : DefR P w K mg base "place_of" 2 (sp_place_of K)) : MethG P w K mg base CP "harvests" 4 (sp_plan_harvests K CP) := by
  refine methG_mk G fun f fd F => ⟨_, gfn_body F sc_Plan_harvests ?_ (fun cdv A outer s H vs Q E pn hr h => ?_), F.bindsN (fun _ _ _ _ _ _ us hl => match us, hl with | [_, _, _, _], _ => rfl)⟩
  · rintro vs H Q E ⟨p, z, d, n, ds, b, rfl, _⟩; rfl
  · obtain ⟨p, z, d, n, ds, b, rfl, ⟨dx, t, hp, hv⟩, dok, dle, nle, k⟩ := h
    have nd := sc_Plan_harvests.nd
    have hB : BIG = 1000000000000000000 := rfl
    obtain ⟨t', ys, e, hU, hY⟩ := hv.inv_t
    cases e
    have hyl : ys.length = ds.length := by rw [hY.length]; simp
    refine ⟨_, (gss_cons (gs_ps (ps_expr (pe_callR D_validate_number (hr.mono (by first | decide | omega)) passN (pa_cons (pv 2) (pa_cons pe_int (pa_cons (pe_gi M.g_MAX_DAY) pa_nil)))))) (gss_cons (gs_ps (ps_expr (pe_callR D_validate_number (hr.mono (by first | decide | omega)) passN (pa_cons (pv 3) (pa_cons (pv 2) (pa_cons (pe_min2 M.b (pa_cons (pe_gi M.g_MAX_DAY) (pa_cons (pe_op (op_addK K) (pv 2) pe_int) pa_nil))) pa_nil)))))) (gss_cons (gs_for owns_gcx rfl (pi_range2 rfl M.b.range (pa_cons (pv 2) (pa_cons (pe_op (op_addK K) (pv 3) pe_int) pa_nil))) (pg_name (i := 4) nd rfl (by first | exact Or.inl rfl | exact Or.inr rfl)) (gss_cons (gs_if (pt_cmpR (op_inK K hr) (pv 1) (pe_ix (ix_K K) (pe_fldK K (pv 0)) (pe_callR D_place_of (hr.mono (by first | decide | omega)) passN (pa_cons (pe_fldK K (pv 0)) (pa_cons (pe_fldK K (pv 0)) (pa_cons (pv 4) pa_nil)))) (fun _ _ => rfl)) rfl) (gss_cons (gs_yield (pv 4)) gss_nil) gss_nil) gss_nil)) gss_nil))), ?_⟩
    show (_ : TGn) _ _ [some (.ref p), some (.str z), some (.int d), some (.int ((d + n : Nat) : Int)), none] H
    walk_at "go"
    refine ⟨d, 0, BIG, rfl, by omega, by omega, ?_⟩
    walk_at "go"
    refine ⟨((d + n : Nat) : Int), d, _, rfl, by omega, by split <;> omega, ?_⟩
    walk_at "go"
    refine n_gforR2 (by omega) (by omega) (by omega) (by omega) (fun i out σ H' => H' = H ∧ ∃ u4 : Option V, σ = [some (.ref p), some (.str z), some (.int d), some (.int ((d + n : Nat) : Int)), u4] ∧ out = (hits ds b z d i).map natV) ⟨rfl, _, rfl, rfl⟩ ?_ ?_
    · rintro i out σ H' hi ⟨rfl, u4, rfl, rfl⟩
      have hid : (d : Int) + i = ((d + i : Nat) : Int) := by omega
      rw [hid]
      obtain ⟨y, t2, hy, rfl, hT2⟩ := plan_day (d + i) dok hU hY
      have pb := plc_lt (n := ds.length) (d + i) dok.b0 dok.b1
      walk_at "go"
      refine n_fld hp C.cl C.parts (plan_parts t b) ?_
      walk_at "go"
      refine n_fld hp C.cl C.parts (plan_parts t b) ?_
      walk_at "go"
      refine n_fld hp C.cl C.begin_ (plan_begin t b) ?_
      walk_at "go"
      refine ⟨t, ys, b, _, rfl, hU, by rw [hyl]; exact dok.b1, ?_⟩
      rw [hyl]
      refine g_ix_t hU (atI_i pb.1 hy) ?_
      refine g_in_seq (.inr hT2) rfl (flat_strs _) ?_
      rw [inV_strs]
      walk_at "go"
      refine if_D (fun e => ?_) (fun e => ?_)
      · walk_at "go"
        refine n_yield (by have := hits_le ds b z d i; rw [sizeLine_eq, List.length_map]; omega) ?_
        walk_at "go"
        refine ⟨rfl, _, rfl, ?_⟩
        rw [hits_T (decide_eq_true e), List.map_append]
        rfl
      · walk_at "go"
        refine ⟨rfl, _, rfl, ?_⟩
        rw [hits_F (decide_eq_false e)]
    · rintro out σ H' ⟨rfl, u4, rfl, rfl⟩
      walk_at "go"
      have e : (((d + n : Nat) : Int) + 1 - d).toNat = n + 1 := by omega
      rw [e]
      exact k

end
abbrev s_Plan___rshift__ : Stmt := inClass (top 14) 8
abbrev N_Plan___rshift__ : List Str := ["self", "count", "place", "later", "rest", "days"]
theorem sc_Plan___rshift__ : FnScope N_Plan___rshift__ ["self", "count"] (defScope s_Plan___rshift__) := ⟨rfl, rfl, rfl, by decide +kernel, rfl, by decide +kernel, by decide +kernel⟩
section
variable {P : Program} {w : World} {K : PySem.W.Frag}
variable {mg : Str → Option Value} {base : Heap}
/-! ### a plan that begins later -/
theorem plc_nat {n : Nat} {b : Int} (d : Nat) (b0 : 0 ≤ b) (b1 : b < n) : (plc n b d).toNat = if d < b.toNat then d else b.toNat + (d - b.toNat) % (n - b.toNat) := by
  obtain ⟨B, rfl⟩ : ∃ B : Nat, b = (B : Int) := ⟨b.toNat, by omega⟩
  rw [Int.toNat_natCast]
  unfold plc
  by_cases h : (d : Int) < n
  · rw [if_pos h]
    by_cases h2 : d < B
    · rw [if_pos h2]; omega
    · rw [if_neg h2, Nat.mod_eq_of_lt (by omega)]; omega
  · rw [if_neg h, if_neg (show ¬ _ by omega)]
    have e1 : (d : Int) - B = ((d - B : Nat) : Int) := by omega
    have e2 : (n : Int) - B = ((n - B : Nat) : Int) := by omega
    rw [e1, e2, ← Int.natCast_emod]
    omega
def rot (C : List (List Str)) (q : Nat) : List (List Str) := C.drop q ++ C.take q
theorem rot_len (C : List (List Str)) (q : Nat) (h : q ≤ C.length) : (rot C q).length = C.length := by
  simp only [rot, List.length_append, List.length_drop, List.length_take]; omega
theorem rot_get {C : List (List Str)} {q i : Nat} (hq : q < C.length) (hi : i < C.length) : (rot C q)[i]? = C[(q + i) % C.length]? := by
  unfold rot
  by_cases h : i < C.length - q
  · rw [List.getElem?_append_left (by simpa using h), List.getElem?_drop, Nat.mod_eq_of_lt (by omega)]
  · rw [List.getElem?_append_right (by simp; omega), List.getElem?_take_of_lt (by simp; omega), List.length_drop]
    have e : (q + i) % C.length = i - (C.length - q) := by
      rw [Nat.mod_eq_sub_mod (by omega)]; rw [Nat.mod_eq_of_lt (by omega)]; omega
    rw [e]
theorem rot_rot {C : List (List Str)} {q r : Nat} (hq : q < C.length) (hr : r < C.length) : rot (rot C q) r = rot C ((q + r) % C.length) := by
  have hm := Nat.mod_lt (q + r) (show 0 < C.length by omega)
  have l1 := rot_len C q (by omega)
  apply List.ext_getElem?
  intro i
  by_cases hi : i < C.length
  · rw [rot_get (by omega) (by omega), l1, rot_get hq (Nat.mod_lt _ (by omega)), rot_get hm hi]
    congr 1
    rw [Nat.add_mod_mod, Nat.mod_add_mod, Nat.add_assoc]
  · rw [List.getElem?_eq_none_iff.mpr, List.getElem?_eq_none_iff.mpr]
    · rw [rot_len C _ (by omega)]; omega
    · rw [rot_len _ _ (by omega)]; omega
def shD (ds : List (List Str)) (b : Int) (n : Nat) : List (List Str) := if n < b.toNat then ds.drop n else rot (ds.drop b.toNat) ((n - b.toNat) % (ds.length - b.toNat))
def shB (b : Int) (n : Nat) : Int := if n < b.toNat then b - n else 0
section
variable {ds : List (List Str)} {b : Int}
theorem shD_len (n : Nat) (b0 : 0 ≤ b) (b1 : b < ds.length) : (shD ds b n).length = ds.length - min n b.toNat := by
  unfold shD
  split
  · rw [List.length_drop]; omega
  · have := Nat.mod_lt (n - b.toNat) (show 0 < ds.length - b.toNat by omega)
    rw [rot_len _ _ (by rw [List.length_drop]; omega), List.length_drop]; omega
theorem shB_ok (n : Nat) (b0 : 0 ≤ b) (b1 : b < ds.length) : 0 ≤ shB b n ∧ shB b n < (shD ds b n).length := by
  rw [shD_len n b0 b1]
  unfold shB
  split <;> omega
theorem sh_day (n k : Nat) (b0 : 0 ≤ b) (b1 : b < ds.length) : dayOf (shD ds b n) (shB b n) k = dayOf ds b (n + k) := by
  have ok := shB_ok (ds := ds) n b0 b1
  have hl := shD_len n b0 b1
  unfold dayOf
  rw [plc_nat k ok.1 ok.2, plc_nat (n + k) b0 b1, hl]
  unfold shB shD
  by_cases h : n < b.toNat
  · rw [if_pos h, if_pos h]
    have e1 : (b - (n : Int)).toNat = b.toNat - n := by omega
    have e2 : min n b.toNat = n := by omega
    rw [e1, e2]
    have g : ∀ i, (ds.drop n).getD i [] = ds.getD (n + i) [] := fun i => by simp [List.getD, List.getElem?_drop]
    rw [g]
    congr 1
    by_cases h2 : n + k < b.toNat
    · rw [if_pos h2, if_pos (by omega)]
    · rw [if_neg h2, if_neg (by omega)]
      have e3 : k - (b.toNat - n) = n + k - b.toNat := by omega
      have e4 : ds.length - n - (b.toNat - n) = ds.length - b.toNat := by omega
      rw [e3, e4]; omega
  · rw [if_neg h, if_neg h, if_neg (by omega : ¬ n + k < b.toNat)]
    have e2 : min n b.toNat = b.toNat := by omega
    rw [e2]
    have hp : 0 < ds.length - b.toNat := by omega
    simp only [Int.toNat_zero, Nat.not_lt_zero, if_false, Nat.zero_add, Nat.sub_zero]
    generalize hpp : ds.length - b.toNat = pr at hp
    have cl : (ds.drop b.toNat).length = pr := by rw [List.length_drop]; exact hpp
    have m1 := Nat.mod_lt (n - b.toNat) hp
    have m2 := Nat.mod_lt k hp
    have e5 : (rot (ds.drop b.toNat) ((n - b.toNat) % pr)).getD (k % pr) [] = (ds.drop b.toNat).getD (((n - b.toNat) % pr + k % pr) % pr) [] := by
      simp only [List.getD]
      rw [rot_get (by omega) (by omega), cl]
    rw [e5]
    have e6 : ((n - b.toNat) % pr + k % pr) % pr = (n + k - b.toNat) % pr := by
      rw [← Nat.add_mod]
      congr 1
      omega
    rw [e6]
    simp [List.getD, List.getElem?_drop]
theorem sh_sh (n m : Nat) (b0 : 0 ≤ b) (b1 : b < ds.length) : shD (shD ds b n) (shB b n) m = shD ds b (n + m) ∧ shB (shB b n) m = shB b (n + m) := by
  have hl := shD_len n b0 b1
  by_cases h : n < b.toNat
  · have e0 : shB b n = b - n := by unfold shB; rw [if_pos h]
    have e1 : shD ds b n = ds.drop n := by unfold shD; rw [if_pos h]
    have e2 : (b - (n : Int)).toNat = b.toNat - n := by omega
    rw [e0, e1]
    unfold shD shB
    rw [e2]
    by_cases h2 : n + m < b.toNat
    · rw [if_pos (by omega), if_pos h2, if_pos (by omega), if_pos h2, List.drop_drop]
      exact ⟨rfl, by omega⟩
    · rw [if_neg (by omega), if_neg h2, if_neg (by omega), if_neg h2, List.drop_drop, List.length_drop]
      refine ⟨?_, rfl⟩
      have e3 : n + (b.toNat - n) = b.toNat := by omega
      have e4 : m - (b.toNat - n) = n + m - b.toNat := by omega
      have e5 : ds.length - n - (b.toNat - n) = ds.length - b.toNat := by omega
      rw [e3, e4, e5]
  · have e0 : shB b n = 0 := by unfold shB; rw [if_neg h]
    have e1 : shD ds b n = rot (ds.drop b.toNat) ((n - b.toNat) % (ds.length - b.toNat)) := by unfold shD; rw [if_neg h]
    have hp : 0 < ds.length - b.toNat := by omega
    have cl : (ds.drop b.toNat).length = ds.length - b.toNat := List.length_drop
    have m1 := Nat.mod_lt (n - b.toNat) hp
    have m2 := Nat.mod_lt m hp
    have l1 := rot_len (ds.drop b.toNat) ((n - b.toNat) % (ds.length - b.toNat)) (by omega)
    rw [e0, e1]
    unfold shD shB
    have z1 : ¬ m < Int.toNat 0 := by simp
    have z2 : ¬ n + m < b.toNat := by omega
    rw [if_neg z1, if_neg z2, if_neg z1, if_neg z2]
    refine ⟨?_, rfl⟩
    simp only [Int.toNat_zero, List.drop_zero, Nat.sub_zero]
    rw [l1, cl, rot_rot (by omega) (by omega), cl]
    congr 1
    rw [← Nat.add_mod]
    congr 1
    omega
theorem sh_zero (b0 : 0 ≤ b) (b1 : b < ds.length) : shD ds b 0 = ds ∧ shB b 0 = b := by
  unfold shD shB
  by_cases h : 0 < b.toNat
  · rw [if_pos h, if_pos h]; exact ⟨by simp, by omega⟩
  · rw [if_neg h, if_neg h]
    have e : b.toNat = 0 := by omega
    rw [e]
    exact ⟨by simp [rot], by omega⟩
theorem sh_mem {n : Nat} {d : List Str} (h : d ∈ shD ds b n) : d ∈ ds := by
  unfold shD at h
  split at h
  · exact List.mem_of_mem_drop h
  · unfold rot at h
    rcases List.mem_append.mp h with hd | ht
    · exact List.mem_of_mem_drop (List.mem_of_mem_drop hd)
    · exact List.mem_of_mem_drop (List.mem_of_mem_take ht)
theorem DOk.shift (dok : DOk ds b) (n : Nat) : DOk (shD ds b n) (shB b n) := by
  have hl := shD_len n dok.b0 dok.b1
  have ok := shB_ok (ds := ds) n dok.b0 dok.b1
  have h1 := dok.b1
  have h2 := dok.few
  exact ⟨by omega, by omega, fun d hd => dok.nd d (sh_mem hd), fun d hd => dok.le d (sh_mem hd), ok.1, ok.2⟩
end
theorem cutV_mid (xs : List V) {i j : Nat} (h1 : i ≤ j) (h2 : j ≤ xs.length) : cutV xs (some (i : Int)) (some (j : Int)) = (xs.drop i).take (j - i) := by
  unfold cutV
  rw [HT.sIx_nat, HT.sIx_nat, Nat.min_eq_left h2, Nat.min_eq_left (by omega)]
/-- Plan( *days): a new plan of these days, the lead 0 -/
def sp_plan_new (K : PySem.W.Frag) (CP : Addr) : Sp := fun vs H Q E => ∃ w0 rest, vs = w0 :: rest ∧ rest.length ≤ sizeLine ∧ ∀ p, H p = none → sp_plan_init0 K CP [w0, .int 0, V.ref p] (upd H p (.tup rest)) Q E
theorem ok_plan_new (M : Md K mg) (C : PlanC K CP) (G : GkK K mg "Plan" CP "Plan.__init__" s_Plan___init__ [("lead", .int 0)]) : MakeR P w K mg base "Plan" CP 4 (sp_plan_new K CP) := by
  obtain ⟨at_, f, fd, mk, F⟩ := G
  exact ⟨at_, f, mk, fnd_star1 F sc_Plan___init__ (fun _ _ _ _ _ _ _ => ⟨_, _, _, _, _, rfl, fun _ => ⟨_, rfl, rfl⟩⟩) (fun _ _ _ _ _ _ _ _ _ => ⟨_, _, _, _, _, rfl, fun _ => ⟨_, rfl, rfl⟩⟩) fun cdv => plan_owes M C cdv⟩
theorem n_plan0 {H : Hp} {Q : VK} {E : XK} {xs : List V} {ds : List (List Str)} (hX : DpAll K H xs (ds.map pDay)) (ok : DOk ds 0) (h : ∀ H' p, Same H H' → H p = none → PlanAt K CP H' p ds 0 → Q (.ref p) H') : MkK CP (sp_plan_new K CP) E Q xs H := by
  have hl : xs.length ≤ 100 := by rw [hX.length]; simpa using ok.few
  refine n_make fun fx fdx H8 nfx nfdx nefx s8 hfx hfdx => ?_
  refine ⟨.ref fx, xs, rfl, by rw [sizeLine_eq]; omega, fun t ht => ?_⟩
  have st := same_new (o := .tup xs) ht
  have hT : Dp K (upd H8 t (.tup xs)) (.ref t) (.tuple (ds.map pDay)) := dp_tup upd_same (st.dpa (s8.dpa hX))
  refine ⟨fx, fdx, t, ds, 0, rfl, st _ _ hfx, hT, ok, fun H9 k9 h9 => ⟨rfl, ?_⟩⟩
  exact h H9 fx (fun c o hb => k9 _ _ (ne_of_none hb nfx) (st _ _ (s8 _ _ hb))) nfx ⟨fdx, t, h9, dp_keep k9 (notT_i (st _ _ hfx)) _ _ (by show noLs _ = true; exact noL_days ds) hT⟩
def sp_plan_rshift (K : PySem.W.Frag) (CP : Addr) : Sp := fun vs H Q _ => ∃ (p : Addr) (n : Nat) (ds : List (List Str)) (b : Int), vs = [.ref p, .int n] ∧ PlanAt K CP H p ds b ∧ DOk ds b ∧ (n : Int) ≤ BIG ∧ ∀ H' q, Same H H' → H q = none → PlanAt K CP H' q (shD ds b n) (shB b n) → Q (.ref q) H'
theorem ok_plan_rshift (M : Md K mg) (C : PlanC K CP) (G : Gm K CP "__rshift__" "Plan.__rshift__" s_Plan___rshift__) (D_validate_number : DefR P w K mg base "validate_number" 2 sp_valid) (D_place_of : DefR P w K mg base "place_of" 2 (sp_place_of K))
    (KK_Plan : MakeRK P w K mg base "Plan" CP 4 "lead" (sp_plan_init K CP)) (K_Plan : MakeR P w K mg base "Plan" CP 4 (sp_plan_new K CP)) : MethR P w K mg base CP "__rshift__" 6 (sp_plan_rshift K CP) := by
  refine meth_mk G fun f fd F => FnU.raw (fnr_mk (F.ok sc_Plan___rshift__ ?_ (fun cdv A outer s H vs Q E hr h => ?_)) (F.bindsN (fun _ _ _ _ _ _ us hl => match us, hl with | [_, _], _ => rfl)))
  · rintro vs H Q E ⟨p, n, ds, b, rfl, _⟩; rfl
  · obtain ⟨p, n, ds, b, rfl, ⟨dx, t, hp, hv⟩, dok, dle, k⟩ := h
    have nd := sc_Plan___rshift__.nd
    obtain ⟨t', ys, e, hU, hY⟩ := hv.inv_t
    cases e
    have hyl : ys.length = ds.length := by rw [hY.length]; simp
    have b0 := dok.b0
    have b1 := dok.b1
    have hfew := dok.few
    have pb := plc_lt (n := ds.length) n dok.b0 dok.b1
    have pn := plc_nat (n := ds.length) n dok.b0 dok.b1
    have okS := dok.shift n
    generalize hpl : plc ds.length b n = pl at pb pn
    obtain ⟨q, rfl⟩ : ∃ q : Nat, pl = (q : Int) := ⟨pl.toNat, by omega⟩
    rw [Int.toNat_natCast] at pn
    refine ⟨_, PSs.nox (pss_cons (ps_expr (pe_callR D_validate_number (hr.mono (by first | decide | omega)) passN (pa_cons (pv 1) (pa_cons pe_int (pa_cons (pe_gi M.g_MAX_DAY) pa_nil)))))
    (pss_cons (ps_set (i := 2) nd rfl (by first | exact Or.inl rfl | exact Or.inr rfl) (pe_callR D_place_of (hr.mono (by first | decide | omega)) passN (pa_cons (pe_fldK K (pv 0)) (pa_cons (pe_fldK K (pv 0)) (pa_cons (pv 1) pa_nil)))))
    (pss_cons (ps_set (i := 3) nd rfl (by first | exact Or.inl rfl | exact Or.inr rfl) (pe_slice (sl_tupK K) (pe_fldK K (pv 0)) (po_some (pv 2)) po_none))
    (pss_cons (ps_if (pt_cmpR op_lt (pv 2) (pe_fldK K (pv 0)) (nomark _)) (pss_cons (ps_set (i := 4) nd rfl (by first | exact Or.inl rfl | exact Or.inr rfl) (pe_op op_sub (pe_fldK K (pv 0)) (pv 2)))
    (pss_one (ps_ret (as_skw K (pe_makeSKW KK_Plan (hr.mono (by first | decide | omega)) passN (pv 3) (pk_cons (pv 4) pk_nil)))))) pss_nil)
    (pss_cons (ps_set (i := 5) nd rfl (by first | exact Or.inl rfl | exact Or.inr rfl) (pe_op (op_addK K) (pv 3) (pe_slice (sl_tupK K) (pe_fldK K (pv 0)) (po_some (pe_fldK K (pv 0))) (po_some (pv 2)))))
    (pss_one (ps_ret (pe_makeSK K K_Plan (hr.mono (by first | decide | omega)) passN (pv 5))))))))), ?_⟩
    show (_ : TS) _ [some (.ref p), some (.int n), none, none, none, none] H
    walk_at "go"
    refine ⟨n, 0, BIG, rfl, by omega, dle, ?_⟩
    walk_at "go"
    refine n_fld hp C.cl C.parts (plan_parts t b) ?_
    walk_at "go"
    refine n_fld hp C.cl C.begin_ (plan_begin t b) ?_
    walk_at "go"
    refine ⟨t, ys, b, n, rfl, hU, by rw [hyl]; exact dok.b1, ?_⟩
    rw [hyl, hpl]
    walk_at "go"
    refine n_fld hp C.cl C.parts (plan_parts t b) ?_
    walk_at "go"
    refine g_slT hU fun t1 H1 s1 hT1 => ?_
    rw [cutV_from] at hT1
    walk_at "go"
    refine n_fld (s1 _ _ hp) C.cl C.begin_ (plan_begin t b) ?_
    walk_at "go"
    refine if_D (fun e => ?_) (fun e => ?_)
    · have hn : n < b.toNat := by
        by_cases z : n < b.toNat
        · exact z
        · rw [if_neg z] at pn; omega
      rw [if_pos hn] at pn
      have eD : shD ds b n = ds.drop n := by unfold shD; rw [if_pos hn]
      have eB : shB b n = b - n := by unfold shB; rw [if_pos hn]
      subst pn
      rw [eD, eB] at okS
      walk_at "go"
      refine n_fld (s1 _ _ hp) C.cl C.begin_ (plan_begin t b) ?_
      walk_at "go"
      refine n_mskw (.inl hT1) ?_
      refine n_plan (ds := ds.drop q) (by rw [List.map_drop]; exact dpa_drop q (s1.dpa hY)) okS fun H8 m s8 nm hm => ?_
      exact k H8 m (s1.trans s8) (s1.free nm) (by rw [eD, eB]; exact hm)
    · have hn : ¬ n < b.toNat := fun z => by rw [if_pos z] at pn; omega
      rw [if_neg hn] at pn
      have eD : shD ds b n = ds.drop q ++ (ds.drop b.toNat).take (q - b.toNat) := by
        unfold shD rot
        rw [if_neg hn, List.drop_drop]
        have : q - b.toNat = (n - b.toNat) % (ds.length - b.toNat) := by omega
        rw [← this]
        congr 2
        omega
      have eB : shB b n = 0 := by unfold shB; rw [if_neg hn]
      rw [eD, eB] at okS
      walk_at "go"
      refine n_fld (s1 _ _ hp) C.cl C.parts (plan_parts t b) ?_
      walk_at "go"
      refine n_fld (s1 _ _ hp) C.cl C.begin_ (plan_begin t b) ?_
      walk_at "go"
      refine g_slT (same_t s1 hU) fun t2 H2 s2 hT2 => ?_
      have eb : b = ((b.toNat : Nat) : Int) := by omega
      rw [eb, cutV_mid ys (by omega) (by omega)] at hT2
      walk_at "go"
      refine g_add_t (same_t s2 hT1) hT2 (by simp [sizeLine_eq]; omega) fun t3 H3 s3 hT3 => ?_
      walk_at "go"
      refine n_star1 (.inl hT3) ?_
      have s13 := s1.trans (s2.trans s3)
      refine n_plan0 (ds := ds.drop q ++ (ds.drop b.toNat).take (q - b.toNat)) (by rw [List.map_append, List.map_drop, List.map_take, List.map_drop]; exact dpa_app (dpa_drop q (s13.dpa hY)) (dpa_take _ (dpa_drop _ (s13.dpa hY)))) okS fun H8 m s8 nm hm => ?_
      exact k H8 m (s13.trans s8) (s13.free nm) (by rw [eD, eB]; exact hm)

end
section
variable {P : Program} {w : World} {K : PySem.W.Frag}
variable {mg : Str → Option Value} {base : Heap}
/-! ### texts of plans -/
theorem joinL_len (S : List Nat) : ∀ ps : List (List Nat), (TL.joinL S ps).length ≤ (ps.map (·.length)).sum + ps.length * S.length
  | [] => by simp [TL.joinL]
  | [p] => by simp [TL.joinL]
  | p :: q :: r => by
    have ih := joinL_len S (q :: r)
    show (p ++ (S ++ TL.joinL S (q :: r))).length ≤ _
    simp only [List.length_append, List.map_cons, List.sum_cons, List.length_cons] at ih ⊢
    have e : (r.length + 1 + 1) * S.length = (r.length + 1) * S.length + S.length := by rw [Nat.add_mul (r.length + 1) 1, Nat.one_mul]
    omega
theorem sum_le {B : Nat} : ∀ {l : List Nat}, (∀ x ∈ l, x ≤ B) → l.sum ≤ l.length * B
  | [], _ => by simp
  | a :: l, h => by
    have h1 := h a (by simp)
    have h2 := sum_le (l := l) fun x hx => h x (by simp [hx])
    rw [List.sum_cons, List.length_cons, Nat.add_mul, Nat.one_mul]; omega
theorem len_tl (z : Str) : z.length = (TL.tl z).length := by simp [Str.length, TL.tl]
theorem join_len {y : Str} {ps : List Str} {B : Nat} (h : ∀ p ∈ ps, p.length ≤ B) : (Txt.join y ps).length ≤ ps.length * B + ps.length * y.length := by
  rw [len_tl, TL.join_eq, TL.tl_join]
  have h1 := joinL_len (TL.tl y) (ps.map TL.tl)
  have h2 := sum_le (B := B) (l := (ps.map TL.tl).map (·.length)) fun x hx => by
    obtain ⟨q, hq, rfl⟩ := List.mem_map.mp hx
    obtain ⟨z, hz, rfl⟩ := List.mem_map.mp hq
    rw [← len_tl]; exact h z hz
  simp only [List.length_map] at h1 h2
  rw [len_tl y]; omega
theorem joinL_free {c : Nat} {S : List Nat} (hS : c ∉ S) : ∀ {ps : List (List Nat)}, (∀ p ∈ ps, c ∉ p) → c ∉ TL.joinL S ps
  | [], _ => by simp [TL.joinL]
  | [p], h => by simpa [TL.joinL] using h p (by simp)
  | p :: q :: r, h => by
    show c ∉ p ++ (S ++ TL.joinL S (q :: r))
    simp only [List.mem_append, not_or]
    exact ⟨h p (by simp), hS, joinL_free hS fun x hx => h x (by simp [List.mem_cons.mp hx])⟩
theorem join_free {c : Nat} {y : Str} (hy : c ∉ TL.tl y) {ps : List Str} (h : ∀ p ∈ ps, c ∉ TL.tl p) : c ∉ TL.tl (Txt.join y ps) := by
  rw [TL.join_eq, TL.tl_join]
  exact joinL_free hy fun p hp => by
    obtain ⟨z, hz, rfl⟩ := List.mem_map.mp hp
    exact h z hz
/-- a word of a plan's text -/
structure WdOk (z : Str) : Prop where
  le : z.length ≤ 8
  nl : 10 ∉ TL.tl z
  sp : 32 ∉ TL.tl z
theorem NmOk.wd {z : Str} (h : NmOk z) : WdOk z := ⟨by rw [len_tl]; exact h.2.1, fun m => by have := h.2.2 _ m; omega, fun m => by have := h.2.2 _ m; omega⟩
theorem wd_no : WdOk "-" := ⟨by decide +kernel, by decide +kernel, by decide +kernel⟩
theorem wd_lead : WdOk "lead" := ⟨by decide +kernel, by decide +kernel, by decide +kernel⟩
theorem tl_numS {b : Int} (b0 : 0 ≤ b) : TL.tl (numS b) = TL.numL b.toNat := by
  have e : numS b = Str.ofString (toString ((b.toNat : Nat) : Int)) := by rw [numS, Int.toNat_of_nonneg b0]
  rw [e]; exact TL.tl_num _
theorem num_len {b : Int} (b0 : 0 ≤ b) (b1 : b < 10000) : (numS b).length ≤ 4 := by
  rw [len_tl, tl_numS b0]
  exact TL.numL_len (by decide) (by omega)
theorem wd_num {b : Int} (b0 : 0 ≤ b) (b1 : b < 10000) : WdOk (numS b) := ⟨Nat.le_trans (num_len b0 b1) (by decide), by rw [tl_numS b0]; exact TL.numL_free (by decide), by rw [tl_numS b0]; exact TL.numL_free (by decide)⟩
def wordsOf (d : List Str) : List Str := if d = [] then ["-"] else d
def rowOf (d : List Str) : Str := Txt.join " " (wordsOf d)
def headOf (b : Int) : List Str := ["lead", numS b]
def rowsOf (ds : List (List Str)) (b : Int) : List (List Str) := headOf b :: ds.map wordsOf
def textOf (ds : List (List Str)) (b : Int) : Str := Txt.join "\n" ((rowsOf ds b).map (Txt.join " "))
/-- days and a lead whose text goes round -/
structure TxOk (ds : List (List Str)) (b : Int) : Prop where
  dok : DOk ds b
  nm : ∀ d ∈ ds, ∀ z ∈ d, NmOk z
section
variable {ds : List (List Str)} {b : Int}
theorem words_ok {d : List Str} (h : ∀ z ∈ d, NmOk z) : wordsOf d ≠ [] ∧ ∀ z ∈ wordsOf d, WdOk z := by
  unfold wordsOf
  split
  · exact ⟨by simp, fun z hz => by rw [List.mem_singleton.mp hz]; exact wd_no⟩
  · rename_i e
    exact ⟨e, fun z hz => (h z hz).wd⟩
theorem TxOk.b4 (t : TxOk ds b) : b < 10000 := by have := t.dok.b1; have := t.dok.few; omega
theorem TxOk.rows (t : TxOk ds b) : ∀ ws ∈ rowsOf ds b, ws ≠ [] ∧ (∀ z ∈ ws, WdOk z) ∧ ws.length ≤ 8 := by
  intro ws h
  rcases List.mem_cons.mp h with rfl | hm
  · refine ⟨by simp [headOf], fun z hz => ?_, by simp [headOf]⟩
    have : z = "lead" ∨ z = numS b := by simpa [headOf] using hz
    rcases this with rfl | rfl
    · exact wd_lead
    · exact wd_num t.dok.b0 t.b4
  · obtain ⟨d, hd, rfl⟩ := List.mem_map.mp hm
    have w := words_ok (t.nm d hd)
    refine ⟨w.1, w.2, ?_⟩
    have := t.dok.le d hd
    unfold wordsOf
    split <;> simp <;> omega
theorem row_len {ws : List Str} (h : ∀ z ∈ ws, WdOk z) (h8 : ws.length ≤ 8) : (Txt.join " " ws).length ≤ 72 := by
  have e : (" " : Str).length = 1 := by decide +kernel
  have := join_len (y := " ") (B := 8) fun p hp => (h p hp).le
  rw [e] at this
  omega
theorem TxOk.lens (t : TxOk ds b) : ∀ r ∈ (rowsOf ds b).map (Txt.join " "), r.length ≤ 72 := fun r hr => by
  obtain ⟨ws, hw, rfl⟩ := List.mem_map.mp hr
  obtain ⟨_, h1, h2⟩ := t.rows ws hw
  exact row_len h1 h2
theorem TxOk.rlen (t : TxOk ds b) : (rowsOf ds b).length ≤ 101 := by
  have := t.dok.few
  simp [rowsOf]; omega
theorem TxOk.len (t : TxOk ds b) : (textOf ds b).length ≤ 8000 := by
  have e : ("\n" : Str).length = 1 := by decide +kernel
  have h1 := join_len (y := "\n") (B := 72) t.lens
  rw [e, List.length_map] at h1
  have h2 := t.rlen
  unfold textOf
  omega
theorem TxOk.split (t : TxOk ds b) : Txt.split (textOf ds b) "\n" = (rowsOf ds b).map (Txt.join " ") := by
  refine TL.split_join (s := 10) (S := []) (by decide +kernel) (by decide +kernel) (by simp [rowsOf]) fun p hp => ?_
  obtain ⟨ws, hw, rfl⟩ := List.mem_map.mp hp
  exact join_free (by decide +kernel) fun z hz => ((t.rows ws hw).2.1 z hz).nl
theorem split_row {ws : List Str} (h0 : ws ≠ []) (h : ∀ z ∈ ws, WdOk z) : Txt.split (Txt.join " " ws) " " = ws :=
  TL.split_join (s := 32) (S := []) (by decide +kernel) (by decide +kernel) h0 fun p hp => (h p hp).sp
theorem num_head (n : Nat) (h : 1 ≤ n) : ∀ c, (TL.numL n)[0]? = some c → c ≠ 48 := by
  induction n using Nat.strongRecOn with | ind n ih =>
    intro c hc
    by_cases h10 : n < 10
    · rw [TL.numL_lt h10] at hc
      have : 48 + n = c := by simpa using hc
      omega
    · rw [TL.numL_step (by omega)] at hc
      have hne := TL.numL_ne (n / 10)
      rw [List.getElem?_append_left (List.length_pos_iff.mpr hne)] at hc
      exact ih (n / 10) (by omega) (by omega) c hc
end
theorem eqv_strs : ∀ a b : List Str, PyData.eqvAll (a.map .str) (b.map .str) = decide (a = b)
  | [], m => by cases m <;> simp [PyData.eqvAll]
  | x :: a, [] => by simp [PyData.eqvAll]
  | x :: a, y :: b => by
    simp only [List.map_cons, PyData.eqvAll, PyData.eqv, eqv_strs a b]
    by_cases h : x = y <;> simp [h]
theorem eqv_strL (a b : List Str) : PyData.eqv (.list (a.map .str)) (.list (b.map .str)) = decide (a = b) := by simp only [PyData.eqv, eqv_strs]
theorem eqv_strT (a b : List Str) : PyData.eqv (.tuple (a.map .str)) (.tuple (b.map .str)) = decide (a = b) := by simp only [PyData.eqv, eqv_strs]
theorem sh_strL {a : List Str} (h : ∀ z ∈ a, PyData.strOk z = true) : Sh 1 (.list (a.map .str)) := sh_l fun d hd => by
  obtain ⟨z, hz, rfl⟩ := List.mem_map.mp hd
  exact sh_s (h z hz)
theorem sh_strT {a : List Str} (h : ∀ z ∈ a, PyData.strOk z = true) : Sh 1 (.tuple (a.map .str)) := sh_t fun d hd => by
  obtain ⟨z, hz, rfl⟩ := List.mem_map.mp hd
  exact sh_s (h z hz)
theorem g_notIn_sign {K : PySem.W.Frag} {H : Hp} {Q : VK} {c : Nat} {z : Str} (h : Q (.bl (!decide (c ∈ z.cps.toList))) H) : uNotIn K (.str ⟨#[c]⟩) (.str z) H Q := .inr (.inl ⟨c, z, rfl, rfl, h⟩)
theorem g_join {K : PySem.W.Frag} {H : Hp} {Q : VK} {a : Str} {p : Addr} {ys : List Str} (h1 : SqL K H p (ys.map V.str) ∨ SqT K H p (ys.map V.str)) (h2 : (ys.map (·.length)).sum + ys.length * a.length ≤ 16777216) (h : Q (.str (Txt.join a ys)) H) : rJoin K (.str a) [.ref p] H Q := ⟨a, p, ys, rfl, rfl, h1, h2, h⟩
theorem join_fits {ys : List Str} {a : Str} {B n : Nat} (hB : ∀ y ∈ ys, y.length ≤ B) (hn : ys.length ≤ n) (ha : a.length = 1) (h : n * B + n ≤ 16777216) : (ys.map (·.length)).sum + ys.length * a.length ≤ 16777216 := by
  have := sum_le (B := B) (l := ys.map (·.length)) fun x hx => by
    obtain ⟨z, hz, rfl⟩ := List.mem_map.mp hx
    exact hB z hz
  rw [List.length_map] at this
  have h2 : ys.length * B ≤ n * B := Nat.mul_le_mul_right B hn
  rw [ha]; omega
/-! enumerate over a list -/
def ItEL (K : PySem.W.Frag) (g : TG) (tb : TS) (D : Ends) (σ : L2.St) (vs : List V) (H1 : Hp) : Prop := ∃ a xs, vs = [.ref a] ∧ SqL K H1 a xs ∧ LoopJ (Ite K a) g tb D σ H1
theorem g_forEL {K : PySem.W.Frag} {ts : TA} {g : TG} {tbs : TS} {D : Ends} {σ : L2.St} {H : Hp} (h : ts σ H (ItEL K g tbs D σ)) : tFor (iEnum K ts) g tbs D σ H := h
theorem n_forEL {K : PySem.W.Frag} {g : TG} {tbs : TS} {D : Ends} {σ : L2.St} {H : Hp} {a : Addr} {xs : List V} (h1 : SqL K H a xs) (Pv : Nat → L2.St → Hp → Prop) (h0 : Pv 0 σ H) (hl : ∀ i σ H, Pv i σ H → SqL K H a xs)
    (hs : ∀ (i : Nat) x T σ H H', xs[i]? = some x → Pv i σ H → H T = none → Same H H' → H' T = some (.tup [.int i, x]) → g (.ref T) σ H' fun σ2 H2 => tbs { D with nx := Pv (i + 1), ct := Pv (i + 1), bk := D.nx } σ2 H2) (hd : ∀ σ H, Pv xs.length σ H → D.nx σ H) : ItEL K g tbs D σ [.ref a] H :=
  ⟨a, xs, rfl, h1, for_it (walk_enum (K := K) (a := a) (xs := xs)) Pv h0 (fun i σ H _ p => hl i σ H p) (fun i x σ H H' hi p ⟨T, u, y, ex, hn, eH, e1, e2⟩ => by
    have eu := Option.some.inj e1
    subst ex eH eu
    exact hs i y T σ H _ e2 p hn (same_new hn) upd_same) hd⟩

end
abbrev s_is_number : Stmt := top 22
abbrev N_is_number : List Str := ["word", "digit"]
theorem sc_is_number : FnScope N_is_number ["word"] (defScope s_is_number) := ⟨rfl, rfl, rfl, by decide +kernel, rfl, by decide +kernel, by decide +kernel⟩
abbrev s_format_plan : Stmt := top 21
abbrev N_format_plan : List Str := ["plan", "lines", "day"]
theorem sc_format_plan : FnScope N_format_plan ["plan"] (defScope s_format_plan) := ⟨rfl, rfl, rfl, by decide +kernel, rfl, by decide +kernel, by decide +kernel⟩
abbrev s_parse_plan : Stmt := top 23
abbrev N_parse_plan : List Str := ["text", "head", "rows", "line", "days", "row", "words", "place", "word", "lead"]
theorem sc_parse_plan : FnScope N_parse_plan ["text"] (defScope s_parse_plan) := ⟨rfl, rfl, rfl, by decide +kernel, rfl, by decide +kernel, by decide +kernel⟩
section
variable {P : Program} {w : World} {K : PySem.W.Frag}
variable {mg : Str → Option Value} {base : Heap}
def sp_is_number : Sp := fun vs H Q _ => ∃ b : Int, vs = [.str (numS b)] ∧ 0 ≤ b ∧ b < 10000 ∧ ∀ H', Same H H' → Q (.bl true) H'
def DIGS : Str := "0123456789"
theorem digs_mem {c : Nat} (h1 : 48 ≤ c) (h2 : c ≤ 57) : c ∈ DIGS.cps.toList := by
  have h : ∀ k : Fin 10, 48 + k.val ∈ DIGS.cps.toList := by decide +kernel
  have := h ⟨c - 48, by omega⟩
  simpa [show 48 + (c - 48) = c by omega] using this
theorem ok_is_number (M : Md K mg) (G : Gd K mg "is_number" s_is_number) : DefR P w K mg base "is_number" 2 sp_is_number := by
  refine def_mk G fun f fd F => fnr_mk (F.ok sc_is_number ?_ (fun cdv A outer s H vs Q E hr h => ?_)) (F.bindsN (fun _ _ _ _ _ _ us hl => match us, hl with | [_], _ => rfl))
  · rintro vs H Q E ⟨b, rfl, _⟩; rfl
  · obtain ⟨b, rfl, b0, b1, k⟩ := h
    have nd := sc_is_number.nd
    have l4 := num_len b0 b1
    have tn := tl_numS b0
    have ne : 1 ≤ (numS b).length := by
      rw [len_tl, tn]
      exact List.length_pos_iff.mpr (TL.numL_ne _)
    have hsz : (numS b).cps.size = (numS b).length := rfl
    refine ⟨_, PSs.nox (pss_cons (ps_if (PW.pt (pw_or (pt_not (pt_chain op_le op_le pe_int (pe_len K M.b (pv 0)) (pe_gi M.g_MAX_DIGITS))) (pw_or1 (pt_val (pe_any K M.b (pe_lc (own := [("digit", 1)]) (g := (gName 1)) (tt := tYes) rfl nd (pi_str (pv 0)) (blkOk_by (N := N_is_number) (sc := defScope s_is_number) (by decide +kernel)) (fun _ _ _ _ _ => (pg_name (i := 1) nd rfl (by first | exact Or.inl rfl | exact Or.inr rfl))) (fun _ _ _ _ _ => pts_nil) (fun _ _ _ _ _ => (pe_cmpR (op_notInK K hr) (pv 1) (pe_gs M.g_DIGITS) rfl)))))))) (pss_one (ps_ret pe_bl)) pss_nil)
    (pss_one (ps_ret (pe_or (pe_cmpR (op_eqK K hr) (pe_len K M.b (pv 0)) pe_int (nomark _)) (pe_one (pe_cmpR (op_neK K hr) (pe_ix (ix_K K) (pv 0) pe_int (fun _ _ => rfl)) pe_str (nomark _))))))), ?_⟩
    show (_ : TS) _ [some (.str (numS b)), none] H
    walk_at "go"
    refine g_len_s (by rw [sizeLine_eq]; omega) ?_
    walk_at "go"
    refine g_ch (fun _ => ?_) (fun e => absurd (by omega) (of_decide_eq_false e))
    walk_at "go"
    refine if_F (by rw [decide_eq_true (by omega : ((numS b).length : Int) ≤ 4)]; rfl) ?_
    walk_at "go"
    refine n_lcS (lc_map (walk_str (z := numS b)) (fun _ => .bl false) (fun _ _ => trivial) ?_ ?_)
    · rintro C j x H5 H6 nC hj s5 hC ⟨e, c, hc, ex⟩
      subst e ex
      walk_at "go"
      refine ⟨rfl, ?_⟩
      walk_at "go"
      refine g_notIn_sign ?_
      have hm : c ∈ TL.tl (numS b) := List.mem_of_getElem? (cps_get hc)
      rw [tn] at hm
      have hd := TL.numL_digits _ c hm
      have hin : decide (c ∈ (("0123456789" : Str)).cps.toList) = true := decide_eq_true (digs_mem (by omega) (by omega))
      rw [hin]
      exact n_mapK nC s5 hC rfl (by omega)
    · intro C H5 nC s5 hC
      have e1 : (List.range (numS b).cps.size).map (fun _ => V.bl false) = (List.replicate (numS b).cps.size false).map V.bl := by
        rw [List.map_replicate]
        apply List.ext_getElem?
        intro i
        by_cases hi : i < (numS b).cps.size
        · simp [hi]
        · simp [hi]
      rw [e1] at hC
      walk_at "go"
      refine g_any (SqL.of hC) ?_
      have e2 : ((List.replicate (numS b).cps.size false).any id) = false := by
        rw [List.any_eq_false]
        intro x hx
        simp [(List.mem_replicate.mp hx).2]
      rw [e2]
      walk_at "go"
      refine if_F rfl ?_
      walk_at "go"
      refine g_len_s (by rw [sizeLine_eq]; omega) ?_
      walk_at "go"
      refine if_D (fun e => ?_) (fun e => ?_)
      · walk_at "go"
        exact k H5 s5
      · walk_at "go"
        obtain ⟨c, hc⟩ : ∃ c, (TL.tl (numS b))[0]? = some c := ⟨_, List.getElem?_eq_getElem (by rw [← len_tl]; omega)⟩
        refine g_ix_s (c := c) (by rw [sizeLine_eq]; omega) (atI_i (by decide) hc) ?_
        walk_at "go"
        have n1 : 1 ≤ b.toNat := by
          rcases Nat.eq_zero_or_pos b.toNat with z | z
          · exfalso
            apply e
            have : (numS b).length = 1 := by rw [len_tl, tn, z, TL.numL_lt (by decide)]; rfl
            omega
          · exact z
        rw [tn] at hc
        have hne := num_head _ n1 c hc
        have hne' : ¬ ((⟨#[c]⟩ : Str) = ("0" : Str)) := fun q => hne (by
          have := congrArg (fun z : Str => z.cps.toList) q
          have e0 : (("0" : Str)).cps.toList = [48] := by decide +kernel
          simp only [e0] at this
          simpa using this)
        rw [decide_eq_false hne']
        exact k H5 s5
theorem str_ext {a b : Str} (h : TL.tl a = TL.tl b) : a = b := TL.ext_tl h
theorem head_text (b : Int) : Txt.join " " (headOf b) = "lead" ++ " " ++ numS b := by
  rw [TL.join_eq]; rfl
def sp_format (K : PySem.W.Frag) (CP : Addr) : Sp := fun vs H Q _ => ∃ (p : Addr) (ds : List (List Str)) (b : Int), vs = [.ref p] ∧ PlanAt K CP H p ds b ∧ TxOk ds b ∧ ∀ H', Same H H' → Q (.str (textOf ds b)) H'
theorem space1 : (" " : Str).length = 1 := by decide +kernel
theorem line1 : ("\n" : Str).length = 1 := by decide +kernel
/-- the row of a day, as the program puts it -/
theorem row_day (d : List Str) : (if d = [] then ("-" : Str) else Txt.join " " d) = rowOf d := by
  unfold rowOf wordsOf
  split
  · exact str_ext (by rw [TL.join_eq]; rfl)
  · rfl
theorem ok_format (M : Md K mg) (G : Gd K mg "format_plan" s_format_plan) (P_Plan_days : PropR P w K mg base CP "days" 2 (sp_plan_days CP)) (P_Plan_lead : PropR P w K mg base CP "lead" 2 (sp_plan_lead CP)) : DefR P w K mg base "format_plan" 4 (sp_format K CP) := by
  refine def_mk G fun f fd F => fnr_mk (F.ok sc_format_plan ?_ (fun cdv A outer s H vs Q E hr h => ?_)) (F.bindsN (fun _ _ _ _ _ _ us hl => match us, hl with | [_], _ => rfl))
  · rintro vs H Q E ⟨p, ds, b, rfl, _⟩; rfl
  · obtain ⟨p, ds, b, rfl, ⟨dx, t, hp, hv⟩, tx, k⟩ := h
    have nd := sc_format_plan.nd
    have dok := tx.dok
    obtain ⟨t', ys, e, hU, hY⟩ := hv.inv_t
    cases e
    have hyl : ys.length = ds.length := by rw [hY.length]; simp
    have l4 := num_len dok.b0 tx.b4
    have hfew := dok.few
    refine ⟨_, PSs.nox (pss_cons (ps_set (i := 1) nd rfl (by first | exact Or.inl rfl | exact Or.inr rfl) (pe_lst (pa_cons (pe_fs (PJ.cons (pe_fmt (pe_gs M.g_LEAD)) (PJ.cons pe_str (PJ.cons (pe_fmt (pe_propR P_Plan_lead (hr.mono (by first | decide | omega)) (pv 0))) PJ.nil)))) pa_nil)))
    (pss_cons (ps_for PassesOwn.never rfl (pi_tupK K (pe_propR P_Plan_days (hr.mono (by first | decide | omega)) (pv 0))) (pg_name (i := 2) nd rfl (by first | exact Or.inl rfl | exact Or.inr rfl)) (pss_one (ps_expr (as_bm K (pe_bm PySem.F.plainAttrs_list PySem.F.slot_list_append PySem.F.type_list_append mt_append (pv 1) (pa_cons (pe_ifExp (pt_cmpR (op_neK K hr) (pv 2) (pe_tup pa_nil) (nomark _)) (pe_joinK K pe_str (pv 2)) (pe_gs M.g_NOBODY)) pa_nil)))))) (pss_one (ps_ret (pe_joinK K pe_str (pv 1)))))), ?_⟩
    show (_ : TS) _ [some (.ref p), none, none] H
    walk_at "go"
    refine n_fmtS (by decide +kernel) ?_
    refine n_fs (by decide +kernel) ?_
    walk_at "go"
    refine n_fs (by decide +kernel) ?_
    walk_at "go"
    refine n_prop hp ⟨p, dx, t, b, rfl, hp, ?_⟩
    refine n_fmtI (num_small dok.b0 (by have := tx.b4; omega)) ?_
    have eh : ((Str.empty ++ ("lead" : Str)) ++ (" " : Str)) ++ numS b = Txt.join " " (headOf b) := by
      rw [head_text]
      refine str_ext ?_
      simp only [TL.tl_append]
      rfl
    have hl72 := tx.lens (Txt.join " " (headOf b)) (by simp [rowsOf])
    refine n_fs0 (by rw [eh, sizeLine_eq]; omega) ?_
    rw [eh]
    walk_at "go"
    refine n_lst (by simp [sizeLine_eq]) fun l H1 nl s1 hl => ?_
    walk_at "go"
    refine n_prop (s1 _ _ hp) ⟨p, dx, t, b, rfl, s1 _ _ hp, ?_⟩
    refine n_forT (same_t s1 hU) (fun i σ H' => ∃ u2 : Option V, σ = [some (.ref p), some (.ref l), u2] ∧ Same H H' ∧ H' l = some (.lst ((Txt.join " " (headOf b) :: (ds.take i).map rowOf).map V.str))) ⟨_, rfl, s1, by simpa using hl⟩ (fun i σ H' ⟨_, _, s2, _⟩ => same_t s2 hU) ?_ ?_
    · rintro i y σ H2 hy ⟨u2, rfl, s2, hl2⟩
      obtain ⟨dd, hdd, hDy⟩ := hY.get hy
      obtain ⟨zs, hzs, rfl⟩ := getm hdd
      have zm : zs ∈ ds := List.mem_of_getElem? hzs
      have hi : i < ds.length := (List.getElem?_eq_some_iff.mp hzs).1
      obtain ⟨t2, ws, rfl, hT2, hW⟩ := hDy.inv_t
      have ew : ws = zs.map V.str := strs_of hW
      subst ew
      have fin : ∀ H3, Same H2 H3 → ∀ H4, Keep l H3 H4 → H4 l = some (.lst (((Txt.join " " (headOf b) :: (ds.take i).map rowOf).map V.str) ++ [V.str (rowOf zs)])) →
          ∃ u2 : Option V, [some (V.ref p), some (.ref l), some (.ref t2)] = [some (.ref p), some (.ref l), u2] ∧ Same H H4 ∧ H4 l = some (.lst ((Txt.join " " (headOf b) :: (ds.take (i + 1)).map rowOf).map V.str)) := fun H3 s3 H4 k4 h4 =>
        ⟨_, rfl, same_keep (s2.trans s3) nl k4, by rw [h4, app_tail _ _ hzs]; simp⟩
      walk_at "go"
      refine n_tup (by simp [sizeLine_eq]) fun te H3 nte s3 hte => ?_
      refine g_ne_d (.tuple (zs.map .str)) (.tuple (([] : List Str).map .str)) (.tup (same_t (s2.trans s3) hT2) (dpa_strs zs)) (.tup (SqT.of hte) .nil) ((sh_strT fun z hz => (tx.nm zs zm z hz).str).ok (by decide)) ((sh_strT (a := []) (by simp)).ok (by decide)) ?_
      rw [eqv_strT]
      have hl3 := s3 _ _ hl2
      walk_at "go"
      refine if_ND (fun e => ?_) (fun e => ?_)
      · walk_at "go"
        refine g_join (.inr (same_t (s2.trans s3) hT2)) (join_fits (B := 8) (n := 8) (fun z hz => (tx.nm zs zm z hz).wd.le) (dok.le zs zm) space1 (by decide)) ?_
        walk_at "go"
        refine g_append hl3 (by simp [sizeLine_eq]; omega) fun H4 k4 h4 => ?_
        walk_at "go"
        exact fin H3 s3 H4 k4 (by rw [h4, ← row_day, if_neg e])
      · walk_at "go"
        refine g_append hl3 (by simp [sizeLine_eq]; omega) fun H4 k4 h4 => ?_
        walk_at "go"
        exact fin H3 s3 H4 k4 (by rw [h4, ← row_day, if_pos e])
    · rintro σ H2 ⟨u2, rfl, s2, hl2⟩
      rw [hyl, List.take_length] at hl2
      have e : Txt.join " " (headOf b) :: ds.map rowOf = (rowsOf ds b).map (Txt.join " ") := by simp [rowsOf, rowOf]
      rw [e] at hl2
      walk_at "go"
      refine g_join (.inl (SqL.of hl2)) (join_fits (B := 72) (n := 101) tx.lens (by rw [List.length_map]; exact tx.rlen) line1 (by decide)) ?_
      exact k H2 s2
/-- rows of words, each a list of its own -/
def RowsAt (H : Hp) (as : List Addr) (rows : List (List Str)) : Prop := Paired (fun a ws => H a = some (.lst (ws.map V.str))) as rows
theorem RowsAt.same {H H' : Hp} {as : List Addr} {rows : List (List Str)} (e : Same H H') (h : RowsAt H as rows) : RowsAt H' as rows := by
  induction h with
  | nil => exact .nil
  | cons a _ ih => exact .cons (e _ _ a) ih
theorem RowsAt.keep {H H' : Hp} {as : List Addr} {rows : List (List Str)} {l : Addr} {xs : List V} (e : Keep l H H') (hl : H l = some (.lst xs)) (hx : ∀ x ∈ xs, ∃ a, x = V.ref a) (hr : ∀ ws ∈ rows, ws ≠ []) (h : RowsAt H as rows) : RowsAt H' as rows := by
  induction h with
  | nil => exact .nil
  | @cons a ws as rows at_ _ ih =>
    refine .cons (e a _ (fun q => ?_) at_) (ih fun w hw => hr w (by simp [hw]))
    rw [q, hl] at at_
    have e2 : xs = ws.map V.str := by injection at_ with z; injection z
    cases ws with
    | nil => exact hr [] (by simp) rfl
    | cons w ws =>
      obtain ⟨b, hb⟩ := hx (V.str w) (by rw [e2]; simp)
      cases hb
theorem RowsAt.get {H : Hp} : ∀ {as : List Addr} {rows : List (List Str)} {i : Nat} {a : Addr}, RowsAt H as rows → as[i]? = some a → ∃ ws, rows[i]? = some ws ∧ H a = some (.lst (ws.map V.str))
  | _, _, _, _, .nil, h => by simp at h
  | _, _, 0, _, .cons a _, h => by simp at h; subst h; exact ⟨_, rfl, a⟩
  | _, _, i + 1, _, .cons _ t, h => by
    obtain ⟨ws, h1, h2⟩ := RowsAt.get t (i := i) (by simpa using h)
    exact ⟨ws, by simpa using h1, h2⟩
theorem RowsAt.len {H : Hp} {as : List Addr} {rows : List (List Str)} (h : RowsAt H as rows) : as.length = rows.length := Paired.length h
def sp_parse (K : PySem.W.Frag) (CP : Addr) : Sp := fun vs H Q _ => ∃ (ds : List (List Str)) (b : Int), vs = [.str (textOf ds b)] ∧ TxOk ds b ∧ ∀ H' p, Same H H' → H p = none → PlanAt K CP H' p ds b → Q (.ref p) H'
theorem wd_str {z : Str} (h : NmOk z ∨ z = "-" ∨ z = "lead") : PyData.strOk z = true := by
  rcases h with h | rfl | rfl
  · exact h.str
  · decide +kernel
  · decide +kernel
theorem nm_no : decide (NmOk "-") = false := by decide +kernel
theorem ok_parse (M : Md K mg) (G : Gd K mg "parse_plan" s_parse_plan) (D_is_name : DefR P w K mg base "is_name" 2 sp_is_name) (D_is_number : DefR P w K mg base "is_number" 2 sp_is_number) (KK_Plan : MakeRK P w K mg base "Plan" CP 4 "lead" (sp_plan_init K CP)) : DefR P w K mg base "parse_plan" 6 (sp_parse K CP) := by
  refine def_mk G fun f fd F => fnr_mk (F.ok sc_parse_plan ?_ (fun cdv A outer s H vs Q E hr h => ?_)) (F.bindsN (fun _ _ _ _ _ _ us hl => match us, hl with | [_], _ => rfl))
  · rintro vs H Q E ⟨ds, b, rfl, _⟩; rfl
  · obtain ⟨ds, b, rfl, tx, k⟩ := h
    have nd := sc_parse_plan.nd
    have dok := tx.dok
    have tlen := tx.len
    have rlen := tx.rlen
    refine ⟨_, PSs.nox (pss_cons (ps_asg (pe_lc (own := [("line", 3)]) (g := (gName 3)) (tt := tYes) rfl nd (pi_listK K (pe_splitH (pv 0) pe_str)) (blkOk_by (N := N_parse_plan) (sc := defScope s_parse_plan) (by decide +kernel)) (fun _ _ _ _ _ => (pg_name (i := 3) nd rfl (by first | exact Or.inl rfl | exact Or.inr rfl))) (fun _ _ _ _ _ => pts_nil) (fun _ _ _ _ _ => (pe_splitH (pv 3) pe_str))) (pg_star1 K rfl (pgs_cons (pg_name (i := 1) nd rfl (by first | exact Or.inl rfl | exact Or.inr rfl)) (pgs_cons (pg_name (i := 2) nd rfl (by first | exact Or.inl rfl | exact Or.inr rfl)) pgs_nil))))
    (pss_cons (ps_if (pt_cmpR (op_neK K hr) (pe_ix (ix_K K) (pv 1) pe_int (fun _ _ => rfl)) (pe_gs M.g_LEAD) (nomark _)) (pss_one ps_never) pss_nil)
    (pss_cons (ps_if (PW.pt (pw_or (pt_cmpR (op_eqK K hr) (pe_len K M.b (pv 1)) pe_int (nomark _)) (pw_or1 (pt_not (pt_val (pe_callR D_is_number (hr.mono (by first | decide | omega)) passN (pa_cons (pe_ix (ix_K K) (pv 1) pe_int (fun _ _ => rfl)) pa_nil))))))) (pss_one ps_never) pss_nil)
    (pss_cons (ps_if (pt_cmpR op_gt (pe_len K M.b (pv 1)) pe_int (nomark _)) (pss_one ps_never) pss_nil)
    (pss_cons (ps_set (i := 4) nd rfl (by first | exact Or.inl rfl | exact Or.inr rfl) (pe_lst pa_nil))
    (pss_cons (ps_for PassesOwn.never rfl (pi_enumLK K rfl M.b.enumerate (pa_cons (pv 2) pa_nil)) (pg_tupK K rfl (pgs_cons (pg_name (i := 5) nd rfl (by first | exact Or.inl rfl | exact Or.inr rfl)) (pgs_cons (pg_name (i := 6) nd rfl (by first | exact Or.inl rfl | exact Or.inr rfl)) pgs_nil))) (pss_cons (ps_for PassesOwn.never rfl (pi_enumLK K rfl M.b.enumerate (pa_cons (pv 6) pa_nil)) (pg_tupK K rfl (pgs_cons (pg_name (i := 7) nd rfl (by first | exact Or.inl rfl | exact Or.inr rfl)) (pgs_cons (pg_name (i := 8) nd rfl (by first | exact Or.inl rfl | exact Or.inr rfl)) pgs_nil))) (pss_one (ps_if (PW.pt (pw_and (pt_not (pt_val (pe_callR D_is_name (hr.mono (by first | decide | omega)) passN (pa_cons (pv 8) pa_nil)))) (pw_and1 (PW.pt (pw_or (pt_cmpR (op_neK K hr) (pv 8) (pe_gs M.g_NOBODY) (nomark _)) (pw_or1 (pt_cmpR op_gt (pe_len K M.b (pv 6)) pe_int (nomark _)))))))) (pss_one ps_never) pss_nil)))
    (pss_one (ps_expr (as_bm K (pe_bm PySem.F.plainAttrs_list PySem.F.slot_list_append PySem.F.type_list_append mt_append (pv 4) (pa_cons (pe_cut (pe_ifExp (pt_cmpR (op_eqK K hr) (pv 6) (pe_lst (pa_cons (pe_gs M.g_NOBODY) pa_nil)) (nomark _)) (pe_tup pa_nil) (pe_tupOf K M.b (pv 6)))) pa_nil)))))))
    (pss_cons (ps_set (i := 9) nd rfl (by first | exact Or.inl rfl | exact Or.inr rfl) (pe_intS M.b (pe_ix (ix_K K) (pv 1) pe_int (fun _ _ => rfl))))
    (pss_one (ps_ret (as_skw K (pe_makeSKW KK_Plan (hr.mono (by first | decide | omega)) passN (pv 4) (pk_cons (pv 9) pk_nil)))))))))))), ?_⟩
    show (_ : TS) _ [some (.str (textOf ds b)), none, none, none, none, none, none, none, none, none] H
    walk_at "go"
    refine g_split (by decide +kernel) (by rw [sizeLine_eq]; omega) fun sl H1 nsl s1 hsl => ?_
    rw [tx.split] at hsl
    have rl : ((rowsOf ds b).map (Txt.join " ")).length = (rowsOf ds b).length := List.length_map ..
    refine n_lcL (SqL.of hsl) (lc_run (walk_list (xs := ((rowsOf ds b).map (Txt.join " ")).map V.str)) (fun i acc H' => Same H1 H' ∧ ∃ as : List Addr, acc = as.map V.ref ∧ RowsAt H' as ((rowsOf ds b).take i)) (fun C H' _ s' _ => ⟨s', [], rfl, .nil⟩) (fun i acc H' C _ _ ⟨s', _⟩ => SqL.of (s' _ _ hsl)) ?_ ?_)
    · rintro C j acc y H2 H3 nC hj hl hC ⟨s2, as, rfl, hR⟩ ⟨e, hyj⟩
      subst e
      obtain ⟨r, hr1, rfl⟩ := getm hyj
      obtain ⟨ws, hws, rfl⟩ := getm hr1
      have wm := tx.rows ws (List.mem_of_getElem? hws)
      have r72 := row_len wm.2.1 wm.2.2
      walk_at "go"
      refine ⟨rfl, ?_⟩
      walk_at "go"
      refine g_split (by decide +kernel) (by rw [sizeLine_eq]; omega) fun a H4 na s4 ha => ?_
      rw [split_row wm.1 wm.2.1] at ha
      have hC4 := s4 _ _ hC
      have jl : j < (rowsOf ds b).length := (List.getElem?_eq_some_iff.mp hws).1
      refine n_lcK hC4 (by omega) (by omega) fun H5 k5 hC5 => ⟨same_keep (s2.trans s4) nC k5, as ++ [a], by simp, ?_⟩
      rw [app_tail _ _ hws]
      refine Paired.snoc (RowsAt.keep k5 hC4 (by simp) (fun w hw => (tx.rows w (List.mem_of_mem_take hw)).1) (hR.same s4)) ?_
      exact k5 _ _ (ne_of_none hC na).symm ha
    · rintro C acc H2 nC hC ⟨s2, as, rfl, hR⟩
      have et : (rowsOf ds b).take (((rowsOf ds b).map (Txt.join " ")).map V.str).length = rowsOf ds b := List.take_of_length_le (by simp)
      rw [et] at hR
      have s12 := s1.trans s2
      cases hR with
      | @cons a0 _ as _ h0 hR =>
        walk_at "go"
        refine n_star1P (SqL.of hC) fun rw_ H3 nrw s3 hrw => ?_
        have h03 := s3 _ _ h0
        have hR3 := RowsAt.same s3 hR
        have s13 := s12.trans s3
        walk_at "go"
        try refine g_ix_l (SqL.of h03) (atI_nat (j := 0) rfl) ?_
        walk_at "go"
        refine if_F (by decide +kernel) ?_
        walk_at "go"
        try refine g_len_l (SqL.of h03) ?_
        walk_at "go"
        refine if_F (by simp [headOf]) ?_
        walk_at "go"
        try refine g_ix_l (SqL.of h03) (atI_nat (j := 1) rfl) ?_
        walk_at "go"
        refine ⟨b, rfl, dok.b0, tx.b4, fun H4 s4 => ?_⟩
        walk_at "go"
        refine if_F rfl ?_
        have h04 := s4 _ _ h03
        walk_at "go"
        try refine g_len_l (SqL.of h04) ?_
        walk_at "go"
        refine if_F (by simp [headOf]) ?_
        walk_at "go"
        refine n_lst (by simp) fun dl H5 ndl s5 hdl => ?_
        have h05 := s5 _ _ h04
        have hR5 := (hR3.same s4).same s5
        have hrw5 := s5 _ _ (s4 _ _ hrw)
        have s15 := s13.trans (s4.trans s5)
        have ndl0 : H dl = none := (s13.trans s4).free ndl
        have asl : as.length = ds.length := by rw [RowsAt.len hR]; simp
        have hfew := dok.few
        walk_at "go"
        refine g_forEL ?_
        walk_at "go"
        refine n_forEL (SqL.of hrw5) (fun i σ H' => ∃ (xs : List V) (u5 u6 u7 u8 u9 : Option V), σ = [some (.str (textOf ds b)), some (.ref a0), some (.ref rw_), u5, some (.ref dl), u6, u7, u8, u9, none] ∧ Same H H' ∧ Same H4 H' ∧ H' dl = some (.lst xs) ∧ DpAll K H' xs ((ds.take i).map pDay))
          ⟨[], _, _, _, _, _, rfl, s15, s5, hdl, .nil⟩ (fun i σ H' ⟨_, _, _, _, _, _, _, _, s6, _⟩ => SqL.of (s6 _ _ (s4 _ _ hrw))) ?_ ?_
        · rintro i y T σ H6 H7 hy ⟨xs, u5, u6, u7, u8, u9, rfl, sH6, s46, hdl6, hX6⟩ nT s7 hT
          obtain ⟨ai, hai, rfl⟩ := getm hy
          obtain ⟨ws, hws, hai4⟩ := RowsAt.get (hR3.same s4) hai
          obtain ⟨d, hd, rfl⟩ := getm hws
          have dm : d ∈ ds := List.mem_of_getElem? hd
          have nmd := tx.nm d dm
          have il : i < ds.length := (List.getElem?_eq_some_iff.mp hd).1
          have hxl : xs.length = i := by rw [hX6.length]; simp; omega
          have s47 := s46.trans s7
          have hai7 := s47 _ _ hai4
          have d8 := dok.le d dm
          refine g_gtup (SqT.of hT) rfl ?_
          walk_at "go"
          refine g_forEL ?_
          walk_at "go"
          refine n_forEL (SqL.of hai7) (fun j σ H' => ∃ (u7 u8 : Option V), σ = [some (.str (textOf ds b)), some (.ref a0), some (.ref rw_), u5, some (.ref dl), some (.int i), some (.ref ai), u7, u8, none] ∧ Same H7 H') ⟨_, _, rfl, Same.refl _⟩ (fun j σ H' ⟨_, _, _, s8⟩ => SqL.of (s8 _ _ hai7)) ?_ ?_
          · rintro j y2 T2 σ H8 H9 hy2 ⟨u7, u8, rfl, s8⟩ nT2 s9 hT2
            obtain ⟨z, hz, rfl⟩ := getm hy2
            have zm : z ∈ wordsOf d := List.mem_of_getElem? hz
            refine g_gtup (SqT.of hT2) rfl ?_
            walk_at "go"
            refine ⟨z, rfl, by have := ((words_ok nmd).2 z zm).le; rw [sizeLine_eq]; omega, fun H10 s10 => ?_⟩
            walk_at "go"
            have s810 := s8.trans (s9.trans s10)
            by_cases dn : d = []
            · have ez : z = "-" := by
                unfold wordsOf at zm
                rw [if_pos dn] at zm
                exact List.mem_singleton.mp zm
              subst ez
              rw [nm_no]
              refine if_T rfl ?_
              walk_at "go"
              refine if_F (by decide +kernel) ?_
              walk_at "go"
              try refine g_len_l (SqL.of (s810 _ _ hai7)) ?_
              walk_at "go"
              have el : ((wordsOf d).map V.str).length = 1 := by unfold wordsOf; rw [if_pos dn]; rfl
              refine if_F (by rw [el]; decide) ?_
              walk_at "go"
              exact ⟨_, _, rfl, s810⟩
            · have zd : z ∈ d := by
                unfold wordsOf at zm
                rwa [if_neg dn] at zm
              rw [decide_eq_true (nmd z zd)]
              refine if_F rfl ?_
              refine if_F rfl ?_
              walk_at "go"
              exact ⟨_, _, rfl, s810⟩
          · rintro σ H8 ⟨u7, u8, rfl, s8⟩
            have s48 := s47.trans s8
            have hai8 := s8 _ _ hai7
            have hdl8 := s8 _ _ (s7 _ _ hdl6)
            have hX8 : DpAll K H8 xs ((ds.take i).map pDay) := s8.dpa (s7.dpa hX6)
            walk_at "go"
            refine g_cutE (fun v H' => ∃ tp, v = .ref tp ∧ Same H8 H' ∧ SqT K H' tp (d.map V.str)) ?_ ?_
            · walk_at "go"
              refine n_lst (by simp [sizeLine_eq]) fun e1 H9 ne1 s9 he1 => ?_
              refine g_eq_d (.list ((wordsOf d).map .str)) (.list ((["-"] : List Str).map .str)) (.lst (SqL.of (s9 _ _ hai8)) (dpa_strs _)) (.lst (SqL.of he1) (.cons (.str _) .nil)) ((sh_strL fun z hz => ?_).ok (by decide)) ((sh_strL fun z hz => ?_).ok (by decide)) ?_
              · unfold wordsOf at hz
                split at hz
                · rw [List.mem_singleton.mp hz]; exact wd_str (.inr (.inl rfl))
                · exact (nmd z hz).str
              · rw [List.mem_singleton.mp hz]; exact wd_str (.inr (.inl rfl))
              rw [eqv_strL]
              walk_at "go"
              refine if_D (fun e => ?_) (fun e => ?_)
              · have dn : d = [] := by
                  by_cases q : d = []
                  · exact q
                  · exfalso
                    unfold wordsOf at e
                    rw [if_neg q] at e
                    have := nmd "-" (by rw [e]; simp)
                    exact absurd this (of_decide_eq_false nm_no)
                subst dn
                walk_at "go"
                refine n_tup (by simp [sizeLine_eq]) fun tp H10 ntp s10 htp => ?_
                exact ⟨tp, rfl, s9.trans s10, SqT.of htp⟩
              · have dn : wordsOf d = d := by
                  unfold wordsOf at e ⊢
                  split
                  · rename_i q; rw [if_pos q] at e; exact absurd rfl e
                  · rfl
                walk_at "go"
                refine g_tupOf_l (SqL.of (s9 _ _ hai8)) fun tp H10 ntp s10 htp => ?_
                rw [dn] at htp
                exact ⟨tp, rfl, s9.trans s10, SqT.of htp⟩
            · rintro _ H9 ⟨tp, rfl, s9, htp⟩
              have hdl9 := s9 _ _ hdl8
              walk_at "go"
              refine g_append hdl9 (by rw [sizeLine_eq]; omega) fun H10 k10 hdl10 => ?_
              walk_at "go"
              refine ⟨xs ++ [.ref tp], _, _, _, _, _, rfl, same_keep (sH6.trans (s7.trans (s8.trans s9))) ndl0 k10, same_keep (s48.trans s9) ndl k10, hdl10, ?_⟩
              rw [app_tail _ _ hd, List.map_append]
              exact dpa_keep k10 hdl9 (by rw [← List.map_append]; exact noL_days _) (dpa_app (s9.dpa hX8) (.cons (.tup htp (dpa_strs d)) .nil))
        · rintro σ H6 ⟨xs, u5, u6, u7, u8, u9, rfl, sH6, s46, hdl6, hX6⟩
          have ec : ds.take (as.map V.ref).length = ds := List.take_of_length_le (by rw [List.length_map]; omega)
          rw [ec] at hX6
          walk_at "go"
          try refine g_ix_l (SqL.of (s46 _ _ h04)) (atI_nat (j := 1) rfl) ?_
          walk_at "go"
          refine g_intS (PySem.W.KIN.num_reads dok.b0 (by have := tx.b4; omega)) (by have := num_len dok.b0 tx.b4; show (numS b).length ≤ 640; omega) ?_
          walk_at "go"
          refine n_mskw (.inr (SqL.of hdl6)) ?_
          refine n_plan hX6 dok fun H8 m s8 nm hm => ?_
          exact k H8 m (sH6.trans s8) (sH6.free nm) hm

end
abbrev s_law_text : Stmt := top 28
abbrev N_law_text : List Str := ["_law_days", "_law_lead", "_law_day_here"]
theorem sc_law_text : FnScope N_law_text ["_law_days", "_law_lead"] (defScope s_law_text) := ⟨rfl, rfl, rfl, by decide +kernel, rfl, by decide +kernel, by decide +kernel⟩
abbrev s_law_day : Stmt := top 30
abbrev N_law_day : List Str := ["_law_days", "_law_lead", "_law_day_here"]
theorem sc_law_day : FnScope N_law_day ["_law_days", "_law_lead", "_law_day_here"] (defScope s_law_day) := ⟨rfl, rfl, rfl, by decide +kernel, rfl, by decide +kernel, by decide +kernel⟩
section
variable {P : Program} {w : World} {K : PySem.W.Frag}
variable {mg : Str → Option Value} {base : Heap}
def sp_law_text (K : PySem.W.Frag) : Sp := fun vs H Q _ => ∃ (v : V) (ds : List (List Str)) (b : Int), vs = [v, .int b] ∧ Dp K H v (.list (ds.map pDay)) ∧ TxOk ds b ∧ ∀ H', Same H H' → Q (.str (textOf ds b)) H'
theorem ok_law_text (M : Md K mg) (G : Gd K mg "_law_text" s_law_text) : DefR P w K mg base "_law_text" 2 (sp_law_text K) := by
  refine def_mk G fun f fd F => fnr_mk (F.ok sc_law_text ?_ (fun cdv A outer s H vs Q E hr h => ?_)) (F.bindsN (fun _ _ _ _ _ _ us hl => match us, hl with | [_, _], _ => rfl))
  · rintro vs H Q E ⟨v, ds, b, rfl, _⟩; rfl
  · obtain ⟨v, ds, b, rfl, hv, tx, k⟩ := h
    have nd := sc_law_text.nd
    have dok := tx.dok
    have hfew := dok.few
    have b4 := tx.b4
    obtain ⟨dl, xs, rfl, hS, hX⟩ := hv.inv_l
    have hxl : xs.length = ds.length := by rw [hX.length]; simp
    have l4 := num_len dok.b0 tx.b4
    refine ⟨_, PSs.nox (pss_one (ps_ret (pe_joinK K pe_str (pe_op (op_addK K) (pe_lst (pa_cons (pe_op (op_addK K) pe_str (pe_strI M.b (pv 1))) pa_nil)) (pe_lc (own := [("_law_day_here", 2)]) (g := (gName 2)) (tt := tYes) rfl nd (pi_listK K (pv 0)) (blkOk_by (N := N_law_text) (sc := defScope s_law_text) (by decide +kernel)) (fun _ _ _ _ _ => (pg_name (i := 2) nd rfl (by first | exact Or.inl rfl | exact Or.inr rfl))) (fun _ _ _ _ _ => pts_nil) (fun _ _ _ _ _ => (pe_ifExp (pt_cmpR (op_neK K hr) (pv 2) (pe_tup pa_nil) (nomark _)) (pe_joinK K pe_str (pv 2)) pe_str))))))), ?_⟩
    show (_ : TS) _ [some (.ref dl), some (.int b), none] H
    walk_at "go"
    refine g_strI (num_small dok.b0 (by omega)) ?_
    have l5 : ("lead " : Str).length = 5 := by decide +kernel
    refine g_add_s (by rw [l5, sizeLine_eq]; omega) ?_
    have eh : ("lead " : Str) ++ numS b = Txt.join " " (headOf b) := by
      rw [head_text]
      refine str_ext ?_
      simp only [TL.tl_append]
      rfl
    rw [eh]
    walk_at "go"
    refine n_lst (by simp [sizeLine_eq]) fun l0 H1 nl0 s1 hl0 => ?_
    walk_at "go"
    refine n_lcL (same_l s1 hS) (lc_map (walk_list (xs := xs)) (fun j => .str (rowOf (ds.getD j []))) (fun H5 s5 => same_l (s1.trans s5) hS) ?_ ?_)
    · rintro C j y H5 H6 nC hj s5 hC ⟨e, hyj⟩
      subst e
      have s15 := s1.trans s5
      obtain ⟨dd, hdd, hDy⟩ := (s15.dpa hX).get hyj
      obtain ⟨zs, hzs, rfl⟩ := getm hdd
      have zm : zs ∈ ds := List.mem_of_getElem? hzs
      obtain ⟨t2, ws, rfl, hT2, hW⟩ := hDy.inv_t
      have ew : ws = zs.map V.str := strs_of hW
      subst ew
      walk_at "go"
      refine ⟨rfl, ?_⟩
      walk_at "go"
      refine n_tup (by simp [sizeLine_eq]) fun te H7 nte s7 hte => ?_
      refine g_ne_d (.tuple (zs.map .str)) (.tuple (([] : List Str).map .str)) (.tup (same_t s7 hT2) (dpa_strs zs)) (.tup (SqT.of hte) .nil) ((sh_strT fun z hz => (tx.nm zs zm z hz).str).ok (by decide)) ((sh_strT (a := []) (by simp)).ok (by decide)) ?_
      rw [eqv_strT]
      walk_at "go"
      refine if_ND (fun e => ?_) (fun e => ?_)
      · walk_at "go"
        refine g_join (.inr (same_t s7 hT2)) (join_fits (B := 8) (n := 8) (fun z hz => (tx.nm zs zm z hz).wd.le) (dok.le zs zm) space1 (by decide)) ?_
        exact n_mapK nC (s5.trans s7) (s7 _ _ hC) (by rw [getD_of hzs, ← row_day, if_neg e])
      · walk_at "go"
        exact n_mapK nC (s5.trans s7) (s7 _ _ hC) (by rw [getD_of hzs, ← row_day, if_pos e])
    · intro C H5 nC s5 hC
      have e1 : (List.range xs.length).map (fun j => V.str (rowOf (ds.getD j []))) = (ds.map rowOf).map V.str := by
        rw [hxl, List.map_map]
        exact range_getD ds [] fun d : List Str => V.str (rowOf d)
      rw [e1] at hC
      refine g_add_l (s5 _ _ hl0) hC (by simp [sizeLine_eq]; omega) fun p H6 np s6 hp => ?_
      have e2 : [V.str (Txt.join " " (headOf b))] ++ (ds.map rowOf).map V.str = ((rowsOf ds b).map (Txt.join " ")).map V.str := by simp [rowsOf, rowOf]
      rw [e2] at hp
      refine g_join (.inl (SqL.of hp)) (join_fits (B := 72) (n := 101) tx.lens (by rw [List.length_map]; exact tx.rlen) line1 (by decide)) ?_
      exact k H6 (s1.trans (s5.trans s6))
def sp_law_day (K : PySem.W.Frag) : Sp := fun vs H Q _ => ∃ (v : V) (ds : List (List Str)) (b : Int) (d : Nat), vs = [v, .int b, .int d] ∧ Dp K H v (.list (ds.map pDay)) ∧ DOk ds b ∧ ∀ t, SqT K H t ((dayOf ds b d).map V.str) → Q (.ref t) H
theorem ok_law_day (M : Md K mg) (G : Gd K mg "_law_day" s_law_day) : DefR P w K mg base "_law_day" 2 (sp_law_day K) := by
  refine def_mk G fun f fd F => fnr_mk (F.ok sc_law_day ?_ (fun cdv A outer s H vs Q E hr h => ?_)) (F.bindsN (fun _ _ _ _ _ _ us hl => match us, hl with | [_, _, _], _ => rfl))
  · rintro vs H Q E ⟨v, ds, b, d, rfl, _⟩; rfl
  · obtain ⟨v, ds, b, d, rfl, hv, dok, k⟩ := h
    have nd := sc_law_day.nd
    obtain ⟨dl, ys, rfl, hU, hY⟩ := hv.inv_l
    have hyl : ys.length = ds.length := by rw [hY.length]; simp
    have pb := plc_lt (n := ds.length) d dok.b0 dok.b1
    have b0 := dok.b0
    have b1 := dok.b1
    obtain ⟨y, hy⟩ : ∃ y, ys[(plc ds.length b d).toNat]? = some y := ⟨_, List.getElem?_eq_getElem (by omega)⟩
    obtain ⟨dd, hdd, hDy⟩ := hY.get hy
    obtain ⟨zs, hzs, rfl⟩ := getm hdd
    have hz : dayOf ds b d = zs := by simp [dayOf, List.getD, hzs]
    obtain ⟨t2, ws, rfl, hT2, hW⟩ := hDy.inv_t
    have ew : ws = zs.map V.str := strs_of hW
    subst ew
    rw [hz] at k
    refine ⟨_, PSs.nox (pss_cons (ps_if (pt_cmpR op_lt (pv 2) (pe_len K M.b (pv 0)) (nomark _)) (pss_one (ps_ret (pe_ix (ix_K K) (pv 0) (pv 2) (fun _ _ => rfl)))) pss_nil)
    (pss_one (ps_ret (pe_ix (ix_K K) (pv 0) (pe_op (op_addK K) (pv 1) (pe_op op_mod (pe_int1 M.b (pe_op op_sub (pv 2) (pv 1))) (pe_op op_sub (pe_len K M.b (pv 0)) (pv 1)))) (fun _ _ => rfl))))), ?_⟩
    show (_ : TS) _ [some (.ref dl), some (.int b), some (.int d)] H
    walk_at "go"
    refine g_len_l hU ?_
    rw [hyl]
    walk_at "go"
    refine if_D (fun e => ?_) (fun e => ?_)
    · walk_at "go"
      have ep : plc ds.length b d = d := by rw [plc, if_pos e]
      rw [ep] at hy
      exact g_ix_l hU (atI_i (by omega) hy) (k t2 hT2)
    · walk_at "go"
      refine g_len_l hU ?_
      rw [hyl]
      walk_at "go"
      have ep : plc ds.length b d = b + (d - b) % (ds.length - b) := by rw [plc, if_neg e]
      rw [ep] at hy pb
      exact g_ix_l hU (atI_i pb.1 hy) (k t2 hT2)

end
abbrev s_law_some : Stmt := top 29
abbrev N_law_some : List Str := ["_law_h", "_law_names", "_law_most", "_law_left", "_law_found", "_law_k"]
theorem sc_law_some : FnScope N_law_some ["_law_h", "_law_names", "_law_most"] (defScope s_law_some) := ⟨rfl, rfl, rfl, by decide +kernel, rfl, by decide +kernel, by decide +kernel⟩
section
variable {P : Program} {w : World} {K : PySem.W.Frag}
variable {mg : Str → Option Value} {base : Heap}
theorem perm_pop {α : Type} {pool : List α} {i : Nat} {x : α} (h : pool[i]? = some x) : List.Perm (x :: pool.eraseIdx i) pool := by
  induction pool generalizing i with
  | nil => simp at h
  | cons a r ih =>
    cases i with
    | zero =>
      have e : a = x := by simpa using h
      subst e
      simp
    | succ i =>
      have h' : r[i]? = some x := by simpa using h
      rw [List.eraseIdx_cons_succ]
      exact (List.Perm.swap a x _).trans ((ih h').cons a)
theorem map_eraseIdx {α β : Type} (f : α → β) : ∀ (l : List α) (i : Nat), (l.map f).eraseIdx i = (l.eraseIdx i).map f
  | [], _ => rfl
  | _ :: _, 0 => rfl
  | a :: l, i + 1 => by simp [map_eraseIdx f l i]
def sp_law_some (K : PySem.W.Frag) : Sp := fun vs H Q _ => ∃ (d l nm : Addr) (zs : List Str) (n : Int), vs = [.ref d, .ref nm, .int n] ∧ Src K H d l ∧ H nm = some (.lst (zs.map V.str)) ∧ zs.Nodup ∧ zs.length ≤ 8 ∧ 0 ≤ n ∧ n ≤ 1000 ∧
  ∀ (H' : Hp) (t : Addr) (ys : List Str), Keep2 d l H H' → Src K H' d l → SqT K H' t (ys.map V.str) → ys.Nodup → ys.length ≤ 8 → (∀ z ∈ ys, z ∈ zs) → Q (.ref t) H'
theorem ok_law_some (M : Md K mg) (G : Gd K mg "_law_some" s_law_some) (D_law_next : DefR P w K mg base "_law_next" 2 (sp_law_next K)) : DefR P w K mg base "_law_some" 4 (sp_law_some K) := by
  refine def_mk G fun f fd F => fnr_mk (F.ok sc_law_some ?_ (fun cdv A outer s H vs Q E hr h => ?_)) (F.bindsN (fun _ _ _ _ _ _ us hl => match us, hl with | [_, _, _], _ => rfl))
  · rintro vs H Q E ⟨d, l, nm, zs, n, rfl, _⟩; rfl
  · obtain ⟨d, l, nm, zs, n, rfl, hs, hN, zn, z8, n0, n1, k⟩ := h
    have nd := sc_law_some.nd
    refine ⟨_, PSs.nox (pss_cons (ps_par (i := 3) (j := 4) rfl nd rfl rfl (by decide) rfl rfl (pa_cons (pe_listOf K M.b (pv 1)) (pa_cons (pe_lst pa_nil) pa_nil)) (by rfl))
    (pss_cons (ps_for PassesOwn.never rfl (pi_range1 rfl M.b.range (pa_cons (pe_callR D_law_next (hr.mono (by first | decide | omega)) passN (pa_cons (pv 0) (pa_cons (pe_op (op_addK K) (pe_min2 M.b (pa_cons (pv 2) (pa_cons (pe_len K M.b (pv 3)) pa_nil))) pe_int) pa_nil))) pa_nil)) (pg_name (i := 5) nd rfl (by first | exact Or.inl rfl | exact Or.inr rfl)) (pss_one (ps_expr (as_bm K (pe_bm PySem.F.plainAttrs_list PySem.F.slot_list_append PySem.F.type_list_append mt_append (pv 4) (pa_cons (as_bm K (pe_bm PySem.F.plainAttrs_list PySem.F.slot_list_pop PySem.F.type_list_pop mt_popAt (pv 3) (pa_cons (pe_callR D_law_next (hr.mono (by first | decide | omega)) passN (pa_cons (pv 0) (pa_cons (pe_len K M.b (pv 3)) pa_nil))) pa_nil))) pa_nil)))))) (pss_one (ps_ret (pe_tupOf K M.b (pv 4)))))), ?_⟩
    show (_ : TS) _ [some (.ref d), some (.ref nm), some (.int n), none, none, none] H
    walk_at "go"
    refine g_listOf (.inl (SqL.of hN)) fun lf H1 nlf s1 hlf => ?_
    walk_at "go"
    refine n_lst (by simp) fun fo H2 nfo s2 hfo => ?_
    have s12 := s1.trans s2
    have Flf := hs.fr nlf
    have Ffo := hs.fr (s1.free nfo)
    have nlo : lf ≠ fo := ne_of_none hlf nfo
    have hlf2 := s2 _ _ hlf
    walk_at "go"
    have mn : 0 ≤ (if ((zs.map V.str).length : Int) < n then ((zs.map V.str).length : Int) else n) ∧ (if ((zs.map V.str).length : Int) < n then ((zs.map V.str).length : Int) else n) ≤ zs.length := by
      rw [List.length_map]; split <;> omega
    generalize (if ((zs.map V.str).length : Int) < n then ((zs.map V.str).length : Int) else n) = mm at mn ⊢
    refine ⟨d, l, _, rfl, hs.same s12, by omega, by omega, fun H3 r r0 r1 k3 c3 => ?_⟩
    walk_at "go"
    refine n_forR1 (by omega) (by omega) (fun i σ H' => ∃ (ps ys : List Str) (u : Option V), σ = [some (.ref d), some (.ref nm), some (.int n), some (.ref lf), some (.ref fo), u] ∧ Keep2 d l H H' ∧ Src K H' d l ∧ H' lf = some (.lst (ps.map V.str)) ∧ H' fo = some (.lst (ys.map V.str)) ∧ ys.length = i ∧ List.Perm (ys ++ ps) zs)
      ⟨zs, [], _, rfl, (Same.k2 s12).trans k3, c3, k3 _ _ Flf.nd Flf.nl hlf2, k3 _ _ Ffo.nd Ffo.nl hfo, rfl, by simp⟩ ?_ ?_
    · rintro i σ H4 hi ⟨ps, ys, u, rfl, kH, c4, hL, hY, yl, pm⟩
      have hpl : ys.length + ps.length = zs.length := by
        have := pm.length_eq
        rwa [List.length_append] at this
      have p0 : (0 : Int) < ((ps.map V.str).length : Int) := by rw [List.length_map]; omega
      walk_at "go"
      refine ⟨d, l, _, rfl, c4, p0, by rw [List.length_map]; omega, fun H5 q q0 qq k5 c5 => ?_⟩
      have qi : q.toNat < ps.length := by rw [List.length_map] at qq; omega
      have hx : ps[q.toNat]? = some ps[q.toNat] := List.getElem?_eq_getElem qi
      generalize ps[q.toNat] = z at hx
      have hL5 := k5 _ _ Flf.nd Flf.nl hL
      have hY5 := k5 _ _ Ffo.nd Ffo.nl hY
      walk_at "go"
      refine g_popAt (y := .str z) hL5 q0 (by rw [List.getElem?_map, hx]; rfl) (by simp [sizeLine_eq]; omega) fun H6 k6 hL6 => ?_
      have hY6 := k6 _ _ nlo.symm hY5
      walk_at "go"
      refine g_append hY6 (by simp [sizeLine_eq]; omega) fun H7 k7 hY7 => ?_
      walk_at "go"
      refine ⟨ps.eraseIdx q.toNat, ys ++ [z], _, rfl, ((kH.trans k5).then nlf k6).then (s1.free nfo) k7, (c5.keep k6 Flf).keep k7 Ffo, ?_, ?_, by simp; omega, ?_⟩
      · rw [k7 _ _ nlo hL6, map_eraseIdx]
      · rw [hY7]; simp
      · refine List.Perm.trans ?_ pm
        rw [List.append_assoc]
        exact List.Perm.append_left ys (by simpa using perm_pop hx)
    · rintro σ H4 ⟨ps, ys, u, rfl, kH, c4, hL, hY, yl, pm⟩
      have hpl : ys.length + ps.length = zs.length := by
        have := pm.length_eq
        rwa [List.length_append] at this
      walk_at "go"
      refine g_tupOf_l (SqL.of hY) fun t H5 nt s5 ht => ?_
      exact k H5 t ys (kH.trans (Same.k2 s5)) (c4.same s5) (SqT.of ht) (List.nodup_append.mp (pm.nodup_iff.mpr zn)).1 (by omega) fun z hz => pm.subset (List.mem_append_left _ hz)

end
abbrev s_law_alike : Stmt := top 27
abbrev N_law_alike : List Str := ["_law_found", "_law_due", "_law_k"]
theorem sc_law_alike : FnScope N_law_alike ["_law_found", "_law_due"] (defScope s_law_alike) := ⟨rfl, rfl, rfl, by decide +kernel, rfl, by decide +kernel, by decide +kernel⟩
section
variable {P : Program} {w : World} {K : PySem.W.Frag}
variable {mg : Str → Option Value} {base : Heap}
/-- of None and None, of an int and the same int -/
def sp_alike0 (K : PySem.W.Frag) : Sp := fun vs H Q _ => ∃ x : V, vs = [x, x] ∧ (x = .non ∨ ∃ i, x = .int i) ∧ ∀ H', Same H H' → Q (.bl true) H'
theorem ok_law_alike0 (M : Md K mg) (G : Gd K mg "_law_alike" s_law_alike) : DefR P w K mg base "_law_alike" 2 (sp_alike0 K) := by
  refine def_mk G fun f fd F => fnr_mk (F.ok sc_law_alike ?_ (fun cdv A outer s H vs Q E hr h => ?_)) (F.bindsN (fun _ _ _ _ _ _ us hl => match us, hl with | [_, _], _ => rfl))
  · rintro vs H Q E ⟨x, rfl, _⟩; rfl
  · obtain ⟨x, rfl, hx, k⟩ := h
    have nd := sc_law_alike.nd
    refine ⟨_, PSs.nox (pss_cons (ps_if (pt_val (pe_isiB K M.b M.b.dict bt_dict (pv 1))) (pss_one ps_never) pss_nil)
    (pss_cons (ps_if (pt_val (pe_isiTT K M.b (pv 1))) (pss_cons ps_never (pss_cons ps_never (pss_one ps_never))) pss_nil)
    (pss_cons (ps_if (PW.pt (pw_or (pt_cmpR op_isN1 (pv 1) pe_non (nomark _)) (pw_or1 (pt_val (pe_isiB K M.b M.b.str bt_str (pv 1)))))) (pss_one (ps_ret (pe_and (pe_cmpR (op_eqK K hr) (pv 0) (pv 1) (nomark _)) (pe_one (pe_cmpR (op_eqK K hr) (pe_isiB K M.b M.b.str bt_str (pv 0)) (pe_isiB K M.b M.b.str bt_str (pv 1)) (nomark _)))))) pss_nil)
    (pss_one (ps_ret (pe_and (pe_isiB K M.b M.b.int bt_int (pv 0)) (pe_and (pe_cmpR (op_eqK K hr) (pe_isiB K M.b M.b.bool bt_bool (pv 0)) (pe_isiB K M.b M.b.bool bt_bool (pv 1)) (nomark _)) (pe_one (pe_cmpR (op_eqK K hr) (pv 0) (pv 1) (nomark _)))))))))), ?_⟩
    show (_ : TS) _ [some x, some x, none] H
    rcases hx with rfl | ⟨i, rfl⟩
    · walk_at "go"
      refine g_isi (.base .non) (b := false) (by decide +kernel) ?_
      walk_at "go"
      refine if_F rfl ?_
      walk_at "go"
      refine n_isTT (t := "NoneType") (b := false) (c := false) (fun _ _ => .base .non) (by decide +kernel) (by decide +kernel) fun H1 s1 => ?_
      walk_at "go"
      refine if_F rfl ?_
      walk_at "go"
      refine if_T rfl ?_
      walk_at "go"
      refine if_T rfl ?_
      walk_at "go"
      refine g_eq_d .none .none .non .non (sh_n.ok (by decide)) (sh_n.ok (by decide)) ?_
      walk_at "go"
      refine if_T rfl ?_
      walk_at "go"
      refine g_isi (.base .non) (b := false) (by decide +kernel) ?_
      walk_at "go"
      refine g_isi (.base .non) (b := false) (by decide +kernel) ?_
      walk_at "go"
      exact k H1 s1
    · walk_at "go"
      refine g_isi (.base (.int _)) (b := false) (by decide +kernel) ?_
      walk_at "go"
      refine if_F rfl ?_
      walk_at "go"
      refine n_isTT (t := "int") (b := false) (c := false) (fun _ _ => .base (.int _)) (by decide +kernel) (by decide +kernel) fun H1 s1 => ?_
      walk_at "go"
      refine if_F rfl ?_
      walk_at "go"
      refine if_F rfl ?_
      walk_at "go"
      refine g_isi (.base (.int _)) (b := false) (by decide +kernel) ?_
      walk_at "go"
      refine if_F rfl ?_
      walk_at "go"
      refine g_isi (.base (.int _)) (b := true) (by decide +kernel) ?_
      walk_at "go"
      refine if_T rfl ?_
      walk_at "go"
      refine g_isi (.base (.int _)) (b := false) (by decide +kernel) ?_
      walk_at "go"
      refine g_isi (.base (.int _)) (b := false) (by decide +kernel) ?_
      walk_at "go"
      refine if_T rfl ?_
      walk_at "go"
      rw [decide_eq_true rfl]
      exact k H1 s1

end
section
variable {P : Program} {w : World} {K : PySem.W.Frag}
variable {mg : Str → Option Value} {base : Heap}
/-! ### the first day that has a name, among so many -/
theorem filt_head {p : Nat → Bool} {n k : Nat} {r : List Nat} (h : (List.range n).filter p = k :: r) : p k = true ∧ k < n ∧ ∀ j, j < k → p j = false := by
  have hk : k ∈ (List.range n).filter p := by rw [h]; simp
  have hk' := List.mem_filter.mp hk
  refine ⟨hk'.2, List.mem_range.mp hk'.1, fun j hj => ?_⟩
  cases q : p j with
  | false => rfl
  | true =>
    exfalso
    have hm : j ∈ (List.range n).filter p := List.mem_filter.mpr ⟨List.mem_range.mpr (by have := List.mem_range.mp hk'.1; omega), q⟩
    have pw : ((List.range n).filter p).Pairwise (· < ·) := List.Pairwise.filter _ List.pairwise_lt_range
    rw [h] at hm pw
    rcases List.mem_cons.mp hm with z | z
    · omega
    · have := (List.pairwise_cons.mp pw).1 j z
      omega
theorem filt_none {p : Nat → Bool} {n : Nat} (h : (List.range n).filter p = []) : ∀ j, j < n → p j = false := fun j hj => by
  have := List.filter_eq_nil_iff.mp h j (List.mem_range.mpr hj)
  simpa using this
section
variable {ds : List (List Str)} {b : Int}
theorem day_back (o k : Nat) (b0 : 0 ≤ b) (b1 : b < ds.length) (h : ds.length ≤ k) : dayOf ds b (o + k) = dayOf ds b (o + (k - (ds.length - b.toNat))) := by
  unfold dayOf
  rw [plc_nat _ b0 b1, plc_nat _ b0 b1, if_neg (by omega), if_neg (by omega)]
  have e : o + k - b.toNat = (o + (k - (ds.length - b.toNat)) - b.toNat) + (ds.length - b.toNat) := by omega
  rw [e, Nat.add_mod_right]
/-- what has the name at all has it soon -/
theorem soon {z : Str} {o k : Nat} (b0 : 0 ≤ b) (b1 : b < ds.length) (h1 : inDay ds b z (o + k) = true) (h2 : ∀ j, j < k → inDay ds b z (o + j) = false) : k < ds.length := by
  by_cases h : k < ds.length
  · exact h
  · exfalso
    have := h2 (k - (ds.length - b.toNat)) (by omega)
    unfold inDay at this h1
    rw [← day_back o k b0 b1 (by omega), h1] at this
    cases this
end
theorem PlanAt.k2 {H H' : Hp} {d l p : Addr} {ds : List (List Str)} {b : Int} (c : Src K H d l) (e : Keep2 d l H H') (h : PlanAt K CP H p ds b) : PlanAt K CP H' p ds b := by
  have c' := c
  obtain ⟨ne, m, i, ns, h1, h2, _⟩ := c'
  obtain ⟨dx, t, hp, hv⟩ := h
  refine ⟨dx, t, e _ _ (fun q => ?_) (fun q => ?_) hp, dp_tk (c.tk e) _ _ (by show noLs _ = true; exact noL_days ds) hv⟩
  · rw [q, h1] at hp; cases hp
  · rw [q, h2] at hp; cases hp
theorem PlanAt.ins {H : Hp} {p : Addr} {ds : List (List Str)} {b : Int} (h : PlanAt K CP H p ds b) : ∃ dx t, H p = some (.ins CP dx (planFs t b)) := let ⟨dx, t, h1, _⟩ := h; ⟨dx, t, h1⟩
theorem plan_noh (t : Addr) (b : Int) : (planFs t b).lookup ("harvests" : Str) = none := by
  have h1 : (("harvests" : Str) == ("parts" : Str)) = false := by decide +kernel
  have h2 : (("harvests" : Str) == ("begin" : Str)) = false := by decide +kernel
  simp [planFs, List.lookup, h1, h2]

end
abbrev s_law : Stmt := top 31
abbrev N_law : List Str := ["_law_script", "_law_h", "_law_names", "_law_turn", "_law_days", "_law_k", "_law_lead", "_law_plan", "_law_one", "_law_two", "_law_shifted", "_law_name", "_law_found", "_law_due"]
theorem sc_law : FnScope N_law ["_law_script"] (defScope s_law) := ⟨rfl, rfl, rfl, by decide +kernel, rfl, by decide +kernel, by decide +kernel⟩
section
variable {P : Program} {w : World} {K : PySem.W.Frag}
variable {mg : Str → Option Value} {base : Heap}
def sp_law (K : PySem.W.Frag) : Sp := fun vs H Q _ => ∃ (a : Addr) (ns : List Int), vs = [.ref a] ∧ SqL K H a (ns.map V.int) ∧ ns.length ≤ 63 ∧ ∀ H', Q (.bl true) H'
def three : List Str := ["ash", "bo", "cork"]
theorem three_nm : ∀ z ∈ three, NmOk z := by decide +kernel
theorem three_nd : three.Nodup := by decide +kernel
def optV : Option Nat → V
  | none => .non
  | some k => .int (k : Int)
theorem ok_law {f : Addr} {fd : FuncData} (M : Md K mg) (c_Plan : mg "Plan" = some (.ref CP)) (kit : KitIs K CP) (F : FnD K "law" "law" s_law f fd) (D_law_mix : DefR P w K mg base "_law_mix" 2 (sp_law_mix K)) (D_law_next : DefR P w K mg base "_law_next" 2 (sp_law_next K)) (D_law_some : DefR P w K mg base "_law_some" 4 (sp_law_some K))
    (D_law_text : DefR P w K mg base "_law_text" 2 (sp_law_text K)) (D_law_day : DefR P w K mg base "_law_day" 2 (sp_law_day K)) (D_law_alike : DefR P w K mg base "_law_alike" 2 (sp_alike0 K)) (D_parse_plan : DefR P w K mg base "parse_plan" 6 (sp_parse K CP)) (D_format_plan : DefR P w K mg base "format_plan" 4 (sp_format K CP))
    (P_Plan_days : PropR P w K mg base CP "days" 2 (sp_plan_days CP)) (P_Plan_lead : PropR P w K mg base CP "lead" 2 (sp_plan_lead CP)) (M_Plan___rshift__ : MethR P w K mg base CP "__rshift__" 6 (sp_plan_rshift K CP)) (BI_Plan : BinI K CP ("__rshift__", "__rrshift__")) (M_Plan___eq__ : MethR P w K mg base CP "__eq__" 2 (sp_plan_eq K CP)) (EO_Plan : EqO K CP)
    (M_Plan___getitem__ : MethR P w K mg base CP "__getitem__" 4 (sp_plan_getitem K CP)) (FI_Plan___getitem__ : ∀ f, Meth K CP "__getitem__" f → PySem.W.fnIn K f = true) (M_Plan___call__ : MethR P w K mg base CP "__call__" 4 (sp_plan_call K CP)) (FI_Plan___call__ : ∀ f, Meth K CP "__call__" f → PySem.W.fnIn K f = true)
    (M_Plan_harvests : MethG P w K mg base CP "harvests" 4 (sp_plan_harvests K CP)) : FnOk P w K mg base CX0 14 f fd ["_law_script"] (sp_law K) := by
  refine FunD.ok F sc_law ?_ (fun cdv A outer s H vs Q E hr h => ?_)
  · rintro vs H Q E ⟨a, ns, rfl, _⟩; rfl
  · obtain ⟨a, ns, rfl, hS, hl63, kq⟩ := h
    have nd := sc_law.nd
    have hB : BIG = 1000000000000000000 := rfl
    refine ⟨_, PSs.nox (pss_cons (ps_set (i := 1) nd rfl (by first | exact Or.inl rfl | exact Or.inr rfl) (pe_callR D_law_mix (hr.mono (by first | decide | omega)) passN (pa_cons (pv 0) (pa_cons pe_int pa_nil))))
    (pss_cons (ps_set (i := 2) nd rfl (by first | exact Or.inl rfl | exact Or.inr rfl) (pe_lst (pa_cons pe_str (pa_cons pe_str (pa_cons pe_str pa_nil)))))
    (pss_cons (ps_for PassesOwn.never rfl (pi_range1 rfl M.b.range (pa_cons pe_int pa_nil)) (pg_name (i := 3) nd rfl (by first | exact Or.inl rfl | exact Or.inr rfl)) (pss_cons (ps_setLc (i := 4) (own := [("_law_k", 5)]) (g := (gName 5)) (tt := tYes) rfl nd rfl rfl (sw_true rfl rfl rfl (by decide +kernel)) (pi_range1 rfl M.b.range (pa_cons (pe_op (op_addK K) pe_int (pe_callR D_law_next (hr.mono (by first | decide | omega)) passN (pa_cons (pv 1) (pa_cons pe_int pa_nil)))) pa_nil)) (blkOk_by (N := N_law) (sc := defScope s_law) (by decide +kernel)) (fun _ _ _ _ _ => (pg_name (i := 5) nd rfl (by first | exact Or.inl rfl | exact Or.inr rfl))) (fun _ _ _ _ _ => pts_nil) (fun _ _ _ _ _ => (pe_callR D_law_some (hr.mono (by first | decide | omega)) passN (pa_cons (pv 1) (pa_cons (pv 2) (pa_cons pe_int pa_nil))))))
    (pss_cons (ps_set (i := 6) nd rfl (by first | exact Or.inl rfl | exact Or.inr rfl) (pe_callR D_law_next (hr.mono (by first | decide | omega)) passN (pa_cons (pv 1) (pa_cons (pe_len K M.b (pv 4)) pa_nil))))
    (pss_cons (ps_set (i := 7) nd rfl (by first | exact Or.inl rfl | exact Or.inr rfl) (pe_callR D_parse_plan (hr.mono (by first | decide | omega)) passN (pa_cons (pe_callR D_law_text (hr.mono (by first | decide | omega)) passN (pa_cons (pv 4) (pa_cons (pv 6) pa_nil))) pa_nil)))
    (pss_cons (ps_if (PW.pt (pw_or (pt_cmpR (op_neK K hr) (pe_tup (pa_cons (pe_propR P_Plan_days (hr.mono (by first | decide | omega)) (pv 7)) (pa_cons (pe_propR P_Plan_lead (hr.mono (by first | decide | omega)) (pv 7)) pa_nil))) (pe_tup (pa_cons (pe_tupOf K M.b (pv 4)) (pa_cons (pv 6) pa_nil))) (nomark _)) (pw_or1 (pt_cmpR (op_neK K hr) (pe_callR D_format_plan (hr.mono (by first | decide | omega)) passN (pa_cons (pv 7) pa_nil)) (pe_callR D_law_text (hr.mono (by first | decide | omega)) passN (pa_cons (pv 4) (pa_cons (pv 6) pa_nil))) (nomark _))))) (pss_one (ps_ret pe_bl)) pss_nil)
    (pss_cons (ps_set (i := 8) nd rfl (by first | exact Or.inl rfl | exact Or.inr rfl) (pe_ix (ix_K K) (pe_lst (pa_cons (pe_callR D_law_next (hr.mono (by first | decide | omega)) passN (pa_cons (pv 1) (pa_cons pe_int pa_nil))) (pa_cons (pe_op (op_addK K) (pe_op op_pow pe_int pe_int) (pe_callR D_law_next (hr.mono (by first | decide | omega)) passN (pa_cons (pv 1) (pa_cons pe_int pa_nil)))) pa_nil))) (pe_callR D_law_next (hr.mono (by first | decide | omega)) passN (pa_cons (pv 1) (pa_cons pe_int pa_nil))) (fun _ _ => rfl)))
    (pss_cons (ps_set (i := 9) nd rfl (by first | exact Or.inl rfl | exact Or.inr rfl) (pe_ix (ix_K K) (pe_lst (pa_cons (pe_callR D_law_next (hr.mono (by first | decide | omega)) passN (pa_cons (pv 1) (pa_cons pe_int pa_nil))) (pa_cons (pe_op (op_addK K) (pe_op op_pow pe_int pe_int) (pe_callR D_law_next (hr.mono (by first | decide | omega)) passN (pa_cons (pv 1) (pa_cons pe_int pa_nil)))) pa_nil))) (pe_callR D_law_next (hr.mono (by first | decide | omega)) passN (pa_cons (pv 1) (pa_cons pe_int pa_nil))) (fun _ _ => rfl)))
    (pss_cons (ps_set (i := 10) nd rfl (by first | exact Or.inl rfl | exact Or.inr rfl) (pe_op (op_ownI M_Plan___rshift__ BI_Plan (hr.mono (by first | decide | omega))) (pv 7) (pv 8)))
    (pss_cons (ps_if (PW.pt (pw_or (pt_not (pt_val (pe_isiC K M.b c_Plan (pv 10)))) (pw_or1 (pt_cmpR (op_ownNe M_Plan___eq__ EO_Plan (hr.mono (by first | decide | omega))) (pe_op (op_ownI M_Plan___rshift__ BI_Plan (hr.mono (by first | decide | omega))) (pv 10) (pv 9)) (pe_op (op_ownI M_Plan___rshift__ BI_Plan (hr.mono (by first | decide | omega))) (pv 7) (pe_op (op_addK K) (pv 8) (pv 9))) (nomark _))))) (pss_one (ps_ret pe_bl)) pss_nil)
    (pss_cons (ps_if (PW.pt (pw_or (pt_cmpR (op_ownNe M_Plan___eq__ EO_Plan (hr.mono (by first | decide | omega))) (pe_callR D_parse_plan (hr.mono (by first | decide | omega)) passN (pa_cons (pe_callR D_format_plan (hr.mono (by first | decide | omega)) passN (pa_cons (pv 10) pa_nil)) pa_nil)) (pv 10) (nomark _)) (pw_or1 (pt_cmpR (op_ownNe M_Plan___eq__ EO_Plan (hr.mono (by first | decide | omega))) (pe_op (op_ownI M_Plan___rshift__ BI_Plan (hr.mono (by first | decide | omega))) (pv 7) pe_int) (pv 7) (nomark _))))) (pss_one (ps_ret pe_bl)) pss_nil)
    (pss_cons (ps_for PassesOwn.never rfl (pi_range1 rfl M.b.range (pa_cons (pe_op (op_addK K) (pe_op op_mul pe_int (pe_len K M.b (pv 4))) pe_int) pa_nil)) (pg_name (i := 5) nd rfl (by first | exact Or.inl rfl | exact Or.inr rfl)) (pss_one (ps_if (PW.pt (pw_or (pt_cmpR (op_neK K hr) (pe_ownIx M_Plan___getitem__ FI_Plan___getitem__ (hr.mono (by first | decide | omega)) (pv 10) (pv 5)) (pe_ownIx M_Plan___getitem__ FI_Plan___getitem__ (hr.mono (by first | decide | omega)) (pv 7) (pe_op (op_addK K) (pv 8) (pv 5))) (nomark _)) (pw_or1 (pt_cmpR (op_neK K hr) (pe_ownIx M_Plan___getitem__ FI_Plan___getitem__ (hr.mono (by first | decide | omega)) (pv 7) (pv 5)) (pe_callR D_law_day (hr.mono (by first | decide | omega)) passN (pa_cons (pv 4) (pa_cons (pv 6) (pa_cons (pv 5) pa_nil)))) (nomark _))))) (pss_one (ps_ret pe_bl)) pss_nil)))
    (pss_one (ps_for PassesOwn.never rfl (pi_listK K (pv 2)) (pg_name (i := 11) nd rfl (by first | exact Or.inl rfl | exact Or.inr rfl)) (pss_cons (ps_setLc (i := 12) (own := [("_law_k", 5)]) (g := (gName 5)) rfl nd rfl rfl (sw_true rfl rfl rfl (by decide +kernel)) (pi_range1 rfl M.b.range (pa_cons pe_int pa_nil)) (blkOk_by (N := N_law) (sc := defScope s_law) (by decide +kernel)) (fun _ _ _ _ _ => (pg_name (i := 5) nd rfl (by first | exact Or.inl rfl | exact Or.inr rfl))) (fun _ _ _ _ _ => (pts_one (pt_cmpR (op_inK K hr) (pv 11) (pe_ownIx M_Plan___getitem__ FI_Plan___getitem__ (hr.mono (by first | decide | omega)) (pv 7) (pe_op (op_addK K) (pv 8) (pv 5))) rfl))) (fun _ _ _ _ _ => (pv 5)))
    (pss_cons (ps_if (pt_cmpR (op_neK K hr) (pe_listM M_Plan_harvests (hr.mono (by first | decide | omega)) M.b (pv 10) (pa_cons (pv 11) (pa_cons pe_int (pa_cons pe_int pa_nil)))) (pv 12) (nomark _)) (pss_one (ps_ret pe_bl)) pss_nil)
    (pss_cons (ps_if (pt_cmpR (op_neK K hr) (pe_listM M_Plan_harvests (hr.mono (by first | decide | omega)) M.b (pv 7) (pa_cons (pv 11) (pa_cons (pv 8) (pa_cons (pe_op (op_addK K) (pv 8) pe_int) pa_nil)))) (pe_lc (own := [("_law_k", 5)]) (g := (gName 5)) (tt := tYes) rfl nd (pi_listK K (pv 12)) (blkOk_by (N := N_law) (sc := defScope s_law) (by decide +kernel)) (fun _ _ _ _ _ => (pg_name (i := 5) nd rfl (by first | exact Or.inl rfl | exact Or.inr rfl))) (fun _ _ _ _ _ => pts_nil) (fun _ _ _ _ _ => (pe_op (op_addK K) (pv 8) (pv 5)))) (nomark _)) (pss_one (ps_ret pe_bl)) pss_nil)
    (pss_cons (ps_set (i := 13) nd rfl (by first | exact Or.inl rfl | exact Or.inr rfl) (pe_cut (pe_ifExp (pt_cmpR (op_neK K hr) (pv 12) (pe_lst pa_nil) (nomark _)) (pe_op (op_addK K) (pv 8) (pe_ix (ix_K K) (pv 12) pe_int (fun _ _ => rfl))) pe_non)))
    (pss_one (ps_if (PW.pt (pw_or (pt_not (pt_val (pe_callR D_law_alike (hr.mono (by first | decide | omega)) passN (pa_cons (pe_callI M_Plan___call__ FI_Plan___call__ (hr.mono (by first | decide | omega)) (pv 7) (pa_cons (pv 11) (pa_cons (pv 8) pa_nil))) (pa_cons (pv 13) pa_nil))))) (pw_or1 (pt_cmpR (op_neK K hr) (pe_callI M_Plan___call__ FI_Plan___call__ (hr.mono (by first | decide | omega)) (pv 10) (pa_cons (pv 11) (pa_cons pe_int pa_nil))) (pe_cut (pe_ifExp (pt_cmpR (op_neK K hr) (pv 12) (pe_lst pa_nil) (nomark _)) (pe_ix (ix_K K) (pv 12) pe_int (fun _ _ => rfl)) pe_non)) (nomark _))))) (pss_one (ps_ret pe_bl)) pss_nil))))))))))))))))))) (pss_one (ps_ret pe_bl))))), ?_⟩
    show (_ : TS) _ [some (.ref a), none, none, none, none, none, none, none, none, none, none, none, none, none] H
    walk_at "go"
    refine ⟨a, ns, 55, rfl, hS, hl63, by decide, by decide, fun H1 d l s1 nd1 c1 => ?_⟩
    walk_at "go"
    refine n_lst (by simp [sizeLine_eq]) fun nm H2 nnm s2 hnm => ?_
    have hnm2 : H2 nm = some (.lst (three.map V.str)) := hnm
    have Fnm := c1.fr nnm
    walk_at "go"
    refine n_forR1 (by decide) (by decide) (fun i σ H' => ∃ u3 u4 u5 u6 u7 u8 u9 u10 u11 u12 u13 : Option V, σ = [some (.ref a), some (.ref d), some (.ref nm), u3, u4, u5, u6, u7, u8, u9, u10, u11, u12, u13] ∧ Src K H' d l ∧ H' nm = some (.lst (three.map V.str))) ⟨_, _, _, _, _, _, _, _, _, _, _, rfl, c1.same s2, hnm2⟩ ?_ ?_
    · rintro it σ H3 hit ⟨u3, u4, u5, u6, u7, u8, u9, u10, u11, u12, u13, rfl, c3, hnm3⟩
      walk_at "go"
      refine ⟨d, l, 9, rfl, c3, by decide, by decide, fun H4 r4 r40 r41 k4 c4 => ?_⟩
      have hnm4 := k4 _ _ Fnm.nd Fnm.nl hnm3
      walk_at "go"
      refine n_lcR1 (by omega) (by omega) (lc_run (walk_range (lo := 0) (n := (1 + r4).toNat)) (fun i acc H' => Keep2 d l H4 H' ∧ Src K H' d l ∧ ∃ ds : List (List Str), DpAll K H' acc (ds.map pDay) ∧ ds.length = i ∧ ∀ e ∈ ds, e.Nodup ∧ e.length ≤ 8 ∧ ∀ z ∈ e, z ∈ three)
        (fun C H' _ s' _ => ⟨Same.k2 s', c4.same s', [], .nil, rfl, by simp⟩) (fun _ _ _ _ _ _ _ => trivial) ?_ ?_)
      · rintro C j acc y H5 H6 nC hj hl hC ⟨k5, c5, ds, hX, dl_, dok⟩ ⟨e, ex⟩
        subst e ex
        have FC := c4.fr nC
        have hnm5 := k5 _ _ Fnm.nd Fnm.nl hnm4
        walk_at "go"
        refine ⟨rfl, ?_⟩
        walk_at "go"
        refine ⟨d, l, nm, three, 3, rfl, c5, hnm5, three_nd, by decide, by decide, by decide, fun H7 t ys k7 c7 ht yn y8 ym => ?_⟩
        have hC7 := k7 _ _ FC.nd FC.nl hC
        refine n_lcK hC7 (by omega) (by omega) fun H8 k8 hC8 => ⟨(k5.trans k7).then nC k8, c7.keep k8 FC, ds ++ [ys], ?_, by simp; omega, ?_⟩
        · rw [List.map_append]
          exact dpa_tk (keep_tk k8 hC7) _ _ (by rw [← List.map_append]; exact noL_days _) (dpa_app (dpa_tk (c5.tk k7) _ _ (noL_days ds) hX) (.cons (.tup ht (dpa_strs ys)) .nil))
        · intro e he
          rcases List.mem_append.mp he with q | q
          · exact dok e q
          · rw [List.mem_singleton.mp q]; exact ⟨yn, y8, ym⟩
      · rintro dl xs H5 ndl hdl ⟨k5, c5, ds, hX, dl_, dok⟩
        have Fdl := c4.fr ndl
        have hnm5 := k5 _ _ Fnm.nd Fnm.nl hnm4
        have hxl : xs.length = ds.length := by rw [hX.length]; simp
        have d1 : 1 ≤ ds.length := by omega
        have d9 : ds.length ≤ 9 := by omega
        have nmd : ∀ e ∈ ds, ∀ z ∈ e, NmOk z := fun e he z hz => three_nm z ((dok e he).2.2 z hz)
        clear k4 k5 c4
        walk_at "go"
        refine ⟨d, l, _, rfl, c5, by omega, by omega, fun H6 b b0 b1 k6 c6 => ?_⟩
        have hdl6 := k6 _ _ Fdl.nd Fdl.nl hdl
        have hX6 : DpAll K H6 xs (ds.map pDay) := dpa_tk (c5.tk k6) _ _ (noL_days ds) hX
        have hnm6 := k6 _ _ Fnm.nd Fnm.nl hnm5
        have dk : DOk ds b := ⟨d1, by omega, fun e he => (dok e he).1, fun e he => (dok e he).2.1, b0, by omega⟩
        have tx : TxOk ds b := ⟨dk, nmd⟩
        have shd : Sh 3 (.tuple [.tuple (ds.map pDay), .int b]) := sh_t fun q hq => by
          have : q = .tuple (ds.map pDay) ∨ q = .int b := by simpa using hq
          rcases this with rfl | rfl
          · exact sh_days nmd
          · exact (sh_i b).mono (by decide)
        walk_at "go"
        refine ⟨_, ds, b, rfl, dp_lst hdl6 hX6, tx, fun H7 s7 => ?_⟩
        walk_at "go"
        refine ⟨ds, b, rfl, tx, fun H8 p s8 np hp => ?_⟩
        have s68 := s7.trans s8
        have hp' := hp
        obtain ⟨dx, t, hpi, hv⟩ := hp'
        walk_at "go"
        refine n_prop hpi ⟨p, dx, t, b, rfl, hpi, ?_⟩
        walk_at "go"
        refine n_prop hpi ⟨p, dx, t, b, rfl, hpi, ?_⟩
        walk_at "go"
        refine n_tup (by simp [sizeLine_eq]) fun ta H9 nta s9 hta => ?_
        have s69 := s68.trans s9
        walk_at "go"
        refine g_tupOf_l (SqL.of (s69 _ _ hdl6)) fun tb H10 ntb s10 htb => ?_
        walk_at "go"
        refine n_tup (by simp [sizeLine_eq]) fun tc H11 ntc s11 htc => ?_
        have s911 := s10.trans s11
        have s611 := s69.trans s911
        refine g_ne_d _ _ (dp_tup (s911 _ _ hta) (.cons (s911.dp (s9.dp hv)) (.cons (.int b) .nil))) (dp_tup htc (.cons (dp_tup (s11 _ _ htb) (s611.dpa hX6)) (.cons (.int b) .nil))) (shd.ok (by decide)) (shd.ok (by decide)) ?_
        rw [eqv_refl shd]
        walk_at "go"
        refine if_F rfl ?_
        walk_at "go"
        refine ⟨p, ds, b, rfl, PlanAt.same (s9.trans s911) hp, tx, fun H12 s12 => ?_⟩
        walk_at "go"
        have s612 := s611.trans s12
        refine ⟨_, ds, b, rfl, s612.dp (dp_lst hdl6 hX6), tx, fun H13 s13 => ?_⟩
        walk_at "go"
        refine if_F (by simp) ?_
        have s613 := s612.trans s13
        have hp13 : PlanAt K CP H13 p ds b := PlanAt.same ((s9.trans s911).trans (s12.trans s13)) hp
        have c13 := c6.same s613
        have hdl13 := s613 _ _ hdl6
        have hX13 : DpAll K H13 xs (ds.map pDay) := s613.dpa hX6
        have hnm13 := s613 _ _ hnm6
        clear s7 s8 s9 s10 s11 s12 s13 s68 s69 s911 s611 s612 s613 hta htb htc hpi hv
        walk_at "go"
        refine ⟨d, l, 12, rfl, c13, by decide, by decide, fun H14 x1 x10 x11 k14 c14 => ?_⟩
        walk_at "go"
        refine g_pow (by unfold CPow; decide) ?_
        walk_at "go"
        refine ⟨d, l, 99, rfl, c14, by decide, by decide, fun H15 x2 x20 x21 k15 c15 => ?_⟩
        walk_at "go"
        refine n_lst (by simp [sizeLine_eq]) fun q1 H16 nq1 s16 hq1 => ?_
        have Fq1 := c15.fr nq1
        walk_at "go"
        refine ⟨d, l, 2, rfl, c15.same s16, by decide, by decide, fun H17 x3 x30 x31 k17 c17 => ?_⟩
        have x3c : x3 = 0 ∨ x3 = 1 := by omega
        obtain ⟨o1, ho1, hix1⟩ : ∃ o : Nat, (o : Int) ≤ 200000000000000000 ∧ atI [V.int x1, V.int (10 ^ (17 : Int).toNat + x2)] x3 = some (.int (o : Int)) := by
          have e17 : (10 : Int) ^ (17 : Int).toNat = 100000000000000000 := by decide
          rcases x3c with rfl | rfl
          · exact ⟨x1.toNat, by omega, by rw [Int.toNat_of_nonneg x10]; rfl⟩
          · exact ⟨(100000000000000000 + x2).toNat, by omega, by rw [Int.toNat_of_nonneg (by omega), e17]; rfl⟩
        refine g_ix_l (SqL.of (k17 _ _ Fq1.nd Fq1.nl hq1)) hix1 ?_
        have kA : Keep2 d l H13 H17 := ((k14.trans k15).trans (Same.k2 s16)).trans k17
        walk_at "go"
        refine ⟨d, l, 12, rfl, c17, by decide, by decide, fun H18 y1 y10 y11 k18 c18 => ?_⟩
        walk_at "go"
        refine g_pow (by unfold CPow; decide) ?_
        walk_at "go"
        refine ⟨d, l, 99, rfl, c18, by decide, by decide, fun H19 y2 y20 y21 k19 c19 => ?_⟩
        walk_at "go"
        refine n_lst (by simp [sizeLine_eq]) fun q2 H20 nq2 s20 hq2 => ?_
        have Fq2 := c19.fr nq2
        walk_at "go"
        refine ⟨d, l, 2, rfl, c19.same s20, by decide, by decide, fun H21 y3 y30 y31 k21 c21 => ?_⟩
        have y3c : y3 = 0 ∨ y3 = 1 := by omega
        obtain ⟨o2, ho2, hix2⟩ : ∃ o : Nat, (o : Int) ≤ 200000000000000000 ∧ atI [V.int y1, V.int (10 ^ (17 : Int).toNat + y2)] y3 = some (.int (o : Int)) := by
          have e17 : (10 : Int) ^ (17 : Int).toNat = 100000000000000000 := by decide
          rcases y3c with rfl | rfl
          · exact ⟨y1.toNat, by omega, by rw [Int.toNat_of_nonneg y10]; rfl⟩
          · exact ⟨(100000000000000000 + y2).toNat, by omega, by rw [Int.toNat_of_nonneg (by omega), e17]; rfl⟩
        refine g_ix_l (SqL.of (k21 _ _ Fq2.nd Fq2.nl hq2)) hix2 ?_
        have kB : Keep2 d l H13 H21 := (((kA.trans k18).trans k19).trans (Same.k2 s20)).trans k21
        have hp21 := PlanAt.k2 c13 kB hp13
        have hdl21 := kB _ _ Fdl.nd Fdl.nl hdl13
        have hX21 : DpAll K H21 xs (ds.map pDay) := dpa_tk (c13.tk kB) _ _ (noL_days ds) hX13
        have hnm21 := kB _ _ Fnm.nd Fnm.nl hnm13
        clear kA kB k14 k15 k17 k18 k19 k21 s16 s20 hq1 hq2 hix1 hix2 hp13 hdl13 hX13 hnm13 c13 c14 c15 c17 c18 c19
        obtain ⟨dx, t, hpi⟩ := PlanAt.ins hp21
        walk_at "go"
        refine n_ownI hpi ⟨p, o1, ds, b, rfl, hp21, dk, by omega, fun H22 q s22 nq hq => ?_⟩
        have dq := dk.shift o1
        have nmq : ∀ e ∈ shD ds b o1, ∀ z ∈ e, NmOk z := fun e he => nmd e (sh_mem he)
        obtain ⟨dy, tq, hqi⟩ := PlanAt.ins hq
        walk_at "go"
        refine g_isiC kit hqi ?_
        walk_at "go"
        refine if_F rfl ?_
        walk_at "go"
        refine n_ownI hqi ⟨q, o2, _, _, rfl, hq, dq, by omega, fun H23 q3 s23 nq3 hq3 => ?_⟩
        rw [(sh_sh o1 o2 dk.b0 dk.b1).1, (sh_sh o1 o2 dk.b0 dk.b1).2] at hq3
        have hp23 := PlanAt.same (s22.trans s23) hp21
        obtain ⟨dx2, t2, hpi2⟩ := PlanAt.ins hp23
        walk_at "go"
        have e12 : (o1 : Int) + o2 = ((o1 + o2 : Nat) : Int) := by omega
        rw [e12]
        refine n_ownI hpi2 ⟨p, o1 + o2, ds, b, rfl, hp23, dk, by omega, fun H24 q4 s24 nq4 hq4 => ?_⟩
        have hq3' := PlanAt.same s24 hq3
        obtain ⟨_, _, i3⟩ := PlanAt.ins hq3'
        obtain ⟨_, _, i4⟩ := PlanAt.ins hq4
        refine n_ownEq i3 i4 ⟨q3, q4, _, _, rfl, hq3', hq4, fun e he => nmd e (sh_mem he), true, rfl, ?_⟩
        walk_at "go"
        refine if_F rfl ?_
        have s2124 := s22.trans (s23.trans s24)
        have s2224 := s23.trans s24
        have txq : TxOk (shD ds b o1) (shB b o1) := ⟨dq, nmq⟩
        walk_at "go"
        refine ⟨q, _, _, rfl, PlanAt.same s2224 hq, txq, fun H25 s25 => ?_⟩
        walk_at "go"
        refine ⟨_, _, rfl, txq, fun H26 q5 s26 nq5 hq5 => ?_⟩
        have hq26 := PlanAt.same (s2224.trans (s25.trans s26)) hq
        obtain ⟨_, _, i5⟩ := PlanAt.ins hq5
        obtain ⟨_, _, i6⟩ := PlanAt.ins hq26
        walk_at "go"
        refine n_ownEq i5 i6 ⟨q5, q, _, _, rfl, hq5, hq26, nmq, true, rfl, ?_⟩
        walk_at "go"
        refine if_F rfl ?_
        have s2126 := s2124.trans (s25.trans s26)
        have hp26 := PlanAt.same s2126 hp21
        obtain ⟨_, _, i7⟩ := PlanAt.ins hp26
        walk_at "go"
        refine n_ownI i7 ⟨p, 0, ds, b, rfl, hp26, dk, by omega, fun H27 q6 s27 nq6 hq6 => ?_⟩
        rw [(sh_zero dk.b0 dk.b1).1, (sh_zero dk.b0 dk.b1).2] at hq6
        have hp27 := PlanAt.same s27 hp26
        obtain ⟨_, _, i8⟩ := PlanAt.ins hq6
        obtain ⟨_, _, i9⟩ := PlanAt.ins hp27
        walk_at "go"
        refine n_ownEq i8 i9 ⟨q6, p, _, _, rfl, hq6, hp27, nmd, true, rfl, ?_⟩
        walk_at "go"
        refine if_F rfl ?_
        have s2127 := s2126.trans s27
        have hq27 := PlanAt.same s27 hq26
        have c27 := c21.same s2127
        have hdl27 := s2127 _ _ hdl21
        have hX27 : DpAll K H27 xs (ds.map pDay) := s2127.dpa hX21
        have hnm27 := s2127 _ _ hnm21
        clear s22 s23 s24 s25 s26 s27 s2124 s2224 s2126 s2127 i3 i4 i5 i6 i7 i8 i9 hq hq3 hq3' hq4 hq5 hq6 hq26 hp21 hp23 hp26 hpi hqi hpi2 hdl21 hX21 hnm21 c21
        have shz : ∀ k, Sh 1 (.tuple ((dayOf ds b k).map .str)) := fun k => sh_strT fun z hz => by
          have pb := plc_lt (n := ds.length) k dk.b0 dk.b1
          have hg : dayOf ds b k ∈ ds := by
            unfold dayOf
            have hi : (plc ds.length b k).toNat < ds.length := by omega
            have e : ds.getD (plc ds.length b k).toNat [] = ds[(plc ds.length b k).toNat] := by simp [List.getD, hi]
            rw [e]
            exact List.getElem_mem hi
          exact (nmd _ hg z hz).str
        walk_at "go"
        refine n_forR1 (by omega) (by omega) (fun i σ H' => ∃ u5 u11 u12 u13 : Option V, σ = [some (.ref a), some (.ref d), some (.ref nm), some (.int it), some (.ref dl), u5, some (.int b), some (.ref p), some (.int o1), some (.int o2), some (.ref q), u11, u12, u13] ∧ Same H27 H') ⟨_, _, _, _, rfl, Same.refl _⟩ ?_ ?_
        · rintro i σ H28 hi ⟨u5, u11, u12, u13, rfl, s28⟩
          have hq28 := PlanAt.same s28 hq27
          have hp28 := PlanAt.same s28 hp27
          obtain ⟨_, _, j1⟩ := PlanAt.ins hq28
          obtain ⟨_, _, j2⟩ := PlanAt.ins hp28
          walk_at "go"
          refine n_ownIx j1 ⟨q, _, _, i, rfl, hq28, dq, by omega, fun t1 ht1 => ?_⟩
          rw [sh_day o1 i dk.b0 dk.b1] at ht1
          have e1 : (o1 : Int) + i = ((o1 + i : Nat) : Int) := by omega
          walk_at "go"
          rw [e1]
          refine n_ownIx j2 ⟨p, _, _, o1 + i, rfl, hp28, dk, by omega, fun t2 ht2 => ?_⟩
          refine g_ne_d (.tuple ((dayOf ds b (o1 + i)).map .str)) (.tuple ((dayOf ds b (o1 + i)).map .str)) (.tup ht1 (dpa_strs _)) (.tup ht2 (dpa_strs _)) ((shz _).ok (by decide)) ((shz _).ok (by decide)) ?_
          rw [eqv_refl (shz _)]
          walk_at "go"
          refine if_F rfl ?_
          walk_at "go"
          refine n_ownIx j2 ⟨p, _, _, i, rfl, hp28, dk, by omega, fun t3 ht3 => ?_⟩
          walk_at "go"
          refine ⟨_, ds, b, i, rfl, s28.dp (dp_lst hdl27 hX27), dk, fun t4 ht4 => ?_⟩
          refine g_ne_d (.tuple ((dayOf ds b i).map .str)) (.tuple ((dayOf ds b i).map .str)) (.tup ht3 (dpa_strs _)) (.tup ht4 (dpa_strs _)) ((shz _).ok (by decide)) ((shz _).ok (by decide)) ?_
          rw [eqv_refl (shz _)]
          walk_at "go"
          refine if_F rfl ?_
          walk_at "go"
          exact ⟨_, _, _, _, rfl, s28⟩
        · rintro σ H28 ⟨u5, u11, u12, u13, rfl, s28⟩
          walk_at "go"
          refine n_forL (SqL.of (s28 _ _ hnm27)) (fun i σ H' => ∃ u5 u11 u12 u13 : Option V, σ = [some (.ref a), some (.ref d), some (.ref nm), some (.int it), some (.ref dl), u5, some (.int b), some (.ref p), some (.int o1), some (.int o2), some (.ref q), u11, u12, u13] ∧ Same H27 H') ⟨_, _, _, _, rfl, s28⟩ (fun i σ H' ⟨_, _, _, _, _, s29⟩ => SqL.of (s29 _ _ hnm27)) ?_ ?_
          · rintro i x σ H29 hx ⟨u5, u11, u12, u13, rfl, s29⟩
            obtain ⟨z, hz, rfl⟩ := getm hx
            have hq29 := PlanAt.same s29 hq27
            have hp29 := PlanAt.same s29 hp27
            obtain ⟨_, _, j1⟩ := PlanAt.ins hq29
            obtain ⟨_, _, j2⟩ := PlanAt.ins hp29
            walk_at "go"
            refine n_lcR1 (by decide) (by decide) (lc_filt (List.range 30) (by rw [List.length_range]; exact walk_range (lo := 0) (n := (30 : Int).toNat)) (fun k => inDay ds b z (o1 + k)) natV (fun _ _ => trivial) ?_ ?_)
            · rintro C j j' v H30 H31 nC hjj hj s30 hC ⟨e, ex⟩
              subst e ex
              have ej : j' = j := by
                rw [List.length_range] at hj
                rw [List.getElem?_range hj] at hjj
                exact (Option.some.inj hjj).symm
              subst ej
              have j3 := s30 _ _ j2
              walk_at "go"
              refine ⟨rfl, ?_⟩
              have e1 : (o1 : Int) + (0 + (j' : Int)) = ((o1 + j' : Nat) : Int) := by omega
              have hj30 : j' < 30 := by simpa using hj
              walk_at "go"
              rw [e1]
              refine n_ownIx j3 ⟨p, _, _, o1 + j', rfl, PlanAt.same s30 hp29, dk, by omega, fun t1 ht1 => ?_⟩
              refine g_in_seq (.inr ht1) rfl (flat_strs _) ?_
              rw [inV_strs]
              walk_at "go"
              by_cases e : z ∈ dayOf ds b (o1 + j')
              · rw [decide_eq_true e]
                refine g_lcIfT ?_
                walk_at "go"
                exact n_filtT hjj (decide_eq_true e) (by rw [Int.zero_add]) nC s30 hC
              · rw [decide_eq_false e]
                walk_at "go"
                exact n_filtF hjj (decide_eq_false e) s30 hC
            · intro fo H30 nfo s30 hfo
              generalize hfn : (List.range 30).filter (fun k => inDay ds b z (o1 + k)) = fnd at hfo
              have fl30 : fnd.length ≤ 30 := by
                rw [← hfn]
                exact Nat.le_trans (List.length_filter_le _ _) (by simp)
              have mI : ∀ l : List Nat, l.map natV = (l.map fun k : Nat => (k : Int)).map V.int := fun l => by simp [natV, Function.comp_def]
              rw [mI] at hfo
              have s2930 := s29.trans s30
              have j3 := s30 _ _ j1
              walk_at "go"
              refine n_listM j3 (plan_noh _ _) ?_
              walk_at "go"
              refine ⟨q, z, 0, 29, _, _, rfl, PlanAt.same s30 hq29, dq, by decide, by decide, fun p1 np1 => ?_⟩
              have eh1 : hits (shD ds b o1) (shB b o1) z 0 (29 + 1) = fnd := by
                rw [← hfn, hits]
                have : (fun k => inDay (shD ds b o1) (shB b o1) z (0 + k)) = fun k => inDay ds b z (o1 + k) := by
                  funext k
                  simp only [inDay, Nat.zero_add, sh_day o1 k dk.b0 dk.b1]
                rw [this]
                simp
              rw [eh1, mI]
              have s31 := same_new (o := .lst ((fnd.map fun k : Nat => (k : Int)).map V.int)) np1
              walk_at "go"
              refine g_ne_d (pInts (fnd.map fun k : Nat => (k : Int))) (pInts (fnd.map fun k : Nat => (k : Int))) (dp_lst upd_same (dpa_ints _)) (dp_lst (s31 _ _ hfo) (dpa_ints _)) ((sh_ints _).ok (by decide)) ((sh_ints _).ok (by decide)) ?_
              rw [eqv_refl (sh_ints _)]
              generalize upd H30 p1 (.lst ((fnd.map fun k : Nat => (k : Int)).map V.int)) = H31 at s31 ⊢
              have s2931 := s2930.trans s31
              have hfo31 := s31 _ _ hfo
              walk_at "go"
              refine if_F rfl ?_
              have j4 := s31 _ _ (s30 _ _ j2)
              walk_at "go"
              refine n_listM j4 (plan_noh _ _) ?_
              walk_at "go"
              have e29 : (o1 : Int) + 29 = ((o1 + 29 : Nat) : Int) := by omega
              rw [e29]
              refine ⟨p, z, o1, 29, _, _, rfl, PlanAt.same (s30.trans s31) hp29, dk, by omega, by decide, fun p2 np2 => ?_⟩
              have eh2 : hits ds b z o1 (29 + 1) = fnd.map fun k => o1 + k := by rw [← hfn, hits]
              rw [eh2, mI]
              generalize hH32 : upd H31 p2 (.lst (((fnd.map fun k => o1 + k).map fun k : Nat => (k : Int)).map V.int)) = H32
              have s32 : Same H31 H32 := hH32 ▸ same_new np2
              have hp2 : H32 p2 = some (.lst (((fnd.map fun k => o1 + k).map fun k : Nat => (k : Int)).map V.int)) := hH32 ▸ upd_same
              clear hH32
              have hfo32 := s32 _ _ hfo31
              walk_at "go"
              refine n_lcL (SqL.of hfo32) (lc_map (walk_list (xs := (fnd.map fun k : Nat => (k : Int)).map V.int)) (fun j => .int ((o1 : Int) + (fnd.getD j 0 : Nat))) (fun H5 s5 => SqL.of (s5 _ _ hfo32)) ?_ ?_)
              · rintro C j y H33 H34 nC hj s33 hC ⟨e, hyj⟩
                subst e
                obtain ⟨y1, hy1, rfl⟩ := getm hyj
                obtain ⟨y2, hy2, rfl⟩ := getm hy1
                have jl : j < fnd.length := (List.getElem?_eq_some_iff.mp hy2).1
                walk_at "go"
                refine ⟨rfl, ?_⟩
                walk_at "go"
                exact n_mapK nC s33 hC (by rw [getD_of hy2])
              · intro C H33 nC s33 hC
                have e1 : (List.range ((fnd.map fun k : Nat => (k : Int)).map V.int).length).map (fun j => V.int ((o1 : Int) + (fnd.getD j 0 : Nat))) = (((fnd.map fun k => o1 + k).map fun k : Nat => (k : Int)).map V.int) := by
                  have e0 : ((fnd.map fun k : Nat => (k : Int)).map V.int).length = fnd.length := by simp
                  rw [e0, range_getD fnd 0 fun k : Nat => V.int ((o1 : Int) + (k : Nat))]
                  simp [Function.comp_def]
                rw [e1] at hC
                refine g_ne_d (pInts ((fnd.map fun k => o1 + k).map fun k : Nat => (k : Int))) (pInts ((fnd.map fun k => o1 + k).map fun k : Nat => (k : Int))) (dp_lst (s33 _ _ hp2) (dpa_ints _)) (dp_lst hC (dpa_ints _)) ((sh_ints _).ok (by decide)) ((sh_ints _).ok (by decide)) ?_
                rw [eqv_refl (sh_ints _)]
                have hfo33 := s33 _ _ hfo32
                have s3133 := s32.trans s33
                walk_at "go"
                refine if_F rfl ?_
                walk_at "go"
                refine g_cutE (fun v H' => v = optV (fnd.head?.map fun k => o1 + k) ∧ Same H33 H') ?_ ?_
                · walk_at "go"
                  refine n_lst (by simp) fun e0 H34 ne0 s34 he0 => ?_
                  refine g_ne_d (pInts (fnd.map fun k : Nat => (k : Int))) (.list []) (dp_lst (s34 _ _ hfo33) (dpa_ints _)) (dp_lst he0 .nil) ((sh_ints _).ok (by decide)) (Sh.ok (n := 1) (sh_l fun x hx => by cases hx) (by decide)) ?_
                  rw [eqv_nil]
                  walk_at "go"
                  cases hf : fnd with
                  | nil =>
                    refine if_F rfl ?_
                    walk_at "go"
                    exact ⟨rfl, s34⟩
                  | cons k0 r =>
                    refine if_T rfl ?_
                    rw [hf] at hfo33
                    have hfo34 := s34 _ _ hfo33
                    walk_at "go"
                    refine ⟨?_, s34⟩
                    simp only [List.head?_cons, Option.map_some, optV]
                    rfl
                · rintro _ H34 ⟨rfl, s34⟩
                  have s3034 := s31.trans (s3133.trans s34)
                  have hp34 := PlanAt.same (s30.trans s3034) hp29
                  have hq34 := PlanAt.same (s30.trans s3034) hq29
                  obtain ⟨_, _, j5⟩ := PlanAt.ins hp34
                  obtain ⟨_, _, j6⟩ := PlanAt.ins hq34
                  have hfo34 := s34 _ _ hfo33
                  have dql := shD_len (ds := ds) o1 dk.b0 dk.b1
                  have inq : ∀ k, inDay (shD ds b o1) (shB b o1) z (0 + k) = inDay ds b z (o1 + k) := fun k => by simp only [inDay, Nat.zero_add, sh_day o1 k dk.b0 dk.b1]
                  walk_at "go"
                  refine n_callI ?_
                  walk_at "go"
                  refine ⟨insC_of j5, p, z, o1, ds, b, rfl, hp34, dk, by omega, fun k hk hin hno => ?_, fun hno => ?_⟩
                  · have hf : ∃ r, fnd = k :: r := by
                      cases hf : fnd with
                      | nil =>
                        rw [hf] at hfn
                        have := filt_none hfn k (by omega)
                        rw [hin] at this; cases this
                      | cons k0 r =>
                        rw [hf] at hfn
                        have h3 := filt_head hfn
                        have : k0 = k := by
                          rcases Nat.lt_trichotomy k0 k with q | q | q
                          · have := hno k0 q
                            rw [h3.1] at this; cases this
                          · exact q
                          · have := h3.2.2 k q
                            rw [hin] at this; cases this
                        exact ⟨r, by rw [this]⟩
                    obtain ⟨r, hf⟩ := hf
                    rw [hf]
                    walk_at "go"
                    refine ⟨.int ((o1 + k : Nat) : Int), rfl, .inr ⟨_, rfl⟩, fun H35 s35 => ?_⟩
                    walk_at "go"
                    refine if_F rfl ?_
                    have j7 := s35 _ _ j6
                    walk_at "go"
                    refine n_callI ?_
                    walk_at "go"
                    refine ⟨insC_of j7, q, z, 0, _, _, rfl, PlanAt.same s35 hq34, dq, by omega, fun k' hk' hin' hno' => ?_, fun hno' => ?_⟩
                    · have ek : k' = k := by
                        rw [inq] at hin'
                        rcases Nat.lt_trichotomy k' k with w | w | w
                        · have := hno k' w
                          rw [hin'] at this; cases this
                        · exact w
                        · have := hno' k w
                          rw [inq, hin] at this; cases this
                      subst ek
                      rw [Nat.zero_add]
                      refine g_cutE (fun v H' => v = V.int (k' : Int) ∧ Same H35 H') ?_ ?_
                      · walk_at "go"
                        refine n_lst (by simp) fun e0 H36 ne0 s36 he0 => ?_
                        have hfo35 := s35 _ _ hfo34
                        rw [hf] at hfo35
                        refine g_ne_d (pInts ((k' :: r).map fun k : Nat => (k : Int))) (.list []) (dp_lst (s36 _ _ hfo35) (dpa_ints _)) (dp_lst he0 .nil) ((sh_ints _).ok (by decide)) (Sh.ok (n := 1) (sh_l fun x hx => by cases hx) (by decide)) ?_
                        rw [eqv_nil]
                        walk_at "go"
                        refine if_T rfl ?_
                        have hfo36 := s36 _ _ hfo35
                        walk_at "go"
                        exact ⟨rfl, s36⟩
                      · rintro _ H36 ⟨rfl, s36⟩
                        walk_at "go"
                        refine if_F (by simp) ?_
                        walk_at "go"
                        exact ⟨_, _, _, _, rfl, s2930.trans (s3034.trans (s35.trans s36))⟩
                    · exfalso
                      have hks : k < (shD ds b o1).length := soon (z := z) (o := 0) dq.b0 dq.b1 (by rw [inq]; exact hin) fun j hj => by rw [inq]; exact hno j hj
                      have := hno' k hks
                      rw [inq, hin] at this; cases this
                  · have hf : fnd = [] := by
                      cases hf : fnd with
                      | nil => rfl
                      | cons k0 r =>
                        exfalso
                        rw [hf] at hfn
                        have h3 := filt_head hfn
                        have := hno k0 (soon dk.b0 dk.b1 h3.1 h3.2.2)
                        rw [h3.1] at this; cases this
                    rw [hf]
                    walk_at "go"
                    refine ⟨.non, rfl, .inl rfl, fun H35 s35 => ?_⟩
                    walk_at "go"
                    refine if_F rfl ?_
                    have j7 := s35 _ _ j6
                    walk_at "go"
                    refine n_callI ?_
                    walk_at "go"
                    refine ⟨insC_of j7, q, z, 0, _, _, rfl, PlanAt.same s35 hq34, dq, by omega, fun k' hk' hin' hno' => ?_, fun hno' => ?_⟩
                    · exfalso
                      rw [inq] at hin'
                      rw [hf] at hfn
                      have := filt_none hfn k' (by omega)
                      rw [hin'] at this; cases this
                    · refine g_cutE (fun v H' => v = V.non ∧ Same H35 H') ?_ ?_
                      · walk_at "go"
                        refine n_lst (by simp) fun e0 H36 ne0 s36 he0 => ?_
                        have hfo35 := s35 _ _ hfo34
                        rw [hf] at hfo35
                        refine g_ne_d (pInts []) (.list []) (dp_lst (s36 _ _ hfo35) (dpa_ints _)) (dp_lst he0 .nil) ((sh_ints _).ok (by decide)) (Sh.ok (n := 1) (sh_l fun x hx => by cases hx) (by decide)) ?_
                        rw [eqv_nil]
                        walk_at "go"
                        refine if_F rfl ?_
                        walk_at "go"
                        exact ⟨rfl, s36⟩
                      · rintro _ H36 ⟨rfl, s36⟩
                        refine g_ne_d .none .none .non .non (sh_n.ok (by decide)) (sh_n.ok (by decide)) ?_
                        walk_at "go"
                        refine if_F rfl ?_
                        walk_at "go"
                        exact ⟨_, _, _, _, rfl, s2930.trans (s3034.trans (s35.trans s36))⟩
          · rintro σ H29 ⟨u5, u11, u12, u13, rfl, s29⟩
            walk_at "go"
            exact ⟨_, _, _, _, _, _, _, _, _, _, _, rfl, c27.same s29, s29 _ _ hnm27⟩
    · rintro σ H3 ⟨u3, u4, u5, u6, u7, u8, u9, u10, u11, u12, u13, rfl, c3, hnm3⟩
      walk_at "go"
      exact kq H3

end
section
end
end HC
namespace HC
open PyProof.Rows PySem L2 PySem.Spec

def endFx : List Tst := [fun K => propB K (He.ga K "Plan") "days",
  fun K => propB K (He.ga K "Plan") "lead",
  fun K => binIB K (He.ga K "Plan") ("__rshift__", "__rrshift__"),
  fun K => eqOB K (He.ga K "Plan"),
  fun K => kitIsB K (He.ga K "Plan")]
def endFa : List He.Fa := [.free "len",
  .free "abs",
  .free "min",
  .free "max",
  .free "all",
  .free "any",
  .free "sum",
  .free "isinstance",
  .free "list",
  .free "tuple",
  .free "int",
  .free "str",
  .free "bool",
  .free "dict",
  .free "range",
  .free "enumerate",
  .free "zip",
  .free "sorted",
  .free "set",
  .str "LETTERS" "abcdefghijklmnopqrstuvwxyz",
  .str "DIGITS" "0123456789",
  .str "LEAD" "lead",
  .str "NOBODY" "-",
  .int "MAX_LETTERS" 8,
  .int "MAX_DAY" 1000000000000000000,
  .int "MAX_DAYS" 5000,
  .int "MAX_DIGITS" 4,
  .glo "Plan",
  .cls "Plan",
  .glo "validate_number",
  .glo "is_name",
  .glo "place_of",
  .glo "format_plan",
  .glo "is_number",
  .glo "parse_plan",
  .glo "_law_mix",
  .glo "_law_next",
  .glo "_law_alike",
  .glo "_law_text",
  .glo "_law_some",
  .glo "_law_day",
  .glo "law",
  .noat "Plan" "parts",
  .noat "Plan" "begin",
  .meth "Plan" "__getitem__",
  .meth "Plan" "__eq__",
  .meth "Plan" "__rshift__",
  .meth "Plan" "__call__",
  .meth "Plan" "harvests",
  .mkr "Plan"]
def endFn : List He5.DefA := [⟨fun K => He.ga K "validate_number", "validate_number", "validate_number", defArgs s_validate_number, defBody s_validate_number, defScope s_validate_number, [], []⟩,
  ⟨fun K => He.ga K "is_name", "is_name", "is_name", defArgs s_is_name, defBody s_is_name, defScope s_is_name, [], []⟩,
  ⟨fun K => He.ga K "place_of", "place_of", "place_of", defArgs s_place_of, defBody s_place_of, defScope s_place_of, [], []⟩,
  ⟨fun K => He.ga K "format_plan", "format_plan", "format_plan", defArgs s_format_plan, defBody s_format_plan, defScope s_format_plan, [], []⟩,
  ⟨fun K => He.ga K "is_number", "is_number", "is_number", defArgs s_is_number, defBody s_is_number, defScope s_is_number, [], []⟩,
  ⟨fun K => He.ga K "parse_plan", "parse_plan", "parse_plan", defArgs s_parse_plan, defBody s_parse_plan, defScope s_parse_plan, [], []⟩,
  ⟨fun K => He.ga K "_law_mix", "_law_mix", "_law_mix", defArgs s_law_mix, defBody s_law_mix, defScope s_law_mix, [], []⟩,
  ⟨fun K => He.ga K "_law_next", "_law_next", "_law_next", defArgs s_law_next, defBody s_law_next, defScope s_law_next, [], []⟩,
  ⟨fun K => He.ga K "_law_alike", "_law_alike", "_law_alike", defArgs s_law_alike, defBody s_law_alike, defScope s_law_alike, [], []⟩,
  ⟨fun K => He.ga K "_law_text", "_law_text", "_law_text", defArgs s_law_text, defBody s_law_text, defScope s_law_text, [], []⟩,
  ⟨fun K => He.ga K "_law_some", "_law_some", "_law_some", defArgs s_law_some, defBody s_law_some, defScope s_law_some, [], []⟩,
  ⟨fun K => He.ga K "_law_day", "_law_day", "_law_day", defArgs s_law_day, defBody s_law_day, defScope s_law_day, [], []⟩,
  ⟨fun K => He.ga K "law", "law", "law", defArgs s_law, defBody s_law, defScope s_law, [], []⟩,
  ⟨fun K => He.ma K (He.ga K "Plan") "__getitem__", "__getitem__", "Plan.__getitem__", defArgs s_Plan___getitem__, defBody s_Plan___getitem__, defScope s_Plan___getitem__, [], []⟩,
  ⟨fun K => He.ma K (He.ga K "Plan") "__eq__", "__eq__", "Plan.__eq__", defArgs s_Plan___eq__, defBody s_Plan___eq__, defScope s_Plan___eq__, [], []⟩,
  ⟨fun K => He.ma K (He.ga K "Plan") "__rshift__", "__rshift__", "Plan.__rshift__", defArgs s_Plan___rshift__, defBody s_Plan___rshift__, defScope s_Plan___rshift__, [], []⟩,
  ⟨fun K => He.ma K (He.ga K "Plan") "__call__", "__call__", "Plan.__call__", defArgs s_Plan___call__, defBody s_Plan___call__, defScope s_Plan___call__, [], []⟩,
  ⟨fun K => He.ma K (He.ga K "Plan") "harvests", "harvests", "Plan.harvests", defArgs s_Plan_harvests, defBody s_Plan_harvests, defScope s_Plan_harvests, [], []⟩,
  ⟨fun K => He.ma K (He.ga K "Plan") "__init__", "__init__", "Plan.__init__", defArgs s_Plan___init__, defBody s_Plan___init__, defScope s_Plan___init__, [], [("lead", .int 0)]⟩,
  ⟨fun K => pgA K (He.ga K "Plan") "days", "days", "Plan.days", defArgs s_Plan_days, defBody s_Plan_days, defScope s_Plan_days, [], []⟩,
  ⟨fun K => pgA K (He.ga K "Plan") "lead", "lead", "Plan.lead", defArgs s_Plan_lead, defBody s_Plan_lead, defScope s_Plan_lead, [], []⟩]
abbrev endR : PySem.W.OpenRow := PySem.W.OpenLaw.row PySem.Challenge.rw_harvestcarts_k55_whole_plans_shifted_and
abbrev endHk : PySem.W.Hook := hookJ 5 endFx endFa endFn
def endOb (s : PySem.W.SharedT) : He.AlD × Bool := obsJG 5 endFx endFa endFn (HandSHeadRun.getT s)
theorem endOb_eq (s : PySem.W.SharedT) : endOb s = endHk.obs s.abs := obsJG_eq (HandSHeadRun.getT_eq s)
def endNames0 : List Str := ["_wall", "FarmError", "InvalidPlan", "InvalidNumber", "InvalidText", "LETTERS", "MAX_LETTERS", "MAX_DAY", "validate_number", "is_name", "MAX_DAYS", "Plan", "place_of", "DIGITS", "MAX_DIGITS", "LEAD", "NOBODY", "format_plan", "is_number", "parse_plan"]
def endNames1 : List Str := ["_law_mix", "_law_next", "_law_alike", "_law_text", "_law_some", "_law_day"]
def endNames : List Str := endNames0 ++ endNames1
theorem endRun (w : World) : HandSHeadRun.RunEq endR (PySem.W.view endR.prog [31]) endHk endOb 40000 endNames w := by
  intro os
  kernel_rfl
theorem endFacts {P : Program} {w : World} {K : PySem.W.Frag} {h : Heap} {mg : Str → Option Value} {f : Addr} (X : K.In h) (G : h.Ns mainGlobals mg) (hfa : mg ("law" : Str) = some (.ref f)) (c : SaysJ endFx endFa endFn K) :
    ∃ fd : FuncData, (∀ (s : Shared) (v : Value), BindsTo s fd ⟨[v], []⟩ [("_law_script", v)]) ∧ ∀ base : Heap, K.In base → base.Ns mainGlobals mg → FnOk P w K mg base CX0 14 f fd ["_law_script"] (sp_law K) := by
  have hB : Bts mg := ⟨He.free_ok X G (c.base.fact 0 rfl), He.free_ok X G (c.base.fact 1 rfl), He.free_ok X G (c.base.fact 2 rfl), He.free_ok X G (c.base.fact 3 rfl), He.free_ok X G (c.base.fact 4 rfl), He.free_ok X G (c.base.fact 5 rfl), He.free_ok X G (c.base.fact 6 rfl), He.free_ok X G (c.base.fact 7 rfl), He.free_ok X G (c.base.fact 8 rfl), He.free_ok X G (c.base.fact 9 rfl), He.free_ok X G (c.base.fact 10 rfl), He.free_ok X G (c.base.fact 11 rfl), He.free_ok X G (c.base.fact 12 rfl), He.free_ok X G (c.base.fact 13 rfl), He.free_ok X G (c.base.fact 14 rfl), He.free_ok X G (c.base.fact 15 rfl), He.free_ok X G (c.base.fact 16 rfl), He.free_ok X G (c.base.fact 17 rfl), He.free_ok X G (c.base.fact 18 rfl)⟩
  have g_Plan : mg "Plan" = some (.ref (He.ga K "Plan")) := He.glo_ok X G (c.base.fact 27 rfl)
  have M : Md K mg := ⟨hB, He.str_ok X G (c.base.fact 19 rfl), He.str_ok X G (c.base.fact 20 rfl), He.str_ok X G (c.base.fact 21 rfl), He.str_ok X G (c.base.fact 22 rfl), He.int_ok X G (c.base.fact 23 rfl), He.int_ok X G (c.base.fact 24 rfl), He.int_ok X G (c.base.fact 25 rfl), He.int_ok X G (c.base.fact 26 rfl)⟩
  have cl_Plan : Cls K (He.ga K "Plan") := He.cls_ok (c.base.fact 28 rfl)
  have na_Plan_parts : NoAttr K (He.ga K "Plan") "parts" := He.noat_ok (c.base.fact 42 rfl)
  have na_Plan_begin : NoAttr K (He.ga K "Plan") "begin" := He.noat_ok (c.base.fact 43 rfl)
  have G_validate_number : Gd K mg "validate_number" s_validate_number := by
    obtain ⟨fd, F⟩ := c.base.def_ 0 rfl
    exact ⟨_, fd, He.glo_ok X G (c.base.fact 29 rfl), F⟩
  have G_is_name : Gd K mg "is_name" s_is_name := by
    obtain ⟨fd, F⟩ := c.base.def_ 1 rfl
    exact ⟨_, fd, He.glo_ok X G (c.base.fact 30 rfl), F⟩
  have G_place_of : Gd K mg "place_of" s_place_of := by
    obtain ⟨fd, F⟩ := c.base.def_ 2 rfl
    exact ⟨_, fd, He.glo_ok X G (c.base.fact 31 rfl), F⟩
  have G_format_plan : Gd K mg "format_plan" s_format_plan := by
    obtain ⟨fd, F⟩ := c.base.def_ 3 rfl
    exact ⟨_, fd, He.glo_ok X G (c.base.fact 32 rfl), F⟩
  have G_is_number : Gd K mg "is_number" s_is_number := by
    obtain ⟨fd, F⟩ := c.base.def_ 4 rfl
    exact ⟨_, fd, He.glo_ok X G (c.base.fact 33 rfl), F⟩
  have G_parse_plan : Gd K mg "parse_plan" s_parse_plan := by
    obtain ⟨fd, F⟩ := c.base.def_ 5 rfl
    exact ⟨_, fd, He.glo_ok X G (c.base.fact 34 rfl), F⟩
  have G_law_mix : Gd K mg "_law_mix" s_law_mix := by
    obtain ⟨fd, F⟩ := c.base.def_ 6 rfl
    exact ⟨_, fd, He.glo_ok X G (c.base.fact 35 rfl), F⟩
  have G_law_next : Gd K mg "_law_next" s_law_next := by
    obtain ⟨fd, F⟩ := c.base.def_ 7 rfl
    exact ⟨_, fd, He.glo_ok X G (c.base.fact 36 rfl), F⟩
  have G_law_alike : Gd K mg "_law_alike" s_law_alike := by
    obtain ⟨fd, F⟩ := c.base.def_ 8 rfl
    exact ⟨_, fd, He.glo_ok X G (c.base.fact 37 rfl), F⟩
  have G_law_text : Gd K mg "_law_text" s_law_text := by
    obtain ⟨fd, F⟩ := c.base.def_ 9 rfl
    exact ⟨_, fd, He.glo_ok X G (c.base.fact 38 rfl), F⟩
  have G_law_some : Gd K mg "_law_some" s_law_some := by
    obtain ⟨fd, F⟩ := c.base.def_ 10 rfl
    exact ⟨_, fd, He.glo_ok X G (c.base.fact 39 rfl), F⟩
  have G_law_day : Gd K mg "_law_day" s_law_day := by
    obtain ⟨fd, F⟩ := c.base.def_ 11 rfl
    exact ⟨_, fd, He.glo_ok X G (c.base.fact 40 rfl), F⟩
  have G_Plan___getitem__ : Gm K (He.ga K "Plan") "__getitem__" "Plan.__getitem__" s_Plan___getitem__ := by
    obtain ⟨fd, F⟩ := c.base.def_ 13 rfl
    exact ⟨cl_Plan, _, fd, He.meth_ok (c.base.fact 44 rfl), F⟩
  have G_Plan___eq__ : Gm K (He.ga K "Plan") "__eq__" "Plan.__eq__" s_Plan___eq__ := by
    obtain ⟨fd, F⟩ := c.base.def_ 14 rfl
    exact ⟨cl_Plan, _, fd, He.meth_ok (c.base.fact 45 rfl), F⟩
  have G_Plan___rshift__ : Gm K (He.ga K "Plan") "__rshift__" "Plan.__rshift__" s_Plan___rshift__ := by
    obtain ⟨fd, F⟩ := c.base.def_ 15 rfl
    exact ⟨cl_Plan, _, fd, He.meth_ok (c.base.fact 46 rfl), F⟩
  have G_Plan___call__ : Gm K (He.ga K "Plan") "__call__" "Plan.__call__" s_Plan___call__ := by
    obtain ⟨fd, F⟩ := c.base.def_ 16 rfl
    exact ⟨cl_Plan, _, fd, He.meth_ok (c.base.fact 47 rfl), F⟩
  have G_Plan_harvests : Gm K (He.ga K "Plan") "harvests" "Plan.harvests" s_Plan_harvests := by
    obtain ⟨fd, F⟩ := c.base.def_ 17 rfl
    exact ⟨cl_Plan, _, fd, He.meth_ok (c.base.fact 48 rfl), F⟩
  have G_Plan_init := (by
    obtain ⟨fd, F⟩ := c.base.def_ 18 rfl
    exact ⟨g_Plan, _, fd, He.mkr_ok (c.base.fact 49 rfl), F⟩ : GkK K mg "Plan" (He.ga K "Plan") "Plan.__init__" s_Plan___init__ [("lead", .int 0)])
  have G_Plan_days : Gp K (He.ga K "Plan") "days" "Plan.days" s_Plan_days := by
    obtain ⟨fd, F⟩ := c.base.def_ 19 rfl
    exact ⟨cl_Plan, _, _, fd, propB_ok (c.more 0 rfl), F⟩
  have G_Plan_lead : Gp K (He.ga K "Plan") "lead" "Plan.lead" s_Plan_lead := by
    obtain ⟨fd, F⟩ := c.base.def_ 20 rfl
    exact ⟨cl_Plan, _, _, fd, propB_ok (c.more 1 rfl), F⟩
  obtain ⟨fd, F⟩ := c.base.def_ 12 rfl
  have e := hfa.symm.trans (He.glo_ok X G (c.base.fact 41 rfl))
  cases e
  have b := FunD.bindsA (ps := ["_law_script"]) F fun _ _ _ _ _ _ us hl => match us, hl with | [_], _ => rfl
  refine ⟨fd, fun s v => b s [v] rfl, fun base _ _ => ?_⟩
  have PC : PlanC K (He.ga K "Plan") := ⟨cl_Plan, na_Plan_parts, na_Plan_begin⟩
  have BI := binIB_ok (c.more 2 rfl)
  have EO := eqOB_ok (c.more 3 rfl)
  have KI := kitIsB_ok cl_Plan (c.more 4 rfl)
  have D1 : DefR P w K mg base "_law_mix" 2 (sp_law_mix K) := ok_law_mix M G_law_mix
  have D2 : DefR P w K mg base "_law_next" 2 (sp_law_next K) := ok_law_next M G_law_next
  have D3 := ok_law_some M G_law_some D2
  have D4 : DefR P w K mg base "_law_text" 2 (sp_law_text K) := ok_law_text M G_law_text
  have D5 : DefR P w K mg base "_law_day" 2 (sp_law_day K) := ok_law_day M G_law_day
  have D6 : DefR P w K mg base "_law_alike" 2 (sp_alike0 K) := ok_law_alike0 M G_law_alike
  have D7 : DefR P w K mg base "validate_number" 2 sp_valid := ok_valid M G_validate_number
  have D8 : DefR P w K mg base "is_name" 2 sp_is_name := ok_is_name M G_is_name
  have D9 : DefR P w K mg base "place_of" 2 (sp_place_of K) := ok_place_of M G_place_of
  have D10 : DefR P w K mg base "is_number" 2 sp_is_number := ok_is_number M G_is_number
  have K2 : MakeRK P w K mg base "Plan" (He.ga K "Plan") 4 "lead" (sp_plan_init K (He.ga K "Plan")) := ok_plan_init M PC G_Plan_init
  have K3 : MakeR P w K mg base "Plan" (He.ga K "Plan") 4 (sp_plan_new K (He.ga K "Plan")) := ok_plan_new M PC G_Plan_init
  have P4 : PropR P w K mg base (He.ga K "Plan") "days" 2 (sp_plan_days (He.ga K "Plan")) := ok_plan_days PC G_Plan_days
  have P5 : PropR P w K mg base (He.ga K "Plan") "lead" 2 (sp_plan_lead (He.ga K "Plan")) := ok_plan_lead PC G_Plan_lead
  have D11 := ok_parse M G_parse_plan D8 D10 K2
  have D12 := ok_format M G_format_plan P4 P5
  have M1 := ok_plan_rshift M PC G_Plan___rshift__ D7 D9 K2 K3
  have M2 : MethR P w K mg base (He.ga K "Plan") "__eq__" 2 (sp_plan_eq K (He.ga K "Plan")) := ok_plan_eq M PC g_Plan KI G_Plan___eq__
  have M3 := ok_plan_getitem M PC G_Plan___getitem__ D7 D9
  have M4 := ok_plan_call M PC G_Plan___call__ D7 D9
  have M5 := ok_plan_harvests M PC G_Plan_harvests D7 D9
  exact ok_law M g_Plan KI F D1 D2 D3 D4 D5 D6 D11 D12 P4 P5 M1 BI M2 EO M3 (fi_of G_Plan___getitem__) M4 (fi_of G_Plan___call__) M5
end HC
open PySem PySem.W PySem.Calls PyProof.Rows in
set_option maxRecDepth 100000 in set_option maxHeartbeats 0 in
theorem PySem.Challenge.cw_harvestcarts_k55_whole_plans_shifted_and_holds : PySem.Challenge.rw_harvestcarts_k55_whole_plans_shifted_and.Holds := by
  w_on; o_law
  refine HandSHeadRun.head_any (r := OpenLaw.row PySem.Challenge.rw_harvestcarts_k55_whole_plans_shifted_and) (q := view (OpenLaw.row PySem.Challenge.rw_harvestcarts_k55_whole_plans_shifted_and).prog [31]) (H := HC.endHk) (ob := HC.endOb) (M := 40000) (loose := HC.endNames) (d := HandSHeadRun.topDef (OpenLaw.row PySem.Challenge.rw_harvestcarts_k55_whole_plans_shifted_and).prog 31) (kwd := []) HC.endOb_eq
    (by kernel_rfl) (fun s => by kernel_rfl) HC.endRun (by kernel_rfl) (by kernel_rfl) (by kernel_rfl) (by rfl) (by first | assumption | decide +kernel) (by decide +kernel) ⟨rfl, rfl, rfl, rfl, rfl, by decide +kernel⟩ ?hw ?hc
  case hw => w_witness2
  case hc =>
    refine L2.walk_ofE (l := PySem.Challenge.rw_harvestcarts_k55_whole_plans_shifted_and) (n := 63) (k := 14) (x := "_law_script") (CX := L2.CX0) rfl (by decide) (by kernel_rfl) ⟨rfl, by decide, by decide⟩ ?F (fun _ _ _ _ z => z)
    intro w mg fa h Y G hmg0
    obtain ⟨K, KX, c⟩ := Y
    have hmg : mg (PySem.Str.ofString "law") = some (.ref fa) := by
      have e : (HandSHeadRun.topDef (OpenLaw.row PySem.Challenge.rw_harvestcarts_k55_whole_plans_shifted_and).prog 31).name = ("law" : PySem.Str) := by kernel_rfl
      rw [← e]
      exact hmg0
    obtain ⟨fd, hb, hF⟩ := HC.endFacts (P := (PySem.Challenge.rw_harvestcarts_k55_whole_plans_shifted_and).prog) (w := w) KX G hmg c
    exact ⟨K, fd, HC.sp_law K, KX, hb, fun H a ns hl _ hS => ⟨a, ns, rfl, hS, hl, fun _ => rfl⟩, hF⟩
namespace HC
section

end
end HC
