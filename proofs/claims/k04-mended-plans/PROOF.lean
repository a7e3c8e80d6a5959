import PyProof.Rows.All
import Wide.All
import OpenK.AllK
import Wide.FinOn
import KE.KStateDown
import KE.GoesNew
import KE.GoesMore
import HandS.ForMost
import HandS.ForExc
import HandS.Defaults
import HandS.Star
import HandS.Property
import HandS.ClsMeth
import HandS.IsInst
import HandS.Style
import HandS.TupAny
import HandS.Deep
import HandS.Replace
import HandS.Conv
import HandS.Walk
import HandS.Codes
import HandS.Zip
import HandS.Steps
import HandS.Evl
import Lean
import HandS.Head0
import HandS.Head1
import HandS.Head2
import HandS.HeadEnd
import HandS.HeadHook1
import HandS.HeadHook2
import HandS.HeadHook3
import HandS.HeadNt
import OpenK.KMeth
import KE.KOpsOwn
import KE.KStar
import PyProof.SetRoads
import PyProof.Rows.SetFrom
import PyProof.Rows.SetObj
import PyProof.WalksMore
import PyProof.ListStr
import PySem.Challenge.RW_harvestcarts_k04_mended_plans
set_option Elab.async false
set_option linter.all false
set_option maxRecDepth 100000
set_option maxHeartbeats 4100000
/-! promises of defs, methods, makers and properties, and how a call uses them: each by the layer's own rule -/
namespace HC
open PyProof.Rows PySem L2 PySem.Spec
abbrev CXW (P : Program) (w : World) : CXT := L2.CX P w
section
variable {P : Program} {w : World} {K : PySem.W.Frag}
variable {mg : Str → Option Value} {base : Heap} {k : Nat} {f : Addr} {sp : Sp}
/-- a def that takes its parameters by place and keeps sp -/
def FnU (P : Program) (w : World) (K : PySem.W.Frag) (mg : Str → Option Value) (base : Heap) (k : Nat) (f : Addr) (sp : Sp) : Prop := ∃ fd ps, FnOk P w K mg base (CXW P w) k f fd ps sp ∧ Binds K fd ps []
theorem fnr_mk {fd : FuncData} {ps : List Str} (F : FnOk P w K mg base (CXW P w) k f fd ps sp) (B : Binds K fd ps []) : FnU P w K mg base k f sp := ⟨fd, ps, F, B⟩
theorem FnU.raw (F : FnU P w K mg base k f sp) : FnR P w K mg base (CXW P w) k f sp := by
  obtain ⟨fd, ps, F, B⟩ := F
  refine FnR.imp (F.raw B .nil) fun vs H Q E h => ?_
  simpa using h
/-- the module's def x keeps sp -/
structure DefR (P : Program) (w : World) (K : PySem.W.Frag) (mg : Str → Option Value) (base : Heap) (x : Str) (k : Nat) (sp : Sp) : Prop where
  ex : ∃ f, mg x = some (.ref f) ∧ PySem.W.keepIn K (.ref f) = true ∧ FnU P w K mg base k f sp
/-- the method m of the class at C keeps sp -/
structure MethR (P : Program) (w : World) (K : PySem.W.Frag) (mg : Str → Option Value) (base : Heap) (C : Addr) (m : Str) (k : Nat) (sp : Sp) : Prop where
  cl : Cls K C
  ex : ∃ f, Meth K C m f ∧ FnR P w K mg base (CXW P w) k f sp
theorem MethR.at_ {C : Addr} {m : Str} (M : MethR P w K mg base C m k sp) : Meth K C m M.ex.choose := M.ex.choose_spec.1
theorem MethR.fn {C : Addr} {m : Str} (M : MethR P w K mg base C m k sp) : FnR P w K mg base (CXW P w) k M.ex.choose sp := M.ex.choose_spec.2
/-- the class x at C is made by an __init__ that keeps sp -/
structure MakeR (P : Program) (w : World) (K : PySem.W.Frag) (mg : Str → Option Value) (base : Heap) (x : Str) (C : Addr) (k : Nat) (sp : Sp) : Prop where
  at_ : mg x = some (.ref C)
  ex : ∃ f, Mk K C f ∧ FnR P w K mg base (CXW P w) k f sp
/-- the property f of the class at C -/
structure PropR (P : Program) (w : World) (K : PySem.W.Frag) (mg : Str → Option Value) (base : Heap) (C : Addr) (f : Str) (k : Nat) (sp : Sp) : Prop where
  cl : Cls K C
  ex : ∃ p g, PropOf K C f p g ∧ FnU P w K mg base k g sp
/-- what a body owes, the frame's slots laid as start says -/
abbrev Owes (P : Program) (w : World) (K : PySem.W.Frag) (mg : Str → Option Value) (base : Heap) (N : List Str) (qual : Str) (scope : Scope) (body : List Stmt) (k : Nat) (f : Addr) (sp : Sp) (cdv : Value) : Prop :=
  ∀ (A : Around) (outer : List Env) (s : Shared) (H : Hp) (vs : List V) (Q : VK) (E : XK),
    Room k (A.deeper (envOfC qual scope s.heap.objs.size f cdv)) → sp vs H Q E →
    ∃ t, PSs (cxOf (CXW P w) P w K mg base N qual scope f cdv A outer s H E) body t ∧ t { nx := fun _ H' => Q .non H', rt := Q } (start N vs) H
/-- def f(self, *v): by the layer's fn_star -/
theorem fnr_star1 {x qual : Str} {params : Arguments} {body : List Stmt} {scope : Scope} {fd : FuncData} {N : List Str} {p1 pv : Str} (F : FunD K x qual params body scope [] [] f fd) (S : FnScope N ([p1] ++ [pv]) scope)
    (h0 : ∀ (kV doc pm : Value) (an : Option Addr) (cdv ct : Value) (a : Value), bindArgs (PySem.W.fnOf x qual params body scope .none kV doc pm an cdv ct) ⟨[a], []⟩ = (newTuple [] >>= fun t => pure [(p1, a), (pv, t)]))
    (h1 : ∀ (kV doc pm : Value) (an : Option Addr) (cdv ct : Value) (a r : Value) (rs : List Value), bindArgs (PySem.W.fnOf x qual params body scope .none kV doc pm an cdv ct) ⟨a :: r :: rs, []⟩ = (newTuple (r :: rs) >>= fun t => pure [(p1, a), (pv, t)]))
    (owes : ∀ cdv, Owes P w K mg base N qual scope body k f sp cdv) :
    FnR P w K mg base (CXW P w) (k + 1) f (fun vs H Q E => ∃ w0 rest, vs = w0 :: rest ∧ rest.length ≤ sizeLine ∧ ∀ p, H p = none → sp [w0, V.ref p] (upd H p (.tup rest)) Q E) := by
  rcases F.ex with ⟨c1, c2, dv, kv, dc, pm, an, cdv, ct, sl, e, at_, code, dfl, _⟩
  subst e
  have dn : dv = .none := dfl.elim (fun z => z.2) (fun z => absurd rfl z.1)
  subst dn
  have both := StX.bind_star1 (B := fun us => bindArgs (PySem.W.fnOf x qual params body scope .none kv dc pm an cdv ct) ⟨us, []⟩) (h0 kv dc pm an cdv ct) (h1 kv dc pm an cdv ct)
  exact FnR.imp (StX.fn_star (P := P) (w := w) (mg := mg) (base := base) (k := k) (sp := sp) at_ code S StX.cxUp both (owes cdv)) fun vs H Q E ⟨w0, rest, z, hl, h⟩ => ⟨[w0], rest, z, rfl, hl, h⟩
end
section
variable {X : Cx} {k : Nat} {C : Addr} {sp : Sp} {E : XK} {x m f : Str} {e o : Expr} {es : List Expr} {ta te : TE} {t : TA} {p pos apos : Pos}
theorem passN : Passes (CXW X.prog X.w) X E0 := passL
/-- f(e, ..) -/
def tCallR (sp : Sp) (E : XK) (t : TA) : TE := fun σ H Q => t σ H fun vs H1 => sp vs H1 Q E
theorem tCallR_eq (sp : Sp) (E : XK) (t : TA) : tCall sp [] E t = tCallR sp E t := by
  funext σ H Q
  simp only [tCall, tCallR, List.append_nil]
theorem pe_callR (D : DefR X.prog X.w X.K X.mg X.base x k sp) (room : Room k X.A) (leave : Passes (CXW X.prog X.w) X E) (args : PA X (e :: es) t) (glob : Gl X x := by rfl) (nodeb : (x == ("__debug__" : Str)) = false := by decide) (one : starEach (e :: es) X.env = (false, eval e X.env) :: starEach es X.env := by rfl) (plain : (backTo pos (starEach es X.env)).any (·.1) = false := by rfl) : PE X (.Call (.Name x p) (e :: es) [] pos) (tCallR sp E t) := by
  obtain ⟨g, at_, kp, fd, ps, F, B⟩ := D.ex
  rw [← tCallR_eq]
  exact pe_call F room glob at_ kp B .nil leave args nodeb one plain
/-- f( *e) -/
def tStar1 (K : PySem.W.Frag) (te : TE) : TA := fun σ H Q => te σ H fun y H1 => ∃ a xs, y = V.ref a ∧ (SqT K H1 a xs ∨ SqL K H1 a xs) ∧ Q xs H1
/-- C( *e): the class stands in K, so it is called as a def of K is -/
theorem pe_makeS (M : MakeR X.prog X.w X.K X.mg X.base x C k sp) (room : Room (k + 1) X.A) (leave : Passes (CXW X.prog X.w) X E) (arg : PE X e te) (glob : Gl X x := by rfl) (nodeb : (x == ("__debug__" : Str)) = false := by decide) (one : starEach [.Starred e apos] X.env = [(true, eval e X.env)] := by rfl) : PE X (.Call (.Name x p) [.Starred e apos] [] pos) (StX.tMakeR C sp E (tStar1 X.K te)) := by
  constructor
  intro pn sh σ H Q inv h
  obtain ⟨g, made, F⟩ := M.ex
  have argRun := arg.run pn sh σ H _ inv h
  refine wpAny_Call_Name_kw (ld_glob inv glob M.at_ (PySem.W.callWith_S (h₀ := X.base) inv.ok.mod.kin made.kp (thn argRun ?_) one) nodeb)
  rintro v s1 ⟨y, H1, inv1, rel, a, xs, rfl, sq, q⟩
  cases rel
  exact StX.star_any inv1 sq fun us s2 inv2 vals => ⟨inv2.kIn, StX.run_makeR made F room leave inv2 vals q⟩
/-- C(e, ..) -/
theorem pe_makeP (M : MakeR X.prog X.w X.K X.mg X.base x C k sp) (room : Room (k + 1) X.A) (leave : Passes (CXW X.prog X.w) X E) (args : PA X (e :: es) t) (glob : Gl X x := by rfl) (nodeb : (x == ("__debug__" : Str)) = false := by decide) (one : starEach (e :: es) X.env = (false, eval e X.env) :: starEach es X.env := by rfl) (plain : (backTo pos (starEach es X.env)).any (·.1) = false := by rfl) : PE X (.Call (.Name x p) (e :: es) [] pos) (StX.tMakeR C sp E t) := by
  obtain ⟨g, made, F⟩ := M.ex
  exact StX.pe_makeR made F room glob M.at_ leave args nodeb one plain
/-- o.f, a property -/
def tPropR (C : Addr) (sp : Sp) (ta : TE) : TE := tProp C sp [] E0 ta
theorem pe_propR (M : PropR X.prog X.w X.K X.mg X.base C f k sp) (room : Room (k + 1) X.A) (obj : PE X e ta) (plain : attributeBase e f X.env (eval e X.env) = eval e X.env := by rfl) : PE X (.Attribute e f pos) (tPropR C sp ta) := by
  obtain ⟨pr, g, is, fd, ps, F, B⟩ := M.ex
  exact pe_prop (CX := CXW X.prog X.w) obj M.cl is F room B .nil (passL (X := X.nox)) plain
/-- len(o), o an instance with an own __len__ -/
def rLenO (C : Addr) (sp : Sp) : List V → Hp → VK → Prop := fun xs H Q => ∃ a dx fs, xs = [.ref a] ∧ H a = some (.ins C dx fs) ∧ sp [.ref a] H (fun v H' => ∃ n : Int, v = .int n ∧ 0 ≤ n ∧ n < 2 ^ 63 ∧ Q (.int n) H') E0
theorem call_lenO (M : MethR X.prog X.w X.K X.mg X.base C "__len__" k sp) (room : Room (k + 1) X.A) : CallR X (.builtin "len") (rLenO C sp) := by
  rintro pn sh σ H _ us Q inv rel ⟨a, dx, fs, rfl, obj, owed⟩
  obtain ⟨_, rfl, rfl⟩ := vals1 rel
  have look := (ins_get inv.hok obj).choose_spec.1.look
  have call := M.fn X.A.in1 X.stack sh H [.ref a] [.ref a] _ E0 room.in1 inv.env0.in1 (.cons rfl .nil) owed
  refine PySem.W.len_K inv.fr.choose_spec inv.mod.kin look.choose_spec.1 M.at_.at_ M.at_.fn (wpAny_call (codeAny_mono call ?_))
  rintro (er | fl) sh' got
  · rcases got with ⟨_, _, _, _, _, _, _, _, _, _, _, _, none_leaves⟩
    exact none_leaves.elim
  · cases fl with
    | ret val =>
      obtain ⟨v, H', inv', rel', n, rfl, low, high, q⟩ := inv.after got
      obtain ⟨tk, rfl⟩ := rel'
      exact ⟨⟨low, high⟩, V.int n, H', inv'.tok _, ⟨_, rfl⟩, q⟩
    | _ => exact got.elim
end
/-! ### enumerate over a tuple: the turns by GoesN.enumFrom over Draws.tuple; only the call with one argument is walked here -/
namespace EnT
/-- the record that enumerate() makes over the iterator at it -/
abbrev fresh (it : Addr) : Obj := { cls := .type "enumerate", data := .fields #[.none, .bool false, .ref it, rawInt 0, .none, .none] }
theorem new_of {v : Value} {o : Obj} {Z : Heap → Prop} (B : Begins v o Z) :
    Meets (Builtin.«enumerate.__new__» ⟨[.type "enumerate", v], []⟩) (fun _ R s => Z s.heap ∧ R (.ok (.ret (.ref (s.heap.push o).objs.size))) { s with heap := (s.heap.push o).push (fresh s.heap.objs.size) }) := by
  refine .of_wp fun prog w A R s owed => ?_
  have sub := sub_enumerate
  obtain ⟨start, goal⟩ := owed
  wp_walk using B.iter prog w _ _ _ _ start
  refine wpAny_stack_any fun frames => ?_
  refine wpAny_pure ?_
  split
  · rename_i c _ _ _ _ _
    generalize (c == Value.type "enumerate") = short
    cases short <;> (wp_walk using B.iter prog w _ _ _ _ start) <;> exact ⟨_, rfl, goal⟩
  · wp_walk using B.iter prog w _ _ _ _ start
    exact ⟨_, rfl, goal⟩
/-- enumerate(v): an iterator of v's, then the record over it -/
theorem call_of {prog : Program} {w : World} {A : Around} {E : Value → Shared → Prop} {s : Shared} {v : Value} {o : Obj} {Z : Heap → Prop} {Q : Value → Shared → Prop} (B : Begins v o Z) (start : Z s.heap)
    (go : ∀ h, (s.heap.push o).push (fresh s.heap.objs.size) = h → h.get? s.heap.objs.size = some o → IsEnum h (s.heap.objs.size + 1) s.heap.objs.size 0 .none → (∀ b ob, s.heap.get? b = some ob → h.get? b = some ob) →
      Q (.ref (s.heap.objs.size + 1)) { s with heap := h }) : wpAny (model prog w) A (call (.type "enumerate") [v]) Q E s := by
  have size1 : (s.heap.push o).objs.size = s.heap.objs.size + 1 := Heap.size_push ..
  have mine : ((s.heap.push o).push (fresh s.heap.objs.size)).get? (s.heap.objs.size + 1) = some (fresh s.heap.objs.size) := by
    rw [← size1]; exact Heap.get?_push_size _ rfl
  refine callType_new F.called_enumerate (by decide) (F.typeCall_enumerate_1 v) (F.newCall_enumerate_1 v) (fun obj => F.args_object_init_2 obj v) F.entry_enumerate_new (new_of B) ⟨start, ?_⟩
  refine ⟨⟨fresh s.heap.objs.size, ?_, rfl⟩, ?_⟩
  · show Heap.get? _ (s.heap.push o).objs.size = _
    rw [size1]
    exact mine
  · rw [size1]
    exact go _ rfl (Heap.get?_push_of_some _ (Heap.get?_push_size _ B.free)) mine fun b ob z => Heap.get?_push_of_some _ (Heap.get?_push_of_some _ z)
end EnT
/-- enumerate over the tuple at a, of n items: pairs, each new -/
def IteT (K : PySem.W.Frag) (a : Addr) (n : Nat) : It where
  go i H := i < n ∧ ∃ xs, SqT K H a xs ∧ xs.length = n
  yld i H v H' := ∃ T x, v = .ref T ∧ H T = none ∧ H' = upd H T (.tup [.int (i : Nat), x]) ∧ ∀ xs, SqT K H a xs → xs[i]? = some x
  stop i H := n ≤ i ∧ ∃ xs, SqT K H a xs ∧ xs.length = n
/-- what the heap says between two turns -/
structure TnE (a e it : Addr) (n i : Nat) (h : Heap) : Prop where
  le : i ≤ n
  rec_ : ∃ old, IsEnum h e it (0 + (i : Int)) old
  iter : h.IsTupleIter it a i
theorem two {b x y : Addr} (h : b ∈ [x, y]) : b = x ∨ b = y := by simpa using h
section
variable {P : Program} {w : World} {K : PySem.W.Frag} {elts : List Expr} {kk n : Nat} {tpos : Pos} {a e it : Addr}
theorem walkE {A : Around} (calm : A.in1.handled = none) (ai : a ≠ it) (ae : a ≠ e) (ei : e ≠ it) (cells : Array Value) :
    GoesN P w A (.Tuple elts kk tpos) e [e, it, a] [e, it] cells.size (fun i h₀ v h => ∃ T t x, v = .ref T ∧ h₀.objs.size ≤ T ∧ cells[i]? = some x ∧ h.IsTuple T #[.int (0 + (i : Int)) t, x]) (fun i h => (∃ old, IsEnum h e it (0 + (i : Int)) old) ∧ h.IsTupleIter it a i ∧ h.IsTuple a cells) :=
  GoesN.enumFrom 0 (Draws.tuple calm it a ai cells) e ei (by simp [ei, Ne.symm ae]) (by simp)
theorem turn_enumT (ai : a ≠ it) (ae : a ≠ e) (ei : e ≠ it) : Turn P w K (.Tuple elts kk tpos) (IteT K a n) [e, it] e (TnE a e it n) := by
  constructor
  · simp
  · intro i h now b hb
    rcases two hb with rfl | rfl
    · obtain ⟨old, z⟩ := now.rec_
      exact ⟨_, z, nofun⟩
    · obtain ⟨o, z, _, dat⟩ := now.iter
      refine ⟨o, z, fun v c => ?_⟩
      rw [dat] at c
      exact nomatch c
  · intro i h h' now same
    refine ⟨now.le, ?_, now.iter.at (same it (by simp))⟩
    obtain ⟨old, z⟩ := now.rec_
    exact ⟨old, same e (by simp) _ z⟩
  · rintro X rfl rfl rfl calm i pn s σ H E inv fp now ⟨lt, xs, sq, len⟩
    obtain ⟨cells, vals, tup, _⟩ := inv.tuple sq
    have sz : cells.toArray.size = n := by
      have := vals.length
      simp only [List.size_toArray]
      omega
    refine (walkE (P := X.prog) (w := X.w) (A := X.A) (show X.A.in1.handled = none from inv.ok.hd calm) ai ae ei cells.toArray).goes i s _ E (by omega) ⟨now.rec_, now.iter, tup⟩ ?_
    rintro _ h' tk ⟨T, t, u, rfl, new, at_, pair⟩ ⟨rec', iter', _⟩ same _
    have atX : i < xs.length := by omega
    obtain ⟨u', hu, ru⟩ := vals.get (List.getElem?_eq_getElem atX)
    have uu : u' = u := by
      rw [List.getElem?_toArray] at at_
      exact Option.some.inj (hu.symm.trans at_)
    subst uu
    rw [Int.zero_add] at pair
    have ob : ObjOk X.prog X.w (upd H T (.tup [.int (i : Nat), xs[i]])) h' T (.tup [.int (i : Nat), xs[i]]) := by
      refine ⟨?_, _, .cons ⟨t, rfl⟩ (.cons ru .nil), pair⟩
      show 2 ≤ sizeLine
      decide
    refine ⟨.ref T, _, inv.turnedNew same fp new ob, rfl, ⟨T, xs[i], rfl, inv.hok.fresh new, rfl, fun ys hy => ?_⟩, ⟨lt, rec', iter'⟩, fun b hb => ?_⟩
    · rw [inv.tuple_inj hy sq]
      exact List.getElem?_eq_getElem atX
    · refine (upd_ne fun z => ?_).trans (fp b hb).1
      obtain ⟨o, live⟩ : ∃ o, s.heap.get? b = some o := by
        rcases two hb with rfl | rfl
        · obtain ⟨old, q⟩ := now.rec_
          exact ⟨_, q⟩
        · obtain ⟨o, q, _⟩ := now.iter
          exact ⟨o, q⟩
      have := Heap.lt_size live
      rw [z] at this
      exact Nat.lt_irrefl _ (Nat.lt_of_lt_of_le this new)
  · rintro X rfl rfl rfl calm i pn s σ H E inv fp now ⟨ge, xs, sq, len⟩
    obtain ⟨cells, vals, tup, _⟩ := inv.tuple sq
    have sz : cells.toArray.size = i := by
      have := vals.length
      have := now.le
      simp only [List.size_toArray]
      omega
    have W := walkE (P := X.prog) (w := X.w) (A := X.A) (elts := elts) (kk := kk) (tpos := tpos) (show X.A.in1.handled = none from inv.ok.hd calm) ai ae ei cells.toArray
    rw [sz] at W
    exact W.stops s _ E ⟨now.rec_, now.iter, tup⟩ fun h' tk same _ => inv.turnedL same fp
  · intro A i s Q E now q
    obtain ⟨old, z⟩ := now.rec_
    exact wpAny_pyIter_enum z q
end
def iEnumT (K : PySem.W.Frag) (ta : TA) : TI := fun σ H R => ta σ H fun vs H1 => ∃ a xs, vs = [.ref a] ∧ SqT K H1 a xs ∧ R (IteT K a xs.length) H1
theorem pi_enumT {X : Cx} {e : Expr} {ta : TA} {p pos tpos : Pos} {elts : List Expr} {kk : Nat} (glob : Gl X "enumerate") (free : X.mg "enumerate" = none) (args : PA X [e] ta) (one : starEach [e] X.env = [(false, eval e X.env)] := by rfl) : PI X (.Tuple elts kk tpos) (.Call (.Name "enumerate" p) [e] [] pos) (iEnumT X.K ta) := by
  constructor
  intro pn s σ H R inv h
  refine Call_ (ld_blt inv glob free boot_enumerate ?_)
  refine PyProof.Rows.callWith_type1 (thn (args.run pos pn s σ H _ inv h) ?_) one rfl
  rintro us s1 ⟨vs, H1, inv1, rel, a, xs, rfl, sq, q⟩
  obtain ⟨_, rfl, rfl⟩ := vals1 rel
  obtain ⟨cells, vals, tup, _⟩ := inv1.tuple sq
  have below : a < s1.heap.objs.size := by
    obtain ⟨o, z, _⟩ := tup
    exact Heap.lt_size z
  refine EnT.call_of (begins_tuple a cells.toArray) tup fun h' _ isIter isRec same => wpAny_pyIter_enum isRec ?_
  refine ⟨s1.heap.objs.size + 1, [s1.heap.objs.size + 1, s1.heap.objs.size], TnE a _ _ xs.length, IteT X.K a xs.length, H1, rfl, inv1.kept (t' := s1.toks) same, turn_enumT ?_ ?_ ?_, ⟨Nat.zero_le _, ⟨.none, isRec⟩, _, isIter, rfl, rfl⟩, fun b hb => ?_, q⟩
  · exact Nat.ne_of_lt below
  · exact Nat.ne_of_lt (Nat.lt_succ_of_lt below)
  · exact Nat.succ_ne_self _
  · have up : s1.heap.objs.size ≤ b := by
      rcases two hb with z | z <;> rw [z]
      · exact Nat.le_succ _
      · exact Nat.le_refl _
    exact inv1.fpOk up (inv1.hok.fresh up)
theorem walk_enumT {K : PySem.W.Frag} {a : Addr} {xs : List V} : Walk (IteT K a xs.length) xs.length (fun H => SqT K H a xs) (YPair (fun i => some (.int (i : Nat))) (fun i => xs[i]?)) := by
  constructor
  · exact fun i H lt sq => ⟨lt, xs, sq, rfl⟩
  · exact fun H sq => ⟨Nat.le_refl _, xs, sq, rfl⟩
  · rintro i H v H' _ sq ⟨T, x, e1, e2, e3, e4⟩
    exact ⟨T, _, x, e1, e2, e3, rfl, e4 xs sq⟩
end HC
/-! operators whatever the types, and the steps of a reading -/
namespace HC
open PyProof.Rows PySem L2 PySem.Spec

/-! ### heaps -/
theorem same_new {H : Hp} {p : Addr} {o : HO} (h : H p = none) : Same H (upd H p o) := fun b u e => by rw [upd_ne (ne_of_none e h)]; exact e
/-- all but d is as it was -/
def Keep (d : Addr) (H H' : Hp) : Prop := ∀ b o, b ≠ d → H b = some o → H' b = some o
theorem Keep.refl (d : Addr) (H : Hp) : Keep d H H := fun _ _ _ h => h
theorem Keep.trans {d : Addr} {H H1 H2 : Hp} (a : Keep d H H1) (b : Keep d H1 H2) : Keep d H H2 := fun c o n h => b c o n (a c o n h)
theorem keep_upd {H : Hp} {d : Addr} {o : HO} : Keep d H (upd H d o) := fun b u n e => by rw [upd_ne n]; exact e
end HC
namespace L2
open PySem PySem.Spec PyProof.Rows HC
theorem Same.keep {d : Addr} {H H' : Hp} (a : Same H H') : Keep d H H' := fun b o _ h => a b o h
end L2
namespace HC
open PyProof.Rows PySem L2 PySem.Spec
theorem keep_same {d : Addr} {H H' : Hp} (a : Keep d H H') (h : H d = none) : Same H H' := fun b o e => a b o (ne_of_none e h) e
theorem same_l {K : PySem.W.Frag} {H H' : Hp} {a : Addr} {xs : List V} (e : Same H H') (h : SqL K H a xs) : SqL K H' a xs := e.seq h
theorem same_t {K : PySem.W.Frag} {H H' : Hp} {a : Addr} {xs : List V} (e : Same H H') (h : SqT K H a xs) : SqT K H' a xs := h.imp (fun z => z.imp (e a _) fun ⟨o, q⟩ => ⟨o, e a _ q⟩) id
mutual
theorem dp_same {K : PySem.W.Frag} {H H' : Hp} (e : Same H H') : ∀ (d : PyData) (v : V), Dp K H v d → Dp K H' v d
  | .none, _, .non => .non
  | .bool _, _, .bl b => .bl b
  | .int _, _, .int i => .int i
  | .str _, _, .str x => .str x
  | .list ds, _, .lst h a => .lst (same_l e h) (dp_sameAll e ds _ a)
  | .tuple ds, _, .tup h a => .tup (same_t e h) (dp_sameAll e ds _ a)
theorem dp_sameAll {K : PySem.W.Frag} {H H' : Hp} (e : Same H H') : ∀ (ds : List PyData) (vs : List V), DpAll K H vs ds → DpAll K H' vs ds
  | [], _, .nil => .nil
  | d :: ds, _, .cons a b => .cons (dp_same e d _ a) (dp_sameAll e ds _ b)
end
end HC
namespace L2
open PySem PySem.Spec PyProof.Rows HC
theorem Same.dp {K : PySem.W.Frag} {H H' : Hp} {v : V} {d : PyData} (e : Same H H') (h : Dp K H v d) : Dp K H' v d := dp_same e d v h
theorem Same.dpa {K : PySem.W.Frag} {H H' : Hp} {vs : List V} {ds : List PyData} (e : Same H H') (h : DpAll K H vs ds) : DpAll K H' vs ds := dp_sameAll e ds vs h
theorem DpAll.length {K : PySem.W.Frag} {H : Hp} : ∀ {vs : List V} {ds : List PyData}, DpAll K H vs ds → vs.length = ds.length
  | _, _, .nil => rfl
  | _, _, .cons _ b => congrArg Nat.succ (DpAll.length b)
theorem DpAll.get {K : PySem.W.Frag} {H : Hp} {vs : List V} {ds : List PyData} {i : Nat} {v : V} (h : DpAll K H vs ds) (e : vs[i]? = some v) : ∃ d, ds[i]? = some d ∧ Dp K H v d :=
  match i, h, e with
  | 0, .cons a _, e => ⟨_, rfl, Option.some.inj e ▸ a⟩
  | j + 1, .cons _ b, e => DpAll.get (i := j) b e
theorem DpAll.getD {K : PySem.W.Frag} {H : Hp} {vs : List V} {ds : List PyData} {i : Nat} {d : PyData} (h : DpAll K H vs ds) (e : ds[i]? = some d) : ∃ v, vs[i]? = some v ∧ Dp K H v d :=
  match i, h, e with
  | 0, .cons a _, e => ⟨_, rfl, Option.some.inj e ▸ a⟩
  | j + 1, .cons _ b, e => DpAll.getD (i := j) b e
theorem DpAll.append {K : PySem.W.Frag} {H : Hp} : ∀ {vs ws : List V} {ds es : List PyData}, DpAll K H vs ds → DpAll K H ws es → DpAll K H (vs ++ ws) (ds ++ es)
  | _, _, _, _, .nil, s => s
  | _, _, _, _, .cons r t, s => .cons r (DpAll.append t s)
end L2
namespace HC
open PyProof.Rows PySem L2 PySem.Spec
theorem dpa_take {K : PySem.W.Frag} {H : Hp} : ∀ {vs : List V} {ds : List PyData} (n : Nat), DpAll K H vs ds → DpAll K H (vs.take n) (ds.take n)
  | _, _, 0, _ => .nil
  | _, _, _ + 1, .nil => .nil
  | _, _, n + 1, .cons r t => .cons r (dpa_take n t)
theorem getm {α β : Type} {f : α → β} {l : List α} {i : Nat} {d : β} (h : (l.map f)[i]? = some d) : ∃ x, l[i]? = some x ∧ f x = d := by
  rw [List.getElem?_map] at h
  exact Option.map_eq_some_iff.mp h
theorem dpa_ints {K : PySem.W.Frag} {H : Hp} : ∀ ns : List Int, DpAll K H (ns.map V.int) (ns.map PyData.int)
  | [] => .nil
  | n :: r => .cons (.int n) (dpa_ints r)
theorem dpa_strs {K : PySem.W.Frag} {H : Hp} : ∀ ns : List Str, DpAll K H (ns.map V.str) (ns.map PyData.str)
  | [] => .nil
  | n :: r => .cons (.str n) (dpa_strs r)


/-! ### data -/
abbrev pInts (ns : List Int) : PyData := .list (ns.map .int)
theorem dp_lst {K : PySem.W.Frag} {H : Hp} {a : Addr} {xs : List V} {ds : List PyData} (h : H a = some (.lst xs)) (h2 : DpAll K H xs ds) : Dp K H (.ref a) (.list ds) := .lst (SqL.of h) h2
theorem dp_tup {K : PySem.W.Frag} {H : Hp} {a : Addr} {xs : List V} {ds : List PyData} (h : H a = some (.tup xs)) (h2 : DpAll K H xs ds) : Dp K H (.ref a) (.tuple ds) := .tup (SqT.of h) h2
end HC
namespace L2
open PySem PySem.Spec PyProof.Rows HC
theorem Dp.inv_l {K : PySem.W.Frag} {H : Hp} {v : V} {ds : List PyData} (h : Dp K H v (.list ds)) : ∃ a xs, v = .ref a ∧ SqL K H a xs ∧ DpAll K H xs ds := by
  cases h with
  | lst h1 h2 => exact ⟨_, _, rfl, h1, h2⟩
theorem Dp.inv_t {K : PySem.W.Frag} {H : Hp} {v : V} {ds : List PyData} (h : Dp K H v (.tuple ds)) : ∃ a xs, v = .ref a ∧ SqT K H a xs ∧ DpAll K H xs ds := by
  cases h with
  | tup h1 h2 => exact ⟨_, _, rfl, h1, h2⟩
theorem Dp.inv_i {K : PySem.W.Frag} {H : Hp} {v : V} {i : Int} (h : Dp K H v (.int i)) : v = .int i := by cases h; rfl
theorem Dp.inv_s {K : PySem.W.Frag} {H : Hp} {v : V} {i : Str} (h : Dp K H v (.str i)) : v = .str i := by cases h; rfl
theorem Dp.inv_b {K : PySem.W.Frag} {H : Hp} {v : V} {i : Bool} (h : Dp K H v (.bool i)) : v = .bl i := by cases h; rfl
theorem Dp.inv_n {K : PySem.W.Frag} {H : Hp} {v : V} (h : Dp K H v .none) : v = .non := by cases h; rfl
theorem DpAll.inv1 {K : PySem.W.Frag} {H : Hp} {vs : List V} {d : PyData} {ds : List PyData} (h : DpAll K H vs (d :: ds)) : ∃ v r, vs = v :: r ∧ Dp K H v d ∧ DpAll K H r ds :=
  match h with | .cons first more => ⟨_, _, rfl, first, more⟩
theorem DpAll.inv0 {K : PySem.W.Frag} {H : Hp} {vs : List V} (h : DpAll K H vs []) : vs = [] := by cases h; rfl
theorem DpAll.inv2 {K : PySem.W.Frag} {H : Hp} {vs : List V} {d e : PyData} (h : DpAll K H vs [d, e]) : ∃ v u, vs = [v, u] ∧ Dp K H v d ∧ Dp K H u e := by
  obtain ⟨v, r, rfl, h1, h2⟩ := h.inv1
  obtain ⟨u, r, rfl, h3, h4⟩ := h2.inv1
  obtain rfl := h4.inv0
  exact ⟨v, u, rfl, h1, h3⟩
end L2
namespace HC
open PyProof.Rows PySem L2 PySem.Spec

/-! data without lists stand whatever list or instance changes -/
mutual
def noL : PyData → Bool
  | .list _ => false
  | .tuple ds => noLs ds
  | .none | .bool _ | .int _ | .str _ | .dict _ => true
def noLs : List PyData → Bool
  | [] => true
  | d :: ds => noL d && noLs ds
end
def NotT : Option HO → Prop
  | some (.tup _) => False
  | some (.frz _ (.tup _)) => False
  | _ => True
theorem keep_t {K : PySem.W.Frag} {H H' : Hp} {d a : Addr} {xs : List V} (e : Keep d H H') (hd : NotT (H d)) (h : SqT K H a xs) : SqT K H' a xs := by
  refine h.imp (fun z => z.imp (fun q => e a _ (fun ad => ?_) q) (fun ⟨o, q⟩ => ⟨o, e a _ (fun ad => ?_) q⟩)) id
  all_goals (subst ad; rw [q] at hd; exact hd)
mutual
theorem dp_keep {K : PySem.W.Frag} {H H' : Hp} {d : Addr} (e : Keep d H H') (hd : NotT (H d)) : ∀ (x : PyData) (v : V), noL x = true → Dp K H v x → Dp K H' v x
  | .none, _, _, .non => .non
  | .bool _, _, _, .bl b => .bl b
  | .int _, _, _, .int i => .int i
  | .str _, _, _, .str x => .str x
  | .list ds, _, n, .lst h a => by simp [noL] at n
  | .tuple ds, _, n, .tup h a => .tup (keep_t e hd h) (dp_keepAll e hd ds _ (by simpa [noL] using n) a)
theorem dp_keepAll {K : PySem.W.Frag} {H H' : Hp} {d : Addr} (e : Keep d H H') (hd : NotT (H d)) : ∀ (xs : List PyData) (vs : List V), noLs xs = true → DpAll K H vs xs → DpAll K H' vs xs
  | [], _, _, .nil => .nil
  | x :: xs, _, n, .cons a b => by
    have n' : noL x = true ∧ noLs xs = true := by simpa [noLs] using n
    exact .cons (dp_keep e hd x _ n'.1 a) (dp_keepAll e hd xs _ n'.2 b)
end
theorem noLs_of {ds : List PyData} (h : ∀ d ∈ ds, noL d = true) : noLs ds = true := by
  induction ds with
  | nil => rfl
  | cons d r ih => simp [noLs, h d (by simp), ih fun e he => h e (by simp [he])]
theorem notT_l {H : Hp} {d : Addr} {xs : List V} (h : H d = some (.lst xs)) : NotT (H d) := by rw [h]; trivial
theorem notT_n {H : Hp} {d : Addr} (h : H d = none) : NotT (H d) := by rw [h]; trivial
theorem notT_i {H : Hp} {d C dx : Addr} {fs : List (Str × V)} (h : H d = some (.ins C dx fs)) : NotT (H d) := by rw [h]; trivial
/-- data that the layer's == speaks of, to a depth -/
def Sh (n : Nat) (d : PyData) : Prop := d.canLay0 = true ∧ d.depth ≤ n
theorem Sh.ok {n : Nat} {d : PyData} (h : Sh n d) (hn : n ≤ 64) : SeqAt.shaped d = true := by
  unfold SeqAt.shaped
  rw [h.1, Bool.true_and]
  exact decide_eq_true (Nat.le_trans h.2 hn)
theorem Sh.mono {n m : Nat} {d : PyData} (h : Sh n d) (hn : n ≤ m) : Sh m d := ⟨h.1, Nat.le_trans h.2 hn⟩
theorem sh_i (i : Int) : Sh 0 (.int i) := ⟨by simp [PyData.canLay0], by simp [PyData.depth]⟩
theorem sh_s {i : Str} (h : PyData.strOk i = true) : Sh 0 (.str i) := ⟨by simp [PyData.canLay0, h], by simp [PyData.depth]⟩
theorem sh_b (i : Bool) : Sh 0 (.bool i) := ⟨by simp [PyData.canLay0], by simp [PyData.depth]⟩
theorem sh_n : Sh 0 .none := ⟨by simp [PyData.canLay0], by simp [PyData.depth]⟩
theorem lay_all {ds : List PyData} (h : ∀ d ∈ ds, d.canLay0 = true) : PyData.canLayAll0 ds = true := by
  induction ds with
  | nil => simp [PyData.canLayAll0]
  | cons d r ih => simp [PyData.canLayAll0, h d (by simp), ih fun e he => h e (by simp [he])]
theorem depth_all {ds : List PyData} {n : Nat} (h : ∀ d ∈ ds, d.depth ≤ n) : PyData.depthAll ds ≤ n := by
  induction ds with
  | nil => simp [PyData.depthAll]
  | cons d r ih =>
    have h1 := h d (by simp)
    have h2 := ih fun e he => h e (by simp [he])
    simp only [PyData.depthAll]
    omega
theorem sh_l {n : Nat} {ds : List PyData} (h : ∀ d ∈ ds, Sh n d) : Sh (n + 1) (.list ds) := by
  refine ⟨by simp only [PyData.canLay0]; exact lay_all fun d hd => (h d hd).1, ?_⟩
  have := depth_all fun d hd => (h d hd).2
  simp only [PyData.depth]
  omega
theorem sh_t {n : Nat} {ds : List PyData} (h : ∀ d ∈ ds, Sh n d) : Sh (n + 1) (.tuple ds) := by
  refine ⟨by simp only [PyData.canLay0]; exact lay_all fun d hd => (h d hd).1, ?_⟩
  have := depth_all fun d hd => (h d hd).2
  simp only [PyData.depth]
  omega
theorem sh_ints (ns : List Int) : Sh 1 (pInts ns) := sh_l fun d hd => by
  obtain ⟨i, _, rfl⟩ := List.mem_map.mp hd
  exact sh_i i
theorem eqv_refl {n : Nat} {d : PyData} (h : Sh n d) : PyData.eqv d d = true := SeqAt.eqv_refl d h.1
theorem eqv_nil (ds : List PyData) : PyData.eqv (.list ds) (.list []) = ds.isEmpty := by
  cases ds <;> simp [PyData.eqv, PyData.eqvAll]
theorem eqv_nilT (ds : List PyData) : PyData.eqv (.tuple ds) (.tuple []) = ds.isEmpty := by
  cases ds <;> simp [PyData.eqv, PyData.eqvAll]
/-! ### operators -/
section
variable {X : Cx} {K : PySem.W.Frag} {H H' : Hp} {Q : VK} {σ : L2.St} {D : Ends}
def uAdd (K : PySem.W.Frag) : R2 := fun x y H Q => rI0 (fun i j => .int (i + j)) x y H Q ∨ (∃ i j, x = .str i ∧ y = .str j ∧ i.length + j.length ≤ sizeLine ∧ Q (.str (i ++ j)) H) ∨ rCat x y H Q ∨ rCatA K x y H Q
theorem op_addU : OpR X (binaryOp .Add) (uAdd X.K) := op_add.or (op_add_str.or (op_cat.or op_catA))
theorem g_add_i {i j : Int} (h : Q (.int (i + j)) H) : uAdd K (.int i) (.int j) H Q := .inl ⟨i, j, rfl, rfl, h⟩
theorem g_add_s {i j : Str} (hz : i.length + j.length ≤ sizeLine) (h : Q (.str (i ++ j)) H) : uAdd K (.str i) (.str j) H Q := .inr (.inl ⟨i, j, rfl, rfl, hz, h⟩)
theorem g_add_l {a b : Addr} {xs ys : List V} (h1 : H a = some (.lst xs)) (h2 : H b = some (.lst ys)) (hz : xs.length + ys.length ≤ sizeLine)
    (h : ∀ p H', H p = none → Same H H' → H' p = some (.lst (xs ++ ys)) → Q (.ref p) H') : uAdd K (.ref a) (.ref b) H Q :=
  .inr (.inr (.inl ⟨a, b, xs, ys, rfl, rfl, h1, h2, hz, fun p hp => h p _ hp (same_new hp) upd_same⟩))
theorem g_sub {i j : Int} (h : Q (.int (i - j)) H) : rI0 (fun i j => .int (i - j)) (.int i) (.int j) H Q := ⟨i, j, rfl, rfl, h⟩
theorem g_neg {i : Int} (h : Q (.int (-i)) H) : rU (fun i => .int (-i)) (.int i) H Q := ⟨i, rfl, h⟩
theorem g_mul {i j : Int} (hc : CMul i j) (h : Q (.int (i * j)) H) : rI CMul (fun i j => .int (i * j)) (.int i) (.int j) H Q := ⟨i, j, rfl, rfl, hc, h⟩
theorem g_fdiv {i j : Int} (h1 : 0 < j) (h2 : j < 1073741824) (h : Q (.int (i / j)) H) : rI CDiv (fun i j => .int (i / j)) (.int i) (.int j) H Q := ⟨i, j, rfl, rfl, ⟨h1, h2⟩, h⟩
theorem g_mod {i j : Int} (h1 : 0 < j) (h : Q (.int (i % j)) H) : rI (fun _ j => 0 < j) (fun i j => .int (i % j)) (.int i) (.int j) H Q := ⟨i, j, rfl, rfl, h1, h⟩
theorem g_pow {i j : Int} (hc : CPow i j) (h : Q (.int (i ^ j.toNat)) H) : rI CPow (fun i j => .int (i ^ j.toNat)) (.int i) (.int j) H Q := ⟨i, j, rfl, rfl, hc, h⟩
theorem g_lt {i j : Int} (h : Q (.bl (decide (i < j))) H) : rI0 (fun i j => .bl (decide (i < j))) (.int i) (.int j) H Q := ⟨i, j, rfl, rfl, h⟩
theorem g_le {i j : Int} (h : Q (.bl (decide (i ≤ j))) H) : rI0 (fun i j => .bl (decide (i ≤ j))) (.int i) (.int j) H Q := ⟨i, j, rfl, rfl, h⟩
theorem g_gt {i j : Int} (h : Q (.bl (decide (j < i))) H) : rI0 (fun i j => .bl (decide (j < i))) (.int i) (.int j) H Q := ⟨i, j, rfl, rfl, h⟩
theorem g_ge {i j : Int} (h : Q (.bl (decide (j ≤ i))) H) : rI0 (fun i j => .bl (decide (j ≤ i))) (.int i) (.int j) H Q := ⟨i, j, rfl, rfl, h⟩
def uEq (K : PySem.W.Frag) : R2 := fun x y H Q => rEq x y H Q ∨ rEqD K x y H Q
def uNe (K : PySem.W.Frag) : R2 := fun x y H Q => rNe x y H Q ∨ rNeD K x y H Q
theorem op_eqU {k : Nat} (hr : Room k X.A) : OpR X (compareOp .Eq) (uEq X.K) := op_eq.or (op_eqD hr.units)
theorem op_neU {k : Nat} (hr : Room k X.A) : OpR X (compareOp .NotEq) (uNe X.K) := op_ne.or (op_neD hr.units)
theorem dec_i {i j : Int} : decide (V.int i = V.int j) = decide (i = j) := by
  by_cases e : i = j
  · subst e; simp
  · rw [decide_eq_false e, decide_eq_false fun q => e (V.int.inj q)]
theorem dec_s {i j : Str} : decide (V.str i = V.str j) = decide (i = j) := by
  by_cases e : i = j
  · subst e; simp
  · rw [decide_eq_false e, decide_eq_false fun q => e (V.str.inj q)]
theorem dec_b {i j : Bool} : decide (V.bl i = V.bl j) = decide (i = j) := by
  by_cases e : i = j
  · subst e; simp
  · rw [decide_eq_false e, decide_eq_false fun q => e (V.bl.inj q)]
theorem g_eq_i {i j : Int} (h : Q (.bl (decide (i = j))) H) : uEq K (.int i) (.int j) H Q := .inl ⟨rfl, by rw [dec_i]; exact h⟩
theorem g_eq_s {i j : Str} (h : Q (.bl (decide (i = j))) H) : uEq K (.str i) (.str j) H Q := .inl ⟨rfl, by rw [dec_s]; exact h⟩
theorem g_eq_b {i j : Bool} (h : Q (.bl (decide (i = j))) H) : uEq K (.bl i) (.bl j) H Q := .inl ⟨rfl, by rw [dec_b]; exact h⟩
theorem g_ne_i {i j : Int} (h : Q (.bl (!decide (i = j))) H) : uNe K (.int i) (.int j) H Q := .inl ⟨rfl, by rw [dec_i]; exact h⟩
theorem g_ne_s {i j : Str} (h : Q (.bl (!decide (i = j))) H) : uNe K (.str i) (.str j) H Q := .inl ⟨rfl, by rw [dec_s]; exact h⟩
theorem g_ne_b {i j : Bool} (h : Q (.bl (!decide (i = j))) H) : uNe K (.bl i) (.bl j) H Q := .inl ⟨rfl, by rw [dec_b]; exact h⟩
theorem g_eq_d {x y : V} (d e : PyData) (h1 : Dp K H x d) (h2 : Dp K H y e) (s1 : SeqAt.shaped d = true) (s2 : SeqAt.shaped e = true) (h : Q (.bl (PyData.eqv d e)) H) : uEq K x y H Q := .inr ⟨d, e, h1, h2, s1, s2, h⟩
theorem g_ne_d {x y : V} (d e : PyData) (h1 : Dp K H x d) (h2 : Dp K H y e) (s1 : SeqAt.shaped d = true) (s2 : SeqAt.shaped e = true) (h : Q (.bl (!PyData.eqv d e)) H) : uNe K x y H Q := .inr ⟨d, e, h1, h2, s1, s2, h⟩
theorem g_isN {x : V} (h : Q (.bl (decide (x = .non))) H) : rIsN x .non H Q := ⟨rfl, h⟩
theorem g_notN {x : V} (h : Q (.bl (!decide (x = .non))) H) : rNotN x .non H Q := ⟨rfl, h⟩
/-- in -/
def uIn (K : PySem.W.Frag) : R2 := fun x y H Q => rIn K false x y H Q ∨ (∃ (c : Nat) (z : Str), x = .str ⟨#[c]⟩ ∧ y = .str z ∧ Q (.bl (decide (c ∈ z.cps.toList))) H) ∨ rInD K x y H Q
def uNotIn (K : PySem.W.Frag) : R2 := fun x y H Q => rIn K true x y H Q ∨ (∃ (c : Nat) (z : Str), x = .str ⟨#[c]⟩ ∧ y = .str z ∧ Q (.bl (!decide (c ∈ z.cps.toList))) H) ∨ rNotInD K x y H Q
theorem units65 {k : Nat} {A : Around} (hr : Room k A) : A.units + 65 < cLine := by have := hr.un; omega
theorem op_inU {k : Nat} (hr : Room k X.A) : OpR X (compareOp .In) (uIn X.K) := op_in_seq.or (op_in_sign.or (op_inD (units65 hr)))
theorem op_notInU {k : Nat} (hr : Room k X.A) : OpR X (compareOp .NotIn) (uNotIn X.K) := op_notIn_seq.or (op_notIn_sign.or (op_notInD (units65 hr)))
theorem g_in_sign {c : Nat} {z : Str} (h : Q (.bl (decide (c ∈ z.cps.toList))) H) : uIn K (.str ⟨#[c]⟩) (.str z) H Q := .inr (.inl ⟨c, z, rfl, rfl, h⟩)
theorem g_in_seq {x : V} {p : Addr} {xs : List V} (h1 : SqL K H p xs ∨ SqT K H p xs) (h2 : flatV x = true) (h3 : xs.all flatV = true) (h : Q (.bl (inV x xs)) H) : uIn K x (.ref p) H Q := .inl ⟨p, xs, rfl, h1, h2, h3, h⟩
theorem g_notIn_seq {x : V} {p : Addr} {xs : List V} (h1 : SqL K H p xs ∨ SqT K H p xs) (h2 : flatV x = true) (h3 : xs.all flatV = true) (h : Q (.bl (!inV x xs)) H) : uNotIn K x (.ref p) H Q := .inl ⟨p, xs, rfl, h1, h2, h3, h⟩
/-- x[i] -/
theorem g_ix_l {p : Addr} {xs : List V} {i : Int} {v : V} (h1 : SqL K H p xs) (h2 : atI xs i = some v) (h : Q v H) : rIx K (.ref p) (.int i) H Q := .inl ⟨p, xs, i, v, rfl, rfl, h1, h2, h⟩
theorem g_ix_t {p : Addr} {xs : List V} {i : Int} {v : V} (h1 : SqT K H p xs) (h2 : atI xs i = some v) (h : Q v H) : rIx K (.ref p) (.int i) H Q := .inr (.inl ⟨p, xs, i, v, rfl, rfl, h1, h2, h⟩)
theorem g_ix_s {z : Str} {i : Int} {c : Nat} (h1 : z.length ≤ sizeLine) (h2 : atI z.cps.toList i = some c) (h : Q (.str ⟨#[c]⟩) H) : rIx K (.str z) (.int i) H Q := .inr (.inr ⟨z, i, c, rfl, rfl, h1, h2, h⟩)
/-- len -/
def uLen (K : PySem.W.Frag) : List V → Hp → VK → Prop := fun xs H Q => (∃ z, xs = [.str z] ∧ z.length ≤ sizeLine ∧ Q (.int z.length) H) ∨ ∃ p ys, xs = [.ref p] ∧ (SqL K H p ys ∨ SqT K H p ys) ∧ Q (.int ys.length) H
theorem call_lenU : CallR X (.builtin "len") (uLen X.K) := call_len_str.or call_len_seq
theorem g_len_s {z : Str} (hz : z.length ≤ sizeLine) (h : Q (.int z.length) H) : uLen K [.str z] H Q := .inl ⟨z, rfl, hz, h⟩
theorem g_len_l {p : Addr} {ys : List V} (h1 : SqL K H p ys) (h : Q (.int ys.length) H) : uLen K [.ref p] H Q := .inr ⟨p, ys, rfl, .inl h1, h⟩
theorem g_len_t {p : Addr} {ys : List V} (h1 : SqT K H p ys) (h : Q (.int ys.length) H) : uLen K [.ref p] H Q := .inr ⟨p, ys, rfl, .inr h1, h⟩

/-! ### steps -/
variable {ta tb te : TE} {tA tB' : TT} {i : Nat} {v : V} {t u : TS} {ts : TA}
theorem g_var (e : σ[i]? = some (some v)) (h : Q v H) : tVar i σ H Q := ⟨v, e, h⟩
theorem g_c (h : Q v H) : tC v σ H Q := h
theorem g_op {r : R2} (h : ta σ H fun x H1 => tb σ H1 fun y H2 => r x y H2 Q) : tOp r ta tb σ H Q := h
theorem g_un {r : V → Hp → VK → Prop} (h : ta σ H fun x H1 => r x H1 Q) : tUn r ta σ H Q := h
def Bl (Q : Bool → Hp → Prop) : VK := fun x H => ∃ k, x = .bl k ∧ Q k H
theorem g_bl {b : Bool} {Q : Bool → Hp → Prop} (h : Q b H) : Bl Q (.bl b) H := ⟨b, rfl, h⟩
theorem g_test {Q : Bool → Hp → Prop} (h : te σ H (Bl Q)) : tTest te σ H Q := h
theorem g_tB {Q : Bool → Hp → Prop} (h : te σ H (Bl Q)) : tB te σ H Q := h
def Ch (r' : R2) (tc : TE) (y : V) (σ : L2.St) (Q : VK) : VK := fun z H3 => ∃ k, z = .bl k ∧ (if k = true then tc σ H3 fun w' H4 => r' y w' H4 Q else Q (.bl false) H3)
theorem g_chain {r r' : R2} {tc : TE} (h : ta σ H fun x H1 => tb σ H1 fun y H2 => r x y H2 (Ch r' tc y σ Q)) : tChain r r' ta tb tc σ H Q := h
theorem g_ch {r' : R2} {tc : TE} {y : V} {b : Bool} (h1 : b = true → tc σ H fun w' H4 => r' y w' H4 Q) (h2 : b = false → Q (.bl false) H) : Ch r' tc y σ Q (.bl b) H := ⟨b, rfl, by
  cases b with
  | true => exact iteT (h1 rfl)
  | false => exact iteF (h2 rfl)⟩
theorem g_and {Q : Bool → Hp → Prop} (h : tA σ H fun c H1 => if c = true then tB' σ H1 Q else Q false H1) : tAnd tA tB' σ H Q := h
theorem g_or {Q : Bool → Hp → Prop} (h : tA σ H fun c H1 => if c = true then Q true H1 else tB' σ H1 Q) : tOr tA tB' σ H Q := h
theorem g_not {Q : Bool → Hp → Prop} (h : tA σ H fun c H1 => Q (!c) H1) : tNot tA σ H Q := h
theorem g_andV (h : ta σ H (Bl fun c H1 => if c = true then tb σ H1 Q else Q (.bl false) H1)) : tAndV ta tb σ H Q := h
theorem g_orV (h : ta σ H (Bl fun c H1 => if c = true then Q (.bl true) H1 else tb σ H1 Q)) : tOrV ta tb σ H Q := h
theorem g_notV (h : ta σ H (Bl fun c H1 => Q (.bl (!c)) H1)) : tNotV ta σ H Q := h
theorem g_if (h : tA σ H fun c H1 => if c = true then ta σ H1 Q else tb σ H1 Q) : tIf tA ta tb σ H Q := h
theorem g_nil {Q : List V → Hp → Prop} (h : Q [] H) : tNil σ H Q := h
theorem g_cons {Q : List V → Hp → Prop} (h : te σ H fun x H1 => ts σ H1 fun xs H2 => Q (x :: xs) H2) : tCons te ts σ H Q := h
theorem g_cb {r : List V → Hp → VK → Prop} (h : ts σ H fun vs H1 => r vs H1 Q) : tCB r ts σ H Q := h
theorem g_callR {sp : Sp} {E : XK} (h : ts σ H fun vs H1 => sp vs H1 Q E) : tCallR sp E ts σ H Q := h
def NewT (xs : List V) (H : Hp) (Q : VK) : Prop := xs.length ≤ sizeLine ∧ ∀ p, H p = none → Q (.ref p) (upd H p (.tup xs))
def NewL (xs : List V) (H : Hp) (Q : VK) : Prop := xs.length ≤ sizeLine ∧ ∀ p, H p = none → Q (.ref p) (upd H p (.lst xs))
theorem g_tup (h : ts σ H fun xs H1 => NewT xs H1 Q) : tTup ts σ H Q := h
theorem g_lst (h : ts σ H fun xs H1 => NewL xs H1 Q) : tLst ts σ H Q := h
theorem n_tup {xs : List V} (hz : xs.length ≤ sizeLine) (h : ∀ p H', H p = none → Same H H' → H' p = some (.tup xs) → Q (.ref p) H') : NewT xs H Q := ⟨hz, fun p hp => h p _ hp (same_new hp) upd_same⟩
theorem n_lst {xs : List V} (hz : xs.length ≤ sizeLine) (h : ∀ p H', H p = none → Same H H' → H' p = some (.lst xs) → Q (.ref p) H') : NewL xs H Q := ⟨hz, fun p hp => h p _ hp (same_new hp) upd_same⟩
theorem g_seq (h : t { D with nx := u D } σ H) : tSeq t u D σ H := h
theorem g_next (h : D.nx σ H) : tNext D σ H := h
theorem g_asg {g : TG} (h : te σ H fun x H1 => g x σ H1 D.nx) : tAsg te g D σ H := h
theorem g_name {Q : L2.St → Hp → Prop} {σ' : L2.St} (e : σ.set i (some v) = σ') (h : Q σ' H) : gName i v σ H Q := by subst e; exact h
theorem g_ret (h : te σ H D.rt) : tRet te D σ H := h
theorem g_drop (h : te σ H fun _ H1 => D.nx σ H1) : tDrop te D σ H := h
theorem g_ifS (h : tA σ H fun b H1 => if b = true then t D σ H1 else u D σ H1) : tIfS tA t u D σ H := h
theorem if_T {c : Bool} {A B : Prop} (e : c = true) (h : A) : if c = true then A else B := by rw [if_pos e]; exact h
theorem if_F {c : Bool} {A B : Prop} (e : c = false) (h : B) : if c = true then A else B := by rw [if_neg (by rw [e]; decide)]; exact h
theorem if_C {c : Bool} {A B : Prop} (h1 : c = true → A) (h2 : c = false → B) : if c = true then A else B := by
  cases c with
  | true => exact iteT (h1 rfl)
  | false => exact iteF (h2 rfl)
theorem if_D {p : Prop} [Decidable p] {A B : Prop} (h1 : p → A) (h2 : ¬ p → B) : if decide p = true then A else B := by
  by_cases c : p
  · rw [if_pos (decide_eq_true c)]; exact h1 c
  · rw [if_neg (by rw [decide_eq_false c]; decide)]; exact h2 c
theorem if_ND {p : Prop} [Decidable p] {A B : Prop} (h1 : ¬ p → A) (h2 : p → B) : if (!decide p) = true then A else B := by
  by_cases c : p
  · rw [if_neg (by rw [decide_eq_true c]; decide)]; exact h2 c
  · rw [if_pos (by rw [decide_eq_false c]; decide)]; exact h1 c

/-! lists changed, asked -/
theorem atI_c0 {α : Type} {a : α} {l : List α} : atI (a :: l) 0 = some a := atI_nat (j := 0) rfl
theorem atI_c1 {α : Type} {a b : α} {l : List α} : atI (a :: b :: l) 1 = some b := atI_nat (j := 1) rfl
theorem atI_c2 {α : Type} {a b c : α} {l : List α} : atI (a :: b :: c :: l) 2 = some c := atI_nat (j := 2) rfl
theorem atI_c3 {α : Type} {a b c d : α} {l : List α} : atI (a :: b :: c :: d :: l) 3 = some d := atI_nat (j := 3) rfl
theorem atI_c4 {α : Type} {a b c d e : α} {l : List α} : atI (a :: b :: c :: d :: e :: l) 4 = some e := atI_nat (j := 4) rfl
theorem atI_c5 {α : Type} {a b c d e f : α} {l : List α} : atI (a :: b :: c :: d :: e :: f :: l) 5 = some f := atI_nat (j := 5) rfl
theorem atI_i {α : Type} {l : List α} {i : Int} {x : α} (h0 : 0 ≤ i) (h : l[i.toNat]? = some x) : atI l i = some x := by
  have := atI_nat h
  rwa [Int.toNat_of_nonneg h0] at this
theorem ixN_i {n : Nat} {i : Int} (h0 : 0 ≤ i) (h : i < n) : ixN n i = some i.toNat := by unfold ixN; rw [if_pos h0, if_pos h]
theorem seqIx_i {n : Nat} {i : Int} (h0 : 0 ≤ i) (h : i < n) : seqIndex? i n = some i.toNat := (ixN_seq (ixN_i h0 h)).1
def Ty (K : PySem.W.Frag) (T : String) (x : V) (H : Hp) (P : Prop) : Prop := tyV K T x H ∧ P
theorem g_bm {T : String} {r : V → List V → Hp → VK → Prop} {to : TE} (h : to σ H fun x H1 => Ty K T x H1 (ts σ H1 fun xs H2 => r x xs H2 Q)) : tBM K T r to ts σ H Q := h
theorem g_bm0 {T : String} {r : V → List V → Hp → VK → Prop} {to : TE} (h : to σ H fun x H1 => Ty K T x H1 (r x [] H1 Q)) : tBM0 K T r to σ H Q := h
theorem g_tyL {p : Addr} {xs : List V} {P : Prop} (h1 : SqL K H p xs) (h : P) : Ty K "list" (.ref p) H P := ⟨.inl ⟨rfl, _, h1⟩, h⟩
def TyS (x : V) (P : Prop) : Prop := (∃ a, x = .str a) ∧ P
theorem g_m1 {r : V → List V → Hp → VK → Prop} {to : TE} (h : to σ H fun x H1 => TyS x (te σ H1 fun y H2 => r x [y] H2 Q)) : tM1 r to te σ H Q := h
theorem g_m0 {r : V → List V → Hp → VK → Prop} {to : TE} (h : to σ H fun x H1 => TyS x (r x [] H1 Q)) : tM0 r to σ H Q := h
theorem g_tyS {z : Str} {P : Prop} (h : P) : TyS (.str z) P := ⟨⟨z, rfl⟩, h⟩
theorem g_append {l : Addr} {xs : List V} {y : V} (h1 : H l = some (.lst xs)) (hz : xs.length < sizeLine) (h : ∀ H', Keep l H H' → H' l = some (.lst (xs ++ [y])) → Q .non H') : rAppend (.ref l) [y] H Q := ⟨l, xs, y, rfl, rfl, h1, hz, h _ keep_upd upd_same⟩
theorem g_extend {l b : Addr} {xs zs : List V} (h1 : H l = some (.lst xs)) (h2 : H b = some (.lst zs)) (hz : xs.length + zs.length ≤ sizeLine) (h : ∀ H', Keep l H H' → H' l = some (.lst (xs ++ zs)) → Q .non H') : rExtend (.ref l) [.ref b] H Q := ⟨l, b, xs, zs, rfl, rfl, h1, h2, hz, h _ keep_upd upd_same⟩
theorem g_popAt {l : Addr} {xs : List V} {i : Int} {y : V} (h1 : H l = some (.lst xs)) (h0 : 0 ≤ i) (hi : xs[i.toNat]? = some y) (hz : xs.length ≤ sizeLine) (h : ∀ H', Keep l H H' → H' l = some (.lst (xs.eraseIdx i.toNat)) → Q y H') : rPopAt (.ref l) [.int i] H Q := by
  have hl : i.toNat < xs.length := (List.getElem?_eq_some_iff.mp hi).1
  have hs : (sizeLine : Nat) < 2 ^ 63 := line63
  exact ⟨l, xs, i, i.toNat, y, rfl, rfl, h1, by omega, by omega, seqIx_i h0 (by omega), hi, h _ keep_upd upd_same⟩
theorem g_pop {l : Addr} {xs : List V} {y : V} (h1 : H l = some (.lst xs)) (hi : xs[xs.length - 1]? = some y) (h : ∀ H', Keep l H H' → H' l = some (.lst xs.dropLast) → Q y H') : rPop (.ref l) [] H Q := ⟨l, xs, y, rfl, rfl, h1, hi, h _ keep_upd upd_same⟩
theorem g_gsub {Q : L2.St → Hp → Prop} {to ti : TE} {rs : TSet} (h : to σ H fun o H1 => ti σ H1 fun i H2 => rs o i v H2 fun H3 => Q σ H3) : gSub to ti rs v σ H Q := h
theorem g_setL {p : Addr} {xs : List V} {k : Int} {j : Nat} {Q : Hp → Prop} (h1 : H p = some (.lst xs)) (hj : ixN xs.length k = some j) (h : ∀ H', Keep p H H' → H' p = some (.lst (xs.set j v)) → Q H') : rSetL (.ref p) (.int k) v H Q := ⟨p, xs, k, j, rfl, rfl, h1, hj, h _ keep_upd upd_same⟩
/-! slices -/
theorem g_sl {r : V → Option Int → Option Int → Hp → VK → Prop} {tl th : TO} (h : te σ H fun x H1 => tl σ H1 fun l H2 => th σ H2 fun u H3 => r x l u H3 Q) : tSl r te tl th σ H Q := h
theorem g_noPart {Q : Option Int → Hp → Prop} (h : Q none H) : tNoPart σ H Q := h
def PartI (Q : Option Int → Hp → Prop) : VK := fun x H => ∃ i, x = .int i ∧ Q (some i) H
theorem g_part {Q : Option Int → Hp → Prop} (h : te σ H (PartI Q)) : tPart te σ H Q := h
theorem g_partI {i : Int} {Q : Option Int → Hp → Prop} (h : Q (some i) H) : PartI Q (.int i) H := ⟨i, rfl, h⟩
theorem g_slL {a : Addr} {xs : List V} {lo hi : Option Int} (h1 : SqL K H a xs) (h : ∀ p H', H p = none → Same H H' → H' p = some (.lst (cutV xs lo hi)) → Q (.ref p) H') : rSlL K (.ref a) lo hi H Q := ⟨a, xs, rfl, h1, fun p hp => h p _ hp (same_new hp) upd_same⟩
theorem cutV_all (xs : List V) : cutV xs none none = xs := by unfold cutV; rw [HT.sIx_none, HT.sIx_none]; simp
theorem cutV_to (xs : List V) (k : Nat) : cutV xs none (some (k : Int)) = xs.take k := by
  unfold cutV
  rw [HT.sIx_none, HT.sIx_nat, Nat.sub_zero, List.drop_zero]
  rcases Nat.le_total k xs.length with le | ge
  · congr 1
    exact Nat.min_eq_left le
  · rw [Nat.min_eq_right ge, List.take_length, List.take_of_length_le ge]
theorem cutV_from (xs : List V) (k : Nat) : cutV xs (some (k : Int)) none = xs.drop k := by
  unfold cutV
  rw [HT.sIx_none, HT.sIx_nat]
  rcases Nat.le_total k xs.length with le | ge
  · have z := Nat.min_eq_left le
    rw [z, ← List.length_drop, List.take_length]
  · rw [Nat.min_eq_right ge, List.drop_length, List.drop_of_length_le ge, List.take_nil]
theorem g_slT {a : Addr} {xs : List V} {lo hi : Option Int} (h1 : SqT K H a xs) (h : ∀ p H', Same H H' → SqT K H' p (cutV xs lo hi) → Q (.ref p) H') : rSlA K (.ref a) lo hi H Q := by
  refine ⟨a, xs, rfl, h1, fun hw => ?_, fun hw p hp => h p _ (same_new hp) (SqT.of upd_same)⟩
  refine h a H (Same.refl H) ?_
  have e : cutV xs lo hi = xs := by
    unfold cutV; rw [hw.1, hw.2]; simp
  rw [e]; exact h1
/-! loops -/
/-- the turns of a for over J -/
def LoopJ (J : It) (g : TG) (tb : TS) (D : Ends) (σ : L2.St) (H : Hp) : Prop := tFor (fun _ H1 R => R J H1) g tb D σ H
variable {g : TG} {tbs : TS}
def ItL (K : PySem.W.Frag) (g : TG) (tb : TS) (D : Ends) (σ : L2.St) : VK := fun x H1 => ∃ a, x = .ref a ∧ (∃ xs, SqL K H1 a xs) ∧ LoopJ (Itl K a) g tb D σ H1
theorem g_forL (h : te σ H (ItL K g tbs D σ)) : tFor (iList K te) g tbs D σ H := h
theorem n_forL {a : Addr} {xs : List V} (h1 : SqL K H a xs) (Pv : Nat → L2.St → Hp → Prop) (h0 : Pv 0 σ H) (hl : ∀ i σ H, Pv i σ H → SqL K H a xs)
    (hs : ∀ i x σ H, xs[i]? = some x → Pv i σ H → g x σ H fun σ2 H2 => tbs { D with nx := Pv (i + 1), ct := Pv (i + 1), bk := D.nx } σ2 H2) (hd : ∀ σ H, Pv xs.length σ H → D.nx σ H) : ItL K g tbs D σ (.ref a) H :=
  ⟨a, rfl, ⟨xs, h1⟩, for_list Pv h0 (fun i σ H _ p => hl i σ H p) hs hd⟩
def ItT (K : PySem.W.Frag) (g : TG) (tb : TS) (D : Ends) (σ : L2.St) : VK := fun x H1 => ∃ a, x = .ref a ∧ (∃ xs, SqT K H1 a xs) ∧ LoopJ (Itt K a) g tb D σ H1
theorem g_forT (h : te σ H (ItT K g tbs D σ)) : tFor (iTup K te) g tbs D σ H := h
theorem n_forT {a : Addr} {xs : List V} (h1 : SqT K H a xs) (Pv : Nat → L2.St → Hp → Prop) (h0 : Pv 0 σ H) (hl : ∀ i σ H, Pv i σ H → SqT K H a xs)
    (hs : ∀ i x σ H, xs[i]? = some x → Pv i σ H → g x σ H fun σ2 H2 => tbs { D with nx := Pv (i + 1), ct := Pv (i + 1), bk := D.nx } σ2 H2) (hd : ∀ σ H, Pv xs.length σ H → D.nx σ H) : ItT K g tbs D σ (.ref a) H :=
  ⟨a, rfl, ⟨xs, h1⟩, for_tup Pv h0 (fun i σ H _ p => hl i σ H p) hs hd⟩
def ItS (g : TG) (tb : TS) (D : Ends) (σ : L2.St) : VK := fun x H1 => ∃ z, x = .str z ∧ LoopJ (Its z) g tb D σ H1
theorem g_forS (h : te σ H (ItS g tbs D σ)) : tFor (iStr te) g tbs D σ H := h
theorem n_forS {z : Str} (Pv : Nat → L2.St → Hp → Prop) (h0 : Pv 0 σ H)
    (hs : ∀ i c σ H, z.cps[i]? = some c → Pv i σ H → g (.str ⟨#[c]⟩) σ H fun σ2 H2 => tbs { D with nx := Pv (i + 1), ct := Pv (i + 1), bk := D.nx } σ2 H2) (hd : ∀ σ H, Pv z.cps.size σ H → D.nx σ H) : ItS g tbs D σ (.str z) H :=
  ⟨z, rfl, for_it (walk_str (z := z)) Pv h0 (fun _ _ _ _ _ => trivial) (fun i x σ H H' hi p ⟨e, c, hc, ex⟩ => by subst e ex; exact hs i c σ _ hc p) hd⟩
def ItR1 (g : TG) (tb : TS) (D : Ends) (σ : L2.St) (vs : List V) (H1 : Hp) : Prop := ∃ j, vs = [.int j] ∧ -(2 ^ 62) ≤ j ∧ j < 2 ^ 62 ∧ LoopJ (Itr 0 j.toNat) g tb D σ H1
theorem g_forR1 (h : ts σ H (ItR1 g tbs D σ)) : tFor (iRng1 ts) g tbs D σ H := h
theorem n_forR1 {j : Int} (hj : -(2 ^ 62) ≤ j) (hk : j < 2 ^ 62) (Pv : Nat → L2.St → Hp → Prop) (h0 : Pv 0 σ H)
    (hs : ∀ (i : Nat) σ H, i < j.toNat → Pv i σ H → g (.int i) σ H fun σ2 H2 => tbs { D with nx := Pv (i + 1), ct := Pv (i + 1), bk := D.nx } σ2 H2) (hd : ∀ σ H, Pv j.toNat σ H → D.nx σ H) : ItR1 g tbs D σ [.int j] H :=
  ⟨j, rfl, hj, hk, for_range Pv h0 (fun i σ H hi p => by rw [Int.zero_add]; exact hs i σ H hi p) hd⟩
def ItR2 (g : TG) (tb : TS) (D : Ends) (σ : L2.St) (vs : List V) (H1 : Hp) : Prop := ∃ lo hi, vs = [.int lo, .int hi] ∧ (-(2 ^ 62) ≤ lo ∧ lo < 2 ^ 62 ∧ -(2 ^ 62) ≤ hi ∧ hi < 2 ^ 62) ∧ LoopJ (Itr lo (hi - lo).toNat) g tb D σ H1
theorem g_forR2 (h : ts σ H (ItR2 g tbs D σ)) : tFor (iRng2 ts) g tbs D σ H := h
theorem n_forR2 {lo hi : Int} (h1 : -(2 ^ 62) ≤ lo) (h2 : lo < 2 ^ 62) (h3 : -(2 ^ 62) ≤ hi) (h4 : hi < 2 ^ 62) (Pv : Nat → L2.St → Hp → Prop) (h0 : Pv 0 σ H)
    (hs : ∀ (i : Nat) σ H, i < (hi - lo).toNat → Pv i σ H → g (.int (lo + i)) σ H fun σ2 H2 => tbs { D with nx := Pv (i + 1), ct := Pv (i + 1), bk := D.nx } σ2 H2) (hd : ∀ σ H, Pv (hi - lo).toNat σ H → D.nx σ H) : ItR2 g tbs D σ [.int lo, .int hi] H :=
  ⟨lo, hi, rfl, ⟨h1, h2, h3, h4⟩, for_range Pv h0 hs hd⟩
def ItET (K : PySem.W.Frag) (g : TG) (tb : TS) (D : Ends) (σ : L2.St) (vs : List V) (H1 : Hp) : Prop := ∃ a xs, vs = [.ref a] ∧ SqT K H1 a xs ∧ LoopJ (IteT K a xs.length) g tb D σ H1
theorem g_forET (h : ts σ H (ItET K g tbs D σ)) : tFor (iEnumT K ts) g tbs D σ H := h
theorem n_forET {a : Addr} {xs : List V} (h1 : SqT K H a xs) (Pv : Nat → L2.St → Hp → Prop) (h0 : Pv 0 σ H) (hl : ∀ i σ H, Pv i σ H → SqT K H a xs)
    (hs : ∀ (i : Nat) x T σ H H', xs[i]? = some x → Pv i σ H → H T = none → Same H H' → H' T = some (.tup [.int i, x]) → g (.ref T) σ H' fun σ2 H2 => tbs { D with nx := Pv (i + 1), ct := Pv (i + 1), bk := D.nx } σ2 H2) (hd : ∀ σ H, Pv xs.length σ H → D.nx σ H) : ItET K g tbs D σ [.ref a] H :=
  ⟨a, xs, rfl, h1, for_it (walk_enumT (K := K) (a := a) (xs := xs)) Pv h0 (fun i σ H _ p => hl i σ H p) (fun i x σ H H' hi p ⟨T, u, y, ex, hn, eH, e1, e2⟩ => by
    have eu := Option.some.inj e1
    subst ex eH eu
    exact hs i y T σ H _ e2 p hn (same_new hn) upd_same) hd⟩
/-- unpack a pair -/
theorem g_gtup {n : Nat} {t : TGs} {a : Addr} {xs : List V} {Q : L2.St → Hp → Prop} (h1 : SqT K H a xs) (h2 : xs.length = n) (h : t xs σ H Q) : gTup K n t (.ref a) σ H Q := ⟨a, xs, rfl, h1, h2, h⟩
theorem g_gcons {t : TG} {u : TGs} {x : V} {r : List V} {Q : L2.St → Hp → Prop} (h : t x σ H fun σ' H' => u r σ' H' Q) : gCons t u (x :: r) σ H Q := ⟨x, r, rfl, h⟩
theorem g_gnil {Q : L2.St → Hp → Prop} (h : Q σ H) : gNil [] σ H Q := ⟨rfl, h⟩
/-! comprehensions -/
/-- the turns of a list comprehension over J -/
def LcJ (J : It) (g : TG) (tt : TT) (te : TE) (vs : List Nat) (σ : L2.St) (Q : VK) (H : Hp) : Prop := tLc (fun _ H1 R => R J H1) g tt te vs σ H Q
/-- what a turn of a comprehension owes: the list so far stands at D -/
def LcEnd (D : Addr) (P : Hp → V → Prop) : VK := fun y H4 => ∃ acc, H4 D = some (.lst acc) ∧ acc.length < sizeLine ∧ P (upd H4 D (.lst (acc ++ [y]))) y
variable {tt : TT} {vs : List Nat} {ti : TE}
def LcL (K : PySem.W.Frag) (g : TG) (tt : TT) (te : TE) (vs : List Nat) (σ : L2.St) (Q : VK) : VK := fun x H1 => ∃ a, x = .ref a ∧ (∃ xs, SqL K H1 a xs) ∧ LcJ (Itl K a) g tt te vs σ Q H1
theorem g_lcL (h : ti σ H (LcL K g tt te vs σ Q)) : tLc (iList K ti) g tt te vs σ H Q := h
def LcT (K : PySem.W.Frag) (g : TG) (tt : TT) (te : TE) (vs : List Nat) (σ : L2.St) (Q : VK) : VK := fun x H1 => ∃ a, x = .ref a ∧ (∃ xs, SqT K H1 a xs) ∧ LcJ (Itt K a) g tt te vs σ Q H1
theorem g_lcT (h : ti σ H (LcT K g tt te vs σ Q)) : tLc (iTup K ti) g tt te vs σ H Q := h
def LcS (g : TG) (tt : TT) (te : TE) (vs : List Nat) (σ : L2.St) (Q : VK) : VK := fun x H1 => ∃ z, x = .str z ∧ LcJ (Its z) g tt te vs σ Q H1
theorem g_lcS (h : ti σ H (LcS g tt te vs σ Q)) : tLc (iStr ti) g tt te vs σ H Q := h
def LcR1 (g : TG) (tt : TT) (te : TE) (us : List Nat) (σ : L2.St) (Q : VK) (vs : List V) (H1 : Hp) : Prop := ∃ j, vs = [.int j] ∧ -(2 ^ 62) ≤ j ∧ j < 2 ^ 62 ∧ LcJ (Itr 0 j.toNat) g tt te us σ Q H1
theorem g_lcR1 (h : ts σ H (LcR1 g tt te vs σ Q)) : tLc (iRng1 ts) g tt te vs σ H Q := h

def NxP (P : Nat → List V → Hp → Prop) (C : Addr) (i : Nat) : Hp → Prop := fun H => ∃ acc, acc.length ≤ i ∧ H C = some (.lst acc) ∧ P i acc H
def LcK (C : Addr) (Nx : Hp → Prop) : VK := fun y H4 => ∃ acc, H4 C = some (.lst acc) ∧ acc.length < sizeLine ∧ Nx (upd H4 C (.lst (acc ++ [y])))
def LcIf (C : Addr) (te : TE) (σ2 : L2.St) (Nx : Hp → Prop) : Bool → Hp → Prop := fun b H3 => if b = true then te σ2 H3 (LcK C Nx) else Nx H3
theorem g_lcIfT {C : Addr} {Nx : Hp → Prop} (h : te σ H (LcK C Nx)) : LcIf C te σ Nx true H := iteT h
theorem g_lcIfF {C : Addr} {Nx : Hp → Prop} (h : Nx H) : LcIf C te σ Nx false H := iteF h
theorem g_yes {Q : Bool → Hp → Prop} (h : Q true H) : tYes σ H Q := h
theorem n_lcK {C : Addr} {P : Nat → List V → Hp → Prop} {i : Nat} {acc : List V} {y : V} (h1 : H C = some (.lst acc)) (hi : acc.length < i) (hn : i ≤ 1000000) (h : ∀ H', Keep C H H' → H' C = some (.lst (acc ++ [y])) → P i (acc ++ [y]) H') : LcK C (NxP P C i) y H :=
  ⟨acc, h1, Nat.lt_of_lt_of_le (Nat.lt_of_lt_of_le hi hn) (by decide), acc ++ [y], by rw [List.length_append]; exact hi, upd_same, h _ keep_upd upd_same⟩
theorem n_lcN {C : Addr} {P : Nat → List V → Hp → Prop} {i : Nat} {acc : List V} (h1 : H C = some (.lst acc)) (hi : acc.length ≤ i) (h : P i acc H) : NxP P C i H := ⟨acc, hi, h1, h⟩
/-- the comprehension's turns, one after another: at turn i the list at C is acc; P i acc H what else holds -/
theorem lc_run {J : It} {n : Nat} {G : Hp → Prop} {Y : Nat → Hp → V → Hp → Prop} (w : Walk J n G Y) (P : Nat → List V → Hp → Prop) {H1 : Hp}
    (h0 : ∀ C H', H1 C = none → Same H1 H' → H' C = some (.lst []) → P 0 [] H')
    (hG : ∀ i acc H C, H1 C = none → H C = some (.lst acc) → P i acc H → G H)
    (hs : ∀ C i acc x H H', H1 C = none → i < n → acc.length ≤ i → H C = some (.lst acc) → P i acc H → Y i H x H' → g x (wipe σ vs) H' fun σ2 H2 => wipe σ2 vs = wipe σ vs ∧ tt σ2 H2 (LcIf C te σ2 (NxP P C (i + 1))))
    (hd : ∀ C acc H, H1 C = none → H C = some (.lst acc) → P n acc H → Q (.ref C) H) : LcJ J g tt te vs σ Q H1 := by
  intro C hC
  refine ⟨fun i m H => m = n - i ∧ i ≤ n ∧ NxP P C i H, ⟨n, by simp, Nat.zero_le _, [], Nat.le_refl _, upd_same, h0 C _ hC (same_new hC) upd_same⟩, ?_⟩
  rintro i m H ⟨rfl, hi, acc, hl, hC', p⟩
  have q := hG i acc H C hC hC' p
  by_cases hlt : i < n
  · exact .inr ⟨w.goes i H hlt q, NxP P C (i + 1), fun H' q' => ⟨n - (i + 1), by omega, rfl, hlt, q'⟩, fun x H' y => hs C i acc x H H' hC hlt hl hC' p (w.yields i H x H' hlt q y)⟩
  · have e : i = n := by omega
    subst e
    exact .inl ⟨w.stops H q, hd C acc H hC hC' p⟩
theorem n_lcL {a : Addr} {xs : List V} (h1 : SqL K H a xs) (h : LcJ (Itl K a) g tt te vs σ Q H) : LcL K g tt te vs σ Q (.ref a) H := ⟨a, rfl, ⟨xs, h1⟩, h⟩
theorem n_lcT {a : Addr} {xs : List V} (h1 : SqT K H a xs) (h : LcJ (Itt K a) g tt te vs σ Q H) : LcT K g tt te vs σ Q (.ref a) H := ⟨a, rfl, ⟨xs, h1⟩, h⟩
theorem n_lcS {z : Str} (h : LcJ (Its z) g tt te vs σ Q H) : LcS g tt te vs σ Q (.str z) H := ⟨z, rfl, h⟩
theorem n_lcR1 {j : Int} (h1 : -(2 ^ 62) ≤ j) (h2 : j < 2 ^ 62) (h : LcJ (Itr 0 j.toNat) g tt te vs σ Q H) : LcR1 g tt te vs σ Q [.int j] H := ⟨j, rfl, h1, h2, h⟩
/-! fields -/
def Fl (K : PySem.W.Frag) (f : Str) (Q : VK) : VK := fun x H1 => ∃ a C dx fs v, x = .ref a ∧ H1 a = some (.ins C dx fs) ∧ Cls K C ∧ NoAttr K C f ∧ fs.lookup f = some v ∧ Q v H1
theorem g_fld {f : Str} (h : ta σ H (Fl K f Q)) : tFld K ta f σ H Q := h
theorem n_fld {a C dx : Addr} {fs : List (Str × V)} {f : Str} {v : V} (h1 : H a = some (.ins C dx fs)) (h2 : Cls K C) (h3 : NoAttr K C f) (h4 : fs.lookup f = some v) (h : Q v H) : Fl K f Q (.ref a) H := ⟨a, C, dx, fs, v, rfl, h1, h2, h3, h4, h⟩
def Pr (C : Addr) (sp : Sp) (Q : VK) : VK := fun x H1 => ∃ a dx fs, x = .ref a ∧ H1 a = some (.ins C dx fs) ∧ sp [.ref a] H1 Q E0
theorem g_prop {C : Addr} {sp : Sp} (h : ta σ H (Pr C sp Q)) : tPropR C sp ta σ H Q := h
theorem n_prop {a C dx : Addr} {fs : List (Str × V)} {sp : Sp} (h1 : H a = some (.ins C dx fs)) (h : sp [.ref a] H Q E0) : Pr C sp Q (.ref a) H := ⟨a, dx, fs, rfl, h1, h⟩
def Mt (C : Addr) (m : Str) (sp : Sp) (E : XK) (ts : TA) (σ : L2.St) (Q : VK) : VK := fun x H1 => ∃ a dx fs, x = .ref a ∧ H1 a = some (.ins C dx fs) ∧ fs.lookup m = none ∧ ts σ H1 fun vs H2 => sp (x :: vs) H2 Q E
theorem g_meth {C : Addr} {m : Str} {sp : Sp} {E : XK} (h : ta σ H (Mt C m sp E ts σ Q)) : tMethR C m sp E ta ts σ H Q := h
theorem n_meth {a C dx : Addr} {fs : List (Str × V)} {m : Str} {sp : Sp} {E : XK} (h1 : H a = some (.ins C dx fs)) (h2 : fs.lookup m = none) (h : ts σ H fun vs H2 => sp (.ref a :: vs) H2 Q E) : Mt C m sp E ts σ Q (.ref a) H := ⟨a, dx, fs, rfl, h1, h2, h⟩
def MkK (C : Addr) (sp : Sp) (E : XK) (Q : VK) (vs : List V) (H1 : Hp) : Prop := ∀ x dx, H1 x = none → H1 dx = none → dx ≠ x → sp (.ref x :: vs) (upd (upd H1 dx (.own x)) x (.ins C dx [])) (fun v H2 => v = .non ∧ Q (.ref x) H2) E
theorem g_make {C : Addr} {sp : Sp} {E : XK} (h : ts σ H (MkK C sp E Q)) : StX.tMakeR C sp E ts σ H Q := h
theorem n_make {C : Addr} {sp : Sp} {E : XK} {vs : List V} (h : ∀ x dx H', H x = none → H dx = none → dx ≠ x → Same H H' → H' x = some (.ins C dx []) → H' dx = some (.own x) → sp (.ref x :: vs) H' (fun v H2 => v = .non ∧ Q (.ref x) H2) E) : MkK C sp E Q vs H := fun x dx hx hd ne =>
  h x dx _ hx hd ne (fun b o e => by rw [upd_ne (ne_of_none e hx), upd_ne (ne_of_none e hd)]; exact e) upd_same (by rw [upd_ne ne, upd_same])
def St1 (K : PySem.W.Frag) (Q : List V → Hp → Prop) : VK := fun y H1 => ∃ a xs, y = V.ref a ∧ (SqT K H1 a xs ∨ SqL K H1 a xs) ∧ Q xs H1
theorem g_star1 {Q : List V → Hp → Prop} (h : te σ H (St1 K Q)) : tStar1 K te σ H Q := h
theorem n_star1 {a : Addr} {xs : List V} {Q : List V → Hp → Prop} (h1 : SqT K H a xs ∨ SqL K H a xs) (h : Q xs H) : St1 K Q (.ref a) H := ⟨a, xs, rfl, h1, h⟩
def StA (K : PySem.W.Frag) (t : TA) (σ : L2.St) (Q : List V → Hp → Prop) : VK := fun x H1 => ∃ p xs, x = V.ref p ∧ (SqT K H1 p xs ∨ SqL K H1 p xs) ∧ t σ H1 fun ys H2 => Q (xs ++ ys) H2
theorem g_star {Q : List V → Hp → Prop} (h : te σ H (StA K ts σ Q)) : StX.tStar K te ts σ H Q := h
theorem n_star {a : Addr} {xs : List V} {Q : List V → Hp → Prop} (h1 : SqT K H a xs ∨ SqL K H a xs) (h : ts σ H fun ys H2 => Q (xs ++ ys) H2) : StA K ts σ Q (.ref a) H := ⟨a, xs, rfl, h1, h⟩
def SFl (K : PySem.W.Frag) (f : Str) (y : V) (D : Ends) (σ : L2.St) : VK := fun x H2 => ∃ a C dx fs, x = .ref a ∧ H2 a = some (.ins C dx fs) ∧ Cls K C ∧ NoAttr K C f ∧ fs.length < 1000 ∧ D.nx σ (upd H2 a (.ins C dx (putF f y fs)))
theorem g_sfld {f : Str} {tv : TE} (h : tv σ H fun y H1 => ta σ H1 (SFl K f y D σ)) : sFld K ta tv f D σ H := h
theorem n_sfld {a C dx : Addr} {fs : List (Str × V)} {f : Str} {y : V} (h1 : H a = some (.ins C dx fs)) (h2 : Cls K C) (h3 : NoAttr K C f) (h4 : fs.length < 1000) (h : ∀ H', Keep a H H' → H' a = some (.ins C dx (putF f y fs)) → D.nx σ H') : SFl K f y D σ (.ref a) H := ⟨a, C, dx, fs, rfl, h1, h2, h3, h4, h _ keep_upd upd_same⟩

/-! words between -/
def tCutE (t : TE) : TE := fun σ H Q => ∃ Mid : V → Hp → Prop, t σ H Mid ∧ ∀ v H', Mid v H' → Q v H'
def tCutT (t : TT) : TT := fun σ H Q => ∃ Mid : Bool → Hp → Prop, t σ H Mid ∧ ∀ b H', Mid b H' → Q b H'
theorem pe_cut {e : Expr} {t : TE} (h : PE X e t) : PE X e (tCutE t) := ⟨fun pins s σ H Q I ⟨Mid, q, k⟩ => thn (h.run pins s σ H Mid I q) fun v s1 ⟨x, H1, I1, r1, q1⟩ => ⟨x, H1, I1, r1, k x H1 q1⟩⟩
theorem pt_cut {e : Expr} {t : TT} (h : PT X e t) : PT X e (tCutT t) := ⟨fun pins s σ H Q I ⟨Mid, q, k⟩ => thn (h.run pins s σ H Mid I q) fun b s1 ⟨H1, I1, q1⟩ => ⟨H1, I1, k b H1 q1⟩⟩
theorem g_cut {t u : TS} (Mid : L2.St → Hp → Prop) (h1 : t { D with nx := Mid } σ H) (h2 : ∀ σ' H', Mid σ' H' → u D σ' H') : C8.tCut t u D σ H := ⟨Mid, h1, h2⟩
theorem g_cutE {t : TE} (Mid : V → Hp → Prop) (h1 : t σ H Mid) (h2 : ∀ v H', Mid v H' → Q v H') : tCutE t σ H Q := ⟨Mid, h1, h2⟩
theorem g_cutT {t : TT} {Q : Bool → Hp → Prop} (Mid : Bool → Hp → Prop) (h1 : t σ H Mid) (h2 : ∀ b H', Mid b H' → Q b H') : tCutT t σ H Q := ⟨Mid, h1, h2⟩

/-! while -/
def WhK (Pv : Nat → L2.St → Hp → Prop) (m : Nat) (tb : TS) (D : Ends) (σ : L2.St) : Bool → Hp → Prop := fun b H1 => if b = true then ∃ N : L2.St → Hp → Prop, (∀ σ' H', N σ' H' → ∃ m', m' < m ∧ Pv m' σ' H') ∧ tb { D with nx := N, ct := N, bk := D.nx } σ H1 else D.nx σ H1
theorem n_while {c : TT} (Pv : Nat → L2.St → Hp → Prop) (m : Nat) (h0 : Pv m σ H) (hs : ∀ m σ H, Pv m σ H → c σ H (WhK Pv m tbs D σ)) : tWhile c tbs D σ H := ⟨Pv, ⟨m, h0⟩, hs⟩
theorem n_whT {Pv : Nat → L2.St → Hp → Prop} {m : Nat} (h : tbs { D with nx := fun σ' H' => ∃ m', m' < m ∧ Pv m' σ' H', ct := fun σ' H' => ∃ m', m' < m ∧ Pv m' σ' H', bk := D.nx } σ H) : WhK Pv m tbs D σ true H := iteT ⟨_, fun _ _ z => z, h⟩
theorem n_whF {Pv : Nat → L2.St → Hp → Prop} {m : Nat} (h : D.nx σ H) : WhK Pv m tbs D σ false H := iteF h

/-! a, b = x, y -/
def ParK (i j : Nat) (D : Ends) (σ : L2.St) (vs : List V) (H1 : Hp) : Prop := ∃ v w, vs = [v, w] ∧ D.nx ((σ.set i (some v)).set j (some w)) H1
theorem g_par {i j : Nat} (h : ts σ H (ParK i j D σ)) : tPar i j ts D σ H := h
theorem n_par {i j : Nat} {v w : V} {σ' : L2.St} (e : (σ.set i (some v)).set j (some w) = σ') (h : D.nx σ' H) : ParK i j D σ [v, w] H := ⟨v, w, rfl, by rw [e]; exact h⟩
def ParK3 (i j l : Nat) (D : Ends) (σ : L2.St) (vs : List V) (H1 : Hp) : Prop := ∃ u v w, vs = [u, v, w] ∧ D.nx (((σ.set i (some u)).set j (some v)).set l (some w)) H1
theorem g_par3 {i j l : Nat} (h : ts σ H (ParK3 i j l D σ)) : tPar3 i j l ts D σ H := h
theorem n_par3 {i j l : Nat} {u v w : V} {σ' : L2.St} (e : ((σ.set i (some u)).set j (some v)).set l (some w) = σ') (h : D.nx σ' H) : ParK3 i j l D σ [u, v, w] H := ⟨u, v, w, rfl, by rw [e]; exact h⟩
def AugK (i : Nat) (D : Ends) (σ : L2.St) : VK := fun z H2 => D.nx (σ.set i (some z)) H2
theorem g_aug {i : Nat} {x : V} {tip : TIp} (e : σ[i]? = some (some x)) (h : te σ H fun y H1 => tip x y H1 (AugK i D σ)) : tAug i te tip D σ H := ⟨x, e, h⟩
theorem n_aug {i : Nat} {z : V} {σ' : L2.St} (e : σ.set i (some z) = σ') (h : D.nx σ' H) : AugK i D σ z H := by subst e; exact h
theorem g_ipI {f : Int → Int → Int} {i j : Int} (h : Q (.int (f i j)) H) : ipI f (.int i) (.int j) H Q := ⟨i, j, rfl, rfl, h⟩
theorem g_rAdd {i j : Int} (h : Q (.int (i + j)) H) : rAdd (.int i) (.int j) H Q := ⟨i, j, rfl, rfl, h⟩
theorem g_rSub {i j : Int} (h : Q (.int (i - j)) H) : rSub (.int i) (.int j) H Q := ⟨i, j, rfl, rfl, h⟩
def FAK (K : PySem.W.Frag) (f : Str) (tv : TE) (rd : V → V → Hp → VK → Prop) (D : Ends) (σ : L2.St) : VK := fun x H => sFldAug K (fun _ H1 R => R x H1) tv rd f D σ H
def FAE (C a : Addr) (f : Str) (D : Ends) (σ : L2.St) : VK := fun z H3 => ∃ dx' fs', H3 a = some (.ins C dx' fs') ∧ fs'.length < 1000 ∧ D.nx σ (upd H3 a (.ins C dx' (putF f z fs')))
theorem g_fldaug {f : Str} {tv : TE} {rd : V → V → Hp → VK → Prop} (h : ta σ H (FAK K f tv rd D σ)) : sFldAug K ta tv rd f D σ H := h
theorem n_fldaug {a C dx : Addr} {fs : List (Str × V)} {f : Str} {v : V} {tv : TE} {rd : V → V → Hp → VK → Prop} (h1 : H a = some (.ins C dx fs)) (h2 : Cls K C) (h3 : NoAttr K C f) (h4 : fs.lookup f = some v) (h : tv σ H fun y H2 => rd v y H2 (FAE C a f D σ)) : FAK K f tv rd D σ (.ref a) H := ⟨a, C, dx, fs, v, rfl, h1, h2, h3, h4, h⟩
theorem n_fae {a C dx : Addr} {fs : List (Str × V)} {f : Str} {z : V} (h1 : H a = some (.ins C dx fs)) (h4 : fs.length < 1000) (h : ∀ H', Keep a H H' → H' a = some (.ins C dx (putF f z fs)) → D.nx σ H') : FAE C a f D σ z H := ⟨dx, fs, h1, h4, h _ keep_upd upd_same⟩
theorem g_minL {a : Addr} {ns : List Int} (h1 : SqL K H a (ns.map V.int)) (h2 : 0 < ns.length) (h : ∀ m, m ∈ ns → (∀ y, y ∈ ns → m ≤ y) → Q (.int m) H) : rMin K [.ref a] H Q := ⟨a, ns, rfl, h1, h2, h⟩
theorem g_maxL {a : Addr} {ns : List Int} (h1 : SqL K H a (ns.map V.int)) (h2 : 0 < ns.length) (h : ∀ m, m ∈ ns → (∀ y, y ∈ ns → y ≤ m) → Q (.int m) H) : rMax K [.ref a] H Q := ⟨a, ns, rfl, h1, h2, h⟩
theorem g_sumL {a : Addr} {ns : List Int} (h1 : SqL K H a (ns.map V.int)) (h : Q (.int ns.sum) H) : rSum K [.ref a] H Q := ⟨a, ns, rfl, h1, h⟩
theorem g_all {a : Addr} {bs : List Bool} (h1 : SqL K H a (bs.map V.bl)) (h : Q (.bl (bs.all id)) H) : rAll K [.ref a] H Q := ⟨a, bs, rfl, h1, h⟩
theorem g_any {a : Addr} {bs : List Bool} (h1 : SqL K H a (bs.map V.bl)) (h : Q (.bl (bs.any id)) H) : rAny K [.ref a] H Q := ⟨a, bs, rfl, h1, h⟩

/-! a comprehension whose i-th item is f i -/
def PMap (f : Nat → V) (H1 : Hp) : Nat → List V → Hp → Prop := fun i acc H' => Same H1 H' ∧ acc = (List.range i).map f
theorem n_mapK {f : Nat → V} {H1 : Hp} {C : Addr} {i : Nat} {y : V} (hC : H1 C = none) (h1 : Same H1 H) (h2 : H C = some (.lst ((List.range i).map f))) (e : y = f i) (hn : i < 1000000 := by omega) : LcK C (NxP (PMap f H1) C (i + 1)) y H := by
  refine n_lcK h2 (by simp) (by omega) fun H' k hc => ⟨fun b o e => k _ _ (ne_of_none e hC) (h1 _ _ e), ?_⟩
  rw [List.range_succ, List.map_append, e]; rfl
theorem lc_map {J : It} {n : Nat} {G : Hp → Prop} {Y : Nat → Hp → V → Hp → Prop} (w : Walk J n G Y) (f : Nat → V) {H1 : Hp} (hG : ∀ H, Same H1 H → G H)
    (hs : ∀ C i x H H', H1 C = none → i < n → Same H1 H → H C = some (.lst ((List.range i).map f)) → Y i H x H' → g x (wipe σ vs) H' fun σ2 H2 => wipe σ2 vs = wipe σ vs ∧ tt σ2 H2 (LcIf C te σ2 (NxP (PMap f H1) C (i + 1))))
    (hd : ∀ C H, H1 C = none → Same H1 H → H C = some (.lst ((List.range n).map f)) → Q (.ref C) H) : LcJ J g tt te vs σ Q H1 := by
  refine lc_run w (PMap f H1) (fun C H' nC s h => ⟨s, rfl⟩) (fun i acc H C nC hC ⟨s, _⟩ => hG H s) ?_ ?_
  · rintro C i acc x H H' nC hi hl hC ⟨s, rfl⟩ y
    exact hs C i x H H' nC hi s hC y
  · rintro C acc H nC hC ⟨s, rfl⟩
    exact hd C H nC s hC
theorem range_getD {α β : Type} (xs : List α) (d : α) (F : α → β) : (List.range xs.length).map (fun i => F (xs.getD i d)) = xs.map F := by
  apply List.ext_getElem
  · simp
  · intro i h1 h2
    simp at h1
    simp [List.getD, List.getElem?_eq_getElem h1]
theorem getD_of {α : Type} {xs : List α} {i : Nat} {x d : α} (h : xs[i]? = some x) : xs.getD i d = x := by simp [List.getD, h]
theorem cps_get {z : Str} {i c : Nat} (h : z.cps[i]? = some c) : z.cps.toList[i]? = some c := by simpa using h
end
end HC
/-! short words for terms -/
namespace HC
open PyProof.Rows PySem L2 PySem.Spec
theorem bt_len : bootBuiltins "len" = some (.builtin "len") := by decide +kernel
theorem bt_abs : bootBuiltins "abs" = some (.builtin "abs") := by decide +kernel
theorem bt_min : bootBuiltins "min" = some (.builtin "min") := by decide +kernel
theorem bt_max : bootBuiltins "max" = some (.builtin "max") := by decide +kernel
theorem bt_all : bootBuiltins "all" = some (.builtin "all") := by decide +kernel
theorem bt_any : bootBuiltins "any" = some (.builtin "any") := by decide +kernel
theorem bt_sum : bootBuiltins "sum" = some (.builtin "sum") := by decide +kernel
theorem bt_isinstance : bootBuiltins "isinstance" = some (.builtin "isinstance") := by decide +kernel
theorem bt_list : bootBuiltins "list" = some (.type "list") := by decide +kernel
theorem bt_tuple : bootBuiltins "tuple" = some (.type "tuple") := by decide +kernel
theorem bt_int : bootBuiltins "int" = some (.type "int") := by decide +kernel
theorem bt_str : bootBuiltins "str" = some (.type "str") := by decide +kernel
theorem bt_bool : bootBuiltins "bool" = some (.type "bool") := by decide +kernel
theorem bt_dict : bootBuiltins "dict" = some (.type "dict") := by decide +kernel
/-- the builtins' names are not the module's -/
structure Bts (mg : Str → Option Value) : Prop where
  len : mg "len" = none
  abs : mg "abs" = none
  min : mg "min" = none
  max : mg "max" = none
  all : mg "all" = none
  any : mg "any" = none
  sum : mg "sum" = none
  isinstance : mg "isinstance" = none
  list : mg "list" = none
  tuple : mg "tuple" = none
  int : mg "int" = none
  str : mg "str" = none
  bool : mg "bool" = none
  dict : mg "dict" = none
  range : mg "range" = none
  enumerate : mg "enumerate" = none
  zip : mg "zip" = none
  sorted : mg "sorted" = none
  set : mg "set" = none
def GInt (mg : Str → Option Value) (x : Str) (i : Int) : Prop := ∃ t, mg x = some (.int i t)
def GStr (mg : Str → Option Value) (x : Str) (z : Str) : Prop := ∃ t, mg x = some (.str z t)
/-- the class x (at C) has the int constant f -/
structure GCon (K : PySem.W.Frag) (mg : Str → Option Value) (x f : Str) (v : V) : Prop where
  ex : ∃ C mc u, mg x = some (.ref C) ∧ ClX.CRead K C mc ∧ ClX.CVal K C mc f v u
section
variable {X : Cx} {e e2 o : Expr} {es : List Expr} {te te2 to : TE} {ts : TA} {p pos apos tpos : Pos} {x f : Str}
theorem pe_gi {i : Int} (h : GInt X.mg x i) (hg : Gl X x := by rfl) (hd : (x == ("__debug__" : Str)) = false := by decide) : PE X (.Name x pos) (tC (.int i)) := by
  obtain ⟨t, h⟩ := h
  exact pe_glob hg h ⟨t, rfl⟩ hd
theorem pe_gs {z : Str} (h : GStr X.mg x z) (hg : Gl X x := by rfl) (hd : (x == ("__debug__" : Str)) = false := by decide) : PE X (.Name x pos) (tC (.str z)) := by
  obtain ⟨t, h⟩ := h
  exact pe_glob hg h ⟨t, rfl⟩ hd
theorem pe_gcon {v : V} (h : GCon X.K X.mg x f v) (hg : Gl X x := by rfl) (hb : attributeBase (.Name x p) f X.env (eval (.Name x p) X.env) = eval (.Name x p) X.env := by rfl) (hd : (x == ("__debug__" : Str)) = false := by decide) : PE X (.Attribute (.Name x p) f pos) (tC v) := by
  obtain ⟨C, mc, u, h1, h2, h3⟩ := h.ex
  exact ⟨fun pins s σ H Q I h => (ClX.pe_cval (pe_glob (v := .ref C) hg h1 rfl hd) hb).run pins s σ H Q I ⟨C, mc, v, u, rfl, h2, h3, h⟩⟩
theorem pe_len0 (m : Bts X.mg) (he : PE X e te) (hg : Gl X "len" := by rfl) (hs : starEach (e :: []) X.env = (false, eval e X.env) :: starEach [] X.env := by rfl) : PE X (.Call (.Name "len" p) [e] [] pos) (tCB (uLen X.K) (tCons te tNil)) :=
  pe_callB call_lenU hg m.len bt_len (pa_cons he pa_nil hs) (by decide) (by decide) hs rfl
theorem pe_len (K' : PySem.W.Frag) (m : Bts X.mg) (he : PE X e te) (hg : Gl X "len" := by rfl) (hs : starEach (e :: []) X.env = (false, eval e X.env) :: starEach [] X.env := by rfl) (hK : X.K = K' := by rfl) : PE X (.Call (.Name "len" p) [e] [] pos) (tCB (uLen K') (tCons te tNil)) := by
  subst hK
  exact pe_len0 m he hg hs
def rAbs : List V → Hp → VK → Prop := fun xs H Q => ∃ i, xs = [.int i] ∧ Q (.int (if i < 0 then -i else i)) H
theorem pe_abs (m : Bts X.mg) (he : PE X e te) (hg : Gl X "abs" := by rfl) (hs : starEach (e :: []) X.env = (false, eval e X.env) :: starEach [] X.env := by rfl) : PE X (.Call (.Name "abs" p) [e] [] pos) (tCB rAbs (tCons te tNil)) :=
  pe_callB call_abs hg m.abs bt_abs (pa_cons he pa_nil hs) (by decide) (by decide) hs rfl
def rMin2 : List V → Hp → VK → Prop := fun xs H Q => ∃ i j, xs = [.int i, .int j] ∧ Q (.int (if j < i then j else i)) H
theorem pe_min2 (m : Bts X.mg) (ha : PA X [e, e2] ts) (hc : X.calm = true := by rfl) (hg : Gl X "min" := by rfl) (he : starEach [e, e2] X.env = (false, eval e X.env) :: starEach [e2] X.env := by rfl) (hpl : (backTo pos (starEach [e2] X.env)).any (·.1) = false := by rfl) :
    PE X (.Call (.Name "min" p) [e, e2] [] pos) (tCB rMin2 ts) := pe_callB (call_min2 hc) hg m.min bt_min ha (by decide) (by decide) he hpl
theorem pe_max2 (m : Bts X.mg) (ha : PA X [e, e2] ts) (hc : X.calm = true := by rfl) (hg : Gl X "max" := by rfl) (he : starEach [e, e2] X.env = (false, eval e X.env) :: starEach [e2] X.env := by rfl) (hpl : (backTo pos (starEach [e2] X.env)).any (·.1) = false := by rfl) :
    PE X (.Call (.Name "max" p) [e, e2] [] pos) (tCB Evl.rMax2 ts) := pe_callB (call_max2 hc) hg m.max bt_max ha (by decide) (by decide) he hpl
theorem pe_min10 (m : Bts X.mg) (he : PE X e te) (hc : X.calm = true := by rfl) (hg : Gl X "min" := by rfl) (hs : starEach (e :: []) X.env = (false, eval e X.env) :: starEach [] X.env := by rfl) : PE X (.Call (.Name "min" p) [e] [] pos) (tCB (rMin X.K) (tCons te tNil)) :=
  pe_callB (cr_min hc) hg m.min bt_min (pa_cons he pa_nil hs) (by decide) (by decide) hs rfl
theorem pe_min1 (K' : PySem.W.Frag) (m : Bts X.mg) (he : PE X e te) (hc : X.calm = true := by rfl) (hg : Gl X "min" := by rfl) (hs : starEach (e :: []) X.env = (false, eval e X.env) :: starEach [] X.env := by rfl) (hK : X.K = K' := by rfl) : PE X (.Call (.Name "min" p) [e] [] pos) (tCB (rMin K') (tCons te tNil)) := by
  subst hK
  exact pe_min10 m he hc hg hs
theorem pe_max10 (m : Bts X.mg) (he : PE X e te) (hc : X.calm = true := by rfl) (hg : Gl X "max" := by rfl) (hs : starEach (e :: []) X.env = (false, eval e X.env) :: starEach [] X.env := by rfl) : PE X (.Call (.Name "max" p) [e] [] pos) (tCB (rMax X.K) (tCons te tNil)) :=
  pe_callB (cr_max hc) hg m.max bt_max (pa_cons he pa_nil hs) (by decide) (by decide) hs rfl
theorem pe_max1 (K' : PySem.W.Frag) (m : Bts X.mg) (he : PE X e te) (hc : X.calm = true := by rfl) (hg : Gl X "max" := by rfl) (hs : starEach (e :: []) X.env = (false, eval e X.env) :: starEach [] X.env := by rfl) (hK : X.K = K' := by rfl) : PE X (.Call (.Name "max" p) [e] [] pos) (tCB (rMax K') (tCons te tNil)) := by
  subst hK
  exact pe_max10 m he hc hg hs
theorem pe_sum10 (m : Bts X.mg) (he : PE X e te) (hc : X.calm = true := by rfl) (hg : Gl X "sum" := by rfl) (hs : starEach (e :: []) X.env = (false, eval e X.env) :: starEach [] X.env := by rfl) : PE X (.Call (.Name "sum" p) [e] [] pos) (tCB (rSum X.K) (tCons te tNil)) :=
  pe_callB (cr_sum hc) hg m.sum bt_sum (pa_cons he pa_nil hs) (by decide) (by decide) hs rfl
theorem pe_sum1 (K' : PySem.W.Frag) (m : Bts X.mg) (he : PE X e te) (hc : X.calm = true := by rfl) (hg : Gl X "sum" := by rfl) (hs : starEach (e :: []) X.env = (false, eval e X.env) :: starEach [] X.env := by rfl) (hK : X.K = K' := by rfl) : PE X (.Call (.Name "sum" p) [e] [] pos) (tCB (rSum K') (tCons te tNil)) := by
  subst hK
  exact pe_sum10 m he hc hg hs
theorem pe_all0 (m : Bts X.mg) (he : PE X e te) (hc : X.calm = true := by rfl) (hg : Gl X "all" := by rfl) (hs : starEach (e :: []) X.env = (false, eval e X.env) :: starEach [] X.env := by rfl) : PE X (.Call (.Name "all" p) [e] [] pos) (tCB (rAll X.K) (tCons te tNil)) :=
  pe_callB (cr_all hc) hg m.all bt_all (pa_cons he pa_nil hs) (by decide) (by decide) hs rfl
theorem pe_all (K' : PySem.W.Frag) (m : Bts X.mg) (he : PE X e te) (hc : X.calm = true := by rfl) (hg : Gl X "all" := by rfl) (hs : starEach (e :: []) X.env = (false, eval e X.env) :: starEach [] X.env := by rfl) (hK : X.K = K' := by rfl) : PE X (.Call (.Name "all" p) [e] [] pos) (tCB (rAll K') (tCons te tNil)) := by
  subst hK
  exact pe_all0 m he hc hg hs
theorem pe_any0 (m : Bts X.mg) (he : PE X e te) (hc : X.calm = true := by rfl) (hg : Gl X "any" := by rfl) (hs : starEach (e :: []) X.env = (false, eval e X.env) :: starEach [] X.env := by rfl) : PE X (.Call (.Name "any" p) [e] [] pos) (tCB (rAny X.K) (tCons te tNil)) :=
  pe_callB (cr_any hc) hg m.any bt_any (pa_cons he pa_nil hs) (by decide) (by decide) hs rfl
theorem pe_any (K' : PySem.W.Frag) (m : Bts X.mg) (he : PE X e te) (hc : X.calm = true := by rfl) (hg : Gl X "any" := by rfl) (hs : starEach (e :: []) X.env = (false, eval e X.env) :: starEach [] X.env := by rfl) (hK : X.K = K' := by rfl) : PE X (.Call (.Name "any" p) [e] [] pos) (tCB (rAny K') (tCons te tNil)) := by
  subst hK
  exact pe_any0 m he hc hg hs
def rInt1 : List V → Hp → VK → Prop := fun xs H Q => (∃ i, xs = [.int i] ∧ Q (.int i) H) ∨ ∃ k, xs = [.bl k] ∧ Q (.int (if k then 1 else 0)) H
theorem pe_int1 (m : Bts X.mg) (he : PE X e te) (hg : Gl X "int" := by rfl) (hs : starEach (e :: []) X.env = (false, eval e X.env) :: starEach [] X.env := by rfl) : PE X (.Call (.Name "int" p) [e] [] pos) (tCB rInt1 (tCons te tNil)) :=
  pe_callTy call_int1 hg m.int bt_int (pa_cons he pa_nil hs) (by decide) (by decide) hs rfl
def rListOf (K : PySem.W.Frag) : List V → Hp → VK → Prop := fun xs H Q => ∃ p ys, xs = [.ref p] ∧ (SqL K H p ys ∨ SqT K H p ys) ∧ ∀ l, H l = none → Q (.ref l) (upd H l (.lst ys))
def rTupleOf (K : PySem.W.Frag) : List V → Hp → VK → Prop := fun xs H Q => ∃ p ys, xs = [.ref p] ∧ ((SqL K H p ys ∧ ∀ l, H l = none → Q (.ref l) (upd H l (.tup ys))) ∨ (SqT K H p ys ∧ Q (.ref p) H))
theorem pe_listOf0 (m : Bts X.mg) (he : PE X e te) (hg : Gl X "list" := by rfl) (hs : starEach (e :: []) X.env = (false, eval e X.env) :: starEach [] X.env := by rfl) : PE X (.Call (.Name "list" p) [e] [] pos) (tCB (rListOf X.K) (tCons te tNil)) :=
  pe_callTy call_list_of hg m.list bt_list (pa_cons he pa_nil hs) (by decide) (by decide) hs rfl
theorem pe_listOf (K' : PySem.W.Frag) (m : Bts X.mg) (he : PE X e te) (hg : Gl X "list" := by rfl) (hs : starEach (e :: []) X.env = (false, eval e X.env) :: starEach [] X.env := by rfl) (hK : X.K = K' := by rfl) : PE X (.Call (.Name "list" p) [e] [] pos) (tCB (rListOf K') (tCons te tNil)) := by
  subst hK
  exact pe_listOf0 m he hg hs
theorem pe_tupOf0 (m : Bts X.mg) (he : PE X e te) (hg : Gl X "tuple" := by rfl) (hs : starEach (e :: []) X.env = (false, eval e X.env) :: starEach [] X.env := by rfl) : PE X (.Call (.Name "tuple" p) [e] [] pos) (tCB (rTupleOf X.K) (tCons te tNil)) :=
  pe_callTy call_tuple_of hg m.tuple bt_tuple (pa_cons he pa_nil hs) (by decide) (by decide) hs rfl
theorem pe_tupOf (K' : PySem.W.Frag) (m : Bts X.mg) (he : PE X e te) (hg : Gl X "tuple" := by rfl) (hs : starEach (e :: []) X.env = (false, eval e X.env) :: starEach [] X.env := by rfl) (hK : X.K = K' := by rfl) : PE X (.Call (.Name "tuple" p) [e] [] pos) (tCB (rTupleOf K') (tCons te tNil)) := by
  subst hK
  exact pe_tupOf0 m he hg hs
/-- isinstance(e, T), T a built-in class -/
theorem pe_isiB0 {T : String} {n : Str} (m : Bts X.mg) (hn : X.mg n = none) (hb : bootBuiltins n = some (.type T)) (he : PE X e te) (hg : Gl X "isinstance" := by rfl) (hg2 : Gl X n := by rfl) (hd1 : n ≠ "__name__" := by decide) (hd2 : (n == ("__debug__" : Str)) = false := by decide)
    (hs : starEach [e, .Name n tpos] X.env = (false, eval e X.env) :: starEach [.Name n tpos] X.env := by rfl) (hs2 : starEach [.Name n tpos] X.env = (false, eval (.Name n tpos) X.env) :: starEach [] X.env := by rfl) (hpl : (backTo pos (starEach [.Name n tpos] X.env)).any (·.1) = false := by rfl) :
    PE X (.Call (.Name "isinstance" p) [e, .Name n tpos] [] pos) (tCB (rIsi X.K) (tCons te (tCons (tC (.ty T)) tNil))) :=
  pe_callB (p := p) (pos := pos) call_isi hg m.isinstance bt_isinstance (pa_cons he (pa_cons (pe_bltn (pos := tpos) (v := .ty T) hg2 hn hb rfl hd1 hd2) pa_nil hs2) hs) (by decide) (by decide) hs hpl
theorem pe_isiB (K' : PySem.W.Frag) {T : String} {n : Str} (m : Bts X.mg) (hn : X.mg n = none) (hb : bootBuiltins n = some (.type T)) (he : PE X e te) (hg : Gl X "isinstance" := by rfl) (hg2 : Gl X n := by rfl) (hd1 : n ≠ "__name__" := by decide) (hd2 : (n == ("__debug__" : Str)) = false := by decide)
    (hs : starEach [e, .Name n tpos] X.env = (false, eval e X.env) :: starEach [.Name n tpos] X.env := by rfl) (hs2 : starEach [.Name n tpos] X.env = (false, eval (.Name n tpos) X.env) :: starEach [] X.env := by rfl) (hpl : (backTo pos (starEach [.Name n tpos] X.env)).any (·.1) = false := by rfl) (hK : X.K = K' := by rfl) :
    PE X (.Call (.Name "isinstance" p) [e, .Name n tpos] [] pos) (tCB (rIsi K') (tCons te (tCons (tC (.ty T)) tNil))) := by
  subst hK
  exact pe_isiB0 m hn hb he hg hg2 hd1 hd2 hs hs2 hpl
/-- isinstance(e, C), C a class of the module -/
theorem pe_isiC0 {C : Addr} {n : Str} (m : Bts X.mg) (hn : X.mg n = some (.ref C)) (he : PE X e te) (hg : Gl X "isinstance" := by rfl) (hg2 : Gl X n := by rfl) (hd2 : (n == ("__debug__" : Str)) = false := by decide)
    (hs : starEach [e, .Name n tpos] X.env = (false, eval e X.env) :: starEach [.Name n tpos] X.env := by rfl) (hs2 : starEach [.Name n tpos] X.env = (false, eval (.Name n tpos) X.env) :: starEach [] X.env := by rfl) (hpl : (backTo pos (starEach [.Name n tpos] X.env)).any (·.1) = false := by rfl) :
    PE X (.Call (.Name "isinstance" p) [e, .Name n tpos] [] pos) (tCB (rIsi X.K) (tCons te (tCons (tC (.ref C)) tNil))) :=
  pe_callB (p := p) (pos := pos) call_isi hg m.isinstance bt_isinstance (pa_cons he (pa_cons (pe_glob (pos := tpos) (v := .ref C) hg2 hn rfl hd2) pa_nil hs2) hs) (by decide) (by decide) hs hpl
/-! methods of built-in types -/
variable {K : PySem.W.Frag} {H : Hp} {Q : VK} {σ : L2.St}
theorem pe_isiC (K' : PySem.W.Frag) {C : Addr} {n : Str} (m : Bts X.mg) (hn : X.mg n = some (.ref C)) (he : PE X e te) (hg : Gl X "isinstance" := by rfl) (hg2 : Gl X n := by rfl) (hd2 : (n == ("__debug__" : Str)) = false := by decide)
    (hs : starEach [e, .Name n tpos] X.env = (false, eval e X.env) :: starEach [.Name n tpos] X.env := by rfl) (hs2 : starEach [.Name n tpos] X.env = (false, eval (.Name n tpos) X.env) :: starEach [] X.env := by rfl) (hpl : (backTo pos (starEach [.Name n tpos] X.env)).any (·.1) = false := by rfl) (hK : X.K = K' := by rfl) :
    PE X (.Call (.Name "isinstance" p) [e, .Name n tpos] [] pos) (tCB (rIsi K') (tCons te (tCons (tC (.ref C)) tNil))) := by
  subst hK
  exact pe_isiC0 m hn he hg hg2 hd2 hs hs2 hpl
end
section
variable {X : Cx} {K : PySem.W.Frag} {H : Hp} {Q : VK} {σ : L2.St}
theorem g_abs {i : Int} (h : Q (.int (if i < 0 then -i else i)) H) : rAbs [.int i] H Q := ⟨i, rfl, h⟩
theorem g_min2 {i j : Int} (h : Q (.int (if j < i then j else i)) H) : rMin2 [.int i, .int j] H Q := ⟨i, j, rfl, h⟩
theorem g_max2 {i j : Int} (h : Q (.int (if j > i then j else i)) H) : Evl.rMax2 [.int i, .int j] H Q := ⟨i, j, rfl, h⟩
theorem g_int_i {i : Int} (h : Q (.int i) H) : rInt1 [.int i] H Q := .inl ⟨i, rfl, h⟩
theorem g_int_b {k : Bool} (h : Q (.int (if k then 1 else 0)) H) : rInt1 [.bl k] H Q := .inr ⟨k, rfl, h⟩
theorem g_listOf {p : Addr} {ys : List V} (h1 : SqL K H p ys ∨ SqT K H p ys) (h : ∀ l H', H l = none → Same H H' → H' l = some (.lst ys) → Q (.ref l) H') : rListOf K [.ref p] H Q := ⟨p, ys, rfl, h1, fun l hl => h l _ hl (same_new hl) upd_same⟩
theorem g_tupOf_l {p : Addr} {ys : List V} (h1 : SqL K H p ys) (h : ∀ l H', H l = none → Same H H' → H' l = some (.tup ys) → Q (.ref l) H') : rTupleOf K [.ref p] H Q := ⟨p, ys, rfl, .inl ⟨h1, fun l hl => h l _ hl (same_new hl) upd_same⟩⟩
theorem g_tupOf_t {p : Addr} {ys : List V} (h1 : SqT K H p ys) (h : Q (.ref p) H) : rTupleOf K [.ref p] H Q := ⟨p, ys, rfl, .inr ⟨h1, h⟩⟩
theorem g_isi {x : V} {t T : String} {b : Bool} (h1 : TyX K H x (.type t)) (h2 : kitB t T = some b) (h : Q (.bl b) H) : rIsi K [x, .ty T] H Q := ⟨x, .ty T, .type t, .type T, b, rfl, .ty T, h1, kit_ty h2, h⟩
end

section
variable {X : Cx} {K : PySem.W.Frag} {a b e e2 o value : Expr} {es : List Expr} {ta tb te to tl : TE} {ts : TA} {p pos apos cpos tpos p2 pos' : Pos} {f name : Str}
theorem op_addK (K) (hK : X.K = K := by rfl) : OpR X (binaryOp .Add) (uAdd K) := by subst hK; exact op_addU
theorem op_eqK (K) {k : Nat} (hr : Room k X.A) (hK : X.K = K := by rfl) : OpR X (compareOp .Eq) (uEq K) := by subst hK; exact op_eqU hr
theorem op_neK (K) {k : Nat} (hr : Room k X.A) (hK : X.K = K := by rfl) : OpR X (compareOp .NotEq) (uNe K) := by subst hK; exact op_neU hr
theorem op_inK (K) {k : Nat} (hr : Room k X.A) (hK : X.K = K := by rfl) : OpR X (compareOp .In) (uIn K) := by subst hK; exact op_inU hr
theorem op_notInK (K) {k : Nat} (hr : Room k X.A) (hK : X.K = K := by rfl) : OpR X (compareOp .NotIn) (uNotIn K) := by subst hK; exact op_notInU hr
theorem ix_K (K) (hK : X.K = K := by rfl) : IxR X (rIx K) := by subst hK; exact ix_seq
theorem sl_listK (K) (hK : X.K = K := by rfl) : SlR X (rSlL K) := by subst hK; exact sl_list
theorem sl_tupK (K) (hK : X.K = K := by rfl) : SlR X (rSlA K) := by subst hK; exact sl_tupA
theorem pe_fldK (K) (he : PE X e ta) (hb : attributeBase e f X.env (eval e X.env) = eval e X.env := by rfl) (hK : X.K = K := by rfl) : PE X (.Attribute e f pos) (tFld K ta f) := by subst hK; exact pe_fld he hb
theorem ps_fldK (K) (ha : PE X o ta) (hv : PE X value te) (hs : swapsWith value (some (.Attribute o f pos')) pos.line X.env = pure false := by rfl) (hK : X.K = K := by rfl) : PS X (.Assign [.Attribute o f pos'] value pos) (sFld K ta te f) := by subst hK; exact ps_fld ha hv hs
theorem ps_fldaugK (K) {op : Operator} {rd : V → V → Hp → VK → Prop} (ha : PE X o ta) (hv : PE X value te) (hop : InOp X op rd) (hK : X.K = K := by rfl) : PS X (.AugAssign (.Attribute o f tpos) op value pos) (sFldAug K ta te rd f) := by subst hK; exact ps_fldaug ha hv hop
theorem as_bm (K) {c : Expr} {T : String} {r : V → List V → Hp → VK → Prop} (h : PE X c (tBM X.K T r to ts)) (hK : X.K = K := by rfl) : PE X c (tBM K T r to ts) := by subst hK; exact h
theorem pi_listK (K) {tg : Expr} (hl : PE X e tl) (hK : X.K = K := by rfl) : PI X tg e (iList K tl) := by subst hK; exact pi_list hl
theorem pi_tupK (K) {tg : Expr} (hl : PE X e tl) (hK : X.K = K := by rfl) : PI X tg e (iTup K tl) := by subst hK; exact pi_tup hl
theorem pi_enumTK (K) {elts : List Expr} {kk : Nat} (hg : Gl X "enumerate") (hm : X.mg "enumerate" = none) (ha : PA X [e] ts) (hs : starEach [e] X.env = [(false, eval e X.env)] := by rfl) (hK : X.K = K := by rfl) :
    PI X (.Tuple elts kk tpos) (.Call (.Name "enumerate" p) [e] [] pos) (iEnumT K ts) := by subst hK; exact pi_enumT hg hm ha hs
theorem pi_enumLK (K) {elts : List Expr} {kk : Nat} (hg : Gl X "enumerate") (hm : X.mg "enumerate" = none) (ha : PA X [e] ts) (hs : starEach [e] X.env = [(false, eval e X.env)] := by rfl) (hK : X.K = K := by rfl) :
    PI X (.Tuple elts kk tpos) (.Call (.Name "enumerate" p) [e] [] pos) (iEnum K ts) := by subst hK; exact pi_enum hg hm ha hs
theorem pi_zipK (K) {elts : List Expr} {kk : Nat} (hg : Gl X "zip") (hm : X.mg "zip" = none) (ha : PA X [e, e2] ts) (hs : starEach [e, e2] X.env = (false, eval e X.env) :: starEach [e2] X.env := by rfl) (hpl : (backTo pos (starEach [e2] X.env)).any (·.1) = false := by rfl) (hK : X.K = K := by rfl) :
    PI X (.Tuple elts kk tpos) (.Call (.Name "zip" p) [e, e2] [] pos) (RZ.iZipA K ts) := by subst hK; exact RZ.pi_zipA hg hm ha hs hpl
theorem pg_tupK (K) {k : Nat} {t : TGs} {n : Nat} (hc : X.calm = true) (h : PGs X es t) (hn : (assignEach es X.env).length = n := by rfl) (hst : (assignEach es X.env).findIdx? (·.1) = none := by rfl) (hK : X.K = K := by rfl) : PG X (.Tuple es k pos) (gTup K n t) := by subst hK; exact pg_tup hc h hn hst
theorem pa_starK (K) (he : PE X e te) (hr : PA X es ts) (hs : starEach (.Starred e p :: es) X.env = (true, eval e X.env) :: starEach es X.env := by rfl) (hK : X.K = K := by rfl) : PA X (.Starred e p :: es) (StX.tStar K te ts) := by subst hK; exact StX.pa_star he hr hs
def rJoin (K : PySem.W.Frag) : V → List V → Hp → VK → Prop := fun x xs H Q => ∃ a p, ∃ ys : List Str, x = .str a ∧ xs = [.ref p] ∧ (SqL K H p (ys.map V.str) ∨ SqT K H p (ys.map V.str)) ∧ (ys.map (·.length)).sum + ys.length * a.length ≤ 16777216 ∧ Q (.str (Txt.join a ys)) H
theorem pe_joinK (K) (ho : PE X o to) (he : PE X e te) (hs : starEach [e] X.env = [(false, eval e X.env)] := by rfl) (hbase : attributeBase o "join" X.env (eval o X.env) = eval o X.env := by rfl) (hline : (apos.endLine == pos.line) = true := by rfl) (hK : X.K = K := by rfl) :
    PE X (.Call (.Attribute o "join" apos) [e] [] pos) (tM1 (rJoin K) to te) := by subst hK; exact pe_join ho he hs hbase hline
theorem pe_makeSK (K) {x : Str} {C : Addr} {k : Nat} {sp : Sp} {E : XK} (M : MakeR X.prog X.w X.K X.mg X.base x C k sp) (hr : Room (k + 1) X.A) (hx : Passes (CXW X.prog X.w) X E) (he : PE X e te) (hg : Gl X x := by rfl) (hd : (x == ("__debug__" : Str)) = false := by decide)
    (hst : starEach [.Starred e apos] X.env = [(true, eval e X.env)] := by rfl) (hK : X.K = K := by rfl) : PE X (.Call (.Name x p) [.Starred e apos] [] pos) (StX.tMakeR C sp E (tStar1 K te)) := by subst hK; exact pe_makeS M hr hx he hg hd hst
end
end HC
/-! the head's facts: defs at any address, facts by names, properties, constants of classes -/
namespace HC
open PySem PySem.W PySem.Calls PyProof.Rows He He5 L2
/-- a property's getter -/
def pgA (K : Frag) (C : Addr) (f : PySem.Str) : Addr := match recIn K (ma K C f) "property" with
  | some (.ref g :: _) => g
  | _ => 0
def propB (K : Frag) (C : Addr) (f : PySem.Str) : Bool := eqO (findIn K (.ref C) f) (some (some (.ref (ma K C f)))) && (eqO (specialIn K (.ref (ma K C f)) "__get__") (some (some (.builtin "property.__get__"))) &&
  (decide (takesIn K (.ref (ma K C f)) = some true) && (match recIn K (ma K C f) "property" with
    | some (.ref _ :: _) => true
    | _ => false)))
theorem propB_ok {K : Frag} {C : Addr} {f : PySem.Str} (h : propB K C f = true) : PropOf K C f (ma K C f) (pgA K C f) := by
  obtain ⟨h1, h⟩ := ba h
  obtain ⟨h2, h⟩ := ba h
  obtain ⟨h3, h4⟩ := ba h
  refine ⟨eqO_ok h1, eqO_ok h2, of_decide_eq_true h3, ?_⟩
  unfold pgA
  split at h4
  · rename_i g r e
    exact ⟨r, by rw [e]⟩
  · cases h4
def gconB (K : Frag) (C : Addr) (f : PySem.Str) (v : V) : Bool := readsIn K C (.type "type") && (eqO (specialIn K (.ref C) "__getattribute__") (some (some (.builtin "type.__getattribute__"))) && (match findCls K (.ref C) (.type "type") f with
  | some (.val u) => relB v u
  | _ => false))
theorem gconB_ok {K : Frag} {mg : PySem.Str → Option Value} {x f : PySem.Str} {C : Addr} {v : V} (hx : mg x = some (.ref C)) (h : gconB K C f v = true) : GCon K mg x f v := by
  obtain ⟨h1, h⟩ := ba h
  obtain ⟨h2, h3⟩ := ba h
  split at h3
  · rename_i u e
    exact ⟨C, .type "type", u, hx, ⟨h1, eqO_ok h2⟩, ⟨e, relB_ok h3⟩⟩
  · cases h3
/-- facts that He.Fa has no word for -/
inductive Fx where
  | prop (c f : PySem.Str)
  | con (c f : PySem.Str) (v : V)
def Fx.ok (K : Frag) : Fx → Bool
  | .prop c f => propB K (ga K c) f
  | .con c f v => gconB K (ga K c) f v
/-- the library's observation of facts and defs, and these facts beside it -/
def obsH (fx : List Fx) (fa : List Fa) (fn : List DefA) (K : Frag) : He.AlD × Bool := (obsA fa fn K, fx.all (Fx.ok K))
structure SaysH (fx : List Fx) (fa : List Fa) (fn : List DefA) (K : Frag) : Prop where
  base : SaysA fa fn K
  also : fx.all (Fx.ok K) = true
theorem SaysH.more {fx : List Fx} {fa : List Fa} {fn : List DefA} {K : Frag} (c : SaysH fx fa fn K) (i : Nat) {f : Fx} (at_ : fx[i]? = some f := by rfl) : f.ok K = true :=
  (List.all_eq_true.mp c.also) f (List.mem_of_getElem? at_)
def obsHG (n : Nat) (fx : List Fx) (fa : List Fa) (fn : List DefA) (g : Addr → Option Obj) : He.AlD × Bool := obsH fx fa fn (frG g (asA g n))
def hookH (n : Nat) (fx : List Fx) (fa : List Fa) (fn : List DefA) : PySem.W.Hook where
  α := He.AlD × Bool
  obs s := obsHG n fx fa fn s.heap.get?
  val _ := (valA fn, true)
  says _ h := ∃ K : Frag, K.In h ∧ SaysH fx fa fn K
  of _ _ both := ⟨_, frG_in, congrArg Prod.fst both, congrArg Prod.snd both⟩
  keeps _ _ _ here up := let ⟨K, inH, says⟩ := here; ⟨K, inH.keeps up, says⟩
theorem obsHG_eq {n : Nat} {fx : List Fx} {fa : List Fa} {fn : List DefA} {g : Addr → Option Obj} {s : Shared} (same : ∀ a, g a = s.heap.get? a) : obsHG n fx fa fn g = (hookH n fx fa fn).obs s := congrArg (obsHG n fx fa fn) (funext same)
end HC
/-! own operators, and makers with a star and a keyword -/
namespace HC
open PyProof.Rows PySem L2 PySem.Spec
section
variable {X : Cx} {k : Nat} {C : Addr} {sp : Sp} {m : Str}
/-- an instance's address, as its class asks it -/
theorem instAt {pins : List (Addr × Obj)} {s : Shared} {σ : L2.St} {H : Hp} {a C dx : Addr} {fs : List (Str × V)} (inv : L2.Inv X pins σ H s) (at_ : H a = some (.ins C dx fs)) : ∃ ox od, PySem.W.InstAt s.heap a ox C od := by
  obtain ⟨mA, obj, _⟩ := ins_get inv.hok at_
  obtain ⟨od, is, _⟩ := obj.look
  exact ⟨_, _, is⟩
/-- a value of ours is never NotImplemented -/
theorem cmpBack {pins : List (Addr × Obj)} {σ : L2.St} {Q : VK} {v : Value} {s : Shared} (h : EP X pins σ Q v s) : PySem.W.CmpBack (EP X pins σ Q) v s := by
  obtain ⟨x, H, inv, rel, q⟩ := h
  cases v <;> first | exact ⟨x, H, inv, rel, q⟩ | (cases x <;> simp [L2.RelV] at rel)
/-- x op y by the own method of x's class, both of the class at C -/
def rOwn2 (C : Addr) (sp : Sp) : R2 := fun x y H Q => ∃ a b dx dy fs gs, x = .ref a ∧ y = .ref b ∧ H a = some (.ins C dx fs) ∧ H b = some (.ins C dy gs) ∧ sp [.ref a, .ref b] H Q E0
theorem op_own2 {op : Operator} (M : MethR X.prog X.w X.K X.mg X.base C m k sp) (self : PySem.W.selfFirst X.K C = true) (room : Room k X.A) (nm : PySem.dunder op.info.2 = m := by first | rfl | decide) : OpR X (binaryOp op) (rOwn2 C sp) := by
  rintro pins s σ H _ _ v u Q inv rv ru ⟨a, b, dx, dy, fs, gs, rfl, rfl, ha, hb, owed⟩
  cases rv
  cases ru
  obtain ⟨ox, od, isA⟩ := instAt inv ha
  obtain ⟨oy, od', isB⟩ := instAt inv hb
  obtain ⟨mm, fr⟩ := inv.fr
  have called := run_fnR (us := [.ref a, .ref b]) (vs := [V.ref a, V.ref b]) M.fn room passN inv (.cons (by rfl) (.cons (by rfl) .nil)) owed
  exact PySem.W.binop_K fr inv.mod.kin isA isB.type self (nm ▸ M.at_.at_) M.at_.fn (wpAny_mono (wpAny_call called) (fun _ _ => cmpBack) fun _ _ z => z)
end
theorem callWith_SKW {M : Model} {A : Around} {E : Value → Shared → Prop} {s : Shared} {K : PySem.W.Frag} {env : Env} {pos p : Pos} {f : Value} {first : List Value} {Q : Value → Shared → Prop} {e : Expr} {kws : List Keyword} (kept : PySem.W.keepIn K f = true)
    (named : (backToKw pos (keywordEach kws env)).all (·.1.isSome) = true)
    (h : wpAny M A (eval e env) (fun v s1 => wpAny M A (evalAll ((backToKw pos (keywordEach kws env)).map (·.2))) (fun ks s2 => PySem.W.StarOf M A E v (fun vs s3 => K.In s3.heap ∧ wpAny M A (call f (first ++ vs) (((backToKw pos (keywordEach kws env)).filterMap (·.1)).zip ks)) Q E s3) s2) E s1) E s)
    (one : starEach [.Starred e p] env = [(true, eval e env)] := by rfl) : wpAny M A (callWith pos f first (backTo pos (starEach [.Starred e p] env)) (backToKw pos (keywordEach kws env))) Q E s := by
  rw [one]
  unfold callWith evalArgs
  apply wpAny_bind; apply wpAny_holding
  simp only [named, if_true, backTo]
  simp only [List.map_cons, List.map_nil, if_true]
  refine wpAny_bind (wpAny_bind (wpAny_mono h (fun v s1 h1 => wpAny_bind (wpAny_standAt (wpAny_pure ?_))) fun _ _ z => z))
  refine wpAny_bind (wpAny_pure (wpAny_holding (wpAny_bind (wpAny_mono h1 (fun ks s2 h2 => ?_) fun _ _ z => z))))
  refine wpAny_bind (wpAny_bind (wpAny_mono h2 (fun b s3 hb => ?_) fun _ _ z => z))
  obtain ⟨rfl, hb⟩ := hb
  rw [if_neg (fun z : false = true => nomatch z)]
  refine wpAny_holding (wpAny_mono hb (fun vs s4 done => wpAny_pure ?_) fun _ _ z => z)
  obtain ⟨kin, called⟩ := done
  apply wpAny_bind; apply wpAny_standAt
  obtain ⟨keeper, which, looks⟩ := PySem.W.keeps_K (M := M) kept _ kin
  simp only [List.any_cons, Bool.true_or]
  refine wpAny_bind (looks.here ?_)
  have ends : ∀ {m : Sem Value}, wpAny M A m Q E s4 → wpAny M A (do let r ← m; holding [r] point; pure r) Q E s4 := fun {m} hm =>
    wpAny_bind (wpAny_mono hm (fun r s5 q => wpAny_bind (wpAny_holding (wpAny_point (wpAny_pure q)))) fun _ _ z => z)
  rcases which with rfl | rfl | rfl
  · exact ends (by unfold callMarked; exact Calls.wpAny_keep called)
  · exact ends (wpAny_operating called)
  · exact ends (wpAny_operating called)
section
variable {P : Program} {w : World} {K : PySem.W.Frag}
variable {mg : Str → Option Value} {base : Heap} {k : Nat} {f : Addr} {sp : Sp}
/-- a def called by place and with the keyword kw: sp is told of the keyword's value, then of the others -/
def FnRK (P : Program) (w : World) (K : PySem.W.Frag) (mg : Str → Option Value) (base : Heap) (k : Nat) (f : Addr) (kw : Str) (sp : Sp) : Prop :=
  ∀ (A : Around) (outer : List Env) (s : Shared) (H : Hp) (us : List Value) (vs : List V) (u : Value) (z : V) (Q : VK) (E : XK), Room k A → Env0 P w K mg base A outer s H → Vals vs us → L2.RelV z u → sp (z :: vs) H Q E →
    codeAny (model P w) A (.call (.ref f) ⟨us, [(kw, u)]⟩) (CR (CXW P w) outer P w H s Q E) s
/-- def f(self, *v, kw=..), called with kw -/
theorem fnk_star1 {x qual : Str} {params : Arguments} {body : List Stmt} {scope : Scope} {kws : List (Str × V)} {fd : FuncData} {N : List Str} {p1 pv kw : Str} (F : FunD K x qual params body scope [] kws f fd) (S : FnScope N [p1, kw, pv] scope)
    (h0 : ∀ (kV doc pm : Value) (an : Option Addr) (cdv ct : Value) (a u : Value), bindArgs (PySem.W.fnOf x qual params body scope .none kV doc pm an cdv ct) ⟨[a], [(kw, u)]⟩ = (newTuple [] >>= fun t => pure [(p1, a), (kw, u), (pv, t)]))
    (h1 : ∀ (kV doc pm : Value) (an : Option Addr) (cdv ct : Value) (a u r : Value) (rs : List Value), bindArgs (PySem.W.fnOf x qual params body scope .none kV doc pm an cdv ct) ⟨a :: r :: rs, [(kw, u)]⟩ = (newTuple (r :: rs) >>= fun t => pure [(p1, a), (kw, u), (pv, t)]))
    (owes : ∀ cdv, Owes P w K mg base N qual scope body k f sp cdv) :
    FnRK P w K mg base (k + 1) f kw (fun vs H Q E => ∃ z w0 rest, vs = z :: w0 :: rest ∧ rest.length ≤ sizeLine ∧ ∀ p, H p = none → sp [w0, z, V.ref p] (upd H p (.tup rest)) Q E) := by
  rcases F.ex with ⟨c1, c2, dv, kv, dc, pm, an, cdv, ct, sl, e, at_, code, dfl, _⟩
  subst e
  have dn : dv = .none := dfl.elim (fun z => z.2) (fun z => absurd rfl z.1)
  subst dn
  rintro A outer s H us vs u z Q E room env rel relz ⟨z', w0, rest, ev, size, owed⟩
  injection ev with ez ev
  subst ez ev
  cases rel with
  | @cons _ a _ more ra rmore =>
    have free : H s.heap.objs.size = none := env.hok.fresh (Nat.le_refl _)
    have size' : more.length ≤ sizeLine := rmore.length ▸ size
    have bind : bindArgs (PySem.W.fnOf x qual params body scope .none kv dc pm an cdv ct) ⟨a :: more, [(kw, u)]⟩ = (newTuple more >>= fun t => pure [(p1, a), (kw, u), (pv, t)]) := by
      cases more with
      | nil => exact h0 kv dc pm an cdv ct a u
      | cons r rs => exact h1 kv dc pm an cdv ct a u r rs
    refine StX.run_bnd at_ code S room env (G := fun xs H2 => ∃ p, H p = none ∧ xs = [w0, z, V.ref p] ∧ H2 = upd H p (.tup rest)) ?_ ?_
    · intro A' Ex Q' go
      rw [bind]
      refine wpAny_bind (wpAny_newTuple (wpAny_pure ?_) size')
      have fresh : ObjOk P w (upd H s.heap.objs.size (.tup rest)) (s.heap.push { cls := .type "tuple", data := .seq more.toArray }) s.heap.objs.size (.tup rest) := ⟨size, more, rmore, _, Heap.get?_push_size _ rfl, rfl, _, rfl⟩
      have grown := StX.un_laid (fs := frs outer) (s := s) (o := { cls := .type "tuple", data := .seq more.toArray }) (u := .tup rest) free
      exact go _ _ [w0, z, .ref s.heap.objs.size] [a, u, .ref s.heap.objs.size] (StX.env0_laid env fresh) grown rfl (fun e s' => StX.cxUp outer s H _ _ E e s' grown (fun b o q => Heap.get?_push_of_some _ q) rfl) (.cons ra (.cons relz (.cons rfl .nil))) rfl ⟨_, free, rfl, rfl⟩
    · rintro s2 _ _ ⟨p, hp, rfl, rfl⟩ room'
      exact owes cdv A outer s2 _ _ Q E room' (owed p hp)
end
/-- the class x at C is made by an __init__ that keeps sp, the keyword kw given -/
structure MakeRK (P : Program) (w : World) (K : PySem.W.Frag) (mg : Str → Option Value) (base : Heap) (x : Str) (C : Addr) (k : Nat) (kw : Str) (sp : Sp) : Prop where
  at_ : mg x = some (.ref C)
  ex : ∃ f, Mk K C f ∧ FnRK P w K mg base k f kw sp
section
variable {X : Cx} {k : Nat} {C f : Addr} {sp : Sp} {E : XK} {x kw : Str} {e ke : Expr} {es : List Expr} {te tk : TE} {t : TA} {p pos apos kpos : Pos}
/-- what the maker owes: the new instance and its dict, then __init__ -/
def Makes (C : Addr) (sp : Sp) (E : XK) (Q : VK) (z : V) (vs : List V) (H : Hp) : Prop := ∀ x dx, H x = none → H dx = none → dx ≠ x → sp (z :: V.ref x :: vs) (upd (upd H dx (.own x)) x (.ins C dx [])) (fun v H2 => v = .non ∧ Q (.ref x) H2) E
theorem run_makeRK {pins : List (Addr × Obj)} {σ : L2.St} {H : Hp} {s : Shared} {Q : VK} {us : List Value} {vs : List V} {u : Value} {z : V} (made : Mk X.K C f) (F : FnRK X.prog X.w X.K X.mg X.base k f kw sp) (room : Room (k + 1) X.A) (leave : Passes (CXW X.prog X.w) X E) (inv : L2.Inv X pins σ H s)
    (rel : Vals vs us) (relz : L2.RelV z u) (owed : Makes C sp E Q z vs H) : wpAny (model X.prog X.w) X.A (call (.ref C) us [(kw, u)]) (EP X pins σ Q) X.xe s := by
  have inv2 := Inv.made (C := C) inv
  have here := owed _ _ (inv.hok.fresh (Nat.le_succ _)) (inv.hok.fresh (Nat.le_refl _)) (Nat.ne_of_lt (Nat.lt_succ_self _))
  have run := F _ X.stack _ _ (Value.ref (s.heap.objs.size + 1) :: us) (V.ref (s.heap.objs.size + 1) :: vs) u z _ E (room.make C us [(kw, u)]) (inv2.env0.make C us [(kw, u)]) (.cons rfl rel) relz here
  refine wpAny_call (make_map (f := f) inv.kIn made.makes made.init (beq_iff_eq.mp made.fn) (codeAny_mono run ?_))
  rintro (er | fl) s' got
  · exact leave pins σ _ _ er s' inv2 got
  · cases fl with
    | ret v =>
      obtain ⟨y, H', inv3, ry, ey, q⟩ := inv2.after got
      subst ey
      exact ⟨ry, V.ref (s.heap.objs.size + 1), H', inv3, rfl, q⟩
    | _ => exact got.elim
/-- one keyword's value, then the maker -/
def KwMk (C : Addr) (sp : Sp) (E : XK) (Q : VK) (vs : List V) (zs : List V) (H : Hp) : Prop := ∃ z, zs = [z] ∧ Makes C sp E Q z vs H
/-- C(e, .., kw=v) -/
def tMakeKW (C : Addr) (sp : Sp) (E : XK) (t tk : TA) : TE := fun σ H Q => t σ H fun vs H1 => tk σ H1 (KwMk C sp E Q vs)
theorem pe_makeKW {tk : TA} (M : MakeRK X.prog X.w X.K X.mg X.base x C k kw sp) (room : Room (k + 1) X.A) (leave : Passes (CXW X.prog X.w) X E) (args : PA X (e :: es) t) (key : PK X [⟨some kw, ke, kpos⟩] tk) (glob : Gl X x := by rfl) (nodeb : (x == ("__debug__" : Str)) = false := by decide)
    (named : (backToKw pos (keywordEach [⟨some kw, ke, kpos⟩] X.env)).all (·.1.isSome) = true := by rfl) (nm : (backToKw pos (keywordEach [⟨some kw, ke, kpos⟩] X.env)).filterMap (·.1) = [kw] := by rfl)
    (plain : ((backTo pos (starEach (e :: es) X.env)).any (·.1) || (backToKw pos (keywordEach [⟨some kw, ke, kpos⟩] X.env)).any (·.1.isNone)) = false := by rfl) (one : starEach (e :: es) X.env = (false, eval e X.env) :: starEach es X.env := by rfl) :
    PE X (.Call (.Name x p) (e :: es) [⟨some kw, ke, kpos⟩] pos) (tMakeKW C sp E t tk) := by
  constructor
  intro pn s σ H Q inv h
  obtain ⟨g, made, F⟩ := M.ex
  refine wpAny_Call_Name_kw (ld_glob inv glob M.at_ (PySem.W.callWith_KW (h₀ := X.base) inv.ok.mod.kin made.kp named (thn (args.run pos pn s σ H _ inv h) ?_) plain one) nodeb)
  rintro us s1 ⟨vs, H1, inv1, rel, q⟩
  refine thn (key.run pos pn s1 σ H1 _ inv1 q) ?_
  rintro ws s2 ⟨_, H2, inv2, relz, z, rfl, owed⟩
  obtain ⟨u, rfl, ru⟩ := vals1 relz
  refine ⟨inv2.kIn, ?_⟩
  rw [nm]
  exact run_makeRK made F room leave inv2 rel ru owed
/-- C( *e, kw=v): e's value, the keyword's, then e's items -/
def tMakeSKW (K : PySem.W.Frag) (C : Addr) (sp : Sp) (E : XK) (te : TE) (tk : TA) : TE := fun σ H Q => te σ H fun y H1 => tk σ H1 fun zs H2 => ∃ a xs, y = V.ref a ∧ (SqT K H2 a xs ∨ SqL K H2 a xs) ∧ KwMk C sp E Q xs zs H2
theorem pe_makeSKW {tk : TA} (M : MakeRK X.prog X.w X.K X.mg X.base x C k kw sp) (room : Room (k + 1) X.A) (leave : Passes (CXW X.prog X.w) X E) (arg : PE X e te) (key : PK X [⟨some kw, ke, kpos⟩] tk) (glob : Gl X x := by rfl) (nodeb : (x == ("__debug__" : Str)) = false := by decide)
    (named : (backToKw pos (keywordEach [⟨some kw, ke, kpos⟩] X.env)).all (·.1.isSome) = true := by rfl) (nm : (backToKw pos (keywordEach [⟨some kw, ke, kpos⟩] X.env)).filterMap (·.1) = [kw] := by rfl) (one : starEach [.Starred e apos] X.env = [(true, eval e X.env)] := by rfl) :
    PE X (.Call (.Name x p) [.Starred e apos] [⟨some kw, ke, kpos⟩] pos) (tMakeSKW X.K C sp E te tk) := by
  constructor
  intro pn s σ H Q inv h
  obtain ⟨g, made, F⟩ := M.ex
  refine wpAny_Call_Name_kw (ld_glob inv glob M.at_ (callWith_SKW made.kp named (thn (arg.run pn s σ H _ inv h) ?_) one) nodeb)
  rintro v s1 ⟨y, H1, inv1, rel, q⟩
  refine thn (key.run pos pn s1 σ H1 _ inv1 q) ?_
  rintro ws s2 ⟨_, H2, inv2, relz, a, xs, rfl, sq, z, rfl, owed⟩
  obtain ⟨u, rfl, ru⟩ := vals1 relz
  cases rel
  refine StX.star_any inv2 sq fun us s3 inv3 rv => ⟨inv3.kIn, ?_⟩
  rw [nm]
  exact run_makeRK made F room leave inv3 rv ru owed
end
section
variable {X : Cx} {K : PySem.W.Frag} {H : Hp} {Q : VK} {σ : L2.St} {C : Addr} {sp : Sp} {E : XK} {t tk : TA} {te : TE} {c : Expr}
theorem as_skw (K) (h : PE X c (tMakeSKW X.K C sp E te tk)) (hK : X.K = K := by rfl) : PE X c (tMakeSKW K C sp E te tk) := by subst hK; exact h
theorem n_own2 {a b dx dy : Addr} {fs gs : List (Str × V)} (h1 : H a = some (.ins C dx fs)) (h2 : H b = some (.ins C dy gs)) (h : sp [.ref a, .ref b] H Q E0) : rOwn2 C sp (.ref a) (.ref b) H Q := ⟨a, b, dx, dy, fs, gs, rfl, rfl, h1, h2, h⟩
theorem g_mkw (h : t σ H fun vs H1 => tk σ H1 (KwMk C sp E Q vs)) : tMakeKW C sp E t tk σ H Q := h
/-- the items of what stood behind the star, then the maker -/
def SkwK (K : PySem.W.Frag) (C : Addr) (sp : Sp) (E : XK) (Q : VK) (y : V) (zs : List V) (H : Hp) : Prop := ∃ a xs, y = V.ref a ∧ (SqT K H a xs ∨ SqL K H a xs) ∧ KwMk C sp E Q xs zs H
theorem g_mskw (h : te σ H fun y H1 => tk σ H1 (SkwK K C sp E Q y)) : tMakeSKW K C sp E te tk σ H Q := h
theorem n_mskw {a : Addr} {xs zs : List V} (h1 : SqT K H a xs ∨ SqL K H a xs) (h : KwMk C sp E Q xs zs H) : SkwK K C sp E Q (.ref a) zs H := ⟨a, xs, rfl, h1, h⟩
theorem n_kwmk {vs : List V} {z : V} (h : ∀ x dx H', H x = none → H dx = none → dx ≠ x → Same H H' → H' x = some (.ins C dx []) → H' dx = some (.own x) → sp (z :: .ref x :: vs) H' (fun v H2 => v = .non ∧ Q (.ref x) H2) E) : KwMk C sp E Q vs [z] H :=
  ⟨z, rfl, fun x dx hx hd ne => h x dx _ hx hd ne ((same_new hd).trans (same_new (by rw [upd_ne (Ne.symm ne)]; exact hx))) upd_same (by rw [upd_ne ne]; exact upd_same)⟩
theorem g_add_t {a b : Addr} {xs ys : List V} (h1 : SqT K H a xs) (h2 : SqT K H b ys) (hz : xs.length + ys.length ≤ sizeLine) (h : ∀ p H', Same H H' → SqT K H' p (xs ++ ys) → Q (.ref p) H') : uAdd K (.ref a) (.ref b) H Q := by
  refine .inr (.inr (.inr ⟨a, b, xs, ys, rfl, rfl, h1, h2, hz, fun e => ?_, fun _ e => ?_, fun _ _ p hp => h p _ (same_new hp) (SqT.of upd_same)⟩))
  · subst e
    exact h b H (Same.refl H) h2
  · subst e
    exact h a H (Same.refl H) (by simpa using h1)
end
theorem dpa_app {K : PySem.W.Frag} {H : Hp} : ∀ {vs us : List V} {ds es : List PyData}, DpAll K H vs ds → DpAll K H us es → DpAll K H (vs ++ us) (ds ++ es)
  | _, _, _, _, .nil, b => b
  | _, _, _, _, .cons a r, b => .cons a (dpa_app r b)
theorem dpa_drop {K : PySem.W.Frag} {H : Hp} : ∀ {vs : List V} {ds : List PyData} (n : Nat), DpAll K H vs ds → DpAll K H (vs.drop n) (ds.drop n)
  | _, _, 0, h => h
  | _, _, _ + 1, .nil => .nil
  | _, _, n + 1, .cons _ t => dpa_drop n t
end HC
/-! set(t) of a tuple of texts that differ, and its length -/
namespace HC
open PyProof.Rows PySem L2 PySem.Spec
section
variable {P : Program} {w : World} {A : Around} {E : Value → Shared → Prop} {s : Shared} {I S : Addr} {fp wr : List Addr} {Pv : Nat → Value → Prop} {St : Nat → Heap → Prop} {R : Result → Shared → Prop}
/-- a set is what its own record says -/
theorem setOf_kept {h h' : Heap} {B : Str → Bool} {n : Nat} (has : h.SetOf (PySem.strKind P w) S B n) (same : ∀ o, h.get? S = some o → h'.get? S = some o) : h'.SetOf (PySem.strKind P w) S B n := by
  obtain ⟨o, es, ep, t, at_, rest⟩ := has
  exact ⟨o, es, ep, t, same o at_, rest⟩
/-- one turn of set.update's loop -/
abbrev upTurn (S I : Addr) : Code := .builtin "set.update.loop" ⟨[.ref S, .ref I], []⟩
theorem upIn (h : wpAny (model P w) A.in1 (Builtin.«set.update.loop» ⟨[.ref S, .ref I], []⟩) (fun fin s' => match fin with
    | .done f => R (.ok f) s'
    | .again c => c.quiet = true ∧ codeAny (model P w) A c R s') (fun e s' => R (.error e) s') s) : codeAny (model P w) A (upTurn S I) R s :=
  codeAny_builtin F.entry_set_update_loop (by rw [Around.under_plainId F.plain_set_update_loop]; exact h)
/-- set.update's loop over any walk that gives the texts zs, all new -/
theorem fills {zs : List Str} (W : Walks P w A.in1 I fp wr zs.length Pv St) (off : S ∉ fp) (nz : zs.Nodup) (room : zs.length + 1 < scanBound) (val : ∀ i v, Pv i v → ∃ z t, zs[i]? = some z ∧ v = Value.str z t) (more : Nat) : ∀ (i : Nat) (s : Shared), i + more = zs.length → St i s.heap →
    s.heap.SetOf (PySem.strKind P w) S (fun z => decide (z ∈ zs.take i)) i →
    (∀ h' tk, (∀ b o, b ∉ S :: wr → s.heap.get? b = some o → h'.get? b = some o) → h'.SetOf (PySem.strKind P w) S (fun z => decide (z ∈ zs)) zs.length → R (.ok (.ret .none)) { s with heap := h', toks := tk }) →
    codeAny (model P w) A (upTurn S I) R s := by
  have offw : S ∉ wr := fun z => off (W.sub _ z)
  induction more with
  | zero =>
    intro i s sum now has done
    have last : i = zs.length := sum
    subst last
    rw [List.take_length] at has
    apply upIn
    refine wpAny_bind (W.done s _ _ now fun h' tk same => wpAny_pure (done h' tk (fun b o nb => same b o fun z => nb (List.mem_cons_of_mem _ z)) ?_))
    exact setOf_kept has fun o e => same S o offw e
  | succ more ih =>
    intro i s sum now has done
    have lt : i < zs.length := by omega
    apply upIn
    refine wpAny_bind (W.item i s _ _ lt now fun v h' tk pv now' same => ?_)
    obtain ⟨z, t, hz, rfl⟩ := val i v pv
    have fresh : z ∉ zs.take i := fun hm => by
      have ⟨j, hj⟩ := List.getElem?_of_mem hm
      rw [List.getElem?_take] at hj
      split at hj
      · rename_i ji
        have := (List.getElem?_inj (by omega) nz).mp (hj.trans hz.symm)
        omega
      · cases hj
    have has' : h'.SetOf (PySem.strKind P w) S (fun y => decide (y ∈ zs.take i)) i := setOf_kept has fun o e => same S o offw e
    apply wpAny_bind; apply wpAny_holding
    unfold setAdd
    refine wpAny_holding (wpAny_bind ((PySem.strKind P w).pyHash (k := z) ?_ ?_))
    · exact PySem.strKind_is P w z t
    refine wpAny_setAddHashed_of (knd := PySem.strKind P w) (s := { s with heap := h', toks := tk + 1 }) (PySem.strKind_is P w z t) rfl has' (by omega) fun h2 but has2 => ?_
    rw [decide_eq_false fresh] at has2
    have has3 : h2.SetOf (PySem.strKind P w) S (fun y => decide (y ∈ zs.take (i + 1))) (i + 1) := SetOf_congr has2 (fun y => by rw [List.take_add_one, hz]; simp [List.mem_append]) rfl
    refine wpAny_pure ⟨plainId_quiet F.plain_set_update_loop _, ih (i + 1) _ (by omega) (W.frame _ _ _ now' fun b hb o e => ?_) has3 fun h3 tk3 same3 fin => ?_⟩
    · rw [but.2 b fun q => off (q ▸ hb)]
      exact e
    · refine done h3 tk3 (fun b o nb e => same3 b o nb ?_) fin
      show h2.get? b = some o
      rw [but.2 b fun q => nb (q ▸ List.mem_cons_self)]
      exact same b o (fun q => nb (List.mem_cons_of_mem _ q)) e
/-- T(args) of a built-in class, its __init__ run as it stands -/
theorem callType_by {T newId initId : String} {args : List Value} {Q Q₁ : Value → Shared → Prop} (ft : TypeCalled T newId initId) (fit : checkTypeCall T ⟨args, []⟩ = pure ())
    (new : codeAny (model P w) A.in1 (.call (.builtin newId) ⟨.type T :: args, []⟩) (wants Q₁ E) s)
    (next : ∀ obj s₁, Q₁ obj s₁ → s₁.TypeIs obj T ∧ codeAny (model P w) A.in1 (.call (.builtin initId) ⟨obj :: args, []⟩) (wants (fun r s₂ => r = .none ∧ Q obj s₂) E) s₁) : wpAny (model P w) A (call (.type T) args) Q E s := by
  obtain ⟨first, others, mro⟩ := ft.mro
  have made := ft.made
  have sub := ft.sub
  have notT := ft.notType
  have can := ft.canCreate
  apply wpAny_call
  apply codeAny_of_tree
  change wpAny _ _ (callAny (.type T) _) _ _ _
  apply wpAny_pure
  refine ⟨Code.quiet_builtin _ (by decide +kernel), codeAny_builtin F.entry_type_call ?_⟩
  have same := Around.under_plain (A := A) (weight_type_call_type T args []) (units_type_call_type T args [])
  rw [same]
  repeat any_goals first | assumption | wp_step
  refine codeAny_mono new ?_
  rintro (er | fl) s1 got
  · exact got
  · cases fl with
    | ret obj =>
      obtain ⟨is, run⟩ := next obj s1 got
      have look := ft.init.lookup
      have bound := ft.init.bind obj
      repeat any_goals first | assumption | wp_step
      refine codeAny_mono run ?_
      rintro (er | fl) s2 back
      · exact back
      · cases fl with
        | ret v =>
          obtain ⟨rfl, q⟩ := back
          exact wpAny_pure (wpAny_pure q)
        | _ => exact back
    | _ => exact got
/-- set(t) -/
theorem call_setS {l : Addr} {cells : Array Value} {zs : List Str} {Q : Value → Shared → Prop} (calm : A.handled = none) (tup : s.heap.IsTuple l cells) (size : cells.size = zs.length) (texts : ∀ (i : Nat) (v : Value), cells[i]? = some v → ∃ z t, zs[i]? = some z ∧ v = Value.str z t) (nz : zs.Nodup) (room : zs.length + 1 < scanBound)
    (go : ∀ h' tk, h'.SetOf (PySem.strKind P w) s.heap.objs.size (fun z => decide (z ∈ zs)) zs.length → (∀ b o, s.heap.get? b = some o → h'.get? b = some o) → Q (.ref s.heap.objs.size) { s with heap := h', toks := tk }) :
    wpAny (model P w) A (call (Value.type "set") [Value.ref l]) Q E s := by
  refine callType_by F.called_set (F.typeCall_set_1 _) (code_set_new_1 (.ref l) (Q₁ := fun obj s1 => obj = .ref s.heap.objs.size ∧ ∃ led, s1 = { s with heap := s.heap.push { cls := .type "set", dict := none, data := .set #[] 0 (.fresh 0 0 led) } }) fun led => ⟨rfl, led, rfl⟩) ?_
  rintro _ _ ⟨rfl, led, rfl⟩
  have at_ : (s.heap.push { cls := .type "set", dict := none, data := .set #[] 0 (.fresh 0 0 led) }).get? s.heap.objs.size = some { cls := .type "set", dict := none, data := .set #[] 0 (.fresh 0 0 led) } := Heap.get?_push_size _ rfl
  have is : Shared.TypeIs { s with heap := s.heap.push { cls := .type "set", dict := none, data := .set #[] 0 (.fresh 0 0 led) } } (.ref s.heap.objs.size) "set" := ⟨_, at_, rfl⟩
  have subTS : isSubtype (.type "tuple") (.type "set") = pure false := by rw [isSubtype_type]; kernel_rfl
  have subTF : isSubtype (.type "tuple") (.type "frozenset") = pure false := by rw [isSubtype_type]; kernel_rfl
  have tup' : (s.heap.push { cls := .type "set", dict := none, data := .set #[] 0 (.fresh 0 0 led) }).IsTuple l cells := tup.at fun o e => Heap.get?_push_of_some _ e
  obtain ⟨⟨c, dct, dt, sl⟩, getT, clsT, n, datT⟩ := tup'
  simp only at clsT datT
  subst clsT datT
  refine ⟨is, codeAny_call_builtin F.called_set.init.plain F.entry_set_init (check_set_init_1 is ?_)⟩
  have isT : Heap.IsTuple (s.heap.push { cls := .type "set", dict := none, data := .set #[] 0 (.fresh 0 0 led) }) l cells := ⟨_, getT, rfl, n, rfl⟩
  unfold Builtin.«set.__init__»
  wp_walk using PySem.AutoSeq1.wpAny_loadPart' at_, PySem.AutoSeq1.wpAny_loadPart' getT, wpAny_pyIter_tuple isT
  have sz : (s.heap.push { cls := .type "set", dict := none, data := .set #[] 0 (.fresh 0 0 led) }).objs.size = s.heap.objs.size + 1 := Heap.size_push ..
  have low : l < s.heap.objs.size := by
    obtain ⟨o, z, _⟩ := tup
    exact Heap.lt_size z
  have W := Walks.tuple (prog := P) (w := w) (A := A.in1.in1.in1) calm (s.heap.push { cls := .type "set", dict := none, data := .set #[] 0 (.fresh 0 0 led) }).objs.size l (by rw [sz]; exact Nat.ne_of_lt (Nat.lt_succ_of_lt low)) cells
  rw [size] at W
  refine fills (S := s.heap.objs.size) W ?_ nz room (fun i v h => texts i v h) zs.length 0 _ (Nat.zero_add _) ⟨⟨_, Heap.get?_push_size _ rfl, rfl, rfl⟩, isT.at fun o e => Heap.get?_push_of_some _ e⟩ ?_ ?_
  · simp only [List.mem_cons, List.not_mem_nil, or_false, not_or, sz]
    exact ⟨Nat.ne_of_lt (Nat.lt_succ_self _), Nat.ne_of_gt low⟩
  · exact SetOf_congr ((setObjOf_fresh led).setOf (Heap.get?_push_of_some _ at_) (by decide)) (fun y => by simp) rfl
  · intro h' tk same fin
    refine wpAny_pure (wpAny_pure ⟨rfl, go h' tk fin fun b o e => same b o ?_ (Heap.get?_push_of_some _ (Heap.get?_push_of_some _ e))⟩)
    have lt := Heap.lt_size e
    simp only [List.mem_cons, List.not_mem_nil, or_false, not_or, sz]
    exact ⟨Nat.ne_of_lt lt, Nat.ne_of_lt (Nat.lt_succ_of_lt lt)⟩
end
/-- len(set(e)), e a tuple of texts that differ -/
def tLenSet (K : PySem.W.Frag) (te : TE) : TE := fun σ H Q => te σ H fun y H1 => ∃ (a : Addr) (zs : List Str), y = V.ref a ∧ SqT K H1 a (zs.map V.str) ∧ zs.Nodup ∧ zs.length ≤ 1000 ∧ Q (.int zs.length) H1
theorem pe_lenSet {X : Cx} {e : Expr} {te : TE} {p p2 q pos : Pos} (calm : X.calm = true) (gl : Gl X "len") (ml : X.mg "len" = none) (gs : Gl X "set") (ms : X.mg "set" = none) (arg : PE X e te) (one : starEach [e] X.env = (false, eval e X.env) :: starEach [] X.env := by rfl) :
    PE X (.Call (.Name "len" p) [.Call (.Name "set" p2) [e] [] q] [] pos) (tLenSet X.K te) := by
  constructor
  intro pn s σ H Q inv h
  refine Call_ (ld_blt inv gl ml PySem.boot_len (PyProof.Rows.callWith_builtin1 (PyProof.Rows.args_cons ?_ rfl) rfl rfl))
  refine Call_ (ld_blt inv gs ms PyProof.Rows.boot_set ?_)
  refine PyProof.Rows.callWith_type1 (PyProof.Rows.args_cons (thn (arg.run pn s σ H _ inv h) ?_) one) one rfl
  rintro v s1 ⟨y, H1, inv1, rel, a, zs, rfl, sq, nz, few, q⟩
  cases rel
  apply PyProof.Rows.args_nil
  obtain ⟨cells, vals, tup, _⟩ := inv1.tuple sq
  have len : cells.length = zs.length := by
    have := vals.length
    simpa using this.symm
  refine call_setS (inv1.ok.hd calm) tup (by simpa using len) (fun i v at_ => ?_) nz (by unfold scanBound; omega) fun h' tk has same => ?_
  · rw [List.getElem?_toArray] at at_
    have lt : i < zs.length := by
      have := (List.getElem?_eq_some_iff.mp at_).1
      omega
    obtain ⟨u, hu, ru⟩ := vals.get (i := i) (x := V.str zs[i]) (by simp [lt])
    rw [hu] at at_
    cases at_
    obtain ⟨t, rfl⟩ := ru
    exact ⟨zs[i], t, List.getElem?_eq_getElem lt, rfl⟩
  · apply PyProof.Rows.args_nil
    obtain ⟨o, es, ep, tb, at_, exact_, dat, _, _, _, fits, num⟩ := has
    have inv2 : L2.Inv X pn σ H1 { s1 with heap := h', toks := tk } := inv1.kept same
    refine call_len_set at_ exact_ dat fits (by rw [num]; omega) ⟨V.int zs.length, H1, inv2.tok _, ⟨_, by rw [num]⟩, q⟩
theorem as_lenSet {X : Cx} (K) {c : Expr} {te : TE} (h : PE X c (tLenSet X.K te)) (hK : X.K = K := by rfl) : PE X c (tLenSet K te) := by subst hK; exact h
/-- what len(set( .. )) asks of the tuple -/
def LsK (K : PySem.W.Frag) (Q : VK) : VK := fun y H1 => ∃ (a : Addr) (zs : List Str), y = V.ref a ∧ SqT K H1 a (zs.map V.str) ∧ zs.Nodup ∧ zs.length ≤ 1000 ∧ Q (.int zs.length) H1
theorem g_lenSet {K : PySem.W.Frag} {te : TE} {σ : L2.St} {H : Hp} {Q : VK} (h : te σ H (LsK K Q)) : tLenSet K te σ H Q := h
theorem n_lenSet {K : PySem.W.Frag} {H : Hp} {Q : VK} {a : Addr} {zs : List Str} (h1 : SqT K H a (zs.map V.str)) (h2 : zs.Nodup) (h3 : zs.length ≤ 1000) (h : Q (.int zs.length) H) : LsK K Q (.ref a) H := ⟨a, zs, rfl, h1, h2, h3, h⟩
end HC
/-! facts carried along heaps -/
namespace HC
open PyProof.Rows PySem L2 PySem.Spec
theorem same_at {H H' : Hp} {a : Addr} {o : HO} (e : Same H H') (h : H a = some o) : H' a = some o := e _ _ h
theorem keep_at {H H' : Hp} {d a : Addr} {o : HO} (e : Keep d H H') (n : a ≠ d) (h : H a = some o) : H' a = some o := e _ _ n h
/-- what stood before d was made stands when d changes -/
theorem same_keep {H0 H H' : Hp} {d : Addr} (s : Same H0 H) (n : H0 d = none) (e : Keep d H H') : Same H0 H' := fun b o h => e b o (ne_of_none h n) (s b o h)
theorem same_mid {H0 H1 H : Hp} {d : Addr} (s : Same H0 H1) (n : H1 d = none) : H0 d = none := s.free n
theorem sqt_keep {K : PySem.W.Frag} {H H' : Hp} {d a : Addr} {xs ys : List V} (e : Keep d H H') (hd : H d = some (.lst ys)) (h : SqT K H a xs) : SqT K H' a xs := keep_t e (notT_l hd) h
/-- a chain link of the list at l: items are only added -/
theorem app_tail {α : Type} (l : List α) (i : Nat) {x : α} (h : l[i]? = some x) : l.take (i + 1) = l.take i ++ [x] := by rw [List.take_add_one, h]; rfl
/-! a comprehension with a test: what passes, in order -/
section
variable {α : Type} {K : PySem.W.Frag} {H : Hp} {Q : VK} {σ : L2.St} {g : TG} {tt : TT} {te : TE} {vs : List Nat}
def PFilt (xs : List α) (p : α → Bool) (f : α → V) (H1 : Hp) : Nat → List V → Hp → Prop := fun i acc H' => Same H1 H' ∧ acc = ((xs.take i).filter p).map f
theorem n_filtT {xs : List α} {p : α → Bool} {f : α → V} {H1 : Hp} {C : Addr} {i : Nat} {x : α} {y : V} (hx : xs[i]? = some x) (hp : p x = true) (e : y = f x) (hC : H1 C = none) (h1 : Same H1 H) (h2 : H C = some (.lst (((xs.take i).filter p).map f))) (hn : i < 1000000 := by omega) : LcK C (NxP (PFilt xs p f H1) C (i + 1)) y H := by
  have hl : (((xs.take i).filter p).map f).length ≤ i := by
    rw [List.length_map]
    exact Nat.le_trans (List.length_filter_le _ _) (by rw [List.length_take]; exact Nat.min_le_left _ _)
  refine n_lcK h2 (by omega) (by omega) fun H' k hc => ⟨fun b o e => k _ _ (ne_of_none e hC) (h1 _ _ e), ?_⟩
  rw [app_tail _ _ hx, List.filter_append, List.map_append, e]
  simp [hp]
theorem n_filtF {xs : List α} {p : α → Bool} {f : α → V} {H1 : Hp} {C : Addr} {i : Nat} {x : α} (hx : xs[i]? = some x) (hp : p x = false) (h1 : Same H1 H) (h2 : H C = some (.lst (((xs.take i).filter p).map f))) : NxP (PFilt xs p f H1) C (i + 1) H := by
  have hl : (((xs.take i).filter p).map f).length ≤ i := by
    rw [List.length_map]
    exact Nat.le_trans (List.length_filter_le _ _) (by rw [List.length_take]; exact Nat.min_le_left _ _)
  refine n_lcN h2 (by omega) ⟨h1, ?_⟩
  rw [app_tail _ _ hx, List.filter_append]
  simp [hp]
theorem lc_filt {J : It} {G : Hp → Prop} {Y : Nat → Hp → V → Hp → Prop} (xs : List α) (w : Walk J xs.length G Y) (p : α → Bool) (f : α → V) {H1 : Hp} (hG : ∀ H, Same H1 H → G H)
    (hs : ∀ C i x v H H', H1 C = none → xs[i]? = some x → i < xs.length → Same H1 H → H C = some (.lst (((xs.take i).filter p).map f)) → Y i H v H' → g v (wipe σ vs) H' fun σ2 H2 => wipe σ2 vs = wipe σ vs ∧ tt σ2 H2 (LcIf C te σ2 (NxP (PFilt xs p f H1) C (i + 1))))
    (hd : ∀ C H, H1 C = none → Same H1 H → H C = some (.lst ((xs.filter p).map f)) → Q (.ref C) H) : LcJ J g tt te vs σ Q H1 := by
  refine lc_run w (PFilt xs p f H1) (fun C H' nC s h => ⟨s, by simp⟩) (fun i acc H C nC hC ⟨s, _⟩ => hG H s) ?_ ?_
  · rintro C i acc v H H' nC hi hl hC ⟨s, rfl⟩ y
    exact hs C i xs[i] v H H' nC (List.getElem?_eq_getElem hi) hi s hC y
  · rintro C acc H nC hC ⟨s, rfl⟩
    rw [List.take_length] at hC
    exact hd C H nC s hC
end
/-! keeping lists of data that hold no list -/
theorem dpa_keep {K : PySem.W.Frag} {H H' : Hp} {d : Addr} {ys vs : List V} {xs : List PyData} (e : Keep d H H') (hd : H d = some (.lst ys)) (n : noLs xs = true) (h : DpAll K H vs xs) : DpAll K H' vs xs := dp_keepAll e (notT_l hd) xs vs n h
theorem noLs_map {α : Type} {f : α → PyData} (l : List α) (h : ∀ x, noL (f x) = true) : noLs (l.map f) = true := noLs_of fun d hd => by
  obtain ⟨x, _, rfl⟩ := List.mem_map.mp hd
  exact h x
/-! isinstance(e, (tuple, list)) -/
section
variable {X : Cx} {e : Expr} {te : TE} {p pos p1 p2 tpos : Pos} {kk : Nat} {K : PySem.W.Frag} {H : Hp} {Q : VK} {σ : L2.St}
def tIsTT (K : PySem.W.Frag) (te : TE) : TE := tCB (rIsiT K) (tCons te (tCons (tTup (tCons (tC (.ty "tuple")) (tCons (tC (.ty "list")) tNil))) tNil))
theorem pe_isiTT (K' : PySem.W.Frag) (m : Bts X.mg) (he : PE X e te) (hg : Gl X "isinstance" := by rfl) (hg1 : Gl X "tuple" := by rfl) (hg2 : Gl X "list" := by rfl)
    (hs : starEach [e, .Tuple [.Name "tuple" p1, .Name "list" p2] kk tpos] X.env = (false, eval e X.env) :: starEach [.Tuple [.Name "tuple" p1, .Name "list" p2] kk tpos] X.env := by rfl) (hK : X.K = K' := by rfl) :
    PE X (.Call (.Name "isinstance" p) [e, .Tuple [.Name "tuple" p1, .Name "list" p2] kk tpos] [] pos) (tIsTT K' te) := by
  subst hK
  exact pe_callB (p := p) (pos := pos) call_isiT hg m.isinstance bt_isinstance (pa_cons he (pa_cons (pe_tup (pa_cons (pe_bltn (v := .ty "tuple") hg1 m.tuple bt_tuple rfl (by decide) (by decide)) (pa_cons (pe_bltn (v := .ty "list") hg2 m.list bt_list rfl (by decide) (by decide)) pa_nil))) pa_nil) hs) (by decide) (by decide) hs rfl
def IsTTK (K : PySem.W.Frag) (Q : VK) : VK := fun x H1 => NewT [.ty "tuple", .ty "list"] H1 fun y H2 => rIsiT K [x, y] H2 Q
theorem g_isTT (h : te σ H (IsTTK K Q)) : tIsTT K te σ H Q := h
theorem n_isTT {x : V} {t : String} {b c : Bool} (h0 : ∀ H', Same H H' → TyX K H' x (.type t)) (h1 : kitB t "tuple" = some b) (h2 : kitB t "list" = some c) (h : ∀ H', Same H H' → Q (.bl (b || c)) H') : IsTTK K Q x H := by
  refine ⟨by simp [sizeLine_eq], fun T hT => ?_⟩
  have s := same_new (o := .tup [.ty "tuple", .ty "list"]) hT
  refine ⟨x, T, _, .type t, [.type "tuple", .type "list"], b || c, rfl, upd_same, .cons (.ty _) (.cons (.ty _) .nil), h0 _ s, ?_, h _ s⟩
  refine kitAny_cons (kit_ty h1) (fun e => ?_) (fun e => by rw [e]; rfl)
  subst e
  refine kitAny_cons (kit_ty h2) (fun e => ?_) (fun e => by rw [e]; rfl)
  subst e
  rfl
end
/-- a list or a tuple, by its type's name -/
def SqQ (K : PySem.W.Frag) (H : Hp) (T : String) (a : Addr) (xs : List V) : Prop := (T = "list" ∧ SqL K H a xs) ∨ (T = "tuple" ∧ SqT K H a xs)
theorem SqQ.same {K : PySem.W.Frag} {H H' : Hp} {T : String} {a : Addr} {xs : List V} (e : Same H H') (h : SqQ K H T a xs) : SqQ K H' T a xs := h.imp (fun z => ⟨z.1, same_l e z.2⟩) (fun z => ⟨z.1, same_t e z.2⟩)
theorem SqQ.or {K : PySem.W.Frag} {H : Hp} {T : String} {a : Addr} {xs : List V} (h : SqQ K H T a xs) : SqL K H a xs ∨ SqT K H a xs := h.imp (·.2) (·.2)
end HC
/-! list(text); dicts: made of pairs, read, stored -/
namespace HC
open PyProof.Rows PySem L2 PySem.Spec
/-- the signs of a text, one by one -/
def signs (z : Str) : List Str := z.cps.toList.map fun c => ⟨#[c]⟩
def rListS : List V → Hp → VK → Prop := fun xs H Q => ∃ z : Str, xs = [.str z] ∧ z.cps.size ≤ sizeLine ∧ ∀ l, H l = none → Q (.ref l) (upd H l (.lst ((signs z).map V.str)))
theorem vals_signs {z : Str} {acc : Array Value} (h : ItemsOf (SignAt z) acc z.cps.size) : Vals ((signs z).map V.str) acc.toList := by
  have key : ∀ (cs : List Nat) (us : List Value), cs.length = us.length → (∀ (j : Nat) v, us[j]? = some v → ∃ c u, cs[j]? = some c ∧ v = Value.str ⟨#[c]⟩ u) → Vals (cs.map fun c => V.str ⟨#[c]⟩) us := by
    intro cs
    induction cs with
    | nil => intro us hl _; cases us with | nil => exact .nil | cons _ _ => simp at hl
    | cons c cs ih =>
      intro us hl hj
      cases us with
      | nil => simp at hl
      | cons u us =>
        obtain ⟨c', t, h1, h2⟩ := hj 0 u rfl
        cases h1
        refine .cons ⟨t, h2⟩ (ih us (by simpa using hl) fun j v hv => ?_)
        exact hj (j + 1) v (by simpa using hv)
  have e : (signs z).map V.str = z.cps.toList.map fun c => V.str ⟨#[c]⟩ := by simp [signs]
  rw [e]
  refine key _ _ (by simp [h.1]) fun j v hv => ?_
  obtain ⟨c, u, h1, h2⟩ := h.2 j v (by simpa using hv)
  exact ⟨c, u, by simpa using h1, h2⟩
section
variable {X : Cx} {e o i value : Expr} {te td ty tv : TE} {p pos pos' : Pos} {K : PySem.W.Frag} {H : Hp} {Q : VK} {σ : L2.St} {D : Ends}
theorem call_list_txt (calm : X.calm = true) : CallR X (.type "list") rListS := by
  rintro pins s σ H xs us Q inv rel ⟨z, rfl, hz, q⟩
  obtain ⟨_, rfl, t, rfl⟩ := vals1 rel
  refine call_list_str (inv.ok.hd calm) z t (fun h' tk acc c kept at_ items => ?_) hz
  have rv := vals_signs items
  have len : ((signs z).map V.str).length ≤ sizeLine := by simpa [signs] using hz
  exact ⟨.ref s.heap.objs.size, _, inv.laid (t' := tk) kept (Nat.le_refl _) (show ObjOk X.prog X.w _ h' _ (.lst _) from ⟨len, acc.toList, c, rv, at_⟩), rfl, q _ (inv.hok.fresh (Nat.le_refl _))⟩
theorem pe_listTxt (m : Bts X.mg) (he : PE X e te) (calm : X.calm = true := by rfl) (hg : Gl X "list" := by rfl) (hs : starEach (e :: []) X.env = (false, eval e X.env) :: starEach [] X.env := by rfl) : PE X (.Call (.Name "list" p) [e] [] pos) (tCB rListS (tCons te tNil)) :=
  pe_callTy (call_list_txt calm) hg m.list bt_list (pa_cons he pa_nil hs) (by decide) (by decide) hs rfl
theorem g_listS {z : Str} (hz : z.cps.size ≤ sizeLine) (h : ∀ l H', H l = none → Same H H' → H' l = some (.lst ((signs z).map V.str)) → Q (.ref l) H') : rListS [.str z] H Q := ⟨z, rfl, hz, fun l hl => h l _ hl (same_new hl) upd_same⟩
/-! dicts -/
def rDictP (K : PySem.W.Frag) : List V → Hp → VK → Prop := fun xs H Q => ∃ (a : Addr) (ps : List Addr) (kvs : List (Key × V)), xs = [.ref a] ∧ SqL K H a (ps.map V.ref) ∧ Paired (fun p kv => SqT K H p [kV kv.1, kv.2]) ps kvs ∧ ∀ p, H p = none → Q (.ref p) (upd H p (.dK (mergeK [] kvs)))
theorem pe_dictP (K' : PySem.W.Frag) (m : Bts X.mg) (he : PE X e te) (calm : X.calm = true := by rfl) (hg : Gl X "dict" := by rfl) (hs : starEach (e :: []) X.env = (false, eval e X.env) :: starEach [] X.env := by rfl) (hK : X.K = K' := by rfl) : PE X (.Call (.Name "dict" p) [e] [] pos) (tCB (rDictP K') (tCons te tNil)) := by
  subst hK
  exact pe_callTy (call_dictP calm) hg m.dict bt_dict (pa_cons he pa_nil hs) (by decide) (by decide) hs rfl
theorem g_dictP {a : Addr} {ps : List Addr} {kvs : List (Key × V)} (h1 : SqL K H a (ps.map V.ref)) (h2 : Paired (fun p kv => SqT K H p [kV kv.1, kv.2]) ps kvs) (h : ∀ l H', H l = none → Same H H' → H' l = some (.dK (mergeK [] kvs)) → Q (.ref l) H') : rDictP K [.ref a] H Q := ⟨a, ps, kvs, rfl, h1, h2, fun l hl => h l _ hl (same_new hl) upd_same⟩
/-- d[y]: what is asked of the dict -/
def DgK (y : V) (Q : VK) (x : V) : Hp → Prop := fun H => ∃ a v, x = .ref a ∧ DGet H a y (some v) ∧ Q v H
theorem g_dget (h : td σ H fun x H1 => ty σ H1 fun y H2 => DgK y Q x H2) : tDGet td ty σ H Q := h
theorem n_dget {a : Addr} {kvs : List (Key × V)} {k : Key} {v : V} (h1 : H a = some (.dK kvs)) (h2 : valV kvs k = some v) (h : Q v H) : DgK (kV k) Q (.ref a) H := ⟨a, v, rfl, h2 ▸ DGet.k h1, h⟩
theorem n_dgetS {a : Addr} {kvs : List (Key × V)} {k : Str} {v : V} (h1 : H a = some (.dK kvs)) (h2 : valV kvs (.inr k) = some v) (h : Q v H) : DgK (.str k) Q (.ref a) H := n_dget (k := .inr k) h1 h2 h
def DpK (y v : V) (D : Ends) (σ : L2.St) (x : V) : Hp → Prop := fun H => ∃ a H4, x = .ref a ∧ DPut H a y v H4 ∧ D.nx σ H4
theorem g_dput (h : tv σ H fun v H1 => td σ H1 fun x H2 => ty σ H2 fun y H3 => DpK y v D σ x H3) : sDPut td ty tv D σ H := h
theorem n_dput {a : Addr} {kvs : List (Key × V)} {k : Key} {v : V} (h1 : H a = some (.dK kvs)) (hz : kvs.length < sizeLine) (h : ∀ H', Keep a H H' → H' a = some (.dK (putK kvs k v)) → D.nx σ H') : DpK (kV k) v D σ (.ref a) H := ⟨a, _, rfl, DPut.k h1 hz, h _ keep_upd upd_same⟩
theorem n_dputS {a : Addr} {kvs : List (Key × V)} {k : Str} {v : V} (h1 : H a = some (.dK kvs)) (hz : kvs.length < sizeLine) (h : ∀ H', Keep a H H' → H' a = some (.dK (putK kvs (.inr k) v)) → D.nx σ H') : DpK (.str k) v D σ (.ref a) H := n_dput (k := .inr k) h1 hz h
theorem units2 {k : Nat} {A : Around} (hr : Room k A) : A.units + 1 < cLine := by have := units65 hr; omega
end
theorem notT_d {H : Hp} {d : Addr} {kvs : List (Key × V)} (h : H d = some (.dK kvs)) : NotT (H d) := by rw [h]; trivial
end HC
/-! the head's facts, further ones as tests of the written part -/
namespace HC
open PySem PySem.W PySem.Calls PyProof.Rows He He5 L2
abbrev Tst := Frag → Bool
/-- the library's observation of facts and defs, and these tests beside it -/
def obsJ (fx : List Tst) (fa : List Fa) (fn : List DefA) (K : Frag) : He.AlD × Bool := (obsA fa fn K, fx.all fun t => t K)
structure SaysJ (fx : List Tst) (fa : List Fa) (fn : List DefA) (K : Frag) : Prop where
  base : SaysA fa fn K
  also : (fx.all fun t => t K) = true
theorem SaysJ.more {fx : List Tst} {fa : List Fa} {fn : List DefA} {K : Frag} (c : SaysJ fx fa fn K) (i : Nat) {f : Tst} (at_ : fx[i]? = some f := by rfl) : f K = true :=
  (List.all_eq_true.mp c.also) f (List.mem_of_getElem? at_)
def obsJG (n : Nat) (fx : List Tst) (fa : List Fa) (fn : List DefA) (g : Addr → Option Obj) : He.AlD × Bool := obsJ fx fa fn (frG g (asA g n))
def hookJ (n : Nat) (fx : List Tst) (fa : List Fa) (fn : List DefA) : PySem.W.Hook where
  α := He.AlD × Bool
  obs s := obsJG n fx fa fn s.heap.get?
  val _ := (valA fn, true)
  says _ h := ∃ K : Frag, K.In h ∧ SaysJ fx fa fn K
  of _ _ both := ⟨_, frG_in, congrArg Prod.fst both, congrArg Prod.snd both⟩
  keeps _ _ _ here up := let ⟨K, inH, says⟩ := here; ⟨K, inH.keeps up, says⟩
theorem obsJG_eq {n : Nat} {fx : List Tst} {fa : List Fa} {fn : List DefA} {g : Addr → Option Obj} {s : Shared} (same : ∀ a, g a = s.heap.get? a) : obsJG n fx fa fn g = (hookJ n fx fa fn).obs s := congrArg (obsJG n fx fa fn) (funext same)
end HC
namespace HC
open PyProof.Rows PySem L2 PySem.Spec
local macro_rules | `(tactic| walk_at "sm") => `(tactic| first | assumption | exact Same.refl _ | (refine Same.trans ?_ (by assumption); walk_at "sm"))
local macro_rules | `(tactic| walk_at "hp") => `(tactic| first
  | assumption | exact upd_same
  | ((with_reducible refine same_at (by assumption) ?_); walk_at "hp") | ((with_reducible refine same_t (by assumption) ?_); walk_at "hp") | ((with_reducible refine same_l (by assumption) ?_); walk_at "hp")
  | ((with_reducible refine Same.dp (by assumption) ?_); walk_at "hp") | ((with_reducible refine Same.dpa (by assumption) ?_); walk_at "hp")
  | ((with_reducible refine SqT.of ?_); walk_at "hp") | ((with_reducible refine SqL.of ?_); walk_at "hp"))
local macro_rules | `(tactic| walk_at "go1") => `(tactic| first
  | with_reducible refine g_seq ?_ | with_reducible refine g_asg ?_ | with_reducible refine g_op ?_ | ((with_reducible refine' g_var ?hv ?_); (case hv => exact rfl))
  | with_reducible refine g_c ?_ | with_reducible refine g_cons ?_ | with_reducible refine g_nil ?_ | with_reducible refine g_cb ?_ | with_reducible refine g_callR ?_
  | ((with_reducible refine' g_name ?hv ?_); (case hv => first | (simp only [List.set]; rfl) | (simp only [wipe, List.map, List.set]; rfl)))
  | with_reducible refine g_ret ?_ | with_reducible refine g_drop ?_ | with_reducible refine g_ifS ?_ | with_reducible refine g_test ?_ | with_reducible refine g_tB ?_ | with_reducible refine g_bl ?_
  | with_reducible refine g_add_i ?_ | with_reducible refine g_sub ?_ | with_reducible refine g_lt ?_ | with_reducible refine g_le ?_ | with_reducible refine g_gt ?_ | with_reducible refine g_ge ?_
  | with_reducible refine g_eq_i ?_ | with_reducible refine g_ne_i ?_ | with_reducible refine g_eq_s ?_ | with_reducible refine g_ne_s ?_ | with_reducible refine g_eq_b ?_ | with_reducible refine g_ne_b ?_ | with_reducible refine g_isN ?_ | with_reducible refine g_notN ?_
  | with_reducible refine g_and ?_ | with_reducible refine g_or ?_ | with_reducible refine g_not ?_ | with_reducible refine g_andV ?_ | with_reducible refine g_orV ?_ | with_reducible refine g_notV ?_ | with_reducible refine g_if ?_ | with_reducible refine g_chain ?_
  | with_reducible refine g_tup ?_ | with_reducible refine g_lst ?_ | with_reducible refine g_un ?_ | with_reducible refine g_next ?_
  | with_reducible refine g_bm ?_ | with_reducible refine g_bm0 ?_ | with_reducible refine g_m1 ?_ | with_reducible refine g_m0 ?_ | with_reducible refine g_tyS ?_ | with_reducible refine g_gsub ?_
  | with_reducible refine g_fld ?_ | with_reducible refine g_prop ?_ | with_reducible refine g_meth ?_ | with_reducible refine g_make ?_ | with_reducible refine g_star1 ?_ | with_reducible refine g_star ?_ | with_reducible refine g_sfld ?_
  | with_reducible refine g_forL ?_ | with_reducible refine g_forT ?_ | with_reducible refine g_forS ?_ | with_reducible refine g_forR1 ?_ | with_reducible refine g_forR2 ?_ | with_reducible refine g_forET ?_
  | with_reducible refine g_lcL ?_ | with_reducible refine g_lcT ?_ | with_reducible refine g_lcS ?_ | with_reducible refine g_lcR1 ?_ | with_reducible refine g_yes ?_ | with_reducible refine g_lcIfT ?_ | with_reducible refine g_lcIfF ?_
  | with_reducible refine g_isTT ?_ | with_reducible refine g_mkw ?_ | with_reducible refine g_lenSet ?_ | with_reducible refine g_mskw ?_
  | with_reducible refine g_gcons ?_ | with_reducible refine g_gnil ?_ | with_reducible refine g_sl ?_ | with_reducible refine g_noPart ?_ | with_reducible refine g_part ?_ | with_reducible refine g_partI ?_
  | with_reducible refine g_par ?_ | with_reducible refine g_par3 ?_ | ((with_reducible refine' n_par ?hv ?_); (case hv => (simp only [List.set]; rfl))) | ((with_reducible refine' n_par3 ?hv ?_); (case hv => (simp only [List.set]; rfl)))
  | ((with_reducible refine' g_aug ?hv ?_); (case hv => exact rfl)) | ((with_reducible refine' n_aug ?hv ?_); (case hv => (simp only [List.set]; rfl))) | with_reducible refine g_ipI ?_ | with_reducible refine g_rAdd ?_ | with_reducible refine g_rSub ?_ | with_reducible refine g_fldaug ?_
  | with_reducible refine g_dget ?_ | with_reducible refine g_dput ?_ | with_reducible refine g_neg ?_ | with_reducible refine g_abs ?_ | with_reducible refine g_min2 ?_ | with_reducible refine g_max2 ?_ | with_reducible refine g_int_i ?_ | with_reducible refine g_int_b ?_ | with_reducible refine g_in_sign ?_
  | ((with_reducible refine' g_mod ?hv ?_); (case hv => first | assumption | omega | decide)) | ((with_reducible refine' g_fdiv ?hv ?hw ?_); (case hv => first | assumption | omega | decide); (case hw => first | assumption | omega | decide))
  | ((with_reducible refine' g_mul ?hv ?_); (case hv => first | assumption | (unfold CMul; omega)))
  | ((with_reducible refine' g_ix_l ?hv ?hw ?_); (case hv => exact SqL.of (by walk_at "hp")); (case hw => first | exact atI_c0 | exact atI_c1 | exact atI_c2 | exact atI_c3))
  | ((with_reducible refine' g_tyL ?hv ?_); (case hv => exact SqL.of (by walk_at "hp")))
  | ((with_reducible refine' g_len_l ?hv ?_); (case hv => exact SqL.of (by walk_at "hp"))))
local macro_rules | `(tactic| walk_at "go") => `(tactic| repeat walk_at "go1")
section
variable {P : Program} {w : World} {K : PySem.W.Frag}
variable {mg : Str → Option Value} {base : Heap}
def top (i : Nat) : Stmt := PySem.Challenge.pw_harvestcarts_k04_mended_plans.main.body.getD i (.Pass ⟨0, 0, 0, 0⟩)
structure Md (K : PySem.W.Frag) (mg : Str → Option Value) : Prop where
  b : Bts mg
  g_LETTERS : GStr mg "LETTERS" "abcdefghijklmnopqrstuvwxyz"
  g_MAX_LETTERS : GInt mg "MAX_LETTERS" 8
  g_MAX_LIMIT : GInt mg "MAX_LIMIT" 30
  g_MAX_DAY : GInt mg "MAX_DAY" 1000000000000000000
  g_MAX_DAYS : GInt mg "MAX_DAYS" 5000
  k_Farm_MAX_FIELDS : GCon K mg "Farm" "MAX_FIELDS" (.int 6)
  k_Farm_MAX_STATES : GCon K mg "Farm" "MAX_STATES" (.int 4000)
abbrev FnD (K : PySem.W.Frag) (x q : Str) (st : Stmt) (f : Addr) (fd : FuncData) : Prop := FunD K x q (defArgs st) (defBody st) (defScope st) [] [] f fd
/-- a def of the module; a method; a property's getter -/
def Gd (K : PySem.W.Frag) (mg : Str → Option Value) (x : Str) (st : Stmt) : Prop := ∃ f fd, mg x = some (.ref f) ∧ FnD K x x st f fd
def Gm (K : PySem.W.Frag) (C : Addr) (m q : Str) (st : Stmt) : Prop := Cls K C ∧ ∃ f fd, Meth K C m f ∧ FnD K m q st f fd
def Gk (K : PySem.W.Frag) (mg : Str → Option Value) (x : Str) (C : Addr) (q : Str) (st : Stmt) : Prop := mg x = some (.ref C) ∧ ∃ f fd, Mk K C f ∧ FnD K "__init__" q st f fd
def Gp (K : PySem.W.Frag) (C : Addr) (f q : Str) (st : Stmt) : Prop := Cls K C ∧ ∃ p g fd, PropOf K C f p g ∧ FnD K f q st g fd
theorem def_mk {x : Str} {st : Stmt} {k : Nat} {sp : Sp} (G : Gd K mg x st) (h : ∀ f fd, FnD K x x st f fd → FnU P w K mg base k f sp) : DefR P w K mg base x k sp := by
  obtain ⟨f, fd, h1, h2⟩ := G
  exact ⟨f, h1, h2.kp, h f fd h2⟩
theorem meth_mk {C : Addr} {m q : Str} {st : Stmt} {k : Nat} {sp : Sp} (G : Gm K C m q st) (h : ∀ f fd, FnD K m q st f fd → FnR P w K mg base (CXW P w) k f sp) : MethR P w K mg base C m k sp := by
  obtain ⟨c, f, fd, h1, h2⟩ := G
  exact ⟨c, f, h1, h f fd h2⟩
theorem make_mk {x : Str} {C : Addr} {q : Str} {st : Stmt} {k : Nat} {sp : Sp} (G : Gk K mg x C q st) (h : ∀ f fd, FnD K "__init__" q st f fd → FnR P w K mg base (CXW P w) k f sp) : MakeR P w K mg base x C k sp := by
  obtain ⟨c, f, fd, h1, h2⟩ := G
  exact ⟨c, f, h1, h f fd h2⟩
theorem prop_mk {C : Addr} {f q : Str} {st : Stmt} {k : Nat} {sp : Sp} (G : Gp K C f q st) (h : ∀ g fd, FnD K f q st g fd → FnU P w K mg base k g sp) : PropR P w K mg base C f k sp := by
  obtain ⟨c, p, g, fd, h1, h2⟩ := G
  exact ⟨c, p, g, h1, h g fd h2⟩
/-- a class made by an __init__ with one keyword-only parameter -/
def GkK (K : PySem.W.Frag) (mg : Str → Option Value) (x : Str) (C : Addr) (q : Str) (st : Stmt) (kws : List (Str × V)) : Prop := mg x = some (.ref C) ∧ ∃ f fd, Mk K C f ∧ FunD K "__init__" q (defArgs st) (defBody st) (defScope st) [] kws f fd
theorem makeK_mk {x : Str} {C : Addr} {q kw : Str} {st : Stmt} {kws : List (Str × V)} {k : Nat} {sp : Sp} (G : GkK K mg x C q st kws) (h : ∀ f fd, FunD K "__init__" q (defArgs st) (defBody st) (defScope st) [] kws f fd → FnRK P w K mg base k f kw sp) : MakeRK P w K mg base x C k kw sp := by
  obtain ⟨c, f, fd, h1, h2⟩ := G
  exact ⟨c, f, h1, h f fd h2⟩
/-- the script at a stands whatever happens at l -/
def Off (K : PySem.W.Frag) (l a : Addr) (ns : List Int) : Prop := a ≠ l ∨ ∀ H' : Hp, SqL K H' a (ns.map V.int)
/-- the source of numbers at d over the script at a: how many were read, the mixed number, the rest of a great number -/
def Dr (K : PySem.W.Frag) (a : Addr) (ns : List Int) (H : Hp) (d : Addr) : Prop := ∃ (i m c : Int), H d = some (.lst [.ref a, .int i, .int m, .int c]) ∧ SqL K H a (ns.map V.int) ∧ Off K d a ns ∧ 0 ≤ i ∧ 0 ≤ m ∧ m < 2147483647 ∧ 0 ≤ c
theorem sql_keep {H H' : Hp} {d a : Addr} {xs : List V} (e : Keep d H H') (n : a ≠ d) (h : SqL K H a xs) : SqL K H' a xs := h.imp (fun z => z.imp (e a _ n) fun ⟨o, q⟩ => ⟨o, e a _ n q⟩) id
theorem Off.keep {H H' : Hp} {l a : Addr} {ns : List Int} (o : Off K l a ns) (e : Keep l H H') (h : SqL K H a (ns.map V.int)) : SqL K H' a (ns.map V.int) := o.elim (fun n => sql_keep e n h) fun z => z H'
theorem off_new {H : Hp} {l a : Addr} {ns : List Int} (h : SqL K H a (ns.map V.int)) (n : H l = none) : Off K l a ns := h.elim (fun z => .inl (z.elim (fun q => ne_of_none q n) fun ⟨_, q⟩ => ne_of_none q n)) fun z => .inr fun _ => .inr z
theorem Dr.same {H H' : Hp} {d a : Addr} {ns : List Int} (e : Same H H') (h : Dr K a ns H d) : Dr K a ns H' d := by
  obtain ⟨i, m, c, h0, h1, h⟩ := h
  exact ⟨i, m, c, e _ _ h0, same_l e h1, h⟩
theorem Dr.ne {H : Hp} {d l a : Addr} {ns : List Int} (h : Dr K a ns H d) (n : H l = none) : d ≠ l := by
  obtain ⟨i, m, c, h0, h⟩ := h
  exact ne_of_none h0 n
theorem Dr.off {H : Hp} {d l a : Addr} {ns : List Int} (h : Dr K a ns H d) (n : H l = none) : Off K l a ns := by
  obtain ⟨i, m, c, h0, h1, h⟩ := h
  exact off_new h1 n
theorem Dr.keep {H H' : Hp} {d l a : Addr} {ns : List Int} (h : Dr K a ns H d) (e : Keep l H H') (n : d ≠ l) (o : Off K l a ns) : Dr K a ns H' d := by
  obtain ⟨i, m, c, h0, h1, h⟩ := h
  exact ⟨i, m, c, e _ _ n h0, o.keep e h1, h⟩
theorem Dr.notT {H : Hp} {d a : Addr} {ns : List Int} (h : Dr K a ns H d) : NotT (H d) := by
  obtain ⟨i, m, c, h0, h⟩ := h
  exact notT_l h0
/-- what was free when the source stood is free of it, and of the script, ever after -/
structure Frd (K : PySem.W.Frag) (a : Addr) (ns : List Int) (d l : Addr) : Prop where
  ne : d ≠ l
  off : Off K l a ns
theorem Dr.frd {H : Hp} {d l a : Addr} {ns : List Int} (h : Dr K a ns H d) (n : H l = none) : Frd K a ns d l := ⟨h.ne n, h.off n⟩
theorem Dr.keepF {H H' : Hp} {d l a : Addr} {ns : List Int} (h : Dr K a ns H d) (e : Keep l H H') (f : Frd K a ns d l) : Dr K a ns H' d := h.keep e f.ne f.off

end
abbrev s_law_start : Stmt := top 27
abbrev N_law_start : List Str := ["_law_script", "_law_mixed", "_law_cell"]
theorem sc_law_start : FnScope N_law_start ["_law_script"] (defScope s_law_start) := ⟨rfl, rfl, rfl, by decide +kernel, rfl, by decide +kernel, by decide +kernel⟩
section
variable {P : Program} {w : World} {K : PySem.W.Frag}
variable {mg : Str → Option Value} {base : Heap}
def sp_law_start (K : PySem.W.Frag) : Sp := fun vs H Q _ => ∃ (a : Addr) (ns : List Int), vs = [.ref a] ∧ SqL K H a (ns.map V.int) ∧ ∀ H' d, Same H H' → H d = none → Dr K a ns H' d → Q (.ref d) H'
theorem ok_law_start (M : Md K mg) (G : Gd K mg "_law_start" s_law_start) : DefR P w K mg base "_law_start" 2 (sp_law_start K) := by
  refine def_mk G fun f fd F => fnr_mk (F.ok sc_law_start ?_ (fun cdv A outer s H vs Q E hr h => ?_)) (F.bindsN (fun _ _ _ _ _ _ us hl => match us, hl with | [_], _ => rfl))
  · rintro vs H Q E ⟨d, n, rfl, _⟩; rfl
  · obtain ⟨a, ns, rfl, hS, k⟩ := h; have nd := sc_law_start.nd
    refine ⟨_, PSs.nox (pss_cons (ps_set (i := 1) nd rfl (by first | exact Or.inl rfl | exact Or.inr rfl) pe_int)
    (pss_cons (ps_for PassesOwn.never rfl (pi_listK K (pv 0)) (pg_name (i := 2) nd rfl (by first | exact Or.inl rfl | exact Or.inr rfl)) (pss_one (ps_set (i := 1) nd rfl (by first | exact Or.inl rfl | exact Or.inr rfl) (pe_op op_mod (pe_op (op_addK K) (pe_op (op_addK K) (pe_op op_mul (pv 1) pe_int) (pv 2)) pe_int) pe_int))))
    (pss_one (ps_ret (pe_lst (pa_cons (pv 0) (pa_cons pe_int (pa_cons (pv 1) (pa_cons pe_int pa_nil))))))))), ?_⟩
    show (_ : TS) _ [some (.ref a), none, none] H
    walk_at "go"
    refine n_forL hS (fun i σ H' => H' = H ∧ ∃ (y : Int) (c : Option V), σ = [some (.ref a), some (.int y), c] ∧ 0 ≤ y ∧ y < 2147483647) ⟨rfl, _, _, rfl, by decide, by decide⟩ (fun i σ H' ⟨e, _⟩ => e ▸ hS) ?_ ?_
    · rintro i x σ H' hx ⟨rfl, y, c, rfl, y0, y1⟩
      obtain ⟨z, hz, rfl⟩ : ∃ z, ns[i]? = some z ∧ V.int z = x := by simpa using hx
      walk_at "go"
      exact ⟨rfl, _, _, rfl, Int.emod_nonneg _ (by decide), Int.emod_lt_of_pos _ (by decide)⟩
    · rintro σ H' ⟨rfl, y, c, rfl, y0, y1⟩
      walk_at "go"
      refine n_lst (by simp [sizeLine_eq]) fun d H1 nd1 s1 hd => ?_
      exact k H1 d s1 nd1 ⟨0, y, 0, hd, same_l s1 hS, off_new hS nd1, by decide, y0, y1, by decide⟩

end
abbrev s_law_drawn : Stmt := top 28
abbrev N_law_drawn : List Str := ["_law_state", "_law_count", "_law_result", "_law_cell"]
theorem sc_law_drawn : FnScope N_law_drawn ["_law_state", "_law_count"] (defScope s_law_drawn) := ⟨rfl, rfl, rfl, by decide +kernel, rfl, by decide +kernel, by decide +kernel⟩
section
variable {P : Program} {w : World} {K : PySem.W.Frag}
variable {mg : Str → Option Value} {base : Heap}
def sp_law_drawn (K : PySem.W.Frag) : Sp := fun vs H Q _ => ∃ (d a : Addr) (ns : List Int) (n : Int), vs = [.ref d, .int n] ∧ Dr K a ns H d ∧ 0 < n ∧ n < 1073741824 ∧ ∀ H' r, 0 ≤ r → r < n → Keep d H H' → Dr K a ns H' d → Q (.int r) H'
theorem ok_law_drawn (M : Md K mg) (G : Gd K mg "_law_drawn" s_law_drawn) : DefR P w K mg base "_law_drawn" 2 (sp_law_drawn K) := by
  refine def_mk G fun f fd F => fnr_mk (F.ok sc_law_drawn ?_ (fun cdv A outer s H vs Q E hr h => ?_)) (F.bindsN (fun _ _ _ _ _ _ us hl => match us, hl with | [_, _], _ => rfl))
  · rintro vs H Q E ⟨d, a, ns, n, rfl, _⟩; rfl
  · obtain ⟨d, a, ns, n, rfl, ⟨i, m, c, hd, hS, off, i0, m0, m1, c0⟩, n0, n1, k⟩ := h
    have nd := sc_law_drawn.nd
    refine ⟨_, PSs.nox (pss_cons (ps_if (pt_cmpR op_gt (pe_ix (ix_K K) (pv 0) pe_int (fun _ _ => rfl)) pe_int (nomark _)) (pss_cons (ps_set (i := 2) nd rfl (by first | exact Or.inl rfl | exact Or.inr rfl) (pe_op op_mod (pe_ix (ix_K K) (pv 0) pe_int (fun _ _ => rfl)) (pv 1)))
    (pss_cons (ps_asg (pe_op op_fdiv (pe_ix (ix_K K) (pv 0) pe_int (fun _ _ => rfl)) (pv 1)) (pg_sub (pv 0) pe_int set_list)) (pss_one (ps_ret (pv 2))))) pss_nil)
    (pss_cons (ps_asg (pe_op (op_addK K) (pe_ix (ix_K K) (pv 0) pe_int (fun _ _ => rfl)) pe_int) (pg_sub (pv 0) pe_int set_list))
    (pss_cons (ps_if (pt_cmpR op_le (pe_ix (ix_K K) (pv 0) pe_int (fun _ _ => rfl)) (pe_len K M.b (pe_ix (ix_K K) (pv 0) pe_int (fun _ _ => rfl))) (nomark _)) (pss_cons (ps_set (i := 3) nd rfl (by first | exact Or.inl rfl | exact Or.inr rfl) (pe_ix (ix_K K) (pe_ix (ix_K K) (pv 0) pe_int (fun _ _ => rfl)) (pe_op op_sub (pe_ix (ix_K K) (pv 0) pe_int (fun _ _ => rfl)) pe_int) (fun _ _ => rfl)))
    (pss_cons (ps_asg (pe_ifExp (pt_cmpR op_ge (pv 3) (pe_op op_pow pe_int pe_int) (nomark _)) (pe_op op_fdiv (pv 3) (pv 1)) pe_int) (pg_sub (pv 0) pe_int set_list)) (pss_one (ps_ret (pe_op op_mod (pv 3) (pv 1)))))) pss_nil)
    (pss_cons (ps_asg (pe_op op_mod (pe_op (op_addK K) (pe_op op_mul (pe_ix (ix_K K) (pv 0) pe_int (fun _ _ => rfl)) pe_int) pe_int) pe_int) (pg_sub (pv 0) pe_int set_list))
    (pss_one (ps_ret (pe_op op_mod (pe_op op_fdiv (pe_ix (ix_K K) (pv 0) pe_int (fun _ _ => rfl)) pe_int) (pv 1)))))))), ?_⟩
    show (_ : TS) _ [some (.ref d), some (.int n), none, none] H
    walk_at "go"
    refine if_D (fun e => ?_) (fun e => ?_)
    · walk_at "go"
      refine g_setL (j := 3) hd (ixN_i (by decide) (by simp)) fun H1 k1 h1 => ?_
      walk_at "go"
      refine k H1 _ (Int.emod_nonneg _ (by omega)) (Int.emod_lt_of_pos _ n0) k1 ⟨i, m, c / n, h1, off.keep k1 hS, off, i0, m0, m1, Int.ediv_nonneg c0 (by omega)⟩
    · walk_at "go"
      refine g_setL (j := 1) hd (ixN_i (by decide) (by simp)) fun H1 k1 h1 => ?_
      have hS1 := off.keep k1 hS
      walk_at "go"
      refine g_len_l hS1 ?_
      walk_at "go"
      refine if_D (fun e1 => ?_) (fun e1 => ?_)
      · walk_at "go"
        have hi : i.toNat < ns.length := by simp at e1; omega
        refine g_ix_l hS1 (v := .int ns[i.toNat]) ?_ ?_
        · have ei : i + 1 - 1 = ((i.toNat : Nat) : Int) := by omega
          rw [ei]
          exact atI_nat (by simp [hi])
        walk_at "go"
        generalize ns[i.toNat] = cell
        refine g_pow (by unfold CPow; decide) ?_
        walk_at "go"
        refine if_D (fun e2 => ?_) (fun e2 => ?_)
        · walk_at "go"
          refine g_setL (j := 3) h1 (ixN_i (by decide) (by simp)) fun H2 k2 h2 => ?_
          walk_at "go"
          have : (0 : Int) ≤ 10 ^ (18 : Int).toNat := by decide
          exact k H2 _ (Int.emod_nonneg _ (by omega)) (Int.emod_lt_of_pos _ n0) (k1.trans k2) ⟨_, m, _, h2, off.keep k2 hS1, off, by omega, m0, m1, Int.ediv_nonneg (by omega) (by omega)⟩
        · walk_at "go"
          refine g_setL (j := 3) h1 (ixN_i (by decide) (by simp)) fun H2 k2 h2 => ?_
          walk_at "go"
          exact k H2 _ (Int.emod_nonneg _ (by omega)) (Int.emod_lt_of_pos _ n0) (k1.trans k2) ⟨_, m, _, h2, off.keep k2 hS1, off, by omega, m0, m1, by decide⟩
      · walk_at "go"
        refine g_setL (j := 2) h1 (ixN_i (by decide) (by simp)) fun H2 k2 h2 => ?_
        walk_at "go"
        exact k H2 _ (Int.emod_nonneg _ (by omega)) (Int.emod_lt_of_pos _ n0) (k1.trans k2) ⟨_, _, c, h2, off.keep k2 hS1, off, by omega, Int.emod_nonneg _ (by decide), Int.emod_lt_of_pos _ (by decide), c0⟩

end
section
variable {P : Program} {w : World} {K : PySem.W.Frag}
variable {mg : Str → Option Value} {base : Heap}
/-! ### plain mathematics of farms -/
abbrev pField (f : Str × Int) : PyData := .tuple [.str f.1, .int f.2]
def NmOk (z : Str) : Prop := 1 ≤ z.cps.toList.length ∧ z.cps.toList.length ≤ 8 ∧ ∀ c ∈ z.cps.toList, 97 ≤ c ∧ c ≤ 122
instance (z : Str) : Decidable (NmOk z) := by unfold NmOk; infer_instance
def prodL (l : List Int) : Int := l.foldl (· * ·) 1
theorem prodL_snoc (l : List Int) (x : Int) : prodL (l ++ [x]) = prodL l * x := by simp [prodL]
structure FOk (fs : List (Str × Int)) : Prop where
  one : 1 ≤ fs.length
  six : fs.length ≤ 6
  nd : (fs.map (·.1)).Nodup
  nm : ∀ f ∈ fs, NmOk f.1
  lo : ∀ f ∈ fs, 1 ≤ f.2 ∧ f.2 ≤ 30
  pr : prodL (fs.map (·.2)) ≤ 4000
theorem NmOk.str {z : Str} (h : NmOk z) : PyData.strOk z = true := by
  unfold PyData.strOk
  rw [← Array.all_toList]
  exact List.all_eq_true.mpr fun c hc => decide_eq_true (by have := (h.2.2 c hc).2; omega)
def six : List Str := ["a", "bo", "carl", "dora", "ella", "hannahhh"]
theorem six_nm : ∀ z ∈ six, NmOk z := by decide +kernel
theorem six_nd : six.Nodup := by decide +kernel
/-- the bytes of a farm -/
def lets (z : Str) : List Int := z.cps.toList.map fun (c : Nat) => ((c - 97 : Nat) : Int)
def encF (f : Str × Int) : List Int := [f.2, (f.1.cps.toList.length : Int)] ++ lets f.1
def bodyOf (fs : List (Str × Int)) : List Int := [72, (fs.length : Int)] ++ fs.flatMap encF
def cks (l : List Int) : Int := l.foldl (fun t v => (3 * t + v) % 233) 5
def bytesOf (fs : List (Str × Int)) : List Int := bodyOf fs ++ [cks (bodyOf fs)]
theorem cks_snoc (l : List Int) (x : Int) : cks (l ++ [x]) = (3 * cks l + x) % 233 := by simp [cks]
theorem cks_lo : ∀ l : List Int, 0 ≤ cks l ∧ cks l < 233 := fun l => by
  rcases List.eq_nil_or_concat l with rfl | ⟨r, x, rfl⟩
  · decide
  · rw [List.concat_eq_append, cks_snoc]; exact ⟨Int.emod_nonneg _ (by decide), Int.emod_lt_of_pos _ (by decide)⟩
def ALPH : Str := "abcdefghijklmnopqrstuvwxyz"
theorem alph_occ : ∀ k : Fin 26, Builtin.Str.occurrences ALPH ⟨#[97 + k.val]⟩ 0 ALPH.length 1 = [k.val] := by decide +kernel
theorem alph_ix {c : Nat} (h1 : 97 ≤ c) (h2 : c ≤ 122) : Builtin.Str.occurrences ALPH ⟨#[c]⟩ 0 ALPH.length 1 = [c - 97] := by
  have := alph_occ ⟨c - 97, by omega⟩
  simpa [show 97 + (c - 97) = c by omega] using this
theorem alph_mem {c : Nat} (h1 : 97 ≤ c) (h2 : c ≤ 122) : c ∈ ALPH.cps.toList := by
  have h : ∀ k : Fin 26, 97 + k.val ∈ ALPH.cps.toList := by decide +kernel
  have := h ⟨c - 97, by omega⟩
  simpa [show 97 + (c - 97) = c by omega] using this
theorem alph_at : ∀ k : Fin 26, ALPH.cps.toList[k.val]? = some (97 + k.val) := by decide +kernel
theorem noL_fields (fs : List (Str × Int)) : noLs (fs.map pField) = true := noLs_of fun d hd => by
  obtain ⟨f, _, rfl⟩ := List.mem_map.mp hd
  simp [pField, noL, noLs]
theorem sh_field {f : Str × Int} (h : NmOk f.1) : Sh 1 (pField f) := sh_t fun d hd => by
  have : d = .str f.1 ∨ d = .int f.2 := by simpa using hd
  rcases this with rfl | rfl
  · exact sh_s h.str
  · exact sh_i _
theorem sh_fields {fs : List (Str × Int)} (h : ∀ f ∈ fs, NmOk f.1) : Sh 2 (.tuple (fs.map pField)) := sh_t fun d hd => by
  obtain ⟨f, hf, rfl⟩ := List.mem_map.mp hd
  exact sh_field (h f hf)

end
abbrev s_is_name : Stmt := top 14
abbrev N_is_name : List Str := ["name", "letter"]
theorem sc_is_name : FnScope N_is_name ["name"] (defScope s_is_name) := ⟨rfl, rfl, rfl, by decide +kernel, rfl, by decide +kernel, by decide +kernel⟩
abbrev s_Farm___init__ : Stmt := inClass (top 15) 2
abbrev N_Farm___init__ : List Str := ["self", "fields", "states", "index", "name", "limit", "earlier", "other"]
theorem sc_Farm___init__ : FnScope N_Farm___init__ ["self", "fields"] (defScope s_Farm___init__) := ⟨rfl, rfl, rfl, by decide +kernel, rfl, by decide +kernel, by decide +kernel⟩
abbrev s_Farm_fields : Stmt := inClass (top 15) 4
abbrev N_Farm_fields : List Str := ["self"]
theorem sc_Farm_fields : FnScope N_Farm_fields ["self"] (defScope s_Farm_fields) := ⟨rfl, rfl, rfl, by decide +kernel, rfl, by decide +kernel, by decide +kernel⟩
abbrev s_Farm___len__ : Stmt := inClass (top 15) 8
abbrev N_Farm___len__ : List Str := ["self"]
theorem sc_Farm___len__ : FnScope N_Farm___len__ ["self"] (defScope s_Farm___len__) := ⟨rfl, rfl, rfl, by decide +kernel, rfl, by decide +kernel, by decide +kernel⟩
section
variable {P : Program} {w : World} {K : PySem.W.Frag}
variable {mg : Str → Option Value} {base : Heap}
theorem alph_iff (c : Nat) : c ∈ ALPH.cps.toList ↔ 97 ≤ c ∧ c ≤ 122 := by
  have e : ALPH.cps.toList = (List.range 26).map (fun k => 97 + k) := by decide +kernel
  rw [e, List.mem_map]; simp only [List.mem_range]
  constructor
  · rintro ⟨k, h, rfl⟩; omega
  · intro h; exact ⟨c - 97, by omega, by omega⟩
theorem inV_strs (z : Str) (zs : List Str) : inV (.str z) (zs.map V.str) = decide (z ∈ zs) := by
  unfold inV
  induction zs with
  | nil => rfl
  | cons a r ih =>
    rw [List.map_cons, List.any_cons, ih]
    have h1 : eqV (.str a) (.str z) = decide (a = z) := by
      show (a == z) = decide (a = z)
      exact Bool.beq_eq_decide_eq a z
    rw [h1]
    by_cases h : a = z
    · subst h; simp
    · have h' : ¬ z = a := fun q => h q.symm
      simp [h, h']
theorem flat_strs (zs : List Str) : (zs.map V.str).all flatV = true := by
  rw [List.all_eq_true]; intro x hx; obtain ⟨z, _, rfl⟩ := List.mem_map.mp hx; rfl
def sp_is_name : Sp := fun vs H Q _ => ∃ z : Str, vs = [.str z] ∧ z.length ≤ sizeLine ∧ ∀ H', Same H H' → Q (.bl (decide (NmOk z))) H'
theorem ok_is_name (M : Md K mg) (G : Gd K mg "is_name" s_is_name) : DefR P w K mg base "is_name" 2 sp_is_name := by
  refine def_mk G fun f fd F => fnr_mk (F.ok sc_is_name ?_ (fun cdv A outer s H vs Q E hr h => ?_)) (F.bindsN (fun _ _ _ _ _ _ us hl => match us, hl with | [_], _ => rfl))
  · rintro vs H Q E ⟨z, rfl, _⟩; rfl
  · obtain ⟨z, rfl, hz, k⟩ := h
    have nd := sc_is_name.nd
    have ez : z.length = z.cps.toList.length := by unfold Str.length; simp
    refine ⟨_, PSs.nox (pss_one (ps_ret (pe_and (pe_chain op_le op_le pe_int (pe_len K M.b (pv 0)) (pe_gi M.g_MAX_LETTERS)) (pe_one (pe_all K M.b (pe_lc (own := [("letter", 1)]) (g := (gName 1)) (tt := tYes) rfl nd (pi_str (pv 0)) (blkOk_by (N := N_is_name) (sc := defScope s_is_name) (by decide +kernel)) (fun _ _ _ _ _ => (pg_name (i := 1) nd rfl (by first | exact Or.inl rfl | exact Or.inr rfl))) (fun _ _ _ _ _ => pts_nil) (fun _ _ _ _ _ => (pe_cmpR (op_inK K hr) (pv 1) (pe_gs M.g_LETTERS) rfl)))))))), ?_⟩
    show (_ : TS) _ [some (.str z), none] H
    walk_at "go"
    refine g_len_s hz ?_
    walk_at "go"
    refine g_ch (fun h1 => ?_) (fun h1 => ?_)
    · walk_at "go"
      refine if_D (fun h2 => ?_) (fun h2 => ?_)
      · walk_at "go"
        have h1' : (1 : Int) ≤ z.length := of_decide_eq_true h1
        have b8 : z.cps.size ≤ 8 := by have := ez; simp [Str.length] at h2 this ⊢; omega
        refine n_lcS (lc_map (walk_str (z := z)) (fun j => .bl (decide (z.cps.toList.getD j 0 ∈ ALPH.cps.toList))) (fun _ _ => trivial) ?_ ?_)
        · rintro C j x H5 H6 nC hj s5 hC ⟨e, c, hc, ex⟩
          subst e ex
          walk_at "go"
          refine ⟨rfl, ?_⟩
          walk_at "go"
          exact n_mapK nC s5 hC (by rw [getD_of (cps_get hc)]; rfl) (by omega)
        · intro C H5 nC s5 hC
          have e1 : (List.range z.cps.size).map (fun j => V.bl (decide (z.cps.toList.getD j 0 ∈ ALPH.cps.toList))) = (z.cps.toList.map fun c => decide (c ∈ ALPH.cps.toList)).map V.bl := by
            rw [← Array.length_toList, range_getD z.cps.toList 0 fun c => V.bl (decide (c ∈ ALPH.cps.toList))]
            simp [Function.comp_def]
          rw [e1] at hC
          walk_at "go"
          refine g_all (SqL.of hC) ?_
          have e2 : (z.cps.toList.map fun c => decide (c ∈ ALPH.cps.toList)).all id = decide (NmOk z) := by
            rw [Bool.eq_iff_iff, decide_eq_true_eq, List.all_map, List.all_eq_true]
            unfold NmOk
            constructor
            · intro h
              refine ⟨by rw [← ez]; omega, by rw [← ez]; omega, fun c hc => (alph_iff c).mp ?_⟩
              have := h c hc
              simpa using this
            · intro h c hc
              have := (alph_iff c).mpr (h.2.2 c hc)
              simpa using this
          rw [e2]
          exact k H5 s5
      · have e2 : decide (NmOk z) = false := decide_eq_false fun h => h2 (by rw [ez]; have := h.2.1; omega)
        have := k H (Same.refl H)
        rw [e2] at this
        exact this
    · have h1' : ¬ (1 : Int) ≤ z.length := of_decide_eq_false h1
      have e2 : decide (NmOk z) = false := decide_eq_false fun h => h1' (by rw [ez]; have := h.1; omega)
      walk_at "go"
      refine if_F rfl ?_
      have := k H (Same.refl H)
      rw [e2] at this
      exact this
/-- what the text says of the class Farm -/
structure FarmC (K : PySem.W.Frag) (CF : Addr) : Prop where
  cl : Cls K CF
  rows : NoAttr K CF "rows"
def farmFs (t : Addr) : List (Str × V) := [("rows", .ref t)]
def FarmAt (K : PySem.W.Frag) (CF : Addr) (H : Hp) (p : Addr) (fs : List (Str × Int)) : Prop := ∃ dx t, H p = some (.ins CF dx (farmFs t)) ∧ Dp K H (.ref t) (.tuple (fs.map pField))
variable {CF : Addr}
def sp_farm_init0 (K : PySem.W.Frag) (CF : Addr) : Sp := fun vs H Q _ => ∃ (x dx t : Addr) (fs : List (Str × Int)), vs = [.ref x, .ref t] ∧ H x = some (.ins CF dx []) ∧ Dp K H (.ref t) (.tuple (fs.map pField)) ∧ FOk fs ∧
  ∀ H', Keep x H H' → H' x = some (.ins CF dx (farmFs t)) → Q .non H'
def sp_farm_init (K : PySem.W.Frag) (CF : Addr) : Sp := fun vs H Q E => ∃ w0 rest, vs = w0 :: rest ∧ rest.length ≤ sizeLine ∧ ∀ p, H p = none → sp_farm_init0 K CF [w0, V.ref p] (upd H p (.tup rest)) Q E
theorem nodup_take {fs : List (Str × Int)} {i : Nat} {f : Str × Int} (h : (fs.map (·.1)).Nodup) (hf : fs[i]? = some f) : f.1 ∉ (fs.take i).map (·.1) := by
  intro hm
  rw [List.map_take] at hm
  obtain ⟨j, hj, e⟩ := List.mem_iff_getElem.mp hm
  simp at hj
  have h1 : (fs.map (·.1))[j]? = some f.1 := by
    rw [List.getElem?_eq_getElem (by simp; omega)]
    congr 1
    simpa using e
  have h2 : (fs.map (·.1))[i]? = some f.1 := by rw [List.getElem?_map, hf]; rfl
  have := nd_ix h h1 h2
  omega
theorem prod_take {fs : List (Str × Int)} (lo : ∀ f ∈ fs, 1 ≤ f.2 ∧ f.2 ≤ 30) : ∀ i, 1 ≤ prodL ((fs.take i).map (·.2)) ∧ prodL ((fs.take i).map (·.2)) ≤ 30 ^ i
  | 0 => by simp [prodL]
  | i + 1 => by
    have ih := prod_take lo i
    cases h : fs[i]? with
    | none =>
      have hl : fs.length ≤ i := List.getElem?_eq_none_iff.mp h
      rw [List.take_of_length_le (by omega)]
      rw [List.take_of_length_le hl] at ih
      refine ⟨ih.1, Int.le_trans ih.2 ?_⟩
      rw [Int.pow_succ]
      have : (0 : Int) ≤ 30 ^ i := Int.pow_nonneg (by decide)
      omega
    | some f =>
      have hf := lo f (List.mem_of_getElem? h)
      rw [List.take_add_one, h]
      simp only [Option.toList_some, List.map_append, List.map_cons, List.map_nil, prodL_snoc]
      constructor
      · have : 1 * 1 ≤ prodL ((fs.take i).map (·.2)) * f.2 := Int.mul_le_mul ih.1 hf.1 (by decide) (by omega)
        omega
      · rw [Int.pow_succ]
        exact Int.mul_le_mul ih.2 hf.2 (by omega) (Int.pow_nonneg (by decide))
theorem ok_farm_init (M : Md K mg) (C : FarmC K CF) (G : Gk K mg "Farm" CF "Farm.__init__" s_Farm___init__) (D_is_name : DefR P w K mg base "is_name" 2 sp_is_name) : MakeR P w K mg base "Farm" CF 4 (sp_farm_init K CF) := by
  refine make_mk G fun f fd F => fnr_star1 F sc_Farm___init__ (fun _ _ _ _ _ _ _ => rfl) (fun _ _ _ _ _ _ _ _ _ => rfl) (fun cdv A outer s H vs Q E hr h => ?_)
  obtain ⟨x, dx, t, fs, rfl, hx, hv, ok, k⟩ := h
  obtain ⟨t', xs, e, hS, hX⟩ := hv.inv_t
  cases e
  have hxl : xs.length = fs.length := by rw [hX.length]; simp
  have nd := sc_Farm___init__.nd
  refine ⟨_, PSs.nox (pss_cons (ps_if (pt_cmpR (op_eqK K hr) (pv 1) (pe_tup pa_nil) (nomark _)) (pss_one ps_never) pss_nil)
    (pss_cons (ps_set (i := 2) nd rfl (by first | exact Or.inl rfl | exact Or.inr rfl) pe_int)
    (pss_cons (ps_for PassesOwn.never rfl (pi_enumTK K rfl M.b.enumerate (pa_cons (pv 1) pa_nil)) (pg_tupK K rfl (pgs_cons (pg_name (i := 3) nd rfl (by first | exact Or.inl rfl | exact Or.inr rfl)) (pgs_cons (pg_tupK K rfl (pgs_cons (pg_name (i := 4) nd rfl (by first | exact Or.inl rfl | exact Or.inr rfl)) (pgs_cons (pg_name (i := 5) nd rfl (by first | exact Or.inl rfl | exact Or.inr rfl)) pgs_nil))) pgs_nil))) (pss_cons (ps_setLc (i := 6) (own := [("other", 7)]) (g := (gName 7)) (tt := tYes) rfl nd rfl rfl (sw_true rfl rfl rfl (by decide +kernel)) (pi_tupK K (pe_slice (sl_tupK K) (pv 1) po_none (po_some (pv 3)))) (blkOk_by (N := N_Farm___init__) (sc := defScope s_Farm___init__) (by decide +kernel)) (fun _ _ _ _ _ => (pg_name (i := 7) nd rfl (by first | exact Or.inl rfl | exact Or.inr rfl))) (fun _ _ _ _ _ => pts_nil) (fun _ _ _ _ _ => (pe_ix (ix_K K) (pv 7) pe_int (fun _ _ => rfl))))
    (pss_cons (ps_if (PW.pt (pw_or (pt_cmpR (op_eqK K hr) (pv 3) (pe_gcon M.k_Farm_MAX_FIELDS) (nomark _)) (pw_or (pt_not (pt_val (pe_callR D_is_name (hr.mono (by first | decide | omega)) passN (pa_cons (pv 4) pa_nil)))) (pw_or (pt_not (pt_chain op_le op_le pe_int (pv 5) (pe_gi M.g_MAX_LIMIT))) (pw_or1 (pt_cmpR (op_inK K hr) (pv 4) (pv 6) rfl)))))) (pss_one ps_never) pss_nil)
    (pss_one (ps_set (i := 2) nd rfl (by first | exact Or.inl rfl | exact Or.inr rfl) (pe_op op_mul (pv 2) (pv 5)))))))
    (pss_cons (ps_if (pt_cmpR op_gt (pv 2) (pe_gcon M.k_Farm_MAX_STATES) (nomark _)) (pss_one ps_never) pss_nil) (pss_one (ps_fldK K (pv 0) (pv 1))))))), ?_⟩
  show (_ : TS) _ [some (.ref x), some (.ref t), none, none, none, none, none, none] H
  walk_at "go"
  refine n_tup (by simp) fun e H1 ne s1 he => ?_
  refine g_eq_d (.tuple (fs.map pField)) (.tuple []) (s1.dp hv) (dp_tup he .nil) ((sh_fields ok.nm).ok (by decide)) (Sh.ok (n := 1) (sh_t fun x hx => by cases hx) (by decide)) ?_
  rw [eqv_nilT]
  have en : (fs.map pField).isEmpty = false := by
    cases fs with
    | nil => have := ok.one; simp at this
    | cons f r => rfl
  rw [en]
  walk_at "go"
  refine if_F rfl ?_
  walk_at "go"
  refine n_forET (same_t s1 hS) (fun i σ H' => ∃ u1 u2 u3 u4 u5 : Option V, σ = [some (.ref x), some (.ref t), some (.int (prodL ((fs.take i).map (·.2)))), u1, u2, u3, u4, u5] ∧ Same H H') ⟨_, _, _, _, _, rfl, s1⟩ (fun i σ H' ⟨_, _, _, _, _, _, s2⟩ => same_t s2 hS) ?_ ?_
  · rintro i y T σ H2 H3 hy ⟨u1, u2, u3, u4, u5, rfl, s2⟩ nT s3 hT
    have hi6 : i < 6 := by
      have := (List.getElem?_eq_some_iff.mp hy).1
      have := ok.six
      omega
    obtain ⟨dd, hd, hDx⟩ := hX.get hy
    obtain ⟨fi, hfi, rfl⟩ : ∃ fi, fs[i]? = some fi ∧ pField fi = dd := by simpa using hd
    have fm : fi ∈ fs := List.mem_of_getElem? hfi
    obtain ⟨t2, ys, rfl, hT2, hY⟩ := ((s2.trans s3).dp hDx).inv_t
    obtain ⟨v1, v2, rfl, hv1, hv2⟩ := hY.inv2
    obtain rfl := hv1.inv_s
    obtain rfl := hv2.inv_i
    refine g_gtup (SqT.of hT) rfl ?_
    walk_at "go"
    refine g_gtup hT2 rfl ?_
    walk_at "go"
    have sA := s2.trans s3
    refine g_slT (same_t sA hS) fun p4 H4 s4 hp4 => ?_
    rw [cutV_to] at hp4
    walk_at "go"
    have hXt : DpAll K H4 (xs.take i) ((fs.take i).map pField) := by
      rw [List.map_take]
      exact dpa_take i ((sA.trans s4).dpa hX)
    refine n_lcT hp4 (lc_map (walk_tup (xs := xs.take i)) (fun j => .str ((fs.getD j ("", 0)).1)) (fun H5 s5 => same_t s5 hp4) ?_ ?_)
    · rintro C j y H5 H6 nC hj s5 hC ⟨e, hyj⟩
      subst e
      obtain ⟨dj, hdj, hDj⟩ := (s5.dpa hXt).get hyj
      obtain ⟨fj, hfj, rfl⟩ := getm hdj
      obtain ⟨t3, zs, rfl, hT3, hZ⟩ := hDj.inv_t
      obtain ⟨w1, w2, rfl, hw1, hw2⟩ := hZ.inv2
      obtain rfl := hw1.inv_s
      have hjl : j < xs.length := by simp at hj; omega
      have hfj' : fs[j]? = some fj := by
        rw [List.getElem?_take] at hfj
        split at hfj
        · exact hfj
        · cases hfj
      walk_at "go"
      refine ⟨rfl, ?_⟩
      walk_at "go"
      refine g_ix_t hT3 atI_c0 ?_
      have := ok.six
      exact n_mapK nC s5 hC (by rw [getD_of hfj'])
    · intro C5 H5 nC s5 hC
      have e1 : (List.range (xs.take i).length).map (fun j => V.str ((fs.getD j ("", 0)).1)) = ((fs.take i).map (·.1)).map V.str := by
        have el : (xs.take i).length = (fs.take i).length := by simp [hxl]
        rw [el, List.map_map]
        refine Eq.trans ?_ (range_getD (fs.take i) ("", 0) fun f : Str × Int => V.str f.1)
        apply List.map_congr_left
        intro j hj
        have hj' : j < i ∧ j < fs.length := by simp at hj; omega
        simp [List.getD, List.getElem?_take, hj'.1]
      rw [e1] at hC
      walk_at "go"
      refine if_D (fun e => absurd e (by omega)) (fun _ => ?_)
      walk_at "go"
      refine ⟨fi.1, rfl, ?_, fun H6 s6 => ?_⟩
      · have := (ok.nm fi fm).2.1
        rw [Str.length, ← Array.length_toList, sizeLine_eq]; omega
      rw [decide_eq_true (ok.nm fi fm)]
      walk_at "go"
      refine if_F rfl ?_
      walk_at "go"
      have hb := ok.lo fi fm
      refine g_ch (fun _ => ?_) (fun e => absurd hb.1 (of_decide_eq_false e))
      walk_at "go"
      refine if_F (by rw [decide_eq_true hb.2]; rfl) ?_
      walk_at "go"
      refine g_in_seq (.inl (SqL.of (s6 _ _ hC))) rfl (flat_strs _) ?_
      rw [inV_strs, decide_eq_false (nodup_take ok.nd hfi)]
      walk_at "go"
      refine if_F rfl ?_
      have hp := prod_take ok.lo i
      walk_at "go"
      have ep : prodL ((fs.take i).map (·.2)) * fi.2 = prodL ((fs.take (i + 1)).map (·.2)) := by
        rw [List.take_add_one, hfi]
        simp only [Option.toList_some, List.map_append, List.map_cons, List.map_nil, prodL_snoc]
      rw [ep]
      exact ⟨_, _, _, _, _, rfl, sA.trans (s4.trans (s5.trans s6))⟩
  · rintro σ H2 ⟨u1, u2, u3, u4, u5, rfl, s2⟩
    rw [hxl, List.take_length]
    walk_at "go"
    refine if_D (fun e => absurd e (by have := ok.pr; omega)) (fun _ => ?_)
    walk_at "go"
    refine n_sfld (s2 _ _ hx) C.cl C.rows (by show 0 < 1000; decide) fun H3 k3 h3 => ?_
    exact k H3 (fun b o nb hb => k3 _ _ nb (s2 _ _ hb)) h3
def sp_farm_fields (K : PySem.W.Frag) (CF : Addr) : Sp := fun vs H Q _ => ∃ (p dx t : Addr), vs = [.ref p] ∧ H p = some (.ins CF dx (farmFs t)) ∧ Q (.ref t) H
theorem ok_farm_fields (C : FarmC K CF) (G : Gp K CF "fields" "Farm.fields" s_Farm_fields) : PropR P w K mg base CF "fields" 2 (sp_farm_fields K CF) := by
  refine prop_mk G fun f fd F => fnr_mk (F.ok sc_Farm_fields ?_ (fun cdv A outer s H vs Q E hr h => ?_)) (F.bindsN (fun _ _ _ _ _ _ us hl => match us, hl with | [_], _ => rfl))
  · rintro vs H Q E ⟨z, _, _, rfl, _⟩; rfl
  · obtain ⟨p, dx, t, rfl, hp, k⟩ := h
    have nd := sc_Farm_fields.nd
    refine ⟨_, PSs.nox (pss_one (ps_ret (pe_fldK K (pv 0)))), ?_⟩
    show (_ : TS) _ [some (.ref p)] H
    walk_at "go"
    exact n_fld hp C.cl C.rows rfl k
def sp_farm_len (K : PySem.W.Frag) (CF : Addr) : Sp := fun vs H Q _ => ∃ (p dx t : Addr) (xs : List V), vs = [.ref p] ∧ H p = some (.ins CF dx (farmFs t)) ∧ SqT K H t xs ∧ Q (.int xs.length) H
theorem ok_farm_len (M : Md K mg) (C : FarmC K CF) (G : Gm K CF "__len__" "Farm.__len__" s_Farm___len__) : MethR P w K mg base CF "__len__" 2 (sp_farm_len K CF) := by
  refine meth_mk G fun f fd F => FnU.raw <| fnr_mk (F.ok sc_Farm___len__ ?_ (fun cdv A outer s H vs Q E hr h => ?_)) (F.bindsN (fun _ _ _ _ _ _ us hl => match us, hl with | [_], _ => rfl))
  · rintro vs H Q E ⟨z, _, _, _, rfl, _⟩; rfl
  · obtain ⟨p, dx, t, xs, rfl, hp, hS, k⟩ := h
    have nd := sc_Farm___len__.nd
    refine ⟨_, PSs.nox (pss_one (ps_ret (pe_len K M.b (pe_fldK K (pv 0))))), ?_⟩
    show (_ : TS) _ [some (.ref p)] H
    walk_at "go"
    refine n_fld hp C.cl C.rows rfl ?_
    walk_at "go"
    exact g_len_t hS k

end
abbrev s_Farm_names : Stmt := inClass (top 15) 5
abbrev N_Farm_names : List Str := ["self", "name", "limit"]
theorem sc_Farm_names : FnScope N_Farm_names ["self"] (defScope s_Farm_names) := ⟨rfl, rfl, rfl, by decide +kernel, rfl, by decide +kernel, by decide +kernel⟩
abbrev s_Farm_limits : Stmt := inClass (top 15) 6
abbrev N_Farm_limits : List Str := ["self", "name", "limit"]
theorem sc_Farm_limits : FnScope N_Farm_limits ["self"] (defScope s_Farm_limits) := ⟨rfl, rfl, rfl, by decide +kernel, rfl, by decide +kernel, by decide +kernel⟩
abbrev s_Farm___add__ : Stmt := inClass (top 15) 13
abbrev N_Farm___add__ : List Str := ["self", "other", "fields"]
theorem sc_Farm___add__ : FnScope N_Farm___add__ ["self", "other"] (defScope s_Farm___add__) := ⟨rfl, rfl, rfl, by decide +kernel, rfl, by decide +kernel, by decide +kernel⟩
abbrev s_require_field : Stmt := top 16
abbrev N_require_field : List Str := ["farm", "name"]
theorem sc_require_field : FnScope N_require_field ["farm", "name"] (defScope s_require_field) := ⟨rfl, rfl, rfl, by decide +kernel, rfl, by decide +kernel, by decide +kernel⟩
abbrev s_law_farm : Stmt := top 31
abbrev N_law_farm : List Str := ["_law_fields_here", "_law_result", "_law_field"]
theorem sc_law_farm : FnScope N_law_farm ["_law_fields_here"] (defScope s_law_farm) := ⟨rfl, rfl, rfl, by decide +kernel, rfl, by decide +kernel, by decide +kernel⟩
section
variable {P : Program} {w : World} {K : PySem.W.Frag}
variable {mg : Str → Option Value} {base : Heap}
theorem FarmAt.same {H H' : Hp} {p : Addr} {fs : List (Str × Int)} (e : Same H H') (h : FarmAt K CF H p fs) : FarmAt K CF H' p fs := let ⟨dx, t, h1, h2⟩ := h; ⟨dx, t, e _ _ h1, e.dp h2⟩
def sp_farm_names (K : PySem.W.Frag) (CF : Addr) : Sp := fun vs H Q _ => ∃ (p : Addr) (fs : List (Str × Int)), vs = [.ref p] ∧ FarmAt K CF H p fs ∧ fs.length ≤ 6 ∧ ∀ H' t, Same H H' → SqT K H' t (fs.map fun f => V.str f.1) → Q (.ref t) H'
theorem ok_farm_names (M : Md K mg) (C : FarmC K CF) (G : Gp K CF "names" "Farm.names" s_Farm_names) : PropR P w K mg base CF "names" 2 (sp_farm_names K CF) := by
  refine prop_mk G fun f fd F => fnr_mk (F.ok sc_Farm_names ?_ (fun cdv A outer s H vs Q E hr h => ?_)) (F.bindsN (fun _ _ _ _ _ _ us hl => match us, hl with | [_], _ => rfl))
  · rintro vs H Q E ⟨p, fs, rfl, _⟩; rfl
  · obtain ⟨p, fs, rfl, ⟨dx, t, hp, hv⟩, six, k⟩ := h
    have nd := sc_Farm_names.nd
    obtain ⟨t', xs, e, hS, hX⟩ := hv.inv_t
    cases e
    have hxl : xs.length = fs.length := by rw [hX.length]; simp
    refine ⟨_, PSs.nox (pss_one (ps_ret (pe_tupOf K M.b (pe_lc (own := [("name", 1), ("limit", 2)]) (g := (gTup K 2 (gCons (gName 1) (gCons (gName 2) gNil)))) (tt := tYes) rfl nd (pi_tupK K (pe_fldK K (pv 0))) (blkOk_by (N := N_Farm_names) (sc := defScope s_Farm_names) (by decide +kernel)) (fun _ _ _ _ _ => (pg_tupK K rfl (pgs_cons (pg_name (i := 1) nd rfl (by first | exact Or.inl rfl | exact Or.inr rfl)) (pgs_cons (pg_name (i := 2) nd rfl (by first | exact Or.inl rfl | exact Or.inr rfl)) pgs_nil)))) (fun _ _ _ _ _ => pts_nil) (fun _ _ _ _ _ => (pv 1)))))), ?_⟩
    show (_ : TS) _ [some (.ref p), none, none] H
    walk_at "go"
    refine n_fld hp C.cl C.rows rfl ?_
    refine n_lcT hS (lc_map (walk_tup (xs := xs)) (fun j => .str ((fs.getD j ("", 0)).1)) (fun H5 s5 => same_t s5 hS) ?_ ?_)
    · rintro L j y H5 H6 nC hj s5 hC ⟨e, hyj⟩
      subst e
      obtain ⟨dj, hdj, hDj⟩ := (s5.dpa hX).get hyj
      obtain ⟨fj, hfj, rfl⟩ := getm hdj
      obtain ⟨t3, zs, rfl, hT3, hZ⟩ := hDj.inv_t
      obtain ⟨w1, w2, rfl, hw1, hw2⟩ := hZ.inv2
      obtain rfl := hw1.inv_s
      walk_at "go"
      refine g_gtup hT3 rfl ?_
      walk_at "go"
      refine ⟨rfl, ?_⟩
      walk_at "go"
      exact n_mapK nC s5 hC (by rw [getD_of hfj])
    · intro L H5 nC s5 hC
      have e1 : (List.range xs.length).map (fun j => V.str ((fs.getD j ("", 0)).1)) = fs.map fun f => V.str f.1 := by
        rw [hxl]
        exact range_getD fs ("", 0) fun f : Str × Int => V.str f.1
      rw [e1] at hC
      refine g_tupOf_l (SqL.of hC) fun l H6 nl s6 hl => ?_
      walk_at "go"
      exact k H6 l (s5.trans s6) (SqT.of hl)
def sp_farm_limits (K : PySem.W.Frag) (CF : Addr) : Sp := fun vs H Q _ => ∃ (p : Addr) (fs : List (Str × Int)), vs = [.ref p] ∧ FarmAt K CF H p fs ∧ fs.length ≤ 6 ∧ ∀ H' t, Same H H' → SqT K H' t (fs.map fun f => V.int f.2) → Q (.ref t) H'
theorem ok_farm_limits (M : Md K mg) (C : FarmC K CF) (G : Gp K CF "limits" "Farm.limits" s_Farm_limits) : PropR P w K mg base CF "limits" 2 (sp_farm_limits K CF) := by
  refine prop_mk G fun f fd F => fnr_mk (F.ok sc_Farm_limits ?_ (fun cdv A outer s H vs Q E hr h => ?_)) (F.bindsN (fun _ _ _ _ _ _ us hl => match us, hl with | [_], _ => rfl))
  · rintro vs H Q E ⟨p, fs, rfl, _⟩; rfl
  · obtain ⟨p, fs, rfl, ⟨dx, t, hp, hv⟩, six, k⟩ := h
    have nd := sc_Farm_limits.nd
    obtain ⟨t', xs, e, hS, hX⟩ := hv.inv_t
    cases e
    have hxl : xs.length = fs.length := by rw [hX.length]; simp
    refine ⟨_, PSs.nox (pss_one (ps_ret (pe_tupOf K M.b (pe_lc (own := [("name", 1), ("limit", 2)]) (g := (gTup K 2 (gCons (gName 1) (gCons (gName 2) gNil)))) (tt := tYes) rfl nd (pi_tupK K (pe_fldK K (pv 0))) (blkOk_by (N := N_Farm_limits) (sc := defScope s_Farm_limits) (by decide +kernel)) (fun _ _ _ _ _ => (pg_tupK K rfl (pgs_cons (pg_name (i := 1) nd rfl (by first | exact Or.inl rfl | exact Or.inr rfl)) (pgs_cons (pg_name (i := 2) nd rfl (by first | exact Or.inl rfl | exact Or.inr rfl)) pgs_nil)))) (fun _ _ _ _ _ => pts_nil) (fun _ _ _ _ _ => (pv 2)))))), ?_⟩
    show (_ : TS) _ [some (.ref p), none, none] H
    walk_at "go"
    refine n_fld hp C.cl C.rows rfl ?_
    refine n_lcT hS (lc_map (walk_tup (xs := xs)) (fun j => .int ((fs.getD j ("", 0)).2)) (fun H5 s5 => same_t s5 hS) ?_ ?_)
    · rintro L j y H5 H6 nC hj s5 hC ⟨e, hyj⟩
      subst e
      obtain ⟨dj, hdj, hDj⟩ := (s5.dpa hX).get hyj
      obtain ⟨fj, hfj, rfl⟩ := getm hdj
      obtain ⟨t3, zs, rfl, hT3, hZ⟩ := hDj.inv_t
      obtain ⟨w1, w2, rfl, hw1, hw2⟩ := hZ.inv2
      obtain rfl := hw2.inv_i
      walk_at "go"
      refine g_gtup hT3 rfl ?_
      walk_at "go"
      refine ⟨rfl, ?_⟩
      walk_at "go"
      exact n_mapK nC s5 hC (by rw [getD_of hfj])
    · intro L H5 nC s5 hC
      have e1 : (List.range xs.length).map (fun j => V.int ((fs.getD j ("", 0)).2)) = fs.map fun f => V.int f.2 := by
        rw [hxl]
        exact range_getD fs ("", 0) fun f : Str × Int => V.int f.2
      rw [e1] at hC
      refine g_tupOf_l (SqL.of hC) fun l H6 nl s6 hl => ?_
      walk_at "go"
      exact k H6 l (s5.trans s6) (SqT.of hl)
theorem FOk.single {fs : List (Str × Int)} (ok : FOk fs) {f : Str × Int} (hf : f ∈ fs) : FOk [f] := by
  have := ok.lo f hf
  exact ⟨by simp, by simp, by simp, fun g hg => by simp at hg; subst hg; exact ok.nm _ hf, fun g hg => by simp at hg; subst hg; exact this, by simp [prodL]; omega⟩
theorem prodL_cons (x : Int) (l : List Int) : prodL (x :: l) = x * prodL l := by
  have h : ∀ (l : List Int) (a b : Int), l.foldl (· * ·) (a * b) = a * l.foldl (· * ·) b := by
    intro l
    induction l with
    | nil => intro a b; rfl
    | cons y r ih => intro a b; simp only [List.foldl_cons, Int.mul_assoc]; exact ih a (b * y)
  have := h l x 1
  simpa [prodL, Int.mul_comm] using this
theorem prodL_pos {l : List Int} (h : ∀ x ∈ l, 1 ≤ x) : 1 ≤ prodL l := by
  induction l with
  | nil => simp [prodL]
  | cons x r ih =>
    rw [prodL_cons]
    have h1 := h x (by simp)
    have h2 := ih fun y hy => h y (by simp [hy])
    exact Int.le_trans h1 (by have := Int.mul_le_mul_of_nonneg_left h2 (by omega : 0 ≤ x); omega)
theorem prodL_app (a b : List Int) : prodL (a ++ b) = prodL a * prodL b := by
  induction a with
  | nil => simp [prodL]
  | cons x r ih => rw [List.cons_append, prodL_cons, prodL_cons, ih, Int.mul_assoc]
theorem FOk.take {fs : List (Str × Int)} (ok : FOk fs) (i : Nat) : FOk (fs.take (i + 1)) := by
  have hm : ∀ f ∈ fs.take (i + 1), f ∈ fs := fun f hf => List.mem_of_mem_take hf
  refine ⟨?_, ?_, ?_, fun f hf => ok.nm f (hm f hf), fun f hf => ok.lo f (hm f hf), ?_⟩
  · have := ok.one
    simp; omega
  · have := ok.six
    simp; omega
  · rw [List.map_take]
    exact ok.nd.sublist (List.take_sublist _ _)
  · have e : fs.map (·.2) = (fs.take (i + 1)).map (·.2) ++ (fs.drop (i + 1)).map (·.2) := by rw [← List.map_append, List.take_append_drop]
    have h1 := ok.pr
    rw [e, prodL_app] at h1
    have h2 : 1 ≤ prodL ((fs.take (i + 1)).map (·.2)) := prodL_pos fun x hx => by
      obtain ⟨f, hf, rfl⟩ := List.mem_map.mp hx
      exact (ok.lo f (hm f hf)).1
    have h3 : 1 ≤ prodL ((fs.drop (i + 1)).map (·.2)) := prodL_pos fun x hx => by
      obtain ⟨f, hf, rfl⟩ := List.mem_map.mp hx
      exact (ok.lo f (List.mem_of_mem_drop hf)).1
    have := Int.mul_le_mul_of_nonneg_left h3 (by omega : 0 ≤ prodL ((fs.take (i + 1)).map (·.2)))
    omega
/-- Farm( .. ): a new farm of these fields -/
theorem n_farm {H : Hp} {Q : VK} {E : XK} {xs : List V} {fs : List (Str × Int)} (hX : DpAll K H xs (fs.map pField)) (ok : FOk fs) (h : ∀ H' p, Same H H' → H p = none → FarmAt K CF H' p fs → Q (.ref p) H') : MkK CF (sp_farm_init K CF) E Q xs H := by
  have hl : xs.length ≤ 6 := by rw [hX.length]; simpa using ok.six
  refine n_make fun fx fdx H8 nfx nfdx nefx s8 hfx hfdx => ?_
  refine ⟨.ref fx, xs, rfl, by rw [sizeLine_eq]; omega, fun t ht => ?_⟩
  have st := same_new (o := .tup xs) ht
  have hT : Dp K (upd H8 t (.tup xs)) (.ref t) (.tuple (fs.map pField)) := dp_tup upd_same (st.dpa (s8.dpa hX))
  refine ⟨fx, fdx, t, fs, rfl, st _ _ hfx, hT, ok, fun H9 k9 h9 => ⟨rfl, ?_⟩⟩
  exact h H9 fx (fun b o hb => k9 _ _ (ne_of_none hb nfx) (st _ _ (s8 _ _ hb))) nfx ⟨fdx, t, h9, dp_keep k9 (notT_i (st _ _ hfx)) _ _ (by show noLs _ = true; exact noL_fields fs) hT⟩
def sp_farm_add (K : PySem.W.Frag) (CF : Addr) : Sp := fun vs H Q _ => ∃ (p q : Addr) (fs gs : List (Str × Int)), vs = [.ref p, .ref q] ∧ FarmAt K CF H p fs ∧ FarmAt K CF H q gs ∧ FOk (fs ++ gs) ∧ ∀ H' r, Same H H' → FarmAt K CF H' r (fs ++ gs) → Q (.ref r) H'
theorem ok_farm_add (M : Md K mg) (C : FarmC K CF) (G : Gm K CF "__add__" "Farm.__add__" s_Farm___add__) (K_Farm : MakeR P w K mg base "Farm" CF 4 (sp_farm_init K CF)) : MethR P w K mg base CF "__add__" 7 (sp_farm_add K CF) := by
  refine meth_mk G fun f fd F => FnU.raw <| fnr_mk (F.ok sc_Farm___add__ ?_ (fun cdv A outer s H vs Q E hr h => ?_)) (F.bindsN (fun _ _ _ _ _ _ us hl => match us, hl with | [_, _], _ => rfl))
  · rintro vs H Q E ⟨p, q, fs, gs, rfl, _⟩; rfl
  · obtain ⟨p, q, fs, gs, rfl, ⟨dx, t, hp, hv⟩, ⟨dy, u, hq, hw⟩, ok, k⟩ := h
    have nd := sc_Farm___add__.nd
    obtain ⟨t', xs, e, hS, hX⟩ := hv.inv_t
    cases e
    obtain ⟨u', ys, e, hR, hY⟩ := hw.inv_t
    cases e
    refine ⟨_, PSs.nox (pss_cons (ps_set (i := 2) nd rfl (by first | exact Or.inl rfl | exact Or.inr rfl) (pe_op (op_addK K) (pe_fldK K (pv 0)) (pe_fldK K (pv 1))))
    (pss_one (ps_ret (pe_makeSK K K_Farm (hr.mono (by first | decide | omega)) passN (pv 2))))), ?_⟩
    show (_ : TS) _ [some (.ref p), some (.ref q), none] H
    walk_at "go"
    refine n_fld hp C.cl C.rows rfl ?_
    walk_at "go"
    refine n_fld hq C.cl C.rows rfl ?_
    have hl : xs.length + ys.length ≤ 6 := by
      rw [hX.length, hY.length]
      have := ok.six
      simpa using this
    refine g_add_t hS hR (by rw [sizeLine_eq]; omega) fun r H1 s1 hr1 => ?_
    walk_at "go"
    refine n_star1 (.inl hr1) ?_
    refine n_farm (fs := fs ++ gs) ?_ ok fun H2 z s2 _ hz => k H2 z (s1.trans s2) hz
    rw [List.map_append]
    exact dpa_app (s1.dpa hX) (s1.dpa hY)
def sp_require_field (K : PySem.W.Frag) (CF : Addr) : Sp := fun vs H Q _ => ∃ (p : Addr) (z : Str) (fs : List (Str × Int)), vs = [.ref p, .str z] ∧ FarmAt K CF H p fs ∧ fs.length ≤ 6 ∧ z ∈ fs.map (·.1) ∧ ∀ H', Same H H' → Q .non H'
theorem ok_require_field (M : Md K mg) (G : Gd K mg "require_field" s_require_field) (P_Farm_names : PropR P w K mg base CF "names" 2 (sp_farm_names K CF)) : DefR P w K mg base "require_field" 5 (sp_require_field K CF) := by
  refine def_mk G fun f fd F => fnr_mk (F.ok sc_require_field ?_ (fun cdv A outer s H vs Q E hr h => ?_)) (F.bindsN (fun _ _ _ _ _ _ us hl => match us, hl with | [_, _], _ => rfl))
  · rintro vs H Q E ⟨p, z, fs, rfl, _⟩; rfl
  · obtain ⟨p, z, fs, rfl, hF, six, hz, k⟩ := h
    have nd := sc_require_field.nd
    have hF' := hF
    obtain ⟨dx, t, hp, hv⟩ := hF'
    refine ⟨_, PSs.nox (pss_one (ps_if (pt_cmpR (op_notInK K hr) (pv 1) (pe_propR P_Farm_names (hr.mono (by first | decide | omega)) (pv 0)) rfl) (pss_one ps_never) pss_nil)), ?_⟩
    show (_ : TS) _ [some (.ref p), some (.str z)] H
    walk_at "go"
    refine n_prop hp ⟨p, fs, rfl, hF, six, fun H1 r s1 hr1 => ?_⟩
    have e : (fs.map fun f => V.str f.1) = (fs.map (·.1)).map V.str := by simp
    rw [e] at hr1
    refine g_notIn_seq (.inr hr1) rfl (flat_strs _) ?_
    rw [inV_strs, decide_eq_true hz]
    walk_at "go"
    refine if_F rfl ?_
    walk_at "go"
    exact k H1 s1
def sp_law_farm (K : PySem.W.Frag) (CF : Addr) : Sp := fun vs H Q _ => ∃ (v : V) (fs : List (Str × Int)), vs = [v] ∧ Dp K H v (.list (fs.map pField)) ∧ FOk fs ∧ ∀ H' p, Same H H' → FarmAt K CF H' p fs → Q (.ref p) H'
theorem ok_law_farm (M : Md K mg) (G : Gd K mg "_law_farm" s_law_farm) (SF : PySem.W.selfFirst K CF = true) (K_Farm : MakeR P w K mg base "Farm" CF 4 (sp_farm_init K CF)) (M_Farm___add__ : MethR P w K mg base CF "__add__" 7 (sp_farm_add K CF)) : DefR P w K mg base "_law_farm" 9 (sp_law_farm K CF) := by
  refine def_mk G fun f fd F => fnr_mk (F.ok sc_law_farm ?_ (fun cdv A outer s H vs Q E hr h => ?_)) (F.bindsN (fun _ _ _ _ _ _ us hl => match us, hl with | [_], _ => rfl))
  · rintro vs H Q E ⟨v, fs, rfl, _⟩; rfl
  · obtain ⟨v, fs, rfl, hv, ok, k⟩ := h
    have nd := sc_law_farm.nd
    obtain ⟨l, xs, rfl, hS, hX⟩ := hv.inv_l
    have hxl : xs.length = fs.length := by rw [hX.length]; simp
    refine ⟨_, PSs.nox (pss_cons (ps_set (i := 1) nd rfl (by first | exact Or.inl rfl | exact Or.inr rfl) (pe_makeP K_Farm (hr.mono (by first | decide | omega)) passN (pa_cons (pe_ix (ix_K K) (pv 0) pe_int (fun _ _ => rfl)) pa_nil)))
    (pss_cons (ps_for PassesOwn.never rfl (pi_listK K (pe_slice (sl_listK K) (pv 0) (po_some pe_int) po_none)) (pg_name (i := 2) nd rfl (by first | exact Or.inl rfl | exact Or.inr rfl)) (pss_one (ps_set (i := 1) nd rfl (by first | exact Or.inl rfl | exact Or.inr rfl) (pe_op (op_own2 M_Farm___add__ SF (hr.mono (by first | decide | omega))) (pv 1) (pe_makeP K_Farm (hr.mono (by first | decide | omega)) passN (pa_cons (pv 2) pa_nil)))))) (pss_one (ps_ret (pv 1))))), ?_⟩
    show (_ : TS) _ [some (.ref l), none, none] H
    walk_at "go"
    have h0 : 0 < xs.length := by have := ok.one; omega
    refine g_ix_l hS (v := xs[0]) (atI_nat (j := 0) (by simp [h0])) ?_
    walk_at "go"
    refine n_farm (fs := fs.take 1) ?_ (ok.take 0) fun H1 p s1 np hp => ?_
    · have e : [xs[0]] = xs.take 1 := by
        cases xs with
        | nil => simp at h0
        | cons a r => rfl
      rw [e, List.map_take]
      exact dpa_take 1 hX
    walk_at "go"
    refine g_slL (same_l s1 hS) fun l2 H2 nl2 s2 hl2 => ?_
    rw [show cutV xs (some 1) none = xs.drop 1 from cutV_from xs 1] at hl2
    have hS2 : ∀ H', Same H2 H' → SqL K H' l2 (xs.drop 1) := fun H' e => SqL.of (e _ _ hl2)
    refine n_forL (hS2 _ (Same.refl _)) (fun i σ H' => ∃ (r : Addr) (c : Option V), σ = [some (.ref l), some (.ref r), c] ∧ Same H2 H' ∧ FarmAt K CF H' r (fs.take (i + 1))) ⟨p, none, rfl, Same.refl _, FarmAt.same s2 hp⟩ (fun i σ H' ⟨_, _, _, e, _⟩ => hS2 _ e) ?_ ?_
    · rintro i x σ H3 hx ⟨r, c, rfl, s3, hr3⟩
      have sA := s1.trans (s2.trans s3)
      rw [List.getElem?_drop] at hx
      obtain ⟨d, hd, hDx⟩ := hX.get hx
      obtain ⟨g, hg, rfl⟩ := getm hd
      walk_at "go"
      refine n_farm (fs := [g]) (.cons (sA.dp hDx) .nil) (ok.single (List.mem_of_getElem? hg)) fun H4 q s4 _ hq => ?_
      obtain ⟨dx, t, hrr, hvv⟩ := hr3
      obtain ⟨dy, u, hqq, hww⟩ := hq
      have e2 : fs.take (i + 1) ++ [g] = fs.take (i + 1 + 1) := by
        rw [Nat.add_comm 1 i] at hg
        rw [List.take_add_one (i := i + 1), hg]
        rfl
      refine n_own2 (s4 _ _ hrr) hqq ⟨r, q, fs.take (i + 1), [g], rfl, ⟨dx, t, s4 _ _ hrr, s4.dp hvv⟩, ⟨dy, u, hqq, hww⟩, by rw [e2]; exact ok.take (i + 1), fun H5 z s5 hz => ?_⟩
      walk_at "go"
      rw [e2] at hz
      exact ⟨z, _, rfl, s3.trans (s4.trans s5), hz⟩
    · rintro σ H3 ⟨r, c, rfl, s3, hr3⟩
      walk_at "go"
      have e : fs.take ((xs.drop 1).length + 1) = fs := List.take_of_length_le (by simp; omega)
      rw [e] at hr3
      exact k H3 r (s1.trans (s2.trans s3)) hr3

end
abbrev s_Plan___init__ : Stmt := inClass (top 19) 0
abbrev N_Plan___init__ : List Str := ["self", "lead", "days", "index", "day"]
theorem sc_Plan___init__ : FnScope N_Plan___init__ ["self", "lead", "days"] (defScope s_Plan___init__) := ⟨rfl, rfl, rfl, by decide +kernel, rfl, by decide +kernel, by decide +kernel⟩
abbrev s_Plan_days : Stmt := inClass (top 19) 1
abbrev N_Plan_days : List Str := ["self"]
theorem sc_Plan_days : FnScope N_Plan_days ["self"] (defScope s_Plan_days) := ⟨rfl, rfl, rfl, by decide +kernel, rfl, by decide +kernel, by decide +kernel⟩
abbrev s_Plan_lead : Stmt := inClass (top 19) 2
abbrev N_Plan_lead : List Str := ["self"]
theorem sc_Plan_lead : FnScope N_Plan_lead ["self"] (defScope s_Plan_lead) := ⟨rfl, rfl, rfl, by decide +kernel, rfl, by decide +kernel, by decide +kernel⟩
abbrev s_Plan___len__ : Stmt := inClass (top 19) 4
abbrev N_Plan___len__ : List Str := ["self"]
theorem sc_Plan___len__ : FnScope N_Plan___len__ ["self"] (defScope s_Plan___len__) := ⟨rfl, rfl, rfl, by decide +kernel, rfl, by decide +kernel, by decide +kernel⟩
abbrev s_place_of : Stmt := top 20
abbrev N_place_of : List Str := ["days", "lead", "day"]
theorem sc_place_of : FnScope N_place_of ["days", "lead", "day"] (defScope s_place_of) := ⟨rfl, rfl, rfl, by decide +kernel, rfl, by decide +kernel, by decide +kernel⟩
section
variable {P : Program} {w : World} {K : PySem.W.Frag}
variable {mg : Str → Option Value} {base : Heap}
structure PlanC (K : PySem.W.Frag) (CP : Addr) : Prop where
  cl : Cls K CP
  parts : NoAttr K CP "parts"
  begin_ : NoAttr K CP "begin"
abbrev pDay (zs : List Str) : PyData := .tuple (zs.map .str)
def planFs (t : Addr) (b : Int) : List (Str × V) := [("parts", .ref t), ("begin", .int b)]
def PlanAt (K : PySem.W.Frag) (CP : Addr) (H : Hp) (p : Addr) (ds : List (List Str)) (b : Int) : Prop := ∃ dx t, H p = some (.ins CP dx (planFs t b)) ∧ Dp K H (.ref t) (.tuple (ds.map pDay))
/-- days that a plan takes -/
structure DOk (ds : List (List Str)) (b : Int) : Prop where
  one : 1 ≤ ds.length
  few : ds.length ≤ 100
  nd : ∀ d ∈ ds, d.Nodup
  le : ∀ d ∈ ds, d.length ≤ 8
  b0 : 0 ≤ b
  b1 : b < ds.length
theorem strs_of {H : Hp} : ∀ {ys : List V} {zs : List Str}, DpAll K H ys (zs.map PyData.str) → ys = zs.map V.str
  | _, [], h => h.inv0
  | _, z :: zs, h => by
    obtain ⟨v, r, rfl, h1, h2⟩ := h.inv1
    rw [h1.inv_s, strs_of h2]
    rfl
theorem plan_ne : (("parts" : Str) = ("begin" : Str)) = False := by
  apply eq_false
  decide +kernel
theorem plan_put (t : Addr) (b : Int) : putF "begin" (.int b) [(("parts" : Str), V.ref t)] = planFs t b := by
  show (if ("parts" : Str) = "begin" then _ else (("parts" : Str), V.ref t) :: putF "begin" (.int b) []) = planFs t b
  rw [if_neg (by rw [plan_ne]; exact id)]
  rfl
theorem plan_parts (t : Addr) (b : Int) : (planFs t b).lookup ("parts" : Str) = some (V.ref t) := rfl
theorem plan_begin (t : Addr) (b : Int) : (planFs t b).lookup ("begin" : Str) = some (V.int b) := by
  have h : (("begin" : Str) == ("parts" : Str)) = false := by decide +kernel
  simp [planFs, List.lookup, h]
def sp_plan_init0 (K : PySem.W.Frag) (CP : Addr) : Sp := fun vs H Q _ => ∃ (x dx t : Addr) (ds : List (List Str)) (b : Int), vs = [.ref x, .int b, .ref t] ∧ H x = some (.ins CP dx []) ∧ Dp K H (.ref t) (.tuple (ds.map pDay)) ∧ DOk ds b ∧
  ∀ H', Keep x H H' → H' x = some (.ins CP dx (planFs t b)) → Q .non H'
def sp_plan_init (K : PySem.W.Frag) (CP : Addr) : Sp := fun vs H Q E => ∃ z w0 rest, vs = z :: w0 :: rest ∧ rest.length ≤ sizeLine ∧ ∀ p, H p = none → sp_plan_init0 K CP [w0, z, V.ref p] (upd H p (.tup rest)) Q E
theorem ok_plan_init (M : Md K mg) (C : PlanC K CP) (G : GkK K mg "Plan" CP "Plan.__init__" s_Plan___init__ kws) : MakeRK P w K mg base "Plan" CP 4 "lead" (sp_plan_init K CP) := by
  refine makeK_mk G fun f fd F => fnk_star1 F sc_Plan___init__ (fun _ _ _ _ _ _ _ _ => rfl) (fun _ _ _ _ _ _ _ _ _ _ => rfl) (fun cdv A outer s H vs Q E hr h => ?_)
  obtain ⟨x, dx, t, ds, b, rfl, hx, hv, ok, k⟩ := h
  obtain ⟨t', xs, e, hS, hX⟩ := hv.inv_t
  cases e
  have hxl : xs.length = ds.length := by rw [hX.length]; simp
  have nd := sc_Plan___init__.nd
  refine ⟨_, PSs.nox (pss_cons (ps_for PassesOwn.never rfl (pi_enumTK K rfl M.b.enumerate (pa_cons (pv 2) pa_nil)) (pg_tupK K rfl (pgs_cons (pg_name (i := 3) nd rfl (by first | exact Or.inl rfl | exact Or.inr rfl)) (pgs_cons (pg_name (i := 4) nd rfl (by first | exact Or.inl rfl | exact Or.inr rfl)) pgs_nil))) (pss_one (ps_if (PW.pt (pw_or (pt_cmpR (op_eqK K hr) (pv 3) (pe_gi M.g_MAX_DAYS) (nomark _)) (pw_or1 (pt_cmpR op_lt (as_lenSet K (pe_lenSet rfl rfl M.b.len rfl M.b.set (pv 4))) (pe_len K M.b (pv 4)) (nomark _))))) (pss_one ps_never) pss_nil)))
    (pss_cons (ps_if (pt_not (pt_chain op_le op_lt pe_int (pv 1) (pe_len K M.b (pv 2)))) (pss_one ps_never) pss_nil)
    (pss_cons (ps_fldK K (pv 0) (pv 2)) (pss_one (ps_fldK K (pv 0) (pv 1)))))), ?_⟩
  show (_ : TS) _ [some (.ref x), some (.int b), some (.ref t), none, none] H
  walk_at "go"
  refine n_forET hS (fun i σ H' => ∃ u1 u2 : Option V, σ = [some (.ref x), some (.int b), some (.ref t), u1, u2] ∧ Same H H') ⟨_, _, rfl, Same.refl _⟩ (fun i σ H' ⟨_, _, _, s2⟩ => same_t s2 hS) ?_ ?_
  · rintro i y T σ H2 H3 hy ⟨u1, u2, rfl, s2⟩ nT s3 hT
    obtain ⟨dd, hd, hDx⟩ := hX.get hy
    obtain ⟨zs, hzs, rfl⟩ := getm hd
    have zm : zs ∈ ds := List.mem_of_getElem? hzs
    have sA := s2.trans s3
    obtain ⟨t2, ys, rfl, hT2, hY⟩ := (sA.dp hDx).inv_t
    have ey : ys = zs.map V.str := strs_of hY
    subst ey
    refine g_gtup (SqT.of hT) rfl ?_
    walk_at "go"
    refine if_D (fun e => absurd e (by have := (List.getElem?_eq_some_iff.mp hy).1; have := ok.few; omega)) (fun _ => ?_)
    walk_at "go"
    refine n_lenSet hT2 (ok.nd zs zm) (Nat.le_trans (ok.le zs zm) (by decide)) ?_
    walk_at "go"
    refine g_len_t hT2 ?_
    walk_at "go"
    refine if_F (by simp) ?_
    walk_at "go"
    exact ⟨_, _, rfl, sA⟩
  · rintro σ H2 ⟨u1, u2, rfl, s2⟩
    walk_at "go"
    refine g_ch (fun _ => ?_) (fun e => absurd ok.b0 (of_decide_eq_false e))
    walk_at "go"
    refine g_len_t (same_t s2 hS) ?_
    walk_at "go"
    refine if_F (by rw [hxl, decide_eq_true ok.b1]; rfl) ?_
    walk_at "go"
    refine n_sfld (s2 _ _ hx) C.cl C.parts (by show 0 < 1000; decide) fun H3 k3 h3 => ?_
    walk_at "go"
    refine n_sfld h3 C.cl C.begin_ (by show 1 < 1000; decide) fun H4 k4 h4 => ?_
    refine k H4 (fun c o nb hb => k4 _ _ nb (k3 _ _ nb (s2 _ _ hb))) ?_
    rw [h4]; exact congrArg (fun z => some (HO.ins CP dx z)) (plan_put t b)
def sp_plan_days (CP : Addr) : Sp := fun vs H Q _ => ∃ (p dx t : Addr) (b : Int), vs = [.ref p] ∧ H p = some (.ins CP dx (planFs t b)) ∧ Q (.ref t) H
theorem ok_plan_days (C : PlanC K CP) (G : Gp K CP "days" "Plan.days" s_Plan_days) : PropR P w K mg base CP "days" 2 (sp_plan_days CP) := by
  refine prop_mk G fun f fd F => fnr_mk (F.ok sc_Plan_days ?_ (fun cdv A outer s H vs Q E hr h => ?_)) (F.bindsN (fun _ _ _ _ _ _ us hl => match us, hl with | [_], _ => rfl))
  · rintro vs H Q E ⟨z, _, _, _, rfl, _⟩; rfl
  · obtain ⟨p, dx, t, b, rfl, hp, k⟩ := h
    have nd := sc_Plan_days.nd
    refine ⟨_, PSs.nox (pss_one (ps_ret (pe_fldK K (pv 0)))), ?_⟩
    show (_ : TS) _ [some (.ref p)] H
    walk_at "go"
    exact n_fld hp C.cl C.parts (plan_parts t b) k
def sp_plan_lead (CP : Addr) : Sp := fun vs H Q _ => ∃ (p dx t : Addr) (b : Int), vs = [.ref p] ∧ H p = some (.ins CP dx (planFs t b)) ∧ Q (.int b) H
theorem ok_plan_lead (C : PlanC K CP) (G : Gp K CP "lead" "Plan.lead" s_Plan_lead) : PropR P w K mg base CP "lead" 2 (sp_plan_lead CP) := by
  refine prop_mk G fun f fd F => fnr_mk (F.ok sc_Plan_lead ?_ (fun cdv A outer s H vs Q E hr h => ?_)) (F.bindsN (fun _ _ _ _ _ _ us hl => match us, hl with | [_], _ => rfl))
  · rintro vs H Q E ⟨z, _, _, _, rfl, _⟩; rfl
  · obtain ⟨p, dx, t, b, rfl, hp, k⟩ := h
    have nd := sc_Plan_lead.nd
    refine ⟨_, PSs.nox (pss_one (ps_ret (pe_fldK K (pv 0)))), ?_⟩
    show (_ : TS) _ [some (.ref p)] H
    walk_at "go"
    exact n_fld hp C.cl C.begin_ (plan_begin t b) k
def sp_plan_len (K : PySem.W.Frag) (CP : Addr) : Sp := fun vs H Q _ => ∃ (p : Addr) (ds : List (List Str)) (b : Int), vs = [.ref p] ∧ PlanAt K CP H p ds b ∧ Q (.int ds.length) H
theorem ok_plan_len (M : Md K mg) (C : PlanC K CP) (G : Gm K CP "__len__" "Plan.__len__" s_Plan___len__) : MethR P w K mg base CP "__len__" 2 (sp_plan_len K CP) := by
  refine meth_mk G fun f fd F => FnU.raw <| fnr_mk (F.ok sc_Plan___len__ ?_ (fun cdv A outer s H vs Q E hr h => ?_)) (F.bindsN (fun _ _ _ _ _ _ us hl => match us, hl with | [_], _ => rfl))
  · rintro vs H Q E ⟨z, _, _, rfl, _⟩; rfl
  · obtain ⟨p, ds, b, rfl, ⟨dx, t, hp, hv⟩, k⟩ := h
    have nd := sc_Plan___len__.nd
    obtain ⟨t', xs, e, hS, hX⟩ := hv.inv_t
    cases e
    have hxl : xs.length = ds.length := by rw [hX.length]; simp
    refine ⟨_, PSs.nox (pss_one (ps_ret (pe_len K M.b (pe_fldK K (pv 0))))), ?_⟩
    show (_ : TS) _ [some (.ref p)] H
    walk_at "go"
    refine n_fld hp C.cl C.parts (plan_parts t b) ?_
    refine g_len_t hS ?_
    rw [hxl]
    exact k
/-- the place of a day -/
def plc (n : Nat) (b d : Int) : Int := if d < n then d else b + (d - b) % (n - b)
def sp_place_of (K : PySem.W.Frag) : Sp := fun vs H Q _ => ∃ (t : Addr) (xs : List V) (b d : Int), vs = [.ref t, .int b, .int d] ∧ SqT K H t xs ∧ b < xs.length ∧ Q (.int (plc xs.length b d)) H
theorem ok_place_of (M : Md K mg) (G : Gd K mg "place_of" s_place_of) : DefR P w K mg base "place_of" 2 (sp_place_of K) := by
  refine def_mk G fun f fd F => fnr_mk (F.ok sc_place_of ?_ (fun cdv A outer s H vs Q E hr h => ?_)) (F.bindsN (fun _ _ _ _ _ _ us hl => match us, hl with | [_, _, _], _ => rfl))
  · rintro vs H Q E ⟨t, xs, b, d, rfl, _⟩; rfl
  · obtain ⟨t, xs, b, d, rfl, hS, hb, k⟩ := h
    have nd := sc_place_of.nd
    refine ⟨_, PSs.nox (pss_cons (ps_if (pt_cmpR op_lt (pv 2) (pe_len K M.b (pv 0)) (nomark _)) (pss_one (ps_ret (pv 2))) pss_nil)
    (pss_one (ps_ret (pe_op (op_addK K) (pv 1) (pe_op op_mod (pe_int1 M.b (pe_op op_sub (pv 2) (pv 1))) (pe_op op_sub (pe_len K M.b (pv 0)) (pv 1))))))), ?_⟩
    show (_ : TS) _ [some (.ref t), some (.int b), some (.int d)] H
    walk_at "go"
    refine g_len_t hS ?_
    walk_at "go"
    refine if_D (fun e => ?_) (fun e => ?_)
    · walk_at "go"
      rw [plc, if_pos e] at k
      exact k
    · walk_at "go"
      refine g_len_t hS ?_
      walk_at "go"
      rw [plc, if_neg e] at k
      exact k

end
abbrev s_require_known : Stmt := top 21
abbrev N_require_known : List Str := ["farm", "plan", "day", "name"]
theorem sc_require_known : FnScope N_require_known ["farm", "plan"] (defScope s_require_known) := ⟨rfl, rfl, rfl, by decide +kernel, rfl, by decide +kernel, by decide +kernel⟩
section
variable {P : Program} {w : World} {K : PySem.W.Frag}
variable {mg : Str → Option Value} {base : Heap}
theorem PlanAt.same {H H' : Hp} {p : Addr} {ds : List (List Str)} {b : Int} (e : Same H H') (h : PlanAt K CP H p ds b) : PlanAt K CP H' p ds b := let ⟨dx, t, h1, h2⟩ := h; ⟨dx, t, e _ _ h1, e.dp h2⟩
def sp_require_known (K : PySem.W.Frag) (CF CP : Addr) : Sp := fun vs H Q _ => ∃ (p q : Addr) (fs : List (Str × Int)) (ds : List (List Str)) (b : Int), vs = [.ref p, .ref q] ∧ FarmAt K CF H p fs ∧ fs.length ≤ 6 ∧ PlanAt K CP H q ds b ∧ (∀ d ∈ ds, ∀ z ∈ d, z ∈ fs.map (·.1)) ∧ ∀ H', Same H H' → Q .non H'
theorem ok_require_known (M : Md K mg) (G : Gd K mg "require_known" s_require_known) (P_Plan_days : PropR P w K mg base CP "days" 2 (sp_plan_days CP)) (D_require_field : DefR P w K mg base "require_field" 5 (sp_require_field K CF)) : DefR P w K mg base "require_known" 8 (sp_require_known K CF CP) := by
  refine def_mk G fun f fd F => fnr_mk (F.ok sc_require_known ?_ (fun cdv A outer s H vs Q E hr h => ?_)) (F.bindsN (fun _ _ _ _ _ _ us hl => match us, hl with | [_, _], _ => rfl))
  · rintro vs H Q E ⟨p, q, fs, ds, b, rfl, _⟩; rfl
  · obtain ⟨p, q, fs, ds, b, rfl, hF, six, ⟨dx, t, hq, hv⟩, known, k⟩ := h
    have nd := sc_require_known.nd
    obtain ⟨t', xs, e, hS, hX⟩ := hv.inv_t
    cases e
    refine ⟨_, PSs.nox (pss_one (ps_for PassesOwn.never rfl (pi_tupK K (pe_propR P_Plan_days (hr.mono (by first | decide | omega)) (pv 1))) (pg_name (i := 2) nd rfl (by first | exact Or.inl rfl | exact Or.inr rfl)) (pss_one (ps_for PassesOwn.never rfl (pi_tupK K (pv 2)) (pg_name (i := 3) nd rfl (by first | exact Or.inl rfl | exact Or.inr rfl)) (pss_one (ps_expr (pe_callR D_require_field (hr.mono (by first | decide | omega)) passN (pa_cons (pv 0) (pa_cons (pv 3) pa_nil))))))))), ?_⟩
    show (_ : TS) _ [some (.ref p), some (.ref q), none, none] H
    walk_at "go"
    refine n_prop hq ⟨q, dx, t, b, rfl, hq, ?_⟩
    refine n_forT hS (fun i σ H' => ∃ u1 u2 : Option V, σ = [some (.ref p), some (.ref q), u1, u2] ∧ Same H H') ⟨_, _, rfl, Same.refl _⟩ (fun i σ H' ⟨_, _, _, s2⟩ => same_t s2 hS) ?_ ?_
    · rintro i y σ H2 hy ⟨u1, u2, rfl, s2⟩
      obtain ⟨dd, hd, hDx⟩ := hX.get hy
      obtain ⟨zs, hzs, rfl⟩ := getm hd
      have zm : zs ∈ ds := List.mem_of_getElem? hzs
      obtain ⟨t2, ys, rfl, hT2, hY⟩ := (s2.dp hDx).inv_t
      have ey : ys = zs.map V.str := strs_of hY
      subst ey
      walk_at "go"
      refine n_forT hT2 (fun j σ H' => ∃ v1 : Option V, σ = [some (.ref p), some (.ref q), some (.ref t2), v1] ∧ Same H2 H') ⟨_, rfl, Same.refl _⟩ (fun j σ H' ⟨_, _, s3⟩ => same_t s3 hT2) ?_ ?_
      · rintro j z σ H3 hz ⟨v1, rfl, s3⟩
        obtain ⟨z', hz', rfl⟩ := getm hz
        walk_at "go"
        refine ⟨p, z', fs, rfl, FarmAt.same (s2.trans s3) hF, six, known zs zm z' (List.mem_of_getElem? hz'), fun H4 s4 => ?_⟩
        walk_at "go"
        exact ⟨_, rfl, s3.trans s4⟩
      · rintro σ H3 ⟨v1, rfl, s3⟩
        walk_at "go"
        exact ⟨_, _, rfl, s2.trans s3⟩
    · rintro σ H2 ⟨u1, u2, rfl, s2⟩
      walk_at "go"
      exact k H2 s2

end
abbrev s_left_after : Stmt := top 22
abbrev N_left_after : List Str := ["farm", "left", "harvested", "found", "name", "limit", "days"]
theorem sc_left_after : FnScope N_left_after ["farm", "left", "harvested"] (defScope s_left_after) := ⟨rfl, rfl, rfl, by decide +kernel, rfl, by decide +kernel, by decide +kernel⟩
section
variable {P : Program} {w : World} {K : PySem.W.Frag}
variable {mg : Str → Option Value} {base : Heap}
def ItZ (K : PySem.W.Frag) (g : TG) (tb : TS) (D : Ends) (σ : L2.St) (vs : List V) (H1 : Hp) : Prop := ∃ a b xs ys, vs = [.ref a, .ref b] ∧ ((SqL K H1 a xs ∧ SqL K H1 b ys ∧ LoopJ (Itz K a b) g tb D σ H1) ∨ (SqT K H1 a xs ∧ SqT K H1 b ys ∧ LoopJ (RZ.ItzT K a b) g tb D σ H1))
theorem g_forZ {ts : TA} {g : TG} {tbs : TS} {D : Ends} {σ : L2.St} {H : Hp} (h : ts σ H (ItZ K g tbs D σ)) : tFor (RZ.iZipA K ts) g tbs D σ H := h
theorem n_forZT {g : TG} {tbs : TS} {D : Ends} {σ : L2.St} {H : Hp} {a b : Addr} {xs ys : List V} (h1 : SqT K H a xs) (h2 : SqT K H b ys) (hl : xs.length = ys.length) (Pv : Nat → L2.St → Hp → Prop) (h0 : Pv 0 σ H) (hq : ∀ i σ H, Pv i σ H → SqT K H a xs ∧ SqT K H b ys)
    (hs : ∀ (i : Nat) x y T σ H H', xs[i]? = some x → ys[i]? = some y → Pv i σ H → H T = none → Same H H' → H' T = some (.tup [x, y]) → g (.ref T) σ H' fun σ2 H2 => tbs { D with nx := Pv (i + 1), ct := Pv (i + 1), bk := D.nx } σ2 H2) (hd : ∀ σ H, Pv xs.length σ H → D.nx σ H) : ItZ K g tbs D σ [.ref a, .ref b] H :=
  ⟨a, b, xs, ys, rfl, .inr ⟨h1, h2, RZ.for_zipT hl Pv h0 hq (fun i x y T σ H e1 e2 p hn => hs i x y T σ H _ e1 e2 p hn (same_new hn) upd_same) hd⟩⟩
/-- a field rots: it waits its last day and is not harvested; else what is left tomorrow -/
def rotB (zs : List Str) (q : (Str × Int) × Int) : Bool := !decide (q.1.1 ∈ zs) && decide (q.2 = 1)
def nxtL (zs : List Str) (q : (Str × Int) × Int) : Int := if q.1.1 ∈ zs then q.1.2 else q.2 - 1
def sp_left_after (K : PySem.W.Frag) (CF : Addr) : Sp := fun vs H Q _ => ∃ (p t u : Addr) (fs : List (Str × Int)) (ls : List Int) (zs : List Str), vs = [.ref p, .ref t, .ref u] ∧ FarmAt K CF H p fs ∧ fs.length ≤ 6 ∧ SqT K H t (ls.map V.int) ∧ ls.length = fs.length ∧ SqT K H u (zs.map V.str) ∧
  ((fs.zip ls).any (rotB zs) = true → ∀ H', Same H H' → Q .non H') ∧ ((fs.zip ls).any (rotB zs) = false → ∀ H' r, Same H H' → SqT K H' r (((fs.zip ls).map (nxtL zs)).map V.int) → Q (.ref r) H')
theorem ok_left_after (M : Md K mg) (G : Gd K mg "left_after" s_left_after) (P_Farm_fields : PropR P w K mg base CF "fields" 2 (sp_farm_fields K CF)) : DefR P w K mg base "left_after" 5 (sp_left_after K CF) := by
  refine def_mk G fun f fd F => fnr_mk (F.ok sc_left_after ?_ (fun cdv A outer s H vs Q E hr h => ?_)) (F.bindsN (fun _ _ _ _ _ _ us hl => match us, hl with | [_, _, _], _ => rfl))
  · rintro vs H Q E ⟨p, t, u, fs, ls, zs, rfl, _⟩; rfl
  · obtain ⟨p, t, u, fs, ls, zs, rfl, ⟨dx, r, hp, hv⟩, six, hL, hll, hZ, kn, ks⟩ := h
    have nd := sc_left_after.nd
    obtain ⟨r', xs, e, hS, hX⟩ := hv.inv_t
    cases e
    have hxl : xs.length = fs.length := by rw [hX.length]; simp
    refine ⟨_, PSs.nox (pss_cons (ps_set (i := 3) nd rfl (by first | exact Or.inl rfl | exact Or.inr rfl) (pe_lst pa_nil))
    (pss_cons (ps_for PassesOwn.never rfl (pi_zipK K rfl M.b.zip (pa_cons (pe_propR P_Farm_fields (hr.mono (by first | decide | omega)) (pv 0)) (pa_cons (pv 1) pa_nil))) (pg_tupK K rfl (pgs_cons (pg_tupK K rfl (pgs_cons (pg_name (i := 4) nd rfl (by first | exact Or.inl rfl | exact Or.inr rfl)) (pgs_cons (pg_name (i := 5) nd rfl (by first | exact Or.inl rfl | exact Or.inr rfl)) pgs_nil))) (pgs_cons (pg_name (i := 6) nd rfl (by first | exact Or.inl rfl | exact Or.inr rfl)) pgs_nil))) (pss_cons (ps_if (PW.pt (pw_and (pt_cmpR (op_notInK K hr) (pv 4) (pv 2) rfl) (pw_and1 (pt_cmpR (op_eqK K hr) (pv 6) pe_int (nomark _))))) (pss_one (ps_ret pe_non)) pss_nil)
    (pss_one (ps_expr (as_bm K (pe_bm PySem.F.plainAttrs_list PySem.F.slot_list_append PySem.F.type_list_append mt_append (pv 3) (pa_cons (pe_ifExp (pt_cmpR (op_inK K hr) (pv 4) (pv 2) rfl) (pv 5) (pe_op op_sub (pv 6) pe_int)) pa_nil))))))) (pss_one (ps_ret (pe_tupOf K M.b (pv 3)))))), ?_⟩
    show (_ : TS) _ [some (.ref p), some (.ref t), some (.ref u), none, none, none, none] H
    walk_at "go"
    refine n_lst (by simp) fun l H1 nl s1 hl1 => ?_
    walk_at "go"
    refine g_forZ ?_
    walk_at "go"
    refine n_prop (s1 _ _ hp) ⟨p, dx, r, rfl, s1 _ _ hp, ?_⟩
    walk_at "go"
    refine n_forZT (same_t s1 hS) (same_t s1 hL) (by simp [hxl, hll]) (fun i σ H' => ∃ u1 u2 u3 : Option V, σ = [some (.ref p), some (.ref t), some (.ref u), some (.ref l), u1, u2, u3] ∧ Same H H' ∧ H' l = some (.lst ((((fs.zip ls).take i).map (nxtL zs)).map V.int)) ∧ ((fs.zip ls).take i).any (rotB zs) = false)
      ⟨_, _, _, rfl, s1, by simpa using hl1, by simp⟩ (fun i σ H' ⟨_, _, _, _, s2, _⟩ => ⟨same_t s2 hS, same_t s2 hL⟩) ?_ ?_
    · rintro i x y T σ H2 H3 hx hy ⟨u1, u2, u3, rfl, s2, hl2, no⟩ nT s3 hT
      obtain ⟨dd, hd, hDx⟩ := hX.get hx
      obtain ⟨fi, hfi, rfl⟩ := getm hd
      obtain ⟨li, hli, rfl⟩ := getm hy
      have sA := s2.trans s3
      obtain ⟨t2, ys, rfl, hT2, hY⟩ := (sA.dp hDx).inv_t
      obtain ⟨v1, v2, rfl, hv1, hv2⟩ := hY.inv2
      obtain rfl := hv1.inv_s
      obtain rfl := hv2.inv_i
      have hzip : (fs.zip ls)[i]? = some (fi, li) := by
        rw [List.getElem?_zip_eq_some]
        exact ⟨hfi, hli⟩
      refine g_gtup (SqT.of hT) rfl ?_
      walk_at "go"
      refine g_gtup hT2 rfl ?_
      walk_at "go"
      refine g_notIn_seq (.inr (same_t sA hZ)) rfl (flat_strs _) ?_
      rw [inV_strs]
      have hil : i < 6 := by
        have := (List.getElem?_eq_some_iff.mp hx).1
        omega
      have et : (fs.zip ls).take (i + 1) = (fs.zip ls).take i ++ [(fi, li)] := by rw [List.take_add_one, hzip]; rfl
      have fin : ∀ H4, Keep l H3 H4 → rotB zs (fi, li) = false → H4 l = some (.lst ((((fs.zip ls).take i).map (nxtL zs)).map V.int ++ [V.int (nxtL zs (fi, li))])) →
          ∃ u1 u2 u3 : Option V, [some (V.ref p), some (.ref t), some (.ref u), some (.ref l), some (.str fi.1), some (.int fi.2), some (.int li)] = [some (.ref p), some (.ref t), some (.ref u), some (.ref l), u1, u2, u3] ∧ Same H H4 ∧ H4 l = some (.lst ((((fs.zip ls).take (i + 1)).map (nxtL zs)).map V.int)) ∧ ((fs.zip ls).take (i + 1)).any (rotB zs) = false := fun H4 k4 nr h4 =>
        ⟨_, _, _, rfl, fun b o hb => k4 b o (ne_of_none hb nl) (sA b o hb), by rw [et, h4]; simp, by rw [et]; simp only [List.any_append, no, Bool.false_or, List.any_cons, List.any_nil, Bool.or_false, nr]⟩
      have hl3 := s3 _ _ hl2
      by_cases hz : fi.1 ∈ zs
      · rw [decide_eq_true hz]
        walk_at "go"
        refine if_F rfl ?_
        refine if_F rfl ?_
        walk_at "go"
        refine g_in_seq (.inr (same_t sA hZ)) rfl (flat_strs _) ?_
        rw [inV_strs, decide_eq_true hz]
        walk_at "go"
        refine if_T rfl ?_
        walk_at "go"
        refine g_append hl3 (by simp [sizeLine_eq]; omega) fun H4 k4 h4 => ?_
        walk_at "go"
        exact fin H4 k4 (by simp [rotB, hz]) (by rw [h4, nxtL, if_pos hz])
      · rw [decide_eq_false hz]
        walk_at "go"
        refine if_T rfl ?_
        walk_at "go"
        refine if_D (fun e1 => ?_) (fun e1 => ?_)
        · walk_at "go"
          refine kn ?_ H3 sA
          rw [List.any_eq_true]
          exact ⟨(fi, li), List.mem_of_getElem? hzip, by simp [rotB, hz, e1]⟩
        · walk_at "go"
          refine g_in_seq (.inr (same_t sA hZ)) rfl (flat_strs _) ?_
          rw [inV_strs, decide_eq_false hz]
          walk_at "go"
          refine if_F rfl ?_
          walk_at "go"
          refine g_append hl3 (by simp [sizeLine_eq]; omega) fun H4 k4 h4 => ?_
          walk_at "go"
          exact fin H4 k4 (by simp [rotB, e1]) (by rw [h4, nxtL, if_neg hz])
    · rintro σ H2 ⟨u1, u2, u3, rfl, s2, hl2, no⟩
      have el : (fs.zip ls).take xs.length = fs.zip ls := List.take_of_length_le (by simp; omega)
      rw [el] at hl2 no
      walk_at "go"
      refine g_tupOf_l (SqL.of hl2) fun q H3 nq s3 hq3 => ?_
      walk_at "go"
      exact ks no H3 q (s2.trans s3) (SqT.of hq3)

end
abbrev s_law_plan : Stmt := top 33
abbrev N_law_plan : List Str := ["_law_days_here", "_law_back"]
theorem sc_law_plan : FnScope N_law_plan ["_law_days_here", "_law_back"] (defScope s_law_plan) := ⟨rfl, rfl, rfl, by decide +kernel, rfl, by decide +kernel, by decide +kernel⟩
section
variable {P : Program} {w : World} {K : PySem.W.Frag}
variable {mg : Str → Option Value} {base : Heap}
theorem noL_days (ds : List (List Str)) : noLs (ds.map pDay) = true := noLs_of fun d hd => by
  obtain ⟨zs, _, rfl⟩ := List.mem_map.mp hd
  show noLs (zs.map PyData.str) = true
  exact noLs_of fun e he => by
    obtain ⟨z, _, rfl⟩ := List.mem_map.mp he
    rfl
/-- Plan( .., lead=b): a new plan of these days -/
theorem n_plan {H : Hp} {Q : VK} {E : XK} {xs : List V} {ds : List (List Str)} {b : Int} (hX : DpAll K H xs (ds.map pDay)) (ok : DOk ds b) (h : ∀ H' p, Same H H' → H p = none → PlanAt K CP H' p ds b → Q (.ref p) H') : KwMk CP (sp_plan_init K CP) E Q xs [.int b] H := by
  have hl : xs.length ≤ 100 := by rw [hX.length]; simpa using ok.few
  refine n_kwmk fun fx fdx H8 nfx nfdx nefx s8 hfx hfdx => ?_
  refine ⟨.int b, .ref fx, xs, rfl, by rw [sizeLine_eq]; omega, fun t ht => ?_⟩
  have st := same_new (o := .tup xs) ht
  have hT : Dp K (upd H8 t (.tup xs)) (.ref t) (.tuple (ds.map pDay)) := dp_tup upd_same (st.dpa (s8.dpa hX))
  refine ⟨fx, fdx, t, ds, b, rfl, st _ _ hfx, hT, ok, fun H9 k9 h9 => ⟨rfl, ?_⟩⟩
  exact h H9 fx (fun c o hb => k9 _ _ (ne_of_none hb nfx) (st _ _ (s8 _ _ hb))) nfx ⟨fdx, t, h9, dp_keep k9 (notT_i (st _ _ hfx)) _ _ (by show noLs _ = true; exact noL_days ds) hT⟩
def sp_law_plan (K : PySem.W.Frag) (CP : Addr) : Sp := fun vs H Q _ => ∃ (v : V) (ds : List (List Str)) (b : Int), vs = [v, .int b] ∧ Dp K H v (.list (ds.map pDay)) ∧ DOk ds b ∧ ds.length ≤ 6 ∧ ∀ H' p, Same H H' → PlanAt K CP H' p ds b → Q (.ref p) H'
theorem ok_law_plan (M : Md K mg) (G : Gd K mg "_law_plan" s_law_plan) (KK_Plan : MakeRK P w K mg base "Plan" CP 4 "lead" (sp_plan_init K CP)) : DefR P w K mg base "_law_plan" 6 (sp_law_plan K CP) := by
  refine def_mk G fun f fd F => fnr_mk (F.ok sc_law_plan ?_ (fun cdv A outer s H vs Q E hr h => ?_)) (F.bindsN (fun _ _ _ _ _ _ us hl => match us, hl with | [_, _], _ => rfl))
  · rintro vs H Q E ⟨v, ds, b, rfl, _⟩; rfl
  · obtain ⟨v, ds, b, rfl, hv, ok, six, k⟩ := h
    have nd := sc_law_plan.nd
    obtain ⟨l, xs, rfl, hS, hX⟩ := hv.inv_l
    have hxl : xs.length = ds.length := by rw [hX.length]; simp
    have fin : KwMk CP (sp_plan_init K CP) E0 Q xs [.int b] H := n_plan hX ok fun H' p s' _ hp => k H' p s' hp
    refine ⟨_, PSs.nox (pss_cons (ps_if (pt_cmpR (op_eqK K hr) (pe_len K M.b (pv 0)) pe_int (nomark _)) (pss_one (ps_ret (pe_makeKW KK_Plan (hr.mono (by first | decide | omega)) passN (pa_cons (pe_ix (ix_K K) (pv 0) pe_int (fun _ _ => rfl)) pa_nil) (pk_cons (pv 1) pk_nil)))) pss_nil)
    (pss_cons (ps_if (pt_cmpR (op_eqK K hr) (pe_len K M.b (pv 0)) pe_int (nomark _)) (pss_one (ps_ret (pe_makeKW KK_Plan (hr.mono (by first | decide | omega)) passN (pa_cons (pe_ix (ix_K K) (pv 0) pe_int (fun _ _ => rfl)) (pa_cons (pe_ix (ix_K K) (pv 0) pe_int (fun _ _ => rfl)) pa_nil)) (pk_cons (pv 1) pk_nil)))) pss_nil)
    (pss_cons (ps_if (pt_cmpR (op_eqK K hr) (pe_len K M.b (pv 0)) pe_int (nomark _)) (pss_one (ps_ret (pe_makeKW KK_Plan (hr.mono (by first | decide | omega)) passN (pa_cons (pe_ix (ix_K K) (pv 0) pe_int (fun _ _ => rfl)) (pa_cons (pe_ix (ix_K K) (pv 0) pe_int (fun _ _ => rfl)) (pa_cons (pe_ix (ix_K K) (pv 0) pe_int (fun _ _ => rfl)) pa_nil))) (pk_cons (pv 1) pk_nil)))) pss_nil)
    (pss_cons (ps_if (pt_cmpR (op_eqK K hr) (pe_len K M.b (pv 0)) pe_int (nomark _)) (pss_one (ps_ret (pe_makeKW KK_Plan (hr.mono (by first | decide | omega)) passN (pa_cons (pe_ix (ix_K K) (pv 0) pe_int (fun _ _ => rfl)) (pa_cons (pe_ix (ix_K K) (pv 0) pe_int (fun _ _ => rfl)) (pa_cons (pe_ix (ix_K K) (pv 0) pe_int (fun _ _ => rfl)) (pa_cons (pe_ix (ix_K K) (pv 0) pe_int (fun _ _ => rfl)) pa_nil)))) (pk_cons (pv 1) pk_nil)))) pss_nil)
    (pss_cons (ps_if (pt_cmpR (op_eqK K hr) (pe_len K M.b (pv 0)) pe_int (nomark _)) (pss_one (ps_ret (pe_makeKW KK_Plan (hr.mono (by first | decide | omega)) passN (pa_cons (pe_ix (ix_K K) (pv 0) pe_int (fun _ _ => rfl)) (pa_cons (pe_ix (ix_K K) (pv 0) pe_int (fun _ _ => rfl)) (pa_cons (pe_ix (ix_K K) (pv 0) pe_int (fun _ _ => rfl)) (pa_cons (pe_ix (ix_K K) (pv 0) pe_int (fun _ _ => rfl)) (pa_cons (pe_ix (ix_K K) (pv 0) pe_int (fun _ _ => rfl)) pa_nil))))) (pk_cons (pv 1) pk_nil)))) pss_nil)
    (pss_one (ps_ret (pe_makeKW KK_Plan (hr.mono (by first | decide | omega)) passN (pa_cons (pe_ix (ix_K K) (pv 0) pe_int (fun _ _ => rfl)) (pa_cons (pe_ix (ix_K K) (pv 0) pe_int (fun _ _ => rfl)) (pa_cons (pe_ix (ix_K K) (pv 0) pe_int (fun _ _ => rfl)) (pa_cons (pe_ix (ix_K K) (pv 0) pe_int (fun _ _ => rfl)) (pa_cons (pe_ix (ix_K K) (pv 0) pe_int (fun _ _ => rfl)) (pa_cons (pe_ix (ix_K K) (pv 0) pe_int (fun _ _ => rfl)) pa_nil)))))) (pk_cons (pv 1) pk_nil))))))))), ?_⟩
    show (_ : TS) _ [some (.ref l), some (.int b)] H
    have one := ok.one
    rcases xs with _ | ⟨x1, _ | ⟨x2, _ | ⟨x3, _ | ⟨x4, _ | ⟨x5, _ | ⟨x6, _ | ⟨x7, r⟩⟩⟩⟩⟩⟩⟩
    · simp at hxl; omega
    all_goals (try (simp at hxl; omega))
    · walk_at "go"
      refine g_len_l hS ?_
      walk_at "go"
      refine if_T rfl ?_
      walk_at "go"
      refine g_ix_l hS atI_c0 ?_
      walk_at "go"
      exact fin
    · walk_at "go"
      refine g_len_l hS ?_
      walk_at "go"
      refine if_F rfl ?_
      walk_at "go"
      refine g_len_l hS ?_
      walk_at "go"
      refine if_T rfl ?_
      walk_at "go"
      refine g_ix_l hS atI_c0 ?_
      walk_at "go"
      refine g_ix_l hS atI_c1 ?_
      walk_at "go"
      exact fin
    · walk_at "go"
      refine g_len_l hS ?_
      walk_at "go"
      refine if_F rfl ?_
      walk_at "go"
      refine g_len_l hS ?_
      walk_at "go"
      refine if_F rfl ?_
      walk_at "go"
      refine g_len_l hS ?_
      walk_at "go"
      refine if_T rfl ?_
      walk_at "go"
      refine g_ix_l hS atI_c0 ?_
      walk_at "go"
      refine g_ix_l hS atI_c1 ?_
      walk_at "go"
      refine g_ix_l hS atI_c2 ?_
      walk_at "go"
      exact fin
    · walk_at "go"
      refine g_len_l hS ?_
      walk_at "go"
      refine if_F rfl ?_
      walk_at "go"
      refine g_len_l hS ?_
      walk_at "go"
      refine if_F rfl ?_
      walk_at "go"
      refine g_len_l hS ?_
      walk_at "go"
      refine if_F rfl ?_
      walk_at "go"
      refine g_len_l hS ?_
      walk_at "go"
      refine if_T rfl ?_
      walk_at "go"
      refine g_ix_l hS atI_c0 ?_
      walk_at "go"
      refine g_ix_l hS atI_c1 ?_
      walk_at "go"
      refine g_ix_l hS atI_c2 ?_
      walk_at "go"
      refine g_ix_l hS atI_c3 ?_
      walk_at "go"
      exact fin
    · walk_at "go"
      refine g_len_l hS ?_
      walk_at "go"
      refine if_F rfl ?_
      walk_at "go"
      refine g_len_l hS ?_
      walk_at "go"
      refine if_F rfl ?_
      walk_at "go"
      refine g_len_l hS ?_
      walk_at "go"
      refine if_F rfl ?_
      walk_at "go"
      refine g_len_l hS ?_
      walk_at "go"
      refine if_F rfl ?_
      walk_at "go"
      refine g_len_l hS ?_
      walk_at "go"
      refine if_T rfl ?_
      walk_at "go"
      refine g_ix_l hS atI_c0 ?_
      walk_at "go"
      refine g_ix_l hS atI_c1 ?_
      walk_at "go"
      refine g_ix_l hS atI_c2 ?_
      walk_at "go"
      refine g_ix_l hS atI_c3 ?_
      walk_at "go"
      refine g_ix_l hS atI_c4 ?_
      walk_at "go"
      exact fin
    · walk_at "go"
      refine g_len_l hS ?_
      walk_at "go"
      refine if_F rfl ?_
      walk_at "go"
      refine g_len_l hS ?_
      walk_at "go"
      refine if_F rfl ?_
      walk_at "go"
      refine g_len_l hS ?_
      walk_at "go"
      refine if_F rfl ?_
      walk_at "go"
      refine g_len_l hS ?_
      walk_at "go"
      refine if_F rfl ?_
      walk_at "go"
      refine g_len_l hS ?_
      walk_at "go"
      refine if_F rfl ?_
      walk_at "go"
      refine g_ix_l hS atI_c0 ?_
      walk_at "go"
      refine g_ix_l hS atI_c1 ?_
      walk_at "go"
      refine g_ix_l hS atI_c2 ?_
      walk_at "go"
      refine g_ix_l hS atI_c3 ?_
      walk_at "go"
      refine g_ix_l hS atI_c4 ?_
      walk_at "go"
      refine g_ix_l hS atI_c5 ?_
      walk_at "go"
      exact fin

end
section
variable {P : Program} {w : World} {K : PySem.W.Frag}
variable {mg : Str → Option Value} {base : Heap}
/-! ### plain mathematics of plans -/
def dayOf (ds : List (List Str)) (b : Int) (d : Nat) : List Str := ds.getD (plc ds.length b d).toNat []
/-- what is left of each field's days on day d, if nothing rots -/
def stL (fs : List (Str × Int)) (ds : List (List Str)) (b : Int) : Nat → List Int
  | 0 => fs.map (·.2)
  | d + 1 => (fs.zip (stL fs ds b d)).map (nxtL (dayOf ds b d))
def rotAt (fs : List (Str × Int)) (ds : List (List Str)) (b : Int) (d : Nat) : Option Str := ((fs.zip (stL fs ds b d)).find? (rotB (dayOf ds b d))).map (·.1.1)
theorem plc_lt {n : Nat} {b : Int} (d : Nat) (b0 : 0 ≤ b) (b1 : b < n) : 0 ≤ plc n b d ∧ plc n b d < n := by
  unfold plc
  split
  · omega
  · have h1 := Int.emod_nonneg (d - b) (by omega : (n : Int) - b ≠ 0)
    have h2 := Int.emod_lt_of_pos (d - b) (by omega : (0 : Int) < n - b)
    omega
theorem plc_next {n : Nat} {b : Int} (d : Nat) (b0 : 0 ≤ b) (b1 : b < n) : plc n b ((d + 1 : Nat) : Int) = if plc n b d + 1 < n then plc n b d + 1 else b := by
  unfold plc
  by_cases h : ((d + 1 : Nat) : Int) < n
  · rw [if_pos h, if_pos (by omega : (d : Int) < n), if_pos (by omega)]
    omega
  · rw [if_neg h]
    have hp : (0 : Int) < n - b := by omega
    by_cases h2 : (d : Int) < n
    · rw [if_pos h2, if_neg (by omega)]
      have e : ((d + 1 : Nat) : Int) - b = n - b := by omega
      rw [e, Int.emod_self]
      omega
    · rw [if_neg h2]
      have e : ((d + 1 : Nat) : Int) - b = (d - b) + 1 := by omega
      rw [e, Int.add_emod]
      have h3 := Int.emod_nonneg (d - b) (by omega : (n : Int) - b ≠ 0)
      have h4 := Int.emod_lt_of_pos (d - b) hp
      generalize (d - b) % (n - b) = r at *
      by_cases h5 : (n : Int) - b = 1
      · have r0 : r = 0 := by omega
        rw [h5, Int.emod_one, if_neg (by omega), Int.add_zero]
      · have e1 : (1 : Int) % (n - b) = 1 := Int.emod_eq_of_lt (by omega) (by omega)
        rw [e1]
        by_cases h6 : r + 1 < n - b
        · rw [Int.emod_eq_of_lt (by omega) h6, if_pos (by omega)]
          omega
        · have : r + 1 = n - b := by omega
          rw [this, Int.emod_self, if_neg (by omega)]
          omega
theorem stL_len (fs : List (Str × Int)) (ds : List (List Str)) (b : Int) (d : Nat) : (stL fs ds b d).length = fs.length := by
  induction d with
  | zero => simp [stL]
  | succ d ih => simp [stL, ih]
/-- place and days left -/
def stt (fs : List (Str × Int)) (ds : List (List Str)) (b : Int) (d : Nat) : Int × List Int := (plc ds.length b d, stL fs ds b d)
section
variable {fs : List (Str × Int)} {ds : List (List Str)} {b : Int}
theorem stt_next (b0 : 0 ≤ b) (b1 : b < ds.length) {i j : Nat} (h : stt fs ds b i = stt fs ds b j) : stt fs ds b (i + 1) = stt fs ds b (j + 1) := by
  have h1 : plc ds.length b i = plc ds.length b j := congrArg Prod.fst h
  have h2 : stL fs ds b i = stL fs ds b j := congrArg Prod.snd h
  unfold stt
  rw [plc_next i b0 b1, plc_next j b0 b1, h1]
  simp only [stL, dayOf, h1, h2]
theorem rot_same {i j : Nat} (h : stt fs ds b i = stt fs ds b j) : rotAt fs ds b i = rotAt fs ds b j := by
  have h1 : plc ds.length b i = plc ds.length b j := congrArg Prod.fst h
  have h2 : stL fs ds b i = stL fs ds b j := congrArg Prod.snd h
  simp only [rotAt, dayOf, h1, h2]
theorem stt_add (b0 : 0 ≤ b) (b1 : b < ds.length) {i j : Nat} (h : stt fs ds b i = stt fs ds b j) (k : Nat) : stt fs ds b (i + k) = stt fs ds b (j + k) := by
  induction k with
  | zero => exact h
  | succ k ih => exact stt_next b0 b1 ih
/-- a state that comes again: nothing rots ever -/
theorem never (b0 : 0 ≤ b) (b1 : b < ds.length) {i j : Nat} (lt : i < j) (h : stt fs ds b i = stt fs ds b j) (no : ∀ d, d < j → rotAt fs ds b d = none) (d : Nat) : rotAt fs ds b d = none := by
  induction d using Nat.strongRecOn with
  | ind d ih =>
    by_cases hd : d < j
    · exact no d hd
    · have e : stt fs ds b (i + (d - j)) = stt fs ds b (j + (d - j)) := stt_add b0 b1 h _
      have e2 : j + (d - j) = d := by omega
      rw [e2] at e
      rw [← rot_same e]
      exact ih _ (by omega)
end
/-- the last harvest of z before day d, -1 if there was none -/
def lastH (ds : List (List Str)) (b : Int) (z : Str) : Nat → Int
  | 0 => -1
  | d + 1 => if z ∈ dayOf ds b d then (d : Int) else lastH ds b z d
theorem lastH_lt (ds : List (List Str)) (b : Int) (z : Str) (d : Nat) : -1 ≤ lastH ds b z d ∧ lastH ds b z d < d := by
  induction d with
  | zero => simp [lastH]
  | succ d ih =>
    unfold lastH
    split <;> omega
theorem stL_at {fs : List (Str × Int)} {ds : List (List Str)} {b : Int} {k : Nat} {f : Str × Int} (hf : fs[k]? = some f) (d : Nat) : (stL fs ds b d)[k]? = some (f.2 - (d - 1 - lastH ds b f.1 d)) := by
  induction d with
  | zero =>
    simp only [stL, List.getElem?_map, hf, lastH]
    simp
  | succ d ih =>
    have hz : (fs.zip (stL fs ds b d))[k]? = some (f, f.2 - (d - 1 - lastH ds b f.1 d)) := by
      rw [List.getElem?_zip_eq_some]
      exact ⟨hf, ih⟩
    simp only [stL, List.getElem?_map, hz, Option.map_some, nxtL, lastH]
    split <;> (congr 1; omega)
/-- nothing has rotted before d: no field has waited longer than its limit -/
theorem waits {fs : List (Str × Int)} {ds : List (List Str)} {b : Int} (lo : ∀ f ∈ fs, 1 ≤ f.2) {d : Nat} (no : ∀ e, e < d → rotAt fs ds b e = none) {f : Str × Int} (hf : f ∈ fs) : d - lastH ds b f.1 d ≤ f.2 := by
  induction d with
  | zero =>
    have := lo f hf
    simp [lastH]; omega
  | succ d ih =>
    have h1 := ih fun e he => no e (by omega)
    obtain ⟨k, hk⟩ := List.getElem?_of_mem hf
    have h2 := no d (by omega)
    unfold lastH
    split
    · have := lo f hf
      omega
    · rename_i hz
      have hne : (d : Int) - lastH ds b f.1 d ≠ f.2 := by
        intro e
        unfold rotAt at h2
        rw [Option.map_eq_none_iff, List.find?_eq_none] at h2
        have hq : (fs.zip (stL fs ds b d))[k]? = some (f, f.2 - (d - 1 - lastH ds b f.1 d)) := by
          rw [List.getElem?_zip_eq_some]
          exact ⟨hk, stL_at hk d⟩
        have := h2 _ (List.mem_of_getElem? hq)
        apply this
        simp only [rotB, hz, decide_false, Bool.not_false, Bool.true_and, decide_eq_true_eq]
        omega
      omega

end
section
variable {P : Program} {w : World} {K : PySem.W.Frag}
variable {mg : Str → Option Value} {base : Heap}
section
variable {fs : List (Str × Int)} {ds : List (List Str)} {b : Int} {z : Str}
theorem lastH_in {d : Nat} (h : 0 ≤ lastH ds b z d) : z ∈ dayOf ds b (lastH ds b z d).toNat := by
  induction d with
  | zero => simp [lastH] at h
  | succ d ih =>
    unfold lastH at h ⊢
    split at h
    · rename_i hz
      rw [if_pos hz]
      simpa using hz
    · rename_i hz
      rw [if_neg hz]
      exact ih h
theorem lastH_no {d x : Nat} (h1 : lastH ds b z d < x) (h2 : x < d) : z ∉ dayOf ds b x := by
  induction d with
  | zero => omega
  | succ d ih =>
    unfold lastH at h1
    split at h1
    · omega
    · rename_i hz
      by_cases e : x = d
      · rw [e]; exact hz
      · exact ih h1 (by omega)
theorem lastH_eq {d e : Nat} (lt : e < d) (h1 : z ∈ dayOf ds b e) (h2 : ∀ x, e < x → x < d → z ∉ dayOf ds b x) : lastH ds b z d = e := by
  have hl := lastH_lt ds b z d
  by_cases h : lastH ds b z d < e
  · exact absurd h1 (lastH_no h lt)
  · by_cases h' : (e : Int) < lastH ds b z d
    · have := lastH_in (ds := ds) (b := b) (z := z) (d := d) (by omega)
      exact absurd this (h2 _ (by omega) (by omega))
    · omega
theorem plc_per {n : Nat} {p d : Nat} (b0 : 0 ≤ b) (b1 : b < n) (hp : (p : Int) = n - b) (hd : (n : Int) ≤ d) : plc n b ((d + p : Nat) : Int) = plc n b d := by
  unfold plc
  rw [if_neg (by omega : ¬ ((d + p : Nat) : Int) < n), if_neg (by omega : ¬ (d : Int) < n)]
  have e : ((d + p : Nat) : Int) - b = (d - b) + (n - b) := by omega
  rw [e, Int.add_emod_right]
theorem day_per {p d : Nat} (b0 : 0 ≤ b) (b1 : b < ds.length) (hp : (p : Int) = ds.length - b) (hd : ds.length ≤ d) : dayOf ds b (d + p) = dayOf ds b d := by
  unfold dayOf
  rw [plc_per b0 b1 hp (by omega)]
/-- behind the first days a last harvest comes again a period later -/
theorem lastH_per {p d : Nat} (b0 : 0 ≤ b) (b1 : b < ds.length) (hp : (p : Int) = ds.length - b) (h : (ds.length : Int) ≤ lastH ds b z d) : lastH ds b z (d + p) = lastH ds b z d + p := by
  have hl := lastH_lt ds b z d
  have hin := lastH_in (ds := ds) (b := b) (z := z) (d := d) (by omega)
  have e := lastH_eq (ds := ds) (b := b) (z := z) (d := d + p) (e := (lastH ds b z d).toNat + p) (by omega) (by rw [day_per b0 b1 hp (by omega)]; exact hin) (fun x hx1 hx2 => by
    have e2 : x = (x - p) + p := by omega
    rw [e2, day_per b0 b1 hp (by omega)]
    exact lastH_no (d := d) (by omega) (by omega))
  rw [e]; omega
/-- where nothing rots for long enough, a state comes again -/
theorem again (b0 : 0 ≤ b) (b1 : b < ds.length) {m d : Nat} (lo : ∀ f ∈ fs, 1 ≤ f.2) (hi : ∀ f ∈ fs, f.2 ≤ m) (hd : ds.length + m ≤ d) (no : ∀ e, e < d → rotAt fs ds b e = none) : stt fs ds b d = stt fs ds b (d + (ds.length - b).toNat) := by
  have hp : (((ds.length - b).toNat : Nat) : Int) = ds.length - b := by omega
  unfold stt
  rw [plc_per b0 b1 hp (by omega)]
  congr 1
  apply List.ext_getElem?
  intro k
  cases hf : fs[k]? with
  | none =>
    have h1 : fs.length ≤ k := List.getElem?_eq_none_iff.mp hf
    rw [List.getElem?_eq_none_iff.mpr (by rw [stL_len]; exact h1), List.getElem?_eq_none_iff.mpr (by rw [stL_len]; exact h1)]
  | some f =>
    have fm := List.mem_of_getElem? hf
    have hw := waits lo no fm
    have hm := hi f fm
    rw [stL_at hf, stL_at hf, lastH_per b0 b1 hp (by omega)]
    congr 1
    omega
end

end
abbrev s_first_rot : Stmt := top 23
abbrev N_first_rot : List Str := ["farm", "plan", "left", "seen", "day", "harvested", "name", "days"]
theorem sc_first_rot : FnScope N_first_rot ["farm", "plan"] (defScope s_first_rot) := ⟨rfl, rfl, rfl, by decide +kernel, rfl, by decide +kernel, by decide +kernel⟩
section
variable {P : Program} {w : World} {K : PySem.W.Frag}
variable {mg : Str → Option Value} {base : Heap}
abbrev pSt (q : Int × List Int) : PyData := .tuple [.int q.1, .tuple (q.2.map .int)]
theorem eqv_ints : ∀ a b : List Int, PyData.eqvAll (a.map .int) (b.map .int) = decide (a = b)
  | [], m => by cases m <;> simp [PyData.eqvAll]
  | x :: a, [] => by simp [PyData.eqvAll]
  | x :: a, y :: b => by
    simp only [List.map_cons, PyData.eqvAll, PyData.eqv, eqv_ints a b]
    by_cases h : x = y <;> simp [h]
theorem eqv_pSt (a b : Int × List Int) : PyData.eqv (pSt a) (pSt b) = decide (a = b) := by
  obtain ⟨i, l⟩ := a
  obtain ⟨j, m⟩ := b
  simp only [pSt, PyData.eqv, PyData.eqvAll, eqv_ints]
  by_cases h : i = j <;> simp [h]
theorem sh_st (a : Int × List Int) : Sh 2 (pSt a) := sh_t fun d hd => by
  have : d = .int a.1 ∨ d = .tuple (a.2.map .int) := by simpa using hd
  rcases this with rfl | rfl
  · exact (sh_i _).mono (by decide)
  · exact sh_t fun e he => by
      obtain ⟨i, _, rfl⟩ := List.mem_map.mp he
      exact sh_i _
theorem noL_st (a : Int × List Int) : noL (pSt a) = true := by
  show noLs _ = true
  refine noLs_of fun d hd => ?_
  have : d = .int a.1 ∨ d = .tuple (a.2.map .int) := by simpa using hd
  rcases this with rfl | rfl
  · rfl
  · show noLs _ = true
    exact noLs_of fun e he => by
      obtain ⟨i, _, rfl⟩ := List.mem_map.mp he
      rfl
theorem find_first {α : Type} {f : α → Bool} : ∀ {l : List α} {i : Nat} {x : α}, l[i]? = some x → (l.take i).any f = false → f x = true → l.find? f = some x
  | [], i, x, h, _, _ => by simp at h
  | a :: l, 0, x, h, _, hx => by
    have : a = x := by simpa using h
    subst this
    simp [List.find?, hx]
  | a :: l, i + 1, x, h, hn, hx => by
    have h1 : f a = false ∧ (l.take i).any f = false := by simpa using hn
    simp only [List.find?, h1.1]
    exact find_first (by simpa using h) h1.2 hx
theorem find_none {α : Type} {f : α → Bool} {l : List α} (h : l.any f = false) : l.find? f = none := by
  rw [List.find?_eq_none]
  intro x hx hf
  rw [List.any_eq_false] at h
  exact h x hx hf
def sp_first_rot (K : PySem.W.Frag) (CF CP : Addr) : Sp := fun vs H Q _ => ∃ (p q : Addr) (fs : List (Str × Int)) (ds : List (List Str)) (b : Int), vs = [.ref p, .ref q] ∧ FarmAt K CF H p fs ∧ FOk fs ∧ PlanAt K CP H q ds b ∧ DOk ds b ∧ (∀ d ∈ ds, ∀ z ∈ d, z ∈ fs.map (·.1)) ∧
  (∀ (D : Nat) z, (∀ e, e < D → rotAt fs ds b e = none) → rotAt fs ds b D = some z → ∀ H' r, Same H H' → SqT K H' r [.int D, .str z] → Q (.ref r) H') ∧ ((∀ d, rotAt fs ds b d = none) → ∀ H', Same H H' → Q .non H')
theorem ok_first_rot (M : Md K mg) (G : Gd K mg "first_rot" s_first_rot) (D_require_known : DefR P w K mg base "require_known" 8 (sp_require_known K CF CP)) (D_place_of : DefR P w K mg base "place_of" 2 (sp_place_of K)) (D_left_after : DefR P w K mg base "left_after" 5 (sp_left_after K CF))
    (P_Farm_names : PropR P w K mg base CF "names" 2 (sp_farm_names K CF)) (P_Farm_limits : PropR P w K mg base CF "limits" 2 (sp_farm_limits K CF)) (P_Plan_days : PropR P w K mg base CP "days" 2 (sp_plan_days CP)) (P_Plan_lead : PropR P w K mg base CP "lead" 2 (sp_plan_lead CP)) : DefR P w K mg base "first_rot" 10 (sp_first_rot K CF CP) := by
  refine def_mk G fun f fd F => fnr_mk (F.ok sc_first_rot ?_ (fun cdv A outer s H vs Q E hr h => ?_)) (F.bindsN (fun _ _ _ _ _ _ us hl => match us, hl with | [_, _], _ => rfl))
  · rintro vs H Q E ⟨p, q, fs, ds, b, rfl, _⟩; rfl
  · obtain ⟨p, q, fs, ds, b, rfl, hF, fok, hP, dok, known, kr, kn⟩ := h
    have nd := sc_first_rot.nd
    have hF' := hF
    obtain ⟨dx, t, hp, hv⟩ := hF'
    have hP' := hP
    obtain ⟨dy, u, hq, hw⟩ := hP'
    refine ⟨_, PSs.nox (pss_cons (ps_expr (pe_callR D_require_known (hr.mono (by first | decide | omega)) passN (pa_cons (pv 0) (pa_cons (pv 1) pa_nil))))
    (pss_cons (ps_par3 (i := 2) (j := 3) (l := 4) rfl nd rfl rfl rfl (by decide) (by decide) (by decide) rfl rfl rfl (pa_cons (pe_propR P_Farm_limits (hr.mono (by first | decide | omega)) (pv 0)) (pa_cons (pe_lst pa_nil) (pa_cons pe_int pa_nil))) (by rfl))
    (pss_cons (ps_while PassesOwn.never (pt_cmpR (op_notInK K hr) (pe_tup (pa_cons (pe_callR D_place_of (hr.mono (by first | decide | omega)) passN (pa_cons (pe_propR P_Plan_days (hr.mono (by first | decide | omega)) (pv 1)) (pa_cons (pe_propR P_Plan_lead (hr.mono (by first | decide | omega)) (pv 1)) (pa_cons (pv 4) pa_nil)))) (pa_cons (pv 2) pa_nil))) (pv 3) rfl) (pss_cons (ps_expr (as_bm K (pe_bm PySem.F.plainAttrs_list PySem.F.slot_list_append PySem.F.type_list_append mt_append (pv 3) (pa_cons (pe_tup (pa_cons (pe_callR D_place_of (hr.mono (by first | decide | omega)) passN (pa_cons (pe_propR P_Plan_days (hr.mono (by first | decide | omega)) (pv 1)) (pa_cons (pe_propR P_Plan_lead (hr.mono (by first | decide | omega)) (pv 1)) (pa_cons (pv 4) pa_nil)))) (pa_cons (pv 2) pa_nil))) pa_nil))))
    (pss_cons (ps_set (i := 5) nd rfl (by first | exact Or.inl rfl | exact Or.inr rfl) (pe_ix (ix_K K) (pe_propR P_Plan_days (hr.mono (by first | decide | omega)) (pv 1)) (pe_callR D_place_of (hr.mono (by first | decide | omega)) passN (pa_cons (pe_propR P_Plan_days (hr.mono (by first | decide | omega)) (pv 1)) (pa_cons (pe_propR P_Plan_lead (hr.mono (by first | decide | omega)) (pv 1)) (pa_cons (pv 4) pa_nil)))) (fun _ _ => rfl)))
    (pss_cons (ps_for PassesOwn.never rfl (pi_zipK K rfl M.b.zip (pa_cons (pe_propR P_Farm_names (hr.mono (by first | decide | omega)) (pv 0)) (pa_cons (pv 2) pa_nil))) (pg_tupK K rfl (pgs_cons (pg_name (i := 6) nd rfl (by first | exact Or.inl rfl | exact Or.inr rfl)) (pgs_cons (pg_name (i := 7) nd rfl (by first | exact Or.inl rfl | exact Or.inr rfl)) pgs_nil))) (pss_one (ps_if (PW.pt (pw_and (pt_cmpR (op_eqK K hr) (pv 7) pe_int (nomark _)) (pw_and1 (pt_cmpR (op_notInK K hr) (pv 6) (pv 5) rfl)))) (pss_one (ps_ret (pe_tup (pa_cons (pv 4) (pa_cons (pv 6) pa_nil))))) pss_nil)))
    (pss_one (ps_par (i := 2) (j := 4) rfl nd rfl rfl (by decide) rfl rfl (pa_cons (pe_callR D_left_after (hr.mono (by first | decide | omega)) passN (pa_cons (pv 0) (pa_cons (pv 2) (pa_cons (pv 5) pa_nil)))) (pa_cons (pe_op (op_addK K) (pv 4) pe_int) pa_nil)) (by rfl))))))) (pss_one (ps_ret pe_non))))), ?_⟩
    show (_ : TS) _ [some (.ref p), some (.ref q), none, none, none, none, none, none] H
    walk_at "go"
    refine ⟨p, q, fs, ds, b, rfl, hF, fok.six, hP, known, fun H1 s1 => ?_⟩
    walk_at "go"
    refine n_prop (s1 _ _ hp) ⟨p, fs, rfl, FarmAt.same s1 hF, fok.six, fun H2 lt s2 hlt => ?_⟩
    walk_at "go"
    refine n_lst (by simp) fun sn H3 nsn s3 hsn => ?_
    walk_at "go"
    obtain ⟨u', ys, e, hU, hY⟩ := hw.inv_t
    cases e
    have hyl : ys.length = ds.length := by rw [hY.length]; simp
    have s13 := s1.trans (s2.trans s3)
    refine n_while (fun m σ H' => ∃ (d : Nat) (lt : Addr) (u5 u6 u7 : Option V) (vs : List V), m + d = 400 ∧ d ≤ 300 ∧ σ = [some (.ref p), some (.ref q), some (.ref lt), some (.ref sn), some (.int d), u5, u6, u7] ∧ Same H H' ∧ SqT K H' lt ((stL fs ds b d).map V.int) ∧ H' sn = some (.lst vs) ∧ DpAll K H' vs ((List.range d).map fun e => pSt (stt fs ds b e)) ∧ ∀ e, e < d → rotAt fs ds b e = none) 400
      ⟨0, lt, none, none, none, [], rfl, by decide, rfl, s13, ?_, hsn, .nil, fun e he => absurd he (Nat.not_lt_zero e)⟩ ?_
    · have e : (stL fs ds b 0).map V.int = fs.map fun f => V.int f.2 := by simp [stL]
      rw [e]
      exact same_t s3 hlt
    rintro m σ H4 ⟨d, lt, u5, u6, u7, vs, hm, hd, rfl, s4, hlt4, hsn4, hvs, no⟩
    have pl : plc ds.length b d = (stt fs ds b d).1 := rfl
    walk_at "go"
    refine n_prop (s4 _ _ hq) ⟨q, dy, u, b, rfl, s4 _ _ hq, ?_⟩
    walk_at "go"
    refine n_prop (s4 _ _ hq) ⟨q, dy, u, b, rfl, s4 _ _ hq, ?_⟩
    walk_at "go"
    refine ⟨u, ys, b, d, rfl, same_t s4 hU, by rw [hyl]; exact dok.b1, ?_⟩
    rw [hyl]
    walk_at "go"
    refine n_tup (by simp [sizeLine_eq]) fun T H5 nT s5 hT => ?_
    walk_at "go"
    have hDT : Dp K H5 (.ref T) (pSt (stt fs ds b d)) := dp_tup hT (.cons (.int _) (.cons (.tup (same_t s5 hlt4) (dpa_ints _)) .nil))
    have hDS : Dp K H5 (.ref sn) (.list ((List.range d).map fun e => pSt (stt fs ds b e))) := dp_lst (s5 _ _ hsn4) (s5.dpa hvs)
    refine .inr (.inr ⟨_, _, hDT, hDS, (sh_st _).ok (by decide), Sh.ok (n := 3) (sh_l fun x hx => ?_) (by decide), ?_⟩)
    · obtain ⟨e, _, rfl⟩ := List.mem_map.mp hx
      exact sh_st _
    have ea : ((List.range d).map fun e => pSt (stt fs ds b e)).any (fun z => PyData.eqv z (pSt (stt fs ds b d))) = decide (∃ e, e < d ∧ stt fs ds b e = stt fs ds b d) := by
      rw [List.any_map, Bool.eq_iff_iff, decide_eq_true_eq, List.any_eq_true]
      constructor
      · rintro ⟨e, he, hq⟩
        exact ⟨e, List.mem_range.mp he, by simpa [Function.comp, eqv_pSt] using hq⟩
      · rintro ⟨e, he, hq⟩
        exact ⟨e, List.mem_range.mpr he, by simp [Function.comp, eqv_pSt, hq]⟩
    rw [ea]
    by_cases rep : ∃ e, e < d ∧ stt fs ds b e = stt fs ds b d
    · rw [decide_eq_true rep]
      obtain ⟨e, he, hq⟩ := rep
      walk_at "go"
      refine n_whF ?_
      walk_at "go"
      exact kn (never dok.b0 dok.b1 he hq no) H5 (s4.trans s5)
    · rw [decide_eq_false rep]
      walk_at "go"
      refine n_whT ?_
      have hsn5 := s5 _ _ hsn4
      have s45 := s4.trans s5
      walk_at "go"
      refine n_prop (s45 _ _ hq) ⟨q, dy, u, b, rfl, s45 _ _ hq, ?_⟩
      walk_at "go"
      refine n_prop (s45 _ _ hq) ⟨q, dy, u, b, rfl, s45 _ _ hq, ?_⟩
      walk_at "go"
      refine ⟨u, ys, b, d, rfl, same_t s45 hU, by rw [hyl]; exact dok.b1, ?_⟩
      rw [hyl]
      walk_at "go"
      refine n_tup (by simp [sizeLine_eq]) fun T2 H6 nT2 s6 hT2_ => ?_
      have hvl : vs.length = d := by rw [hvs.length]; simp
      walk_at "go"
      refine g_append (s6 _ _ hsn5) (by rw [sizeLine_eq]; omega) fun H7 k7 hsn7 => ?_
      have sn0 : H sn = none := (s1.trans s2).free nsn
      have s67 := s5.trans s6
      have s7 : Same H H7 := fun c o hc => k7 c o (ne_of_none hc sn0) (s67 _ _ (s4 _ _ hc))
      walk_at "go"
      refine n_prop (s7 _ _ hq) ⟨q, dy, u, b, rfl, s7 _ _ hq, ?_⟩
      walk_at "go"
      refine n_prop (s7 _ _ hq) ⟨q, dy, u, b, rfl, s7 _ _ hq, ?_⟩
      walk_at "go"
      refine n_prop (s7 _ _ hq) ⟨q, dy, u, b, rfl, s7 _ _ hq, ?_⟩
      walk_at "go"
      refine ⟨u, ys, b, d, rfl, same_t s7 hU, by rw [hyl]; exact dok.b1, ?_⟩
      rw [hyl]
      have pb := plc_lt (n := ds.length) d dok.b0 dok.b1
      obtain ⟨y, hy⟩ : ∃ y, ys[(plc ds.length b d).toNat]? = some y := ⟨_, List.getElem?_eq_getElem (by omega)⟩
      refine g_ix_t (same_t s7 hU) (atI_i pb.1 hy) ?_
      obtain ⟨dd, hdd, hDy⟩ := hY.get hy
      obtain ⟨zs, hzs, rfl⟩ := getm hdd
      have hz : dayOf ds b d = zs := by simp [dayOf, List.getD, hzs]
      obtain ⟨t2, ws, rfl, hT2, hW⟩ := hDy.inv_t
      have ew : ws = zs.map V.str := strs_of hW
      subst ew
      have hlt7 : SqT K H7 lt ((stL fs ds b d).map V.int) := sqt_keep k7 (s6 _ _ hsn5) (by walk_at "hp")
      walk_at "go"
      refine g_forZ ?_
      walk_at "go"
      refine n_prop (s7 _ _ hp) ⟨p, fs, rfl, FarmAt.same s7 hF, fok.six, fun H8 nm s8 hnm => ?_⟩
      walk_at "go"
      have hsl := stL_len fs ds b d
      have rotEq : rotAt fs ds b d = ((fs.zip (stL fs ds b d)).find? (rotB zs)).map (·.1.1) := by rw [rotAt, hz]
      refine n_forZT hnm (same_t s8 hlt7) (by simp [hsl]) (fun i σ H' => ∃ u6 u7 : Option V, σ = [some (.ref p), some (.ref q), some (.ref lt), some (.ref sn), some (.int d), some (.ref t2), u6, u7] ∧ Same H8 H' ∧ ((fs.zip (stL fs ds b d)).take i).any (rotB zs) = false)
        ⟨_, _, rfl, Same.refl _, by simp⟩ (fun i σ H' ⟨_, _, _, s9, _⟩ => ⟨same_t s9 hnm, same_t s9 (same_t s8 hlt7)⟩) ?_ ?_
      · rintro i x y T σ H9 H10 hx hy ⟨u6, u7, rfl, s9, nor⟩ nT s10 hT
        obtain ⟨fi, hfi, rfl⟩ := getm hx
        obtain ⟨li, hli, rfl⟩ := getm hy
        have hzip : (fs.zip (stL fs ds b d))[i]? = some (fi, li) := by
          rw [List.getElem?_zip_eq_some]
          exact ⟨hfi, hli⟩
        have et := app_tail _ _ hzip
        refine g_gtup (SqT.of hT) rfl ?_
        walk_at "go"
        have sB : Same H H10 := s7.trans (s8.trans (s9.trans s10))
        refine if_D (fun e1 => ?_) (fun e1 => ?_)
        · walk_at "go"
          refine g_notIn_seq (.inr (same_t sB hT2)) rfl (flat_strs _) ?_
          rw [inV_strs]
          walk_at "go"
          refine if_ND (fun e2 => ?_) (fun e2 => ?_)
          · walk_at "go"
            refine n_tup (by simp [sizeLine_eq]) fun T3 H11 nT3 s11 hT3 => ?_
            refine kr d fi.1 no ?_ H11 T3 (sB.trans s11) (SqT.of hT3)
            rw [rotEq, find_first hzip nor (by simp [rotB, e1, e2])]
            rfl
          · walk_at "go"
            exact ⟨_, _, rfl, s9.trans s10, by rw [et]; simp only [List.any_append, nor, Bool.false_or, List.any_cons, List.any_nil, Bool.or_false]; simp [rotB, e2]⟩
        · refine if_F rfl ?_
          walk_at "go"
          exact ⟨_, _, rfl, s9.trans s10, by rw [et]; simp only [List.any_append, nor, Bool.false_or, List.any_cons, List.any_nil, Bool.or_false]; simp [rotB, e1]⟩
      · rintro σ H9 ⟨u6, u7, rfl, s9, nor⟩
        have el : (fs.zip (stL fs ds b d)).take (fs.map fun f => V.str f.1).length = fs.zip (stL fs ds b d) := List.take_of_length_le (by simp; omega)
        rw [el] at nor
        have sB : Same H H9 := s7.trans (s8.trans s9)
        have sC : Same H7 H9 := s8.trans s9
        walk_at "go"
        refine ⟨p, lt, t2, fs, stL fs ds b d, zs, rfl, FarmAt.same sB hF, fok.six, same_t sC hlt7, hsl, same_t sB hT2, fun e => absurd nor (by rw [e]; decide), fun _ H10 r s10 hr10 => ?_⟩
        walk_at "go"
        have none_d : rotAt fs ds b d = none := by
          rw [rotEq, find_none nor]
          rfl
        have hd3 : d < 300 := by
          by_cases h300 : d < 300
          · exact h300
          · exfalso
            have hb0 := dok.b0
            have hb1 := dok.b1
            have hfew := dok.few
            have hg := again dok.b0 dok.b1 (m := 30) (d := d - (ds.length - b).toNat) (fun f hf => (fok.lo f hf).1) (fun f hf => (fok.lo f hf).2) (by omega) (fun e he => no e (by omega))
            have e2 : d - (ds.length - b).toNat + (ds.length - b).toNat = d := by omega
            rw [e2] at hg
            exact rep ⟨_, by omega, hg⟩
        refine ⟨m - 1, by omega, d + 1, r, _, _, _, vs ++ [.ref T2], by omega, by omega, rfl, sB.trans s10, ?_, s10 _ _ (sC _ _ hsn7), ?_, ?_⟩
        · have e : stL fs ds b (d + 1) = (fs.zip (stL fs ds b d)).map (nxtL zs) := by rw [stL, hz]
          rw [e]
          exact hr10
        · rw [List.range_succ, List.map_append]
          have hT2' : Dp K H6 (.ref T2) (pSt (stt fs ds b d)) := dp_tup hT2_ (.cons (.int _) (.cons (.tup (same_t s6 (same_t s5 hlt4)) (dpa_ints _)) .nil))
          have nL : noLs ((List.range d).map (fun e => pSt (stt fs ds b e)) ++ [pSt (stt fs ds b d)]) = true := noLs_of fun z hz => by
            have : ∃ e, pSt (stt fs ds b e) = z := by
              rcases List.mem_append.mp hz with h | h
              · obtain ⟨e, _, rfl⟩ := List.mem_map.mp h
                exact ⟨e, rfl⟩
              · exact ⟨d, (List.mem_singleton.mp h).symm⟩
            obtain ⟨e, rfl⟩ := this
            exact noL_st _
          exact (s10.dpa (sC.dpa (dp_keepAll k7 (notT_l (s6 _ _ hsn5)) _ _ nL (dpa_app (s67.dpa hvs) (.cons hT2' .nil)))))
        · intro e he
          by_cases h : e = d
          · rw [h]; exact none_d
          · exact no e (by omega)

end
abbrev s_mend_by_swap : Stmt := top 24
abbrev N_mend_by_swap : List Str := ["farm", "plan", "lead", "one", "other", "days", "mended"]
theorem sc_mend_by_swap : FnScope N_mend_by_swap ["farm", "plan"] (defScope s_mend_by_swap) := ⟨rfl, rfl, rfl, by decide +kernel, rfl, by decide +kernel, by decide +kernel⟩
section
variable {P : Program} {w : World} {K : PySem.W.Frag}
variable {mg : Str → Option Value} {base : Heap}
/-- two days exchanged -/
def swapD (ds : List (List Str)) (i j : Nat) : List (List Str) := (ds.set i (ds.getD j [])).set j (ds.getD i [])
/-- nothing ever rots -/
def good (fs : List (Str × Int)) (ds : List (List Str)) (b : Int) : Prop := ∀ d, rotAt fs ds b d = none
/-- the first pair i < j < n, by i and then by j -/
structure Fst (G : Nat → Nat → Prop) (n i j : Nat) : Prop where
  lt : i < j
  le : j < n
  ok : G i j
  no : ∀ i' j', i' < j' → j' < n → (i' < i ∨ (i' = i ∧ j' < j)) → ¬ G i' j'
theorem Fst.uni {G : Nat → Nat → Prop} {n i j i' j' : Nat} (a : Fst G n i j) (b : Fst G n i' j') : i = i' ∧ j = j' := by
  have h1 : ¬ (i' < i ∨ (i' = i ∧ j' < j)) := fun h => a.no i' j' b.lt b.le h b.ok
  have h2 : ¬ (i < i' ∨ (i = i' ∧ j < j')) := fun h => b.no i j a.lt a.le h a.ok
  omega
theorem swap_len {ds : List (List Str)} {i j : Nat} : (swapD ds i j).length = ds.length := by simp [swapD]
theorem swap_mem {ds : List (List Str)} {i j : Nat} (hi : i < ds.length) (hj : j < ds.length) {d : List Str} (h : d ∈ swapD ds i j) : d ∈ ds := by
  have e1 : ds.getD j [] = ds[j] := by simp [List.getD, hj]
  have e2 : ds.getD i [] = ds[i] := by simp [List.getD, hi]
  rw [swapD, e1, e2] at h
  rcases List.mem_or_eq_of_mem_set h with h | h
  · rcases List.mem_or_eq_of_mem_set h with h | h
    · exact h
    · rw [h]; exact List.getElem_mem hj
  · rw [h]; exact List.getElem_mem hi
theorem DOk.of {ds es : List (List Str)} {b : Int} (ok : DOk ds b) (hl : es.length = ds.length) (hm : ∀ d ∈ es, d ∈ ds) : DOk es b := ⟨by rw [hl]; exact ok.one, by rw [hl]; exact ok.few, fun d hd => ok.nd d (hm d hd), fun d hd => ok.le d (hm d hd), ok.b0, by rw [hl]; exact ok.b1⟩
theorem dpa_set {H : Hp} : ∀ {vs : List V} {es : List PyData} {v : V} {e : PyData} (i : Nat), DpAll K H vs es → Dp K H v e → DpAll K H (vs.set i v) (es.set i e)
  | _, _, _, _, _, .nil, _ => .nil
  | _, _, _, _, 0, .cons _ t, h => .cons h t
  | _, _, _, _, i + 1, .cons a t, h => .cons a (dpa_set i t h)
theorem dpa_swap {H : Hp} {ys : List V} {ds : List (List Str)} {i j : Nat} {yi yj : V} (hY : DpAll K H ys (ds.map pDay)) (hi : ys[i]? = some yi) (hj : ys[j]? = some yj) : DpAll K H ((ys.set i yj).set j yi) ((swapD ds i j).map pDay) := by
  obtain ⟨e1, he1, hD1⟩ := hY.get hi
  obtain ⟨z1, hz1, rfl⟩ := getm he1
  obtain ⟨e2, he2, hD2⟩ := hY.get hj
  obtain ⟨z2, hz2, rfl⟩ := getm he2
  have g1 : ds.getD i [] = z1 := getD_of hz1
  have g2 : ds.getD j [] = z2 := getD_of hz2
  rw [swapD, g1, g2, List.map_set, List.map_set]
  exact dpa_set j (dpa_set i hY hD2) hD1
def sp_mend_by_swap (K : PySem.W.Frag) (CF CP : Addr) : Sp := fun vs H Q _ => ∃ (p q : Addr) (fs : List (Str × Int)) (ds : List (List Str)) (b : Int), vs = [.ref p, .ref q] ∧ FarmAt K CF H p fs ∧ FOk fs ∧ PlanAt K CP H q ds b ∧ DOk ds b ∧ (∀ d ∈ ds, ∀ z ∈ d, z ∈ fs.map (·.1)) ∧
  (∀ i j, Fst (fun i j => good fs (swapD ds i j) b) ds.length i j → ∀ H' r, Same H H' → PlanAt K CP H' r (swapD ds i j) b → Q (.ref r) H') ∧ ((∀ i j, i < j → j < ds.length → ¬ good fs (swapD ds i j) b) → ∀ H', Same H H' → Q .non H')
theorem ok_mend_by_swap (M : Md K mg) (G : Gd K mg "mend_by_swap" s_mend_by_swap) (D_require_known : DefR P w K mg base "require_known" 8 (sp_require_known K CF CP)) (D_first_rot : DefR P w K mg base "first_rot" 10 (sp_first_rot K CF CP))
    (P_Plan_days : PropR P w K mg base CP "days" 2 (sp_plan_days CP)) (P_Plan_lead : PropR P w K mg base CP "lead" 2 (sp_plan_lead CP)) (M_Plan___len__ : MethR P w K mg base CP "__len__" 2 (sp_plan_len K CP)) (KK_Plan : MakeRK P w K mg base "Plan" CP 4 "lead" (sp_plan_init K CP)) : DefR P w K mg base "mend_by_swap" 12 (sp_mend_by_swap K CF CP) := by
  refine def_mk G fun f fd F => fnr_mk (F.ok sc_mend_by_swap ?_ (fun cdv A outer s H vs Q E hr h => ?_)) (F.bindsN (fun _ _ _ _ _ _ us hl => match us, hl with | [_, _], _ => rfl))
  · rintro vs H Q E ⟨p, q, fs, ds, b, rfl, _⟩; rfl
  · obtain ⟨p, q, fs, ds, b, rfl, hF, fok, hP, dok, known, ky, kn⟩ := h
    have nd := sc_mend_by_swap.nd
    have hP' := hP
    obtain ⟨dy, u, hq, hw⟩ := hP'
    obtain ⟨u', ys, e, hU, hY⟩ := hw.inv_t
    cases e
    have hyl : ys.length = ds.length := by rw [hY.length]; simp
    have hfew := dok.few
    refine ⟨_, PSs.nox (pss_cons (ps_expr (pe_callR D_require_known (hr.mono (by first | decide | omega)) passN (pa_cons (pv 0) (pa_cons (pv 1) pa_nil))))
    (pss_cons (ps_set (i := 2) nd rfl (by first | exact Or.inl rfl | exact Or.inr rfl) (pe_propR P_Plan_lead (hr.mono (by first | decide | omega)) (pv 1)))
    (pss_cons (ps_for PassesOwn.never rfl (pi_range1 rfl M.b.range (pa_cons (pe_callB (call_lenO M_Plan___len__ (hr.mono (by first | decide | omega))) rfl M.b.len bt_len (pa_cons (pv 1) pa_nil)) pa_nil)) (pg_name (i := 3) nd rfl (by first | exact Or.inl rfl | exact Or.inr rfl)) (pss_one (ps_for PassesOwn.never rfl (pi_range2 rfl M.b.range (pa_cons (pe_op (op_addK K) (pv 3) pe_int) (pa_cons (pe_callB (call_lenO M_Plan___len__ (hr.mono (by first | decide | omega))) rfl M.b.len bt_len (pa_cons (pv 1) pa_nil)) pa_nil))) (pg_name (i := 4) nd rfl (by first | exact Or.inl rfl | exact Or.inr rfl)) (pss_cons (ps_set (i := 5) nd rfl (by first | exact Or.inl rfl | exact Or.inr rfl) (pe_listOf K M.b (pe_propR P_Plan_days (hr.mono (by first | decide | omega)) (pv 1))))
    (pss_cons (ps_asg (pe_tup (pa_cons (pe_ix (ix_K K) (pv 5) (pv 4) (fun _ _ => rfl)) (pa_cons (pe_ix (ix_K K) (pv 5) (pv 3) (fun _ _ => rfl)) pa_nil))) (pg_tupK K rfl (pgs_cons (pg_sub (pv 5) (pv 3) set_list) (pgs_cons (pg_sub (pv 5) (pv 4) set_list) pgs_nil))))
    (pss_cons (ps_set (i := 6) nd rfl (by first | exact Or.inl rfl | exact Or.inr rfl) (as_skw K (pe_makeSKW KK_Plan (hr.mono (by first | decide | omega)) passN (pv 5) (pk_cons (pv 2) pk_nil))))
    (pss_one (ps_if (pt_cmpR op_isN1 (pe_callR D_first_rot (hr.mono (by first | decide | omega)) passN (pa_cons (pv 0) (pa_cons (pv 6) pa_nil))) pe_non (nomark _)) (pss_one (ps_ret (pv 6))) pss_nil)))))))) (pss_one (ps_ret pe_non))))), ?_⟩
    show (_ : TS) _ [some (.ref p), some (.ref q), none, none, none, none, none] H
    walk_at "go"
    refine ⟨p, q, fs, ds, b, rfl, hF, fok.six, hP, known, fun H1 s1 => ?_⟩
    walk_at "go"
    refine n_prop (s1 _ _ hq) ⟨q, dy, u, b, rfl, s1 _ _ hq, ?_⟩
    walk_at "go"
    refine ⟨q, dy, _, rfl, s1 _ _ hq, q, ds, b, rfl, PlanAt.same s1 hP, ⟨_, rfl, by omega, by omega, ?_⟩⟩
    walk_at "go"
    let NoT (i j : Nat) : Prop := ∀ i' j', i' < j' → j' < ds.length → (i' < i ∨ (i' = i ∧ j' < j)) → ¬ good fs (swapD ds i' j') b
    refine n_forR1 (by omega) (by omega) (fun i σ H' => ∃ u3 u4 u5 u6 : Option V, σ = [some (.ref p), some (.ref q), some (.int b), u3, u4, u5, u6] ∧ Same H H' ∧ NoT i 0) ⟨_, _, _, _, rfl, s1, fun i' j' _ _ h => absurd h (by omega)⟩ ?_ ?_
    · rintro i σ H2 hi ⟨u3, u4, u5, u6, rfl, s2, no⟩
      walk_at "go"
      refine ⟨q, dy, _, rfl, s2 _ _ hq, q, ds, b, rfl, PlanAt.same s2 hP, ⟨_, rfl, by omega, by omega, ?_⟩⟩
      walk_at "go"
      refine n_forR2 (by omega) (by omega) (by omega) (by omega) (fun k σ H' => ∃ u4 u5 u6 : Option V, σ = [some (.ref p), some (.ref q), some (.int b), some (.int i), u4, u5, u6] ∧ Same H H' ∧ NoT i (i + 1 + k)) ⟨_, _, _, rfl, s2, fun i' j' lt le h => no i' j' lt le (by omega)⟩ ?_ ?_
      · rintro k σ H3 hk ⟨u4, u5, u6, rfl, s3, no3⟩
        have ej : ((i : Int) + 1 + k) = ((i + 1 + k : Nat) : Int) := by omega
        rw [ej]
        have hj : i + 1 + k < ds.length := by omega
        generalize hjj : i + 1 + k = j at *
        obtain ⟨yi, hyi⟩ : ∃ y, ys[i]? = some y := ⟨_, List.getElem?_eq_getElem (by omega)⟩
        obtain ⟨yj, hyj⟩ : ∃ y, ys[j]? = some y := ⟨_, List.getElem?_eq_getElem (by omega)⟩
        walk_at "go"
        refine n_prop (s3 _ _ hq) ⟨q, dy, u, b, rfl, s3 _ _ hq, ?_⟩
        walk_at "go"
        refine g_listOf (.inr (same_t s3 hU)) fun l H4 nl s4 hl => ?_
        walk_at "go"
        refine g_ix_l (SqL.of hl) (atI_nat hyj) ?_
        walk_at "go"
        refine g_ix_l (SqL.of hl) (atI_nat hyi) ?_
        walk_at "go"
        refine n_tup (by simp [sizeLine_eq]) fun T H5 nT s5 hT => ?_
        have hl5 := s5 _ _ hl
        refine g_gtup (SqT.of hT) rfl ?_
        walk_at "go"
        refine g_setL (j := i) hl5 (ixN_i (by omega) (by omega)) fun H6 k6 hl6 => ?_
        walk_at "go"
        refine g_setL (j := j) hl6 (ixN_i (by omega) (by simp; omega)) fun H7 k7 hl7 => ?_
        have s7 : Same H3 H7 := same_keep (same_keep (s4.trans s5) nl k6) nl k7
        have sA : Same H H7 := s3.trans s7
        walk_at "go"
        refine n_mskw (.inr (SqL.of hl7)) ?_
        have dok' : DOk (swapD ds i j) b := dok.of swap_len fun d hd => swap_mem (by omega) hj hd
        refine n_plan (ds := swapD ds i j) (sA.dpa (dpa_swap hY hyi hyj)) dok' fun H8 m s8 nm hm => ?_
        walk_at "go"
        have sB := sA.trans s8
        refine ⟨p, m, fs, swapD ds i j, b, rfl, FarmAt.same sB hF, fok, hm, dok', fun d hd => known d (swap_mem (by omega) hj hd), fun D z _ hz H9 r s9 hr => ?_, fun hg H9 s9 => ?_⟩
        · walk_at "go"
          refine if_F rfl ?_
          walk_at "go"
          refine ⟨_, _, _, rfl, sB.trans s9, fun i' j' lt le h => ?_⟩
          by_cases e : i' = i ∧ j' = j
          · obtain ⟨rfl, rfl⟩ := e
            intro hg
            have := hg D
            rw [hz] at this
            exact nomatch this
          · exact no3 i' j' lt le (by omega)
        · walk_at "go"
          refine if_T rfl ?_
          walk_at "go"
          exact ky i j ⟨by omega, hj, hg, no3⟩ H9 m (sB.trans s9) (PlanAt.same s9 hm)
      · rintro σ H3 ⟨u4, u5, u6, rfl, s3, no3⟩
        walk_at "go"
        exact ⟨_, _, _, _, rfl, s3, fun i' j' lt le h => no3 i' j' lt le (by omega)⟩
    · rintro σ H2 ⟨u3, u4, u5, u6, rfl, s2, no⟩
      walk_at "go"
      exact kn (fun i j lt le => no i j lt le (by omega)) H2 s2

end
abbrev s_needless_harvests : Stmt := top 25
abbrev N_needless_harvests : List Str := ["farm", "plan", "found", "lead", "index", "day", "name", "days", "other"]
theorem sc_needless_harvests : FnScope N_needless_harvests ["farm", "plan"] (defScope s_needless_harvests) := ⟨rfl, rfl, rfl, by decide +kernel, rfl, by decide +kernel, by decide +kernel⟩
section
variable {P : Program} {w : World} {K : PySem.W.Frag}
variable {mg : Str → Option Value} {base : Heap}
section
open Classical
/-- the days without the harvest of z on day k -/
def lessD (ds : List (List Str)) (k : Nat) (z : Str) : List (List Str) := ds.set k ((ds.getD k []).filter fun y => !decide (y = z))
noncomputable def needAt (fs : List (Str × Int)) (ds : List (List Str)) (b : Int) (k : Nat) (zs : List Str) : List (Nat × Str) := (zs.filter fun z => decide (good fs (lessD ds k z) b)).map fun z => (k, z)
noncomputable def needTo (fs : List (Str × Int)) (ds : List (List Str)) (b : Int) (n : Nat) : List (Nat × Str) := (List.range n).flatMap fun k => needAt fs ds b k (ds.getD k [])
theorem needTo_succ (fs : List (Str × Int)) (ds : List (List Str)) (b : Int) (n : Nat) : needTo fs ds b (n + 1) = needTo fs ds b n ++ needAt fs ds b n (ds.getD n []) := by
  simp [needTo, List.range_succ, List.flatMap_append]
theorem needAt_T {fs : List (Str × Int)} {ds : List (List Str)} {b : Int} {k j : Nat} {zs : List Str} {z : Str} (h : zs[j]? = some z) (g : good fs (lessD ds k z) b) : needAt fs ds b k (zs.take (j + 1)) = needAt fs ds b k (zs.take j) ++ [(k, z)] := by
  simp [needAt, app_tail _ _ h, List.filter_append, decide_eq_true g]
theorem needAt_F {fs : List (Str × Int)} {ds : List (List Str)} {b : Int} {k j : Nat} {zs : List Str} {z : Str} (h : zs[j]? = some z) (g : ¬ good fs (lessD ds k z) b) : needAt fs ds b k (zs.take (j + 1)) = needAt fs ds b k (zs.take j) := by
  simp [needAt, app_tail _ _ h, List.filter_append, decide_eq_false g]
theorem needAt_le {fs : List (Str × Int)} {ds : List (List Str)} {b : Int} {k : Nat} {zs : List Str} : (needAt fs ds b k zs).length ≤ zs.length := by
  simp only [needAt, List.length_map]
  exact List.length_filter_le _ _
theorem needTo_le {fs : List (Str × Int)} {ds : List (List Str)} {b : Int} (h : ∀ d ∈ ds, d.length ≤ 8) (n : Nat) : (needTo fs ds b n).length ≤ 8 * n := by
  induction n with
  | zero => simp [needTo]
  | succ n ih =>
    rw [needTo_succ, List.length_append]
    have h1 : (needAt fs ds b n (ds.getD n [])).length ≤ (ds.getD n []).length := needAt_le
    have h2 : (ds.getD n []).length ≤ 8 := by
      by_cases hn : n < ds.length
      · have e : ds.getD n [] = ds[n] := by simp [List.getD, hn]
        rw [e]
        exact h _ (List.getElem_mem hn)
      · simp [List.getD, List.getElem?_eq_none_iff.mpr (Nat.le_of_not_lt hn)]
    omega
end
abbrev pHv (q : Nat × Str) : PyData := .tuple [.int q.1, .str q.2]
theorem noL_hv (l : List (Nat × Str)) : noLs (l.map pHv) = true := noLs_map l fun _ => rfl
theorem less_len {ds : List (List Str)} {k : Nat} {z : Str} : (lessD ds k z).length = ds.length := by simp [lessD]
theorem less_mem {ds : List (List Str)} {k : Nat} {z : Str} {d : List Str} (hk : k < ds.length) (h : d ∈ lessD ds k z) : ∃ e ∈ ds, d.Sublist e := by
  rcases List.mem_or_eq_of_mem_set h with h | h
  · exact ⟨d, h, List.Sublist.refl _⟩
  · refine ⟨ds[k], List.getElem_mem hk, ?_⟩
    have e : ds.getD k [] = ds[k] := by simp [List.getD, hk]
    rw [h, e]
    exact List.filter_sublist
theorem DOk.less {ds : List (List Str)} {b : Int} (ok : DOk ds b) {k : Nat} {z : Str} (hk : k < ds.length) : DOk (lessD ds k z) b := by
  refine ⟨by rw [less_len]; exact ok.one, by rw [less_len]; exact ok.few, fun d hd => ?_, fun d hd => ?_, ok.b0, by rw [less_len]; exact ok.b1⟩
  · obtain ⟨e, he, hs⟩ := less_mem hk hd
    exact (ok.nd e he).sublist hs
  · obtain ⟨e, he, hs⟩ := less_mem hk hd
    exact Nat.le_trans hs.length_le (ok.le e he)
theorem less_known {fs : List (Str × Int)} {ds : List (List Str)} {k : Nat} {z : Str} (hk : k < ds.length) (known : ∀ d ∈ ds, ∀ z ∈ d, z ∈ fs.map (·.1)) : ∀ d ∈ lessD ds k z, ∀ y ∈ d, y ∈ fs.map (·.1) := fun d hd y hy => by
  obtain ⟨e, he, hs⟩ := less_mem hk hd
  exact known e he y (hs.subset hy)
def sp_needless (K : PySem.W.Frag) (CF CP : Addr) : Sp := fun vs H Q _ => ∃ (p q : Addr) (fs : List (Str × Int)) (ds : List (List Str)) (b : Int), vs = [.ref p, .ref q] ∧ FarmAt K CF H p fs ∧ FOk fs ∧ PlanAt K CP H q ds b ∧ DOk ds b ∧ (∀ d ∈ ds, ∀ z ∈ d, z ∈ fs.map (·.1)) ∧
  ∀ H' r vs, Same H H' → H r = none → H' r = some (.lst vs) → DpAll K H' vs ((needTo fs ds b ds.length).map pHv) → Q (.ref r) H'
theorem ok_needless (M : Md K mg) (G : Gd K mg "needless_harvests" s_needless_harvests) (D_require_known : DefR P w K mg base "require_known" 8 (sp_require_known K CF CP)) (D_first_rot : DefR P w K mg base "first_rot" 10 (sp_first_rot K CF CP))
    (P_Plan_days : PropR P w K mg base CP "days" 2 (sp_plan_days CP)) (P_Plan_lead : PropR P w K mg base CP "lead" 2 (sp_plan_lead CP)) (KK_Plan : MakeRK P w K mg base "Plan" CP 4 "lead" (sp_plan_init K CP)) : DefR P w K mg base "needless_harvests" 12 (sp_needless K CF CP) := by
  refine def_mk G fun f fd F => fnr_mk (F.ok sc_needless_harvests ?_ (fun cdv A outer s H vs Q E hr h => ?_)) (F.bindsN (fun _ _ _ _ _ _ us hl => match us, hl with | [_, _], _ => rfl))
  · rintro vs H Q E ⟨p, q, fs, ds, b, rfl, _⟩; rfl
  · obtain ⟨p, q, fs, ds, b, rfl, hF, fok, hP, dok, known, ky⟩ := h
    have nd := sc_needless_harvests.nd
    have hP' := hP
    obtain ⟨dy, u, hq, hw⟩ := hP'
    obtain ⟨u', ys, e, hU, hY⟩ := hw.inv_t
    cases e
    have hyl : ys.length = ds.length := by rw [hY.length]; simp
    have hfew := dok.few
    refine ⟨_, PSs.nox (pss_cons (ps_expr (pe_callR D_require_known (hr.mono (by first | decide | omega)) passN (pa_cons (pv 0) (pa_cons (pv 1) pa_nil))))
    (pss_cons (ps_par (i := 2) (j := 3) rfl nd rfl rfl (by decide) rfl rfl (pa_cons (pe_lst pa_nil) (pa_cons (pe_propR P_Plan_lead (hr.mono (by first | decide | omega)) (pv 1)) pa_nil)) (by rfl))
    (pss_cons (ps_for PassesOwn.never rfl (pi_enumTK K rfl M.b.enumerate (pa_cons (pe_propR P_Plan_days (hr.mono (by first | decide | omega)) (pv 1)) pa_nil)) (pg_tupK K rfl (pgs_cons (pg_name (i := 4) nd rfl (by first | exact Or.inl rfl | exact Or.inr rfl)) (pgs_cons (pg_name (i := 5) nd rfl (by first | exact Or.inl rfl | exact Or.inr rfl)) pgs_nil))) (pss_one (ps_for PassesOwn.never rfl (pi_tupK K (pv 5)) (pg_name (i := 6) nd rfl (by first | exact Or.inl rfl | exact Or.inr rfl)) (pss_cons (ps_set (i := 7) nd rfl (by first | exact Or.inl rfl | exact Or.inr rfl) (pe_listOf K M.b (pe_propR P_Plan_days (hr.mono (by first | decide | omega)) (pv 1))))
    (pss_cons (ps_asg (pe_tupOf K M.b (pe_lc (own := [("other", 8)]) (g := (gName 8)) rfl nd (pi_tupK K (pv 5)) (blkOk_by (N := N_needless_harvests) (sc := defScope s_needless_harvests) (by decide +kernel)) (fun _ _ _ _ _ => (pg_name (i := 8) nd rfl (by first | exact Or.inl rfl | exact Or.inr rfl))) (fun _ _ _ _ _ => (pts_one (pt_cmpR (op_neK K hr) (pv 8) (pv 6) (nomark _)))) (fun _ _ _ _ _ => (pv 8)))) (pg_sub (pv 7) (pv 4) set_list))
    (pss_one (ps_if (pt_cmpR op_isN1 (pe_callR D_first_rot (hr.mono (by first | decide | omega)) passN (pa_cons (pv 0) (pa_cons (as_skw K (pe_makeSKW KK_Plan (hr.mono (by first | decide | omega)) passN (pv 7) (pk_cons (pv 3) pk_nil))) pa_nil))) pe_non (nomark _)) (pss_one (ps_expr (as_bm K (pe_bm PySem.F.plainAttrs_list PySem.F.slot_list_append PySem.F.type_list_append mt_append (pv 2) (pa_cons (pe_tup (pa_cons (pv 4) (pa_cons (pv 6) pa_nil))) pa_nil))))) pss_nil))))))) (pss_one (ps_ret (pv 2)))))), ?_⟩
    show (_ : TS) _ [some (.ref p), some (.ref q), none, none, none, none, none, none, none] H
    walk_at "go"
    refine ⟨p, q, fs, ds, b, rfl, hF, fok.six, hP, known, fun H1 s1 => ?_⟩
    walk_at "go"
    refine n_lst (by simp) fun l H2 nl s2 hl => ?_
    have s12 := s1.trans s2
    have nlH : H l = none := s1.free nl
    walk_at "go"
    refine n_prop (s12 _ _ hq) ⟨q, dy, u, b, rfl, s12 _ _ hq, ?_⟩
    walk_at "go"
    refine n_prop (s12 _ _ hq) ⟨q, dy, u, b, rfl, s12 _ _ hq, ?_⟩
    walk_at "go"
    refine n_forET (same_t s12 hU) (fun i σ H' => ∃ (u4 u5 u6 u7 u8 : Option V) (vs : List V), σ = [some (.ref p), some (.ref q), some (.ref l), some (.int b), u4, u5, u6, u7, u8] ∧ Same H H' ∧ H' l = some (.lst vs) ∧ DpAll K H' vs ((needTo fs ds b i).map pHv)) ⟨_, _, _, _, _, _, rfl, s12, hl, .nil⟩ (fun i σ H' ⟨_, _, _, _, _, _, _, s3, _⟩ => same_t s3 hU) ?_ ?_
    · rintro i y T σ H3 H4 hy ⟨u4, u5, u6, u7, u8, vs, rfl, s3, hl3, hv3⟩ nT s4 hT
      obtain ⟨dd, hdd, hDy⟩ := hY.get hy
      obtain ⟨zs, hzs, rfl⟩ := getm hdd
      have gz : ds.getD i [] = zs := getD_of hzs
      have hi : i < ds.length := (List.getElem?_eq_some_iff.mp hzs).1
      obtain ⟨t2, ws, rfl, hT2, hW⟩ := hDy.inv_t
      have ew : ws = zs.map V.str := strs_of hW
      subst ew
      have s34 := s3.trans s4
      have z8 : zs.length ≤ 8 := dok.le zs (List.mem_of_getElem? hzs)
      have n8 := needTo_le (fs := fs) (b := b) dok.le i
      refine g_gtup (SqT.of hT) rfl ?_
      walk_at "go"
      refine n_forT (same_t s34 hT2) (fun j σ H' => ∃ (u6 u7 u8 : Option V) (vs : List V), σ = [some (.ref p), some (.ref q), some (.ref l), some (.int b), some (.int i), some (.ref t2), u6, u7, u8] ∧ Same H H' ∧ H' l = some (.lst vs) ∧ DpAll K H' vs ((needTo fs ds b i ++ needAt fs ds b i (zs.take j)).map pHv)) ⟨_, _, _, vs, rfl, s34, s4 _ _ hl3, by simpa [needAt] using s4.dpa hv3⟩ (fun i σ H' ⟨_, _, _, _, _, s5, _⟩ => same_t s5 hT2) ?_ ?_
      · rintro j x σ H5 hx ⟨u6, u7, u8, vs, rfl, s5, hl5, hv5⟩
        obtain ⟨z, hz, rfl⟩ := getm hx
        have hj : j < zs.length := (List.getElem?_eq_some_iff.mp hz).1
        have a8 : (needAt fs ds b i (zs.take j)).length ≤ 8 := Nat.le_trans needAt_le (by rw [List.length_take]; omega)
        walk_at "go"
        refine n_prop (s5 _ _ hq) ⟨q, dy, u, b, rfl, s5 _ _ hq, ?_⟩
        walk_at "go"
        refine g_listOf (.inr (same_t s5 hU)) fun m H6 nm s6 hm => ?_
        walk_at "go"
        have sT : ∀ H', Same H6 H' → SqT K H' t2 (zs.map V.str) := fun H' e => same_t (s5.trans (s6.trans e)) hT2
        refine n_lcT (sT _ (Same.refl _)) (lc_filt (zs) (by rw [← List.length_map (f := V.str)]; exact walk_tup (xs := zs.map V.str)) (fun y => !decide (y = z)) V.str (fun H' e => sT H' e) ?_ ?_)
        · rintro C i2 y v H7 H8 nC hy2 hi2 s7 hC ⟨e, hyv⟩
          subst e
          have hv : v = V.str y := by
            rw [List.getElem?_map, hy2] at hyv
            exact (Option.some.inj hyv).symm
          subst hv
          walk_at "go"
          refine ⟨rfl, ?_⟩
          walk_at "go"
          by_cases e : y = z
          · rw [decide_eq_true e]
            walk_at "go"
            exact n_filtF hy2 (by simp [e]) s7 hC
          · rw [decide_eq_false e]
            refine g_lcIfT ?_
            walk_at "go"
            exact n_filtT hy2 (by simp [e]) rfl nC s7 hC
        · intro C H7 nC s7 hC
          walk_at "go"
          refine g_tupOf_l (SqL.of hC) fun m2 H8 nm2 s8 hm2 => ?_
          walk_at "go"
          have s68 := s7.trans s8
          refine g_setL (j := i) (s68 _ _ hm) (ixN_i (by omega) (by omega)) fun H9 k9 hm9 => ?_
          have s9 : Same H5 H9 := same_keep (s6.trans s68) nm k9
          have sA : Same H H9 := s5.trans s9
          walk_at "go"
          refine n_mskw (.inr (SqL.of hm9)) ?_
          have dok' := dok.less (z := z) hi
          have hX : DpAll K H9 (ys.set i (.ref m2)) ((lessD ds i z).map pDay) := by
            rw [lessD, gz, List.map_set]
            refine dpa_set i (sA.dpa hY) (.tup (sqt_keep k9 (s68 _ _ hm) (SqT.of hm2)) (dpa_strs _))
          refine n_plan (ds := lessD ds i z) hX dok' fun H10 r s10 nr hr10 => ?_
          have sB := sA.trans s10
          have s59 := s9.trans s10
          walk_at "go"
          refine ⟨p, r, fs, lessD ds i z, b, rfl, FarmAt.same sB hF, fok, hr10, dok', less_known hi known, fun D y _ hy H11 r2 s11 hr2 => ?_, fun hg H11 s11 => ?_⟩
          · walk_at "go"
            refine if_F rfl ?_
            walk_at "go"
            have s511 := s59.trans s11
            refine ⟨_, _, _, vs, rfl, s5.trans s511, s511 _ _ hl5, ?_⟩
            rw [needAt_F hz (fun hg => by have := hg D; rw [hy] at this; exact nomatch this)]
            exact s511.dpa hv5
          · walk_at "go"
            refine if_T rfl ?_
            walk_at "go"
            refine n_tup (by simp [sizeLine_eq]) fun T3 H12 nT3 s12' hT3 => ?_
            have s512 := s59.trans (s11.trans s12')
            walk_at "go"
            have vl := hv5.length
            simp only [List.length_map, List.length_append] at vl
            refine g_append (s512 _ _ hl5) (by rw [sizeLine_eq]; omega) fun H13 k13 hl13 => ?_
            walk_at "go"
            refine ⟨_, _, _, _, rfl, same_keep (s5.trans s512) nlH k13, hl13, ?_⟩
            rw [needAt_T hz hg, ← List.append_assoc, List.map_append]
            exact dpa_keep k13 (s512 _ _ hl5) (by rw [← List.map_append]; exact noL_hv _) (dpa_app (s512.dpa hv5) (.cons (dp_tup hT3 (.cons (.int _) (.cons (.str _) .nil))) .nil))
      · rintro σ H5 ⟨u6, u7, u8, vs, rfl, s5, hl5, hv5⟩
        have et : zs.take (zs.map V.str).length = zs := List.take_of_length_le (by simp)
        rw [et] at hv5
        walk_at "go"
        refine ⟨_, _, _, _, _, vs, rfl, s5, hl5, ?_⟩
        rw [needTo_succ, gz]
        exact hv5
    · rintro σ H3 ⟨u4, u5, u6, u7, u8, vs, rfl, s3, hl3, hv3⟩
      walk_at "go"
      rw [hyl] at hv3
      exact ky H3 l vs s3 nlH hl3 hv3

end
section
variable {P : Program} {w : World} {K : PySem.W.Frag}
variable {mg : Str → Option Value} {base : Heap}
theorem tyx_l {H : Hp} {a : Addr} {xs : List V} (h : SqL K H a xs) : TyX K H (.ref a) (.type "list") := by
  rcases h with (h | ⟨o, h⟩) | ⟨o, its, n, h1, h2, _⟩
  · exact .base (.lst h)
  · exact .base (.frz h)
  · exact .kList h1 h2
theorem tyx_t {H : Hp} {a : Addr} {xs : List V} (h : SqT K H a xs) : TyX K H (.ref a) (.type "tuple") := by
  rcases h with (h | ⟨o, h⟩) | ⟨o, its, n, h1, h2, _⟩
  · exact .base (.tup h)
  · exact .fTuple h
  · exact .kTuple h1 h2
theorem g_ix_q {H : Hp} {Q : VK} {p : Addr} {xs : List V} {i : Int} {v : V} (h1 : SqL K H p xs ∨ SqT K H p xs) (h2 : atI xs i = some v) (h : Q v H) : rIx K (.ref p) (.int i) H Q := by
  rcases h1 with h1 | h1
  · exact g_ix_l h1 h2 h
  · exact g_ix_t h1 h2 h
theorem g_len_q {H : Hp} {Q : VK} {p : Addr} {ys : List V} (h1 : SqL K H p ys ∨ SqT K H p ys) (h : Q (.int ys.length) H) : uLen K [.ref p] H Q := .inr ⟨p, ys, rfl, h1, h⟩
theorem same_q {H H' : Hp} {p : Addr} {xs : List V} (e : Same H H') (h1 : SqL K H p xs ∨ SqT K H p xs) : SqL K H' p xs ∨ SqT K H' p xs := h1.imp (same_l e) (same_t e)
/-! all sequences within are short -/
mutual
def bigOk : PyData → Bool
  | .list ds => decide (ds.length ≤ 100000) && bigOks ds
  | .tuple ds => decide (ds.length ≤ 100000) && bigOks ds
  | .none | .bool _ | .int _ | .str _ | .dict _ => true
def bigOks : List PyData → Bool
  | [] => true
  | d :: ds => bigOk d && bigOks ds
end
theorem bigOks_get : ∀ {ds : List PyData} {i : Nat} {d : PyData}, bigOks ds = true → ds[i]? = some d → bigOk d = true
  | [], _, _, _, gone => by simp at gone
  | e :: ds, 0, d, h, h2 => by
    have : e = d := by simpa using h2
    subst this
    simp [bigOks] at h; exact h.1
  | e :: ds, i + 1, d, h, h2 => by
    simp [bigOks] at h
    exact bigOks_get h.2 (by simpa using h2)
theorem bigOks_of {ds : List PyData} (h : ∀ d ∈ ds, bigOk d = true) : bigOks ds = true := by
  induction ds with
  | nil => rfl
  | cons d r ih => simp [bigOks, h d (by simp), ih fun e he => h e (by simp [he])]
theorem sh_get : ∀ {ds : List PyData} {n i : Nat} {d : PyData}, PyData.canLayAll0 ds = true → PyData.depthAll ds ≤ n → ds[i]? = some d → Sh n d
  | [], _, _, _, _, _, h => by simp at h
  | e :: ds, n, 0, d, h, h1, h2 => by
    have : e = d := by simpa using h2
    subst this
    simp [PyData.canLayAll0] at h
    simp only [PyData.depthAll] at h1
    exact ⟨h.1, by omega⟩
  | e :: ds, n, i + 1, d, h, h1, h2 => by
    simp [PyData.canLayAll0] at h
    simp only [PyData.depthAll] at h1
    exact sh_get h.2 (by omega) (by simpa using h2)
/-- of equal data it says True; spEq n: data of depth below n -/
def spEq (K : PySem.W.Frag) : Nat → Sp
  | 0 => fun _ _ _ _ => False
  | n + 1 => fun vs H Q _ => ∃ (x y : V) (d : PyData), vs = [x, y] ∧ Dp K H x d ∧ Dp K H y d ∧ Sh n d ∧ bigOk d = true ∧ ∀ H', Same H H' → Q (.bl true) H'


theorem dp_two {H : Hp} {x y : V} {d : PyData} {n : Nat} (hx : Dp K H x d) (hy : Dp K H y d) (sh : Sh n d) (bg : bigOk d = true) : (x = .non ∧ y = .non) ∨ (∃ b, x = .bl b ∧ y = .bl b) ∨ (∃ i, x = .int i ∧ y = .int i) ∨ (∃ z, x = .str z ∧ y = .str z) ∨
    ∃ (T : String) (a b : Addr) (xs ys : List V) (ds : List PyData), (T = "list" ∨ T = "tuple") ∧ x = .ref a ∧ y = .ref b ∧ TyX K H (.ref a) (.type T) ∧ TyX K H (.ref b) (.type T) ∧ (SqL K H a xs ∨ SqT K H a xs) ∧ (SqL K H b ys ∨ SqT K H b ys) ∧ DpAll K H xs ds ∧ DpAll K H ys ds ∧
      PyData.canLayAll0 ds = true ∧ PyData.depthAll ds + 1 ≤ n ∧ ds.length ≤ 100000 ∧ bigOks ds = true := by
  cases d with
  | none => exact .inl ⟨hx.inv_n, hy.inv_n⟩
  | bool b => exact .inr (.inl ⟨b, hx.inv_b, hy.inv_b⟩)
  | int i => exact .inr (.inr (.inl ⟨i, hx.inv_i, hy.inv_i⟩))
  | str z => exact .inr (.inr (.inr (.inl ⟨z, hx.inv_s, hy.inv_s⟩)))
  | dict kvs => cases hx
  | list ds =>
    obtain ⟨a, xs, rfl, h1, h2⟩ := hx.inv_l
    obtain ⟨b, ys, rfl, h3, h4⟩ := hy.inv_l
    have hb : ds.length ≤ 100000 ∧ bigOks ds = true := by simpa [bigOk] using bg
    have hs1 : PyData.canLayAll0 ds = true := by simpa [PyData.canLay0] using sh.1
    have hs2 : PyData.depthAll ds + 1 ≤ n := by simpa [PyData.depth] using sh.2
    exact .inr (.inr (.inr (.inr ⟨"list", a, b, xs, ys, ds, .inl rfl, rfl, rfl, tyx_l h1, tyx_l h3, .inl h1, .inl h3, h2, h4, hs1, hs2, hb.1, hb.2⟩)))
  | tuple ds =>
    obtain ⟨a, xs, rfl, h1, h2⟩ := hx.inv_t
    obtain ⟨b, ys, rfl, h3, h4⟩ := hy.inv_t
    have hb : ds.length ≤ 100000 ∧ bigOks ds = true := by simpa [bigOk] using bg
    have hs1 : PyData.canLayAll0 ds = true := by simpa [PyData.canLay0] using sh.1
    have hs2 : PyData.depthAll ds + 1 ≤ n := by simpa [PyData.depth] using sh.2
    exact .inr (.inr (.inr (.inr ⟨"tuple", a, b, xs, ys, ds, .inr rfl, rfl, rfl, tyx_t h1, tyx_t h3, .inr h1, .inr h3, h2, h4, hs1, hs2, hb.1, hb.2⟩)))
theorem kit_seq {T : String} (hT : T = "list" ∨ T = "tuple") : kitB T "bool" = some false ∧ kitB T "int" = some false ∧ kitB T "str" = some false ∧ kitB T "tuple" = some (decide (T = "tuple")) ∧ kitB T "list" = some (decide (T = "list")) := by
  rcases hT with rfl | rfl <;> decide +kernel

end
abbrev s_law_same : Stmt := top 29
abbrev N_law_same : List Str := ["_law_result", "_law_expected", "_law_k"]
theorem sc_law_same : FnScope N_law_same ["_law_result", "_law_expected"] (defScope s_law_same) := ⟨rfl, rfl, rfl, by decide +kernel, rfl, by decide +kernel, by decide +kernel⟩
section
variable {P : Program} {w : World} {K : PySem.W.Frag}
variable {mg : Str → Option Value} {base : Heap}
theorem sqq_tyx {H : Hp} {T : String} {a : Addr} {xs : List V} (h : SqQ K H T a xs) : TyX K H (.ref a) (.type T) := by
  rcases h with ⟨rfl, h⟩ | ⟨rfl, h⟩
  · exact tyx_l h
  · exact tyx_t h
theorem dp_seq {H : Hp} {x y : V} {d : PyData} {n : Nat} (hx : Dp K H x d) (hy : Dp K H y d) (sh : Sh n d) (bg : bigOk d = true) : (x = .non ∧ y = .non) ∨ (∃ b, x = .bl b ∧ y = .bl b) ∨ (∃ i, x = .int i ∧ y = .int i) ∨ (∃ z, x = .str z ∧ y = .str z) ∨
    ∃ (T : String) (a b : Addr) (xs ys : List V) (ds : List PyData), (T = "list" ∨ T = "tuple") ∧ x = .ref a ∧ y = .ref b ∧ SqQ K H T a xs ∧ SqQ K H T b ys ∧ DpAll K H xs ds ∧ DpAll K H ys ds ∧
      PyData.canLayAll0 ds = true ∧ PyData.depthAll ds + 1 ≤ n ∧ ds.length ≤ 100000 ∧ bigOks ds = true := by
  cases d with
  | none => exact .inl ⟨hx.inv_n, hy.inv_n⟩
  | bool b => exact .inr (.inl ⟨b, hx.inv_b, hy.inv_b⟩)
  | int i => exact .inr (.inr (.inl ⟨i, hx.inv_i, hy.inv_i⟩))
  | str z => exact .inr (.inr (.inr (.inl ⟨z, hx.inv_s, hy.inv_s⟩)))
  | dict kvs => cases hx
  | list ds =>
    obtain ⟨a, xs, rfl, h1, h2⟩ := hx.inv_l
    obtain ⟨b, ys, rfl, h3, h4⟩ := hy.inv_l
    have hb : ds.length ≤ 100000 ∧ bigOks ds = true := by simpa [bigOk] using bg
    exact .inr (.inr (.inr (.inr ⟨"list", a, b, xs, ys, ds, .inl rfl, rfl, rfl, .inl ⟨rfl, h1⟩, .inl ⟨rfl, h3⟩, h2, h4, by simpa [PyData.canLay0] using sh.1, by simpa [PyData.depth] using sh.2, hb.1, hb.2⟩)))
  | tuple ds =>
    obtain ⟨a, xs, rfl, h1, h2⟩ := hx.inv_t
    obtain ⟨b, ys, rfl, h3, h4⟩ := hy.inv_t
    have hb : ds.length ≤ 100000 ∧ bigOks ds = true := by simpa [bigOk] using bg
    exact .inr (.inr (.inr (.inr ⟨"tuple", a, b, xs, ys, ds, .inr rfl, rfl, rfl, .inr ⟨rfl, h1⟩, .inr ⟨rfl, h3⟩, h2, h4, by simpa [PyData.canLay0] using sh.1, by simpa [PyData.depth] using sh.2, hb.1, hb.2⟩)))
theorem ok_law_same (M : Md K mg) (G : Gd K mg "_law_same" s_law_same) : ∀ n : Nat, DefR P w K mg base "_law_same" (2 * n) (spEq K n)
  | 0 => def_mk G fun f fd F => fnr_mk (ps := [_, _]) ⟨fun _ _ _ _ h => h.elim, fun _ _ _ _ _ _ _ _ _ _ _ _ _ h => h.elim⟩ (F.bindsN (fun _ _ _ _ _ _ us hl => match us, hl with | [_, _], _ => rfl))
  | n + 1 => by
    have D_law_same := ok_law_same M G n
    refine def_mk G fun f fd F => fnr_mk (F.ok (k := 2 * n + 1) sc_law_same ?_ (fun cdv A outer s H vs Q E hr h => ?_)) (F.bindsN (fun _ _ _ _ _ _ us hl => match us, hl with | [_, _], _ => rfl))
    · rintro vs H Q E ⟨x, y, d, rfl, _⟩; rfl
    · obtain ⟨x, y, d, rfl, hx, hy, sh, bg, k⟩ := h
      have nd := sc_law_same.nd
      refine ⟨_, PSs.nox (pss_cons (ps_if (pt_val (pe_isiTT K M.b (pv 1))) (pss_cons (ps_if (PW.pt (pw_or (pt_not (pt_val (pe_isiTT K M.b (pv 0)))) (pw_or1 (pt_cmpR (op_neK K hr) (pe_isiB K M.b M.b.list bt_list (pv 0)) (pe_isiB K M.b M.b.list bt_list (pv 1)) (nomark _))))) (pss_one (ps_ret pe_bl)) pss_nil)
    (pss_cons (ps_if (pt_cmpR (op_neK K hr) (pe_len K M.b (pv 0)) (pe_len K M.b (pv 1)) (nomark _)) (pss_one (ps_ret pe_bl)) pss_nil)
    (pss_one (ps_ret (pe_cmpR (op_eqK K hr) (pe_lc (own := [("_law_k", 2)]) (g := (gName 2)) rfl nd (pi_range1 rfl M.b.range (pa_cons (pe_len K M.b (pv 1)) pa_nil)) (blkOk_by (N := N_law_same) (sc := defScope s_law_same) (by decide +kernel)) (fun _ _ _ _ _ => (pg_name (i := 2) nd rfl (by first | exact Or.inl rfl | exact Or.inr rfl))) (fun _ _ _ _ _ => (pts_one (pt_not (pt_val (pe_callR D_law_same (hr.mono (by first | decide | omega)) passN (pa_cons (pe_ix (ix_K K) (pv 0) (pv 2) (fun _ _ => rfl)) (pa_cons (pe_ix (ix_K K) (pv 1) (pv 2) (fun _ _ => rfl)) pa_nil))))))) (fun _ _ _ _ _ => (pv 2))) (pe_lst pa_nil) (nomark _)))))) pss_nil)
    (pss_cons (ps_if (pt_cmpR (op_neK K hr) (pe_isiB K M.b M.b.bool bt_bool (pv 0)) (pe_isiB K M.b M.b.bool bt_bool (pv 1)) (nomark _)) (pss_one (ps_ret pe_bl)) pss_nil)
    (pss_one (ps_ret (pe_and (pe_cmpR (op_eqK K hr) (pe_isiB K M.b M.b.int bt_int (pv 0)) (pe_isiB K M.b M.b.int bt_int (pv 1)) (nomark _)) (pe_one (pe_cmpR (op_eqK K hr) (pv 0) (pv 1) (nomark _)))))))), ?_⟩
      show (_ : TS) _ [some x, some y, none] H
      rcases dp_seq hx hy sh bg with ⟨rfl, rfl⟩ | ⟨b, rfl, rfl⟩ | ⟨b, rfl, rfl⟩ | ⟨b, rfl, rfl⟩ | ⟨T, a, b, xs, ys, ds, hT, rfl, rfl, qa, qb, hX, hY, c1, c2, c3, c4⟩
      · skip
        walk_at "go"
        refine n_isTT (t := "NoneType") (b := false) (c := false) (fun _ _ => .base .non) (by decide +kernel) (by decide +kernel) fun H1 s1 => ?_
        walk_at "go"
        refine if_F rfl ?_
        walk_at "go"
        refine g_isi (.base .non) (b := false) (by decide +kernel) ?_
        walk_at "go"
        refine g_isi (.base .non) (b := false) (by decide +kernel) ?_
        walk_at "go"
        refine if_F rfl ?_
        walk_at "go"
        refine g_isi (.base .non) (b := false) (by decide +kernel) ?_
        walk_at "go"
        refine g_isi (.base .non) (b := false) (by decide +kernel) ?_
        walk_at "go"
        refine if_T rfl ?_
        walk_at "go"
        refine g_eq_d .none .none .non .non (sh_n.ok (by decide)) (sh_n.ok (by decide)) ?_
        exact k H1 s1
      · skip
        walk_at "go"
        refine n_isTT (t := "bool") (b := false) (c := false) (fun _ _ => .base (.bl _)) (by decide +kernel) (by decide +kernel) fun H1 s1 => ?_
        walk_at "go"
        refine if_F rfl ?_
        walk_at "go"
        refine g_isi (.base (.bl _)) (b := true) (by decide +kernel) ?_
        walk_at "go"
        refine g_isi (.base (.bl _)) (b := true) (by decide +kernel) ?_
        walk_at "go"
        refine if_F rfl ?_
        walk_at "go"
        refine g_isi (.base (.bl _)) (b := true) (by decide +kernel) ?_
        walk_at "go"
        refine g_isi (.base (.bl _)) (b := true) (by decide +kernel) ?_
        walk_at "go"
        refine if_T rfl ?_
        walk_at "go"
        rw [decide_eq_true rfl]
        exact k H1 s1
      · skip
        walk_at "go"
        refine n_isTT (t := "int") (b := false) (c := false) (fun _ _ => .base (.int _)) (by decide +kernel) (by decide +kernel) fun H1 s1 => ?_
        walk_at "go"
        refine if_F rfl ?_
        walk_at "go"
        refine g_isi (.base (.int _)) (b := false) (by decide +kernel) ?_
        walk_at "go"
        refine g_isi (.base (.int _)) (b := false) (by decide +kernel) ?_
        walk_at "go"
        refine if_F rfl ?_
        walk_at "go"
        refine g_isi (.base (.int _)) (b := true) (by decide +kernel) ?_
        walk_at "go"
        refine g_isi (.base (.int _)) (b := true) (by decide +kernel) ?_
        walk_at "go"
        refine if_T rfl ?_
        walk_at "go"
        rw [decide_eq_true rfl]
        exact k H1 s1
      · skip
        walk_at "go"
        refine n_isTT (t := "str") (b := false) (c := false) (fun _ _ => .base (.str _)) (by decide +kernel) (by decide +kernel) fun H1 s1 => ?_
        walk_at "go"
        refine if_F rfl ?_
        walk_at "go"
        refine g_isi (.base (.str _)) (b := false) (by decide +kernel) ?_
        walk_at "go"
        refine g_isi (.base (.str _)) (b := false) (by decide +kernel) ?_
        walk_at "go"
        refine if_F rfl ?_
        walk_at "go"
        refine g_isi (.base (.str _)) (b := false) (by decide +kernel) ?_
        walk_at "go"
        refine g_isi (.base (.str _)) (b := false) (by decide +kernel) ?_
        walk_at "go"
        refine if_T rfl ?_
        walk_at "go"
        rw [decide_eq_true rfl]
        exact k H1 s1
      · obtain ⟨kb, ki, ks, kt, kl⟩ := kit_seq hT
        have hxl : xs.length = ds.length := hX.length
        have hyl : ys.length = ds.length := hY.length
        have tl : (decide (T = "tuple") || decide (T = "list")) = true := by rcases hT with rfl | rfl <;> decide
        walk_at "go"
        refine n_isTT (fun _ e => sqq_tyx (qb.same e)) kt kl fun H1 s1 => ?_
        walk_at "go"
        refine if_T tl ?_
        walk_at "go"
        refine n_isTT (fun _ e => sqq_tyx (qa.same (s1.trans e))) kt kl fun H2 s2 => ?_
        have s12 := s1.trans s2
        walk_at "go"
        rw [tl]
        refine if_F rfl ?_
        walk_at "go"
        refine g_isi (sqq_tyx (qa.same s12)) kl ?_
        walk_at "go"
        refine g_isi (sqq_tyx (qb.same s12)) kl ?_
        walk_at "go"
        refine if_F (by simp) ?_
        walk_at "go"
        refine g_len_q (qa.same s12).or ?_
        walk_at "go"
        refine g_len_q (qb.same s12).or ?_
        walk_at "go"
        refine if_F (by rw [hxl, hyl]; simp) ?_
        walk_at "go"
        refine g_len_q (qb.same s12).or ?_
        walk_at "go"
        refine n_lcR1 (by omega) (by omega) (lc_filt (List.range ds.length) (by rw [List.length_range, ← hyl, ← Int.toNat_natCast ys.length]; exact walk_range (lo := 0) (n := ((ys.length : Int)).toNat)) (fun _ => false) (fun j => V.int j) (fun _ _ => trivial) ?_ ?_)
        · rintro C j j' x H5 H6 nC hjj hj s5 hC ⟨e, ex⟩
          subst e ex
          have hj' : j < ds.length := by simpa using hj
          have hdj : ds[j]? = some ds[j] := List.getElem?_eq_getElem hj'
          obtain ⟨u, hu, hdu⟩ := hX.getD hdj
          obtain ⟨v, hv, hdv⟩ := hY.getD hdj
          have s15 := s12.trans s5
          walk_at "go"
          refine ⟨rfl, ?_⟩
          walk_at "go"
          refine g_ix_q (qa.same s15).or (by rw [Int.zero_add]; exact atI_nat hu) ?_
          walk_at "go"
          refine g_ix_q (qb.same s15).or (by rw [Int.zero_add]; exact atI_nat hv) ?_
          walk_at "go"
          cases n with
          | zero => omega
          | succ n =>
            refine ⟨u, v, ds[j], rfl, s15.dp hdu, s15.dp hdv, sh_get c1 (by omega) hdj, bigOks_get c4 hdj, fun H7 s7 => ?_⟩
            walk_at "go"
            exact n_filtF hjj rfl (s5.trans s7) (s7 _ _ hC)
        · intro C H5 nC s5 hC
          have e1 : ((List.range ds.length).filter fun _ => false) = [] := by simp
          rw [e1] at hC
          walk_at "go"
          refine n_lst (by simp) fun l H6 nl s6 hl => ?_
          refine g_eq_d (.list []) (.list []) (dp_lst (s6 _ _ hC) .nil) (dp_lst hl .nil) ((sh_l (n := 0) (by simp)).ok (by decide)) ((sh_l (n := 0) (by simp)).ok (by decide)) ?_
          exact k H6 (s12.trans (s5.trans s6))

end
abbrev s_law_fields : Stmt := top 30
abbrev N_law_fields : List Str := ["_law_state", "_law_most", "_law_high", "_law_product", "_law_left", "_law_fields_here", "_law_states", "_law_k", "_law_limit"]
theorem sc_law_fields : FnScope N_law_fields ["_law_state", "_law_most", "_law_high", "_law_product"] (defScope s_law_fields) := ⟨rfl, rfl, rfl, by decide +kernel, rfl, by decide +kernel, by decide +kernel⟩
section
variable {P : Program} {w : World} {K : PySem.W.Frag}
variable {mg : Str → Option Value} {base : Heap}
def eight : List Str := signs "abcdefgh"
theorem eight_nm : ∀ z ∈ eight, NmOk z := by decide +kernel
theorem eight_nd : eight.Nodup := by decide +kernel
theorem eight_len : eight.length = 8 := by decide +kernel
theorem perm_pop {α : Type} {pool : List α} {i : Nat} {x : α} (h : pool[i]? = some x) : List.Perm (x :: pool.eraseIdx i) pool := by
  induction pool generalizing i with
  | nil => simp at h
  | cons a r ih =>
    cases i with
    | zero =>
      have e : a = x := by simpa using h
      subst e
      simp
    | succ i =>
      have h' : r[i]? = some x := by simpa using h
      rw [List.eraseIdx_cons_succ]
      exact (List.Perm.swap a x _).trans ((ih h').cons a)
theorem map_eraseIdx {α β : Type} (f : α → β) : ∀ (l : List α) (i : Nat), (l.map f).eraseIdx i = (l.eraseIdx i).map f
  | [], _ => rfl
  | _ :: _, 0 => rfl
  | a :: l, i + 1 => by simp [map_eraseIdx f l i]
def sp_law_fields (K : PySem.W.Frag) : Sp := fun vs H Q _ => ∃ (d a : Addr) (ns : List Int) (m h pr : Int), vs = [.ref d, .int m, .int h, .int pr] ∧ Dr K a ns H d ∧ 1 ≤ m ∧ m ≤ 6 ∧ 1 ≤ h ∧ h ≤ 30 ∧ 1 ≤ pr ∧ pr ≤ 4000 ∧
  ∀ H' r xs fs, Keep d H H' → Dr K a ns H' d → H r = none → H' r = some (.lst xs) → DpAll K H' xs (fs.map pField) → FOk fs → fs.length ≤ m.toNat → (∀ f ∈ fs, f.2 ≤ h) → prodL (fs.map (·.2)) ≤ pr → Q (.ref r) H'
theorem ok_law_fields (M : Md K mg) (G : Gd K mg "_law_fields" s_law_fields) (D_law_drawn : DefR P w K mg base "_law_drawn" 2 (sp_law_drawn K)) : DefR P w K mg base "_law_fields" 4 (sp_law_fields K) := by
  refine def_mk G fun f fd F => fnr_mk (F.ok sc_law_fields ?_ (fun cdv A outer s H vs Q E hr h => ?_)) (F.bindsN (fun _ _ _ _ _ _ us hl => match us, hl with | [_, _, _, _], _ => rfl))
  · rintro vs H Q E ⟨d, a, ns, m, h, pr, rfl, _⟩; rfl
  · obtain ⟨d, a, ns, m, hh, pr, rfl, hd, m1, m6, h1, h30, p1, p4, k⟩ := h
    have nd := sc_law_fields.nd
    refine ⟨_, PSs.nox (pss_cons (ps_par3 (i := 4) (j := 5) (l := 6) rfl nd rfl rfl rfl (by decide) (by decide) (by decide) rfl rfl rfl (pa_cons (pe_listTxt M.b pe_str) (pa_cons (pe_lst pa_nil) (pa_cons pe_int pa_nil))) (by rfl))
    (pss_cons (ps_for PassesOwn.never rfl (pi_range1 rfl M.b.range (pa_cons (pe_op (op_addK K) pe_int (pe_callR D_law_drawn (hr.mono (by first | decide | omega)) passN (pa_cons (pv 0) (pa_cons (pv 1) pa_nil)))) pa_nil)) (pg_name (i := 7) nd rfl (by first | exact Or.inl rfl | exact Or.inr rfl)) (pss_cons (ps_set (i := 8) nd rfl (by first | exact Or.inl rfl | exact Or.inr rfl) (pe_op (op_addK K) pe_int (pe_callR D_law_drawn (hr.mono (by first | decide | omega)) passN (pa_cons (pv 0) (pa_cons (pv 2) pa_nil)))))
    (pss_one (ps_if (pt_cmpR op_le (pe_op op_mul (pv 6) (pv 8)) (pv 3) (nomark _)) (pss_cons (ps_expr (as_bm K (pe_bm PySem.F.plainAttrs_list PySem.F.slot_list_append PySem.F.type_list_append mt_append (pv 5) (pa_cons (pe_tup (pa_cons (as_bm K (pe_bm PySem.F.plainAttrs_list PySem.F.slot_list_pop PySem.F.type_list_pop mt_popAt (pv 4) (pa_cons (pe_callR D_law_drawn (hr.mono (by first | decide | omega)) passN (pa_cons (pv 0) (pa_cons (pe_len K M.b (pv 4)) pa_nil))) pa_nil))) (pa_cons (pv 8) pa_nil))) pa_nil))))
    (pss_one (ps_set (i := 6) nd rfl (by first | exact Or.inl rfl | exact Or.inr rfl) (pe_op op_mul (pv 6) (pv 8))))) pss_nil))))
    (pss_one (ps_ret (pe_ifExp (pt_cmpR (op_neK K hr) (pv 5) (pe_lst pa_nil) (nomark _)) (pv 5) (pe_lst (pa_cons (pe_tup (pa_cons pe_str (pa_cons pe_int pa_nil))) pa_nil))))))), ?_⟩
    show (_ : TS) _ [some (.ref d), some (.int m), some (.int hh), some (.int pr), none, none, none, none, none] H
    walk_at "go"
    refine g_listS (by decide +kernel) fun lf H1 nlf s1 hlf => ?_
    walk_at "go"
    refine n_lst (by simp) fun fo H2 nfo s2 hfo => ?_
    have s12 := s1.trans s2
    have Flf : Frd K a ns d lf := hd.frd nlf
    have Ffo : Frd K a ns d fo := hd.frd (s1.free nfo)
    have nfl : fo ≠ lf := (ne_of_none hlf nfo).symm
    have nfo0 : H fo = none := s1.free nfo
    walk_at "go"
    refine ⟨d, a, ns, m, rfl, hd.same s12, by omega, by omega, fun H3 r r0 r1 k3 d3 => ?_⟩
    walk_at "go"
    refine n_forR1 (by omega) (by omega) (fun i σ H' => ∃ (xs : List V) (fs : List (Str × Int)) (ps : List Str) (u v : Option V), σ = [some (.ref d), some (.int m), some (.int hh), some (.int pr), some (.ref lf), some (.ref fo), some (.int (prodL (fs.map (·.2)))), u, v] ∧ Keep d H H' ∧ Dr K a ns H' d ∧
      H' lf = some (.lst (ps.map V.str)) ∧ H' fo = some (.lst xs) ∧ DpAll K H' xs (fs.map pField) ∧ fs.length ≤ i ∧ List.Perm (fs.map (·.1) ++ ps) eight ∧ (∀ f ∈ fs, 1 ≤ f.2 ∧ f.2 ≤ hh) ∧ 1 ≤ prodL (fs.map (·.2)) ∧ prodL (fs.map (·.2)) ≤ pr)
      ⟨[], [], eight, none, none, rfl, s12.keep.trans k3, d3, k3 _ _ Flf.ne.symm (s2 _ _ hlf), k3 _ _ Ffo.ne.symm hfo, .nil, Nat.le_refl _, by simp, (fun f hf => by cases hf), by decide, by simpa [prodL] using p1⟩ ?_ ?_
    · rintro i σ H' hi ⟨xs, fs, ps, u, v, rfl, kH, dH, hL, hF, hX, hl, pm, hlim, q1, q2⟩
      have hpl : fs.length + ps.length = 8 := by
        have := pm.length_eq
        rw [eight_len] at this
        simpa using this
      have hxl : xs.length = fs.length := by rw [hX.length]; simp
      generalize hst : prodL (fs.map (·.2)) = st at *
      walk_at "go"
      refine ⟨d, a, ns, hh, rfl, dH, by omega, by omega, fun H4 l l0 l1 k4 d4 => ?_⟩
      have hL4 : H4 lf = some (.lst (ps.map V.str)) := k4 _ _ Flf.ne.symm hL
      have hF4 : H4 fo = some (.lst xs) := k4 _ _ Ffo.ne.symm hF
      have hX4 : DpAll K H4 xs (fs.map pField) := dp_keepAll k4 dH.notT _ _ (noL_fields fs) hX
      have cm : CMul st (1 + l) := by unfold CMul; omega
      walk_at "go"
      refine if_D (fun e => ?_) (fun e => ?_)
      · walk_at "go"
        refine ⟨d, a, ns, _, rfl, d4, by simp; omega, by simp; omega, fun H5 q q0 qq k5 d5 => ?_⟩
        have qi : q.toNat < ps.length := by simp at qq; omega
        have hx : ps[q.toNat]? = some ps[q.toNat] := List.getElem?_eq_getElem qi
        generalize ps[q.toNat] = nm at hx
        have hL5 := k5 _ _ Flf.ne.symm hL4
        have hF5 := k5 _ _ Ffo.ne.symm hF4
        have hX5 : DpAll K H5 xs (fs.map pField) := dp_keepAll k5 d4.notT _ _ (noL_fields fs) hX4
        walk_at "go"
        refine g_popAt (y := .str nm) hL5 q0 (by rw [List.getElem?_map, hx]; rfl) (by simp [sizeLine_eq]; omega) fun H6 k6 hL6 => ?_
        have hF6 := k6 _ _ nfl hF5
        have hX6 : DpAll K H6 xs (fs.map pField) := dpa_keep k6 hL5 (noL_fields fs) hX5
        have d6 := d5.keepF k6 Flf
        walk_at "go"
        refine n_tup (by simp [sizeLine_eq]) fun tp H7 ntp s7 htp => ?_
        walk_at "go"
        refine g_append (s7 _ _ hF6) (by rw [sizeLine_eq]; omega) fun H8 k8 hF8 => ?_
        walk_at "go"
        have hpos : 1 ≤ st * (1 + l) := by
          have : 1 * 1 ≤ st * (1 + l) := Int.mul_le_mul q1 (by omega) (by decide) (by omega)
          omega
        refine ⟨xs ++ [.ref tp], fs ++ [(nm, 1 + l)], ps.eraseIdx q.toNat, some (.int i), some (.int (1 + l)), ?_, ?_, ?_, ?_, hF8, ?_, by simp; omega, ?_, ?_, ?_, ?_⟩
        · simp [prodL_snoc, hst]
        · intro b o nb hb
          have hb' := kH b o nb hb
          exact k8 _ _ (ne_of_none hb nfo0) (s7 _ _ (k6 _ _ (ne_of_none hb nlf) (k5 _ _ nb (k4 _ _ nb hb'))))
        · exact (d6.same s7).keepF k8 Ffo
        · rw [k8 _ _ nfl.symm (s7 _ _ hL6), map_eraseIdx]
        · rw [List.map_append]
          exact dpa_keep k8 (s7 _ _ hF6) (by rw [← List.map_append]; exact noL_fields _) ((s7.dpa hX6).append (.cons (dp_tup htp (.cons (.str _) (.cons (.int _) .nil))) .nil))
        · refine List.Perm.trans ?_ pm
          rw [List.map_append, List.append_assoc]
          exact List.Perm.append_left _ (by simpa using perm_pop hx)
        · intro f hf
          rcases List.mem_append.mp hf with h | h
          · exact hlim f h
          · have : f = (nm, 1 + l) := by simpa using h
            subst this
            exact ⟨by simp; omega, by simp; omega⟩
        · simpa [prodL_snoc, hst] using hpos
        · simpa [prodL_snoc, hst] using e
      · walk_at "go"
        exact ⟨xs, fs, ps, _, _, by rw [hst], kH.trans k4, d4, hL4, hF4, hX4, by omega, pm, hlim, by rw [hst]; exact q1, by rw [hst]; exact q2⟩
    · rintro σ H' ⟨xs, fs, ps, u, v, rfl, kH, dH, hL, hF, hX, hl, pm, hlim, q1, q2⟩
      have hxl : xs.length = fs.length := by rw [hX.length]; simp
      have hnm : ∀ f ∈ fs, NmOk f.1 := fun f hf => eight_nm _ (pm.subset (List.mem_append_left _ (List.mem_map.mpr ⟨f, hf, rfl⟩)))
      have hnd : (fs.map (·.1)).Nodup := (List.nodup_append.mp (pm.nodup_iff.mpr eight_nd)).1
      walk_at "go"
      refine n_lst (by simp) fun e H3 ne s3 he => ?_
      refine g_ne_d (.list (fs.map pField)) (.list []) (dp_lst (s3 _ _ hF) (s3.dpa hX)) (dp_lst he .nil) (Sh.ok (sh_l (n := 1) fun x hx => ?_) (by decide)) (Sh.ok (n := 1) (sh_l fun x hx => by cases hx) (by decide)) ?_
      · obtain ⟨f, hf, rfl⟩ := List.mem_map.mp hx
        exact sh_field (hnm f hf)
      rw [eqv_nil]
      walk_at "go"
      cases fs with
      | nil =>
        refine if_F rfl ?_
        walk_at "go"
        refine n_tup (by simp [sizeLine_eq]) fun t2 H4 nt2 s4 ht2 => ?_
        walk_at "go"
        refine n_lst (by simp [sizeLine_eq]) fun r2 H5 nr2 s5 hr2 => ?_
        have s35 := s3.trans (s4.trans s5)
        refine k H5 r2 [.ref t2] [("a", 1)] (kH.trans s35.keep) (dH.same s35) ?_ hr2 (.cons (dp_tup (s5 _ _ ht2) (.cons (.str _) (.cons (.int _) .nil))) .nil) ⟨by decide, by decide, by simp, by decide +kernel, by simp, by decide +kernel⟩ (by simp; omega) (by simp; omega) (by simpa [prodL] using p1)
        · cases hh : H r2 with
          | none => rfl
          | some o =>
            have nrd : r2 ≠ d := fun e => by
              subst e
              have h0 := (s3.trans s4).free nr2
              obtain ⟨_, _, _, h9, _⟩ := dH
              rw [h0] at h9; cases h9
            have := (s3.trans s4) _ _ (kH _ _ nrd hh)
            rw [nr2] at this; cases this
      | cons f0 fs =>
        refine if_T rfl ?_
        walk_at "go"
        exact k H3 fo xs (f0 :: fs) (kH.trans s3.keep) (dH.same s3) nfo0 (s3 _ _ hF) (s3.dpa hX) ⟨by simp, by simp at hl ⊢; omega, hnd, hnm, fun f hf => ⟨(hlim f hf).1, by have := (hlim f hf).2; omega⟩, by omega⟩ (by simp at hl ⊢; omega) (fun f hf => (hlim f hf).2) q2

end
abbrev s_law_days : Stmt := top 32
abbrev N_law_days : List Str := ["_law_state", "_law_names", "_law_size", "_law_days_here", "_law_k", "_law_left", "_law_day", "_law_turn"]
theorem sc_law_days : FnScope N_law_days ["_law_state", "_law_names", "_law_size"] (defScope s_law_days) := ⟨rfl, rfl, rfl, by decide +kernel, rfl, by decide +kernel, by decide +kernel⟩
section
variable {P : Program} {w : World} {K : PySem.W.Frag}
variable {mg : Str → Option Value} {base : Heap}
/-- days of names out of zs -/
structure DaysOf (zs : List Str) (ds : List (List Str)) : Prop where
  nd : ∀ d ∈ ds, d.Nodup
  le : ∀ d ∈ ds, d.length ≤ 2
  sub : ∀ d ∈ ds, ∀ z ∈ d, z ∈ zs
theorem DaysOf.snoc {zs : List Str} {ds : List (List Str)} {d : List Str} (h : DaysOf zs ds) (h1 : d.Nodup) (h2 : d.length ≤ 2) (h3 : ∀ z ∈ d, z ∈ zs) : DaysOf zs (ds ++ [d]) := by
  have key : ∀ {p : List Str → Prop}, (∀ e ∈ ds, p e) → p d → ∀ e ∈ ds ++ [d], p e := fun ha hb e he => by
    rcases List.mem_append.mp he with q | q
    · exact ha e q
    · rw [List.mem_singleton.mp q]; exact hb
  exact ⟨key h.nd h1, key h.le h2, key h.sub h3⟩
def sp_law_days (K : PySem.W.Frag) : Sp := fun vs H Q _ => ∃ (d a nm : Addr) (ns : List Int) (zs : List Str) (n : Int), vs = [.ref d, .ref nm, .int n] ∧ Dr K a ns H d ∧ d ≠ nm ∧ H nm = some (.lst (zs.map V.str)) ∧ zs.Nodup ∧ zs.length ≤ 8 ∧ (∀ z ∈ zs, PyData.strOk z = true) ∧ 0 ≤ n ∧ n ≤ 1000 ∧
  ∀ H' r xs ds, Keep d H H' → Dr K a ns H' d → H r = none → H' r = some (.lst xs) → DpAll K H' xs (ds.map pDay) → ds.length = n.toNat → DaysOf zs ds → Q (.ref r) H'
theorem ok_law_days (M : Md K mg) (G : Gd K mg "_law_days" s_law_days) (D_law_drawn : DefR P w K mg base "_law_drawn" 2 (sp_law_drawn K)) : DefR P w K mg base "_law_days" 4 (sp_law_days K) := by
  refine def_mk G fun f fd F => fnr_mk (F.ok sc_law_days ?_ (fun cdv A outer s H vs Q E hr h => ?_)) (F.bindsN (fun _ _ _ _ _ _ us hl => match us, hl with | [_, _, _], _ => rfl))
  · rintro vs H Q E ⟨d, a, nm, ns, zs, n, rfl, _⟩; rfl
  · obtain ⟨d, a, nm, ns, zs, n, rfl, hd, ndn, hN, zn, z8, zok, n0, n1, k⟩ := h
    have nd := sc_law_days.nd
    refine ⟨_, PSs.nox (pss_cons (ps_set (i := 3) nd rfl (by first | exact Or.inl rfl | exact Or.inr rfl) (pe_lst pa_nil))
    (pss_cons (ps_for PassesOwn.never rfl (pi_range1 rfl M.b.range (pa_cons (pv 2) pa_nil)) (pg_name (i := 4) nd rfl (by first | exact Or.inl rfl | exact Or.inr rfl)) (pss_cons (ps_par (i := 5) (j := 6) rfl nd rfl rfl (by decide) rfl rfl (pa_cons (pe_listOf K M.b (pv 1)) (pa_cons (pe_lst pa_nil) pa_nil)) (by rfl))
    (pss_cons (ps_for PassesOwn.never rfl (pi_range1 rfl M.b.range (pa_cons (pe_callR D_law_drawn (hr.mono (by first | decide | omega)) passN (pa_cons (pv 0) (pa_cons pe_int pa_nil))) pa_nil)) (pg_name (i := 7) nd rfl (by first | exact Or.inl rfl | exact Or.inr rfl)) (pss_one (ps_if (pt_cmpR (op_neK K hr) (pv 5) (pe_lst pa_nil) (nomark _)) (pss_one (ps_expr (as_bm K (pe_bm PySem.F.plainAttrs_list PySem.F.slot_list_append PySem.F.type_list_append mt_append (pv 6) (pa_cons (as_bm K (pe_bm PySem.F.plainAttrs_list PySem.F.slot_list_pop PySem.F.type_list_pop mt_popAt (pv 5) (pa_cons (pe_callR D_law_drawn (hr.mono (by first | decide | omega)) passN (pa_cons (pv 0) (pa_cons (pe_len K M.b (pv 5)) pa_nil))) pa_nil))) pa_nil))))) pss_nil)))
    (pss_one (ps_expr (as_bm K (pe_bm PySem.F.plainAttrs_list PySem.F.slot_list_append PySem.F.type_list_append mt_append (pv 3) (pa_cons (pe_tupOf K M.b (pv 6)) pa_nil)))))))) (pss_one (ps_ret (pv 3))))), ?_⟩
    show (_ : TS) _ [some (.ref d), some (.ref nm), some (.int n), none, none, none, none, none] H
    walk_at "go"
    refine n_lst (by simp) fun dh H1 ndh s1 hdh => ?_
    have Fdh : Frd K a ns d dh := hd.frd ndh
    walk_at "go"
    refine n_forR1 (by omega) (by omega) (fun i σ H' => ∃ (xs : List V) (ds : List (List Str)) (u4 u5 u6 u7 : Option V), σ = [some (.ref d), some (.ref nm), some (.int n), some (.ref dh), u4, u5, u6, u7] ∧ Keep d H H' ∧ Dr K a ns H' d ∧ H' dh = some (.lst xs) ∧ DpAll K H' xs (ds.map pDay) ∧ ds.length = i ∧ DaysOf zs ds)
      ⟨[], [], _, _, _, _, rfl, s1.keep, hd.same s1, hdh, .nil, rfl, ⟨nofun, nofun, nofun⟩⟩ ?_ ?_
    · rintro i σ H2 hi ⟨xs, ds, u4, u5, u6, u7, rfl, kH, dH, hD, hX, hl, ok⟩
      have hxl : xs.length = ds.length := by rw [hX.length]; simp
      have hN2 := kH _ _ ndn.symm hN
      walk_at "go"
      refine g_listOf (.inl (SqL.of hN2)) fun lf H3 nlf s3 hlf => ?_
      walk_at "go"
      refine n_lst (by simp) fun dy H4 ndy s4 hdy => ?_
      have s34 := s3.trans s4
      have Flf : Frd K a ns d lf := dH.frd nlf
      have Fdy : Frd K a ns d dy := dH.frd (s3.free ndy)
      have nlf0 : ∀ b o, b ≠ d → H b = some o → b ≠ lf := fun b o nb hb => ne_of_none (kH b o nb hb) nlf
      have ndy0 : ∀ b o, b ≠ d → H b = some o → b ≠ dy := fun b o nb hb => ne_of_none (kH b o nb hb) (s3.free ndy)
      have nhl : dh ≠ lf := ne_of_none hD nlf
      have nhy : dh ≠ dy := ne_of_none hD (s3.free ndy)
      have nly : lf ≠ dy := ne_of_none hlf ndy
      walk_at "go"
      refine ⟨d, a, ns, 3, rfl, dH.same s34, by decide, by decide, fun H5 r r0 r1 k5 d5 => ?_⟩
      walk_at "go"
      refine n_forR1 (by omega) (by omega) (fun j σ H' => ∃ (ps ys : List Str) (u7 : Option V), σ = [some (.ref d), some (.ref nm), some (.int n), some (.ref dh), some (.int i), some (.ref lf), some (.ref dy), u7] ∧ Keep d H H' ∧ Dr K a ns H' d ∧ H' dh = some (.lst xs) ∧ DpAll K H' xs (ds.map pDay) ∧ H' lf = some (.lst (ps.map V.str)) ∧ H' dy = some (.lst (ys.map V.str)) ∧ ys.length ≤ j ∧ List.Perm (ys ++ ps) zs)
        ⟨zs, [], _, rfl, (kH.trans s34.keep).trans k5, d5, k5 _ _ Fdh.ne.symm (s34 _ _ hD), dp_keepAll k5 (dH.same s34).notT _ _ (noL_days ds) (s34.dpa hX), k5 _ _ Flf.ne.symm (s4 _ _ hlf), k5 _ _ Fdy.ne.symm hdy, Nat.le_refl _, by simp⟩ ?_ ?_
      · rintro j σ H6 hj ⟨ps, ys, u7, rfl, kH6, d6, hD6, hX6, hL6, hY6, yl, pm⟩
        have hpl : ys.length + ps.length ≤ 8 := by
          have := pm.length_eq
          rw [List.length_append] at this
          omega
        walk_at "go"
        refine n_lst (by simp) fun e H7 ne s7 he => ?_
        refine g_ne_d (.list (ps.map .str)) (.list []) (dp_lst (s7 _ _ hL6) (dpa_strs ps)) (dp_lst he .nil) (Sh.ok (sh_l (n := 0) fun x hx => ?_) (by decide)) (Sh.ok (n := 1) (sh_l fun x hx => by cases hx) (by decide)) ?_
        · obtain ⟨z, hz, rfl⟩ := List.mem_map.mp hx
          exact sh_s (zok z (pm.subset (by simp [hz])))
        rw [eqv_nil]
        walk_at "go"
        cases ps with
        | nil =>
          refine if_F rfl ?_
          walk_at "go"
          exact ⟨[], ys, _, rfl, kH6.trans s7.keep, d6.same s7, s7 _ _ hD6, s7.dpa hX6, s7 _ _ hL6, s7 _ _ hY6, by omega, pm⟩
        | cons p0 ps =>
          refine if_T rfl ?_
          have hL7 := s7 _ _ hL6
          have hY7 := s7 _ _ hY6
          walk_at "go"
          refine ⟨d, a, ns, _, rfl, d6.same s7, by simp <;> omega, by simp at hpl ⊢; omega, fun H8 q q0 qq k8 d8 => ?_⟩
          have qi : q.toNat < (p0 :: ps).length := by simp at qq ⊢; omega
          have hx : (p0 :: ps)[q.toNat]? = some (p0 :: ps)[q.toNat] := List.getElem?_eq_getElem qi
          generalize (p0 :: ps)[q.toNat] = z at hx
          have hL8 := k8 _ _ Flf.ne.symm hL7
          have hY8 := k8 _ _ Fdy.ne.symm hY7
          walk_at "go"
          refine g_popAt (y := .str z) hL8 q0 (by rw [List.getElem?_map, hx]; rfl) (by simp [sizeLine_eq]; simp at hpl; omega) fun H9 k9 hL9 => ?_
          have hY9 := k9 _ _ nly.symm hY8
          walk_at "go"
          refine g_append hY9 (by simp [sizeLine_eq]; omega) fun H10 k10 hY10 => ?_
          walk_at "go"
          refine ⟨(p0 :: ps).eraseIdx q.toNat, ys ++ [z], _, rfl, ?_, ?_, ?_, ?_, ?_, ?_, by simp; omega, ?_⟩
          · intro b o nb hb
            exact k10 _ _ (ndy0 b o nb hb) (k9 _ _ (nlf0 b o nb hb) (k8 _ _ nb (s7 _ _ (kH6 b o nb hb))))
          · exact (d8.keepF k9 Flf).keepF k10 Fdy
          · exact k10 _ _ nhy (k9 _ _ nhl (k8 _ _ Fdh.ne.symm (s7 _ _ hD6)))
          · exact dpa_keep k10 hY9 (noL_days ds) (dpa_keep k9 hL8 (noL_days ds) (dp_keepAll k8 (d6.same s7).notT _ _ (noL_days ds) (s7.dpa hX6)))
          · rw [k10 _ _ nly hL9, map_eraseIdx]
          · rw [hY10]; simp
          · refine List.Perm.trans ?_ pm
            rw [List.append_assoc]
            exact List.Perm.append_left ys (by simpa using perm_pop hx)
      · rintro σ H6 ⟨ps, ys, u7, rfl, kH6, d6, hD6, hX6, hL6, hY6, yl, pm⟩
        walk_at "go"
        refine g_tupOf_l (SqL.of hY6) fun tp H7 ntp s7 htp => ?_
        have hD7 := s7 _ _ hD6
        walk_at "go"
        refine g_append hD7 (by rw [sizeLine_eq]; omega) fun H8 k8 hD8 => ?_
        walk_at "go"
        refine ⟨xs ++ [.ref tp], ds ++ [ys], _, _, _, _, rfl, ?_, (d6.same s7).keepF k8 Fdh, hD8, ?_, by simp; omega, ok.snoc ?_ (by omega) ?_⟩
        · intro b o nb hb
          exact k8 _ _ (ne_of_none hb ndh) (s7 _ _ (kH6 b o nb hb))
        · have hY : DpAll K H7 (xs ++ [.ref tp]) ((ds ++ [ys]).map pDay) := by
            rw [List.map_append]
            exact (s7.dpa hX6).append (.cons (dp_tup htp (dpa_strs ys)) .nil)
          exact dpa_keep k8 hD7 (noL_days _) hY
        · exact (List.nodup_append.mp (pm.nodup_iff.mpr zn)).1
        · exact fun z hz => pm.subset (List.mem_append_left _ hz)
    · rintro σ H2 ⟨xs, ds, u4, u5, u6, u7, rfl, kH, dH, hD, hX, hl, ok⟩
      walk_at "go"
      exact k H2 dh xs ds kH dH ndh hD hX hl ok

end
abbrev s_law_rots : Stmt := top 34
abbrev N_law_rots : List Str := ["_law_fields_here", "_law_days_here", "_law_back", "_law_last", "_law_name", "_law_limit", "_law_day", "_law_place", "_law_names"]
theorem sc_law_rots : FnScope N_law_rots ["_law_fields_here", "_law_days_here", "_law_back"] (defScope s_law_rots) := ⟨rfl, rfl, rfl, by decide +kernel, rfl, by decide +kernel, by decide +kernel⟩
section
variable {P : Program} {w : World} {K : PySem.W.Frag}
variable {mg : Str → Option Value} {base : Heap}
/-- the dict of last harvests -/
def lastK (fs : List (Str × Int)) (g : Str → Int) : List (Key × V) := fs.map fun f => (Sum.inr f.1, V.int (g f.1))
theorem lastK_val {fs : List (Str × Int)} {g : Str → Int} {z : Str} (h : z ∈ fs.map (·.1)) : valV (lastK fs g) (.inr z) = some (.int (g z)) := by
  induction fs with
  | nil => simp at h
  | cons f r ih =>
    by_cases e : f.1 = z
    · rw [← e]
      exact valV_pos rfl
    · refine (valV_neg (fun q => e (Sum.inr.inj q))).trans (ih ?_)
      have : z = f.1 ∨ z ∈ r.map (·.1) := by simpa using h
      exact this.resolve_left fun q => e q.symm
theorem lastK_put {fs : List (Str × Int)} {g : Str → Int} {z : Str} {x : Int} (h : z ∈ fs.map (·.1)) : putK (lastK fs g) (.inr z) (.int x) = lastK fs fun y => if y = z then x else g y := by
  unfold putK
  have e : ((lastK fs g).any fun kv => decide (kv.1 = (Sum.inr z : Key))) = true := by rw [valV_any, lastK_val h]; rfl
  rw [if_pos e]
  simp only [lastK, List.map_map]
  apply List.map_congr_left
  intro f _
  by_cases q : f.1 = z
  · simp [q]
  · have : ¬ (Sum.inr f.1 : Key) = Sum.inr z := fun e => q (Sum.inr.inj e)
    simp [q, this]
theorem merge_new : ∀ (more kvs : List (Key × V)), ((kvs ++ more).map (·.1)).Nodup → mergeK kvs more = kvs ++ more
  | [], kvs, _ => by simp [mergeK]
  | p :: more, kvs, h => by
    have hp : valV kvs p.1 = none := by
      cases e : valV kvs p.1 with
      | none => rfl
      | some v =>
        have m := valV_in e
        rw [List.map_append, List.nodup_append] at h
        exact absurd rfl (h.2.2 _ m p.1 (by simp))
    have e1 : mergeK kvs (p :: more) = mergeK (putK kvs p.1 p.2) more := rfl
    rw [e1, putK_new _ hp, merge_new more _ (by simpa using h)]
    simp
theorem lastK_nd {fs : List (Str × Int)} {g : Str → Int} (h : (fs.map (·.1)).Nodup) : ((lastK fs g).map (·.1)).Nodup := by
  have e : (lastK fs g).map (·.1) = (fs.map (·.1)).map (Sum.inr : Str → Key) := by simp [lastK, Function.comp_def]
  rw [e]
  refine List.Pairwise.map _ (fun a b ne q => ne (Sum.inr.inj q)) h
theorem stL_map (fs : List (Str × Int)) (ds : List (List Str)) (b : Int) (d : Nat) : stL fs ds b d = fs.map fun f => f.2 - (d - 1 - lastH ds b f.1 d) := by
  apply List.ext_getElem?
  intro k
  cases hf : fs[k]? with
  | none => rw [List.getElem?_eq_none_iff.mpr (by rw [stL_len]; exact List.getElem?_eq_none_iff.mp hf), List.getElem?_map, hf]; rfl
  | some f => rw [stL_at hf, List.getElem?_map, hf]; rfl
theorem zip_self {α β : Type} (l : List α) (f : α → β) : l.zip (l.map f) = l.map fun x => (x, f x) := by
  induction l with
  | nil => rfl
  | cons a r ih => simp [ih]
def lateB (ds : List (List Str)) (b : Int) (d : Nat) (f : Str × Int) : Bool := !decide (f.1 ∈ dayOf ds b d) && decide (f.2 ≤ d - lastH ds b f.1 d)
theorem rot_late {fs : List (Str × Int)} {ds : List (List Str)} {b : Int} {d : Nat} (lo : ∀ f ∈ fs, 1 ≤ f.2) (no : ∀ e, e < d → rotAt fs ds b e = none) : rotAt fs ds b d = (fs.find? (lateB ds b d)).map (·.1) := by
  unfold rotAt
  rw [stL_map, zip_self, List.find?_map, Option.map_map]
  have e : ∀ l : List (Str × Int), (∀ f ∈ l, f ∈ fs) → l.find? (rotB (dayOf ds b d) ∘ fun f => (f, f.2 - (d - 1 - lastH ds b f.1 d))) = l.find? (lateB ds b d) := by
    intro l
    induction l with
    | nil => intro _; rfl
    | cons f r ih =>
      intro hm
      have hw := waits lo no (hm f (by simp))
      have q : (rotB (dayOf ds b d) ∘ fun f : Str × Int => (f, f.2 - (d - 1 - lastH ds b f.1 d))) f = lateB ds b d f := by
        simp only [Function.comp, rotB, lateB]
        congr 1
        exact Bool.eq_iff_iff.mpr (by rw [decide_eq_true_eq, decide_eq_true_eq]; omega)
      rw [List.find?_cons, List.find?_cons, q, ih fun f hf => hm f (by simp [hf])]
  rw [e fs fun f hf => hf]
  cases fs.find? (lateB ds b d) <;> rfl
theorem good_of {fs : List (Str × Int)} {ds : List (List Str)} {b : Int} (fok : FOk fs) (dok : DOk ds b) {n : Nat} (hn : ds.length * 2 + 31 ≤ n) (no : ∀ e, e < n → rotAt fs ds b e = none) : good fs ds b := by
  have h0 := dok.b0
  have h1 := dok.b1
  have hg := again dok.b0 dok.b1 (m := 30) (d := ds.length + 30) (fun f hf => (fok.lo f hf).1) (fun f hf => (fok.lo f hf).2) (by omega) (fun e he => no e (by omega))
  exact fun d => never dok.b0 dok.b1 (by omega) hg (fun e he => no e (by omega)) d
def sp_law_rots (K : PySem.W.Frag) : Sp := fun vs H Q _ => ∃ (v u : V) (fs : List (Str × Int)) (ds : List (List Str)) (b : Int), vs = [v, u, .int b] ∧ Dp K H v (.list (fs.map pField)) ∧ FOk fs ∧ Dp K H u (.list (ds.map pDay)) ∧ DOk ds b ∧ (∀ d ∈ ds, ∀ z ∈ d, z ∈ fs.map (·.1)) ∧
  (∀ (D : Nat) z, (∀ e, e < D → rotAt fs ds b e = none) → rotAt fs ds b D = some z → ∀ H' r, Same H H' → SqT K H' r [.int D, .str z] → Q (.ref r) H') ∧ (good fs ds b → ∀ H', Same H H' → Q .non H')
theorem ok_law_rots (M : Md K mg) (G : Gd K mg "_law_rots" s_law_rots) : DefR P w K mg base "_law_rots" 2 (sp_law_rots K) := by
  refine def_mk G fun f fd F => fnr_mk (F.ok sc_law_rots ?_ (fun cdv A outer s H vs Q E hr h => ?_)) (F.bindsN (fun _ _ _ _ _ _ us hl => match us, hl with | [_, _, _], _ => rfl))
  · rintro vs H Q E ⟨v, u, fs, ds, b, rfl, _⟩; rfl
  · obtain ⟨v, u, fs, ds, b, rfl, hv, fok, hu, dok, known, kr, kn⟩ := h
    have nd := sc_law_rots.nd
    obtain ⟨fl, xs, rfl, hS, hX⟩ := hv.inv_l
    obtain ⟨dl, ys, rfl, hU, hY⟩ := hu.inv_l
    have hxl : xs.length = fs.length := by rw [hX.length]; simp
    have hyl : ys.length = ds.length := by rw [hY.length]; simp
    have hfew := dok.few
    have hone := dok.one
    have hb0 := dok.b0
    have hb1 := dok.b1
    have six := fok.six
    refine ⟨_, PSs.nox (pss_cons (ps_set (i := 3) nd rfl (by first | exact Or.inl rfl | exact Or.inr rfl) (pe_dictP K M.b (pe_lc (own := [("_law_name", 4), ("_law_limit", 5)]) (g := (gTup K 2 (gCons (gName 4) (gCons (gName 5) gNil)))) (tt := tYes) rfl nd (pi_listK K (pv 0)) (blkOk_by (N := N_law_rots) (sc := defScope s_law_rots) (by decide +kernel)) (fun _ _ _ _ _ => (pg_tupK K rfl (pgs_cons (pg_name (i := 4) nd rfl (by first | exact Or.inl rfl | exact Or.inr rfl)) (pgs_cons (pg_name (i := 5) nd rfl (by first | exact Or.inl rfl | exact Or.inr rfl)) pgs_nil)))) (fun _ _ _ _ _ => pts_nil) (fun _ _ _ _ _ => (pe_tup (pa_cons (pv 4) (pa_cons (pe_op op_sub pe_int pe_int) pa_nil)))))))
    (pss_cons (ps_for PassesOwn.never rfl (pi_range1 rfl M.b.range (pa_cons (pe_op (op_addK K) (pe_op op_mul (pe_len K M.b (pv 1)) pe_int) pe_int) pa_nil)) (pg_name (i := 6) nd rfl (by first | exact Or.inl rfl | exact Or.inr rfl)) (pss_cons (ps_set (i := 7) nd rfl (by first | exact Or.inl rfl | exact Or.inr rfl) (pe_cut (pe_ifExp (pt_cmpR op_lt (pv 6) (pe_len K M.b (pv 1)) (nomark _)) (pv 6) (pe_op (op_addK K) (pv 2) (pe_op op_mod (pe_op op_sub (pv 6) (pv 2)) (pe_op op_sub (pe_len K M.b (pv 1)) (pv 2)))))))
    (pss_cons (ps_set (i := 8) nd rfl (by first | exact Or.inl rfl | exact Or.inr rfl) (pe_ix (ix_K K) (pv 1) (pv 7) (fun _ _ => rfl)))
    (pss_cons (ps_for PassesOwn.never rfl (pi_listK K (pv 0)) (pg_tupK K rfl (pgs_cons (pg_name (i := 4) nd rfl (by first | exact Or.inl rfl | exact Or.inr rfl)) (pgs_cons (pg_name (i := 5) nd rfl (by first | exact Or.inl rfl | exact Or.inr rfl)) pgs_nil))) (pss_one (ps_if (PW.pt (pw_and (pt_cmpR (op_notInK K hr) (pv 4) (pv 8) rfl) (pw_and1 (pt_cmpR op_ge (pe_op op_sub (pv 6) (pe_dget (units2 hr) (pv 3) (pv 4) (fun _ _ => rfl))) (pv 5) (nomark _))))) (pss_one (ps_ret (pe_tup (pa_cons (pv 6) (pa_cons (pv 4) pa_nil))))) pss_nil)))
    (pss_one (ps_for PassesOwn.never rfl (pi_tupK K (pv 8)) (pg_name (i := 4) nd rfl (by first | exact Or.inl rfl | exact Or.inr rfl)) (pss_one (ps_dput (units2 hr) (pv 3) (pv 4) (pv 6) rfl)))))))) (pss_one (ps_ret pe_non)))), ?_⟩
    show (_ : TS) _ [some (.ref fl), some (.ref dl), some (.int b), none, none, none, none, none, none] H
    walk_at "go"
    refine n_lcL hS (lc_run (walk_list (xs := xs)) (fun i acc H' => Same H H' ∧ ∃ ps : List Addr, acc = ps.map V.ref ∧ Paired (fun p kv => SqT K H' p [kV kv.1, kv.2]) ps (lastK (fs.take i) fun _ => -1)) (fun C H' _ s' _ => ⟨s', [], rfl, .nil⟩) (fun i acc H' C _ _ ⟨s', _⟩ => same_l s' hS) ?_ ?_)
    · rintro C j acc y H1 H2 nC hj hl hC ⟨s1, ps, rfl, hp⟩ ⟨e, hyj⟩
      subst e
      obtain ⟨dj, hdj, hDj⟩ := (s1.dpa hX).get hyj
      obtain ⟨fj, hfj, rfl⟩ := getm hdj
      obtain ⟨t3, zs, rfl, hT3, hZ⟩ := hDj.inv_t
      obtain ⟨w1, w2, rfl, hw1, hw2⟩ := hZ.inv2
      obtain rfl := hw1.inv_s
      obtain rfl := hw2.inv_i
      walk_at "go"
      refine g_gtup hT3 rfl ?_
      walk_at "go"
      refine ⟨rfl, ?_⟩
      walk_at "go"
      refine n_tup (by simp [sizeLine_eq]) fun tp H3 ntp s3 htp => ?_
      have hC3 := s3 _ _ hC
      refine n_lcK hC3 (by omega) (by omega) fun H4 k4 hC4 => ⟨same_keep (s1.trans s3) nC k4, ps ++ [tp], by simp, ?_⟩
      have et : lastK (fs.take (j + 1)) (fun _ => -1) = lastK (fs.take j) (fun _ => -1) ++ [(Sum.inr fj.1, V.int (-1))] := by rw [app_tail _ _ hfj]; simp [lastK]
      rw [et]
      have up : ∀ {l : List Addr} {m : List (Key × V)}, Paired (fun p kv => SqT K H2 p [kV kv.1, kv.2]) l m → Paired (fun p kv => SqT K H4 p [kV kv.1, kv.2]) l m := fun h => by
        induction h with
        | nil => exact .nil
        | cons h1 h2 ih => exact .cons (sqt_keep k4 hC3 (same_t s3 h1)) ih
      exact (up hp).snoc (sqt_keep k4 hC3 (SqT.of htp))
    · rintro C acc H1 nC hC ⟨s1, ps, rfl, hp⟩
      have et : fs.take xs.length = fs := List.take_of_length_le (by omega)
      rw [et] at hp
      walk_at "go"
      refine g_dictP (SqL.of hC) hp fun la H2 nla s2 hla => ?_
      have hm : mergeK [] (lastK fs fun _ => -1) = lastK fs fun z => lastH ds b z 0 := merge_new _ [] (lastK_nd (g := fun _ => -1) fok.nd)
      rw [hm] at hla
      have s12 := s1.trans s2
      have nla0 : H la = none := s1.free nla
      walk_at "go"
      refine g_len_l (same_l s12 hU) ?_
      rw [hyl]
      walk_at "go"
      refine n_forR1 (by omega) (by omega) (fun d σ H' => ∃ (u4 u5 u6 u7 u8 : Option V), σ = [some (.ref fl), some (.ref dl), some (.int b), some (.ref la), u4, u5, u6, u7, u8] ∧ Same H H' ∧ H' la = some (.dK (lastK fs fun z => lastH ds b z d)) ∧ ∀ e, e < d → rotAt fs ds b e = none)
        ⟨_, _, _, _, _, rfl, s12, hla, fun e he => absurd he (Nat.not_lt_zero e)⟩ ?_ ?_
      · rintro d σ H3 hd ⟨u4, u5, u6, u7, u8, rfl, s3, hla3, no⟩
        walk_at "go"
        have pb := plc_lt (n := ds.length) d hb0 hb1
        obtain ⟨y, hy⟩ : ∃ y, ys[(plc ds.length b d).toNat]? = some y := ⟨_, List.getElem?_eq_getElem (by omega)⟩
        obtain ⟨dd, hdd, hDy⟩ := hY.get hy
        obtain ⟨zs, hzs, rfl⟩ := getm hdd
        have hz : dayOf ds b d = zs := by simp [dayOf, List.getD, hzs]
        have zmem : zs ∈ ds := List.mem_of_getElem? hzs
        obtain ⟨t2, ws, rfl, hT2, hW⟩ := hDy.inv_t
        have ew : ws = zs.map V.str := strs_of hW
        subst ew
        refine g_cutE (fun v H' => v = .int (plc ds.length b d) ∧ H' = H3) ?_ ?_
        · walk_at "go"
          refine g_len_l (same_l s3 hU) ?_
          rw [hyl]
          walk_at "go"
          refine if_D (fun e => ?_) (fun e => ?_)
          · walk_at "go"
            exact ⟨by rw [plc, if_pos e], rfl⟩
          · walk_at "go"
            refine g_len_l (same_l s3 hU) ?_
            rw [hyl]
            walk_at "go"
            exact ⟨by rw [plc, if_neg e], rfl⟩
        · rintro _ H3' ⟨rfl, rfl⟩
          walk_at "go"
          refine g_ix_l (same_l s3 hU) (atI_i pb.1 hy) ?_
          walk_at "go"
          have rl := rot_late (b := b) (ds := ds) (fun f hf => (fok.lo f hf).1) no
          refine n_forL (same_l s3 hS) (fun i σ H' => ∃ (u4 u5 : Option V), σ = [some (.ref fl), some (.ref dl), some (.int b), some (.ref la), u4, u5, some (.int d), some (.int (plc ds.length b d)), some (.ref t2)] ∧ H' = H3' ∧ (fs.take i).any (lateB ds b d) = false)
            ⟨_, _, rfl, rfl, by simp⟩ (fun i σ H' ⟨_, _, _, e, _⟩ => e ▸ same_l s3 hS) ?_ ?_
          · rintro i x σ H' hx ⟨u4, u5, rfl, rfl, nor⟩
            obtain ⟨di, hdi, hDi⟩ := (s3.dpa hX).get hx
            obtain ⟨fi, hfi, rfl⟩ := getm hdi
            obtain ⟨t3, zz, rfl, hT3, hZ⟩ := hDi.inv_t
            obtain ⟨w1, w2, rfl, hw1, hw2⟩ := hZ.inv2
            obtain rfl := hw1.inv_s
            obtain rfl := hw2.inv_i
            have fm : fi.1 ∈ fs.map (·.1) := List.mem_map.mpr ⟨fi, List.mem_of_getElem? hfi, rfl⟩
            have et := app_tail _ _ hfi
            refine g_gtup hT3 rfl ?_
            walk_at "go"
            refine g_notIn_seq (.inr (same_t s3 hT2)) rfl (flat_strs _) ?_
            rw [inV_strs]
            walk_at "go"
            refine if_ND (fun e1 => ?_) (fun e1 => ?_)
            · walk_at "go"
              refine n_dgetS hla3 (lastK_val fm) ?_
              walk_at "go"
              refine if_D (fun e2 => ?_) (fun e2 => ?_)
              · walk_at "go"
                refine n_tup (by simp [sizeLine_eq]) fun T3 H4 nT3 s4 hT3 => ?_
                refine kr d fi.1 no ?_ H4 T3 (s3.trans s4) (SqT.of hT3)
                rw [rl, find_first hfi nor (by simp [lateB, hz, e1, e2])]
                rfl
              · walk_at "go"
                exact ⟨_, _, rfl, rfl, by rw [et]; simp only [List.any_append, nor, Bool.false_or, List.any_cons, List.any_nil, Bool.or_false]; simp [lateB]; intro _; omega⟩
            · refine if_F rfl ?_
              walk_at "go"
              exact ⟨_, _, rfl, rfl, by rw [et]; simp only [List.any_append, nor, Bool.false_or, List.any_cons, List.any_nil, Bool.or_false]; simp [lateB, hz, e1]⟩
          · rintro σ H' ⟨u4, u5, rfl, rfl, nor⟩
            rw [hxl, List.take_length] at nor
            have none_d : rotAt fs ds b d = none := by rw [rl, find_none nor]; rfl
            walk_at "go"
            have nz : zs.length ≤ 8 := dok.le zs zmem
            refine n_forT (same_t s3 hT2) (fun j σ H' => ∃ (u4 u5 : Option V), σ = [some (.ref fl), some (.ref dl), some (.int b), some (.ref la), u4, u5, some (.int d), some (.int (plc ds.length b d)), some (.ref t2)] ∧ Same H H' ∧ H' la = some (.dK (lastK fs fun z => if z ∈ zs.take j then (d : Int) else lastH ds b z d)))
              ⟨_, _, rfl, s3, by simpa using hla3⟩ (fun j σ H' ⟨_, _, _, s4, _⟩ => same_t s4 hT2) ?_ ?_
            · rintro j x σ H4 hx ⟨u4, u5, rfl, s4, hla4⟩
              obtain ⟨z, hz', rfl⟩ := getm hx
              have zin : z ∈ fs.map (·.1) := known zs zmem z (List.mem_of_getElem? hz')
              walk_at "go"
              refine n_dputS hla4 (by simp [lastK, sizeLine_eq]; omega) fun H5 k5 hla5 => ?_
              walk_at "go"
              refine ⟨_, _, rfl, same_keep s4 nla0 k5, ?_⟩
              rw [hla5, lastK_put zin]
              congr 2
              refine congrArg (lastK fs) (funext fun y => ?_)
              rw [app_tail _ _ hz']
              by_cases e : y = z
              · simp [e]
              · simp [e]
            · rintro σ H4 ⟨u4, u5, rfl, s4, hla4⟩
              have et : zs.take (zs.map V.str).length = zs := List.take_of_length_le (by simp)
              rw [et] at hla4
              walk_at "go"
              refine ⟨_, _, _, _, _, rfl, s4, ?_, fun e he => ?_⟩
              · have q : (fun z => if z ∈ zs then (d : Int) else lastH ds b z d) = fun z => lastH ds b z (d + 1) := by
                  funext z
                  simp only [lastH, hz]
                rw [hla4, q]
              · by_cases h : e = d
                · rw [h]; exact none_d
                · exact no e (by omega)
      · rintro σ H3 ⟨u4, u5, u6, u7, u8, rfl, s3, hla3, no⟩
        walk_at "go"
        exact kn (good_of fok dok (by omega) no) H3 s3

end
abbrev s_law_mended : Stmt := top 35
abbrev N_law_mended : List Str := ["_law_fields_here", "_law_days_here", "_law_back", "_law_one", "_law_other", "_law_changed"]
theorem sc_law_mended : FnScope N_law_mended ["_law_fields_here", "_law_days_here", "_law_back"] (defScope s_law_mended) := ⟨rfl, rfl, rfl, by decide +kernel, rfl, by decide +kernel, by decide +kernel⟩
section
variable {P : Program} {w : World} {K : PySem.W.Frag}
variable {mg : Str → Option Value} {base : Heap}
def sp_law_mended (K : PySem.W.Frag) : Sp := fun vs H Q _ => ∃ (v u : V) (fs : List (Str × Int)) (ds : List (List Str)) (b : Int), vs = [v, u, .int b] ∧ Dp K H v (.list (fs.map pField)) ∧ FOk fs ∧ Dp K H u (.list (ds.map pDay)) ∧ DOk ds b ∧ (∀ d ∈ ds, ∀ z ∈ d, z ∈ fs.map (·.1)) ∧
  (∀ i j, Fst (fun i j => good fs (swapD ds i j) b) ds.length i j → ∀ H' r xs, Same H H' → H' r = some (.lst xs) → DpAll K H' xs ((swapD ds i j).map pDay) → Q (.ref r) H') ∧ ((∀ i j, i < j → j < ds.length → ¬ good fs (swapD ds i j) b) → ∀ H', Same H H' → Q .non H')
theorem ok_law_mended (M : Md K mg) (G : Gd K mg "_law_mended" s_law_mended) (D_law_rots : DefR P w K mg base "_law_rots" 2 (sp_law_rots K)) : DefR P w K mg base "_law_mended" 4 (sp_law_mended K) := by
  refine def_mk G fun f fd F => fnr_mk (F.ok sc_law_mended ?_ (fun cdv A outer s H vs Q E hr h => ?_)) (F.bindsN (fun _ _ _ _ _ _ us hl => match us, hl with | [_, _, _], _ => rfl))
  · rintro vs H Q E ⟨v, u, fs, ds, b, rfl, _⟩; rfl
  · obtain ⟨v, u, fs, ds, b, rfl, hv, fok, hu, dok, known, ky, kn⟩ := h
    have nd := sc_law_mended.nd
    have hu' := hu
    obtain ⟨dl, ys, rfl, hU, hY⟩ := hu'.inv_l
    have hyl : ys.length = ds.length := by rw [hY.length]; simp
    have hfew := dok.few
    refine ⟨_, PSs.nox (pss_cons (ps_for PassesOwn.never rfl (pi_range1 rfl M.b.range (pa_cons (pe_len K M.b (pv 1)) pa_nil)) (pg_name (i := 3) nd rfl (by first | exact Or.inl rfl | exact Or.inr rfl)) (pss_one (ps_for PassesOwn.never rfl (pi_range2 rfl M.b.range (pa_cons (pe_op (op_addK K) (pv 3) pe_int) (pa_cons (pe_len K M.b (pv 1)) pa_nil))) (pg_name (i := 4) nd rfl (by first | exact Or.inl rfl | exact Or.inr rfl)) (pss_cons (ps_set (i := 5) nd rfl (by first | exact Or.inl rfl | exact Or.inr rfl) (pe_listOf K M.b (pv 1)))
    (pss_cons (ps_asg (pe_tup (pa_cons (pe_ix (ix_K K) (pv 1) (pv 4) (fun _ _ => rfl)) (pa_cons (pe_ix (ix_K K) (pv 1) (pv 3) (fun _ _ => rfl)) pa_nil))) (pg_tupK K rfl (pgs_cons (pg_sub (pv 5) (pv 3) set_list) (pgs_cons (pg_sub (pv 5) (pv 4) set_list) pgs_nil))))
    (pss_one (ps_if (pt_cmpR op_isN1 (pe_callR D_law_rots (hr.mono (by first | decide | omega)) passN (pa_cons (pv 0) (pa_cons (pv 5) (pa_cons (pv 2) pa_nil)))) pe_non (nomark _)) (pss_one (ps_ret (pv 5))) pss_nil))))))) (pss_one (ps_ret pe_non))), ?_⟩
    show (_ : TS) _ [some v, some (.ref dl), some (.int b), none, none, none] H
    walk_at "go"
    refine g_len_l hU ?_
    rw [hyl]
    walk_at "go"
    let NoT (i j : Nat) : Prop := ∀ i' j', i' < j' → j' < ds.length → (i' < i ∨ (i' = i ∧ j' < j)) → ¬ good fs (swapD ds i' j') b
    refine n_forR1 (by omega) (by omega) (fun i σ H' => ∃ u3 u4 u5 : Option V, σ = [some v, some (.ref dl), some (.int b), u3, u4, u5] ∧ Same H H' ∧ NoT i 0) ⟨_, _, _, rfl, Same.refl _, fun i' j' _ _ h => absurd h (by omega)⟩ ?_ ?_
    · rintro i σ H2 hi ⟨u3, u4, u5, rfl, s2, no⟩
      walk_at "go"
      refine g_len_l (same_l s2 hU) ?_
      rw [hyl]
      walk_at "go"
      refine n_forR2 (by omega) (by omega) (by omega) (by omega) (fun k σ H' => ∃ u4 u5 : Option V, σ = [some v, some (.ref dl), some (.int b), some (.int i), u4, u5] ∧ Same H H' ∧ NoT i (i + 1 + k)) ⟨_, _, rfl, s2, fun i' j' lt le h => no i' j' lt le (by omega)⟩ ?_ ?_
      · rintro k σ H3 hk ⟨u4, u5, rfl, s3, no3⟩
        have ej : ((i : Int) + 1 + k) = ((i + 1 + k : Nat) : Int) := by omega
        rw [ej]
        have hj : i + 1 + k < ds.length := by omega
        generalize hjj : i + 1 + k = j at *
        obtain ⟨yi, hyi⟩ : ∃ y, ys[i]? = some y := ⟨_, List.getElem?_eq_getElem (by omega)⟩
        obtain ⟨yj, hyj⟩ : ∃ y, ys[j]? = some y := ⟨_, List.getElem?_eq_getElem (by omega)⟩
        walk_at "go"
        refine g_listOf (.inl (same_l s3 hU)) fun l H4 nl s4 hl => ?_
        have s34 := s3.trans s4
        walk_at "go"
        refine g_ix_l (same_l s34 hU) (atI_nat hyj) ?_
        walk_at "go"
        refine g_ix_l (same_l s34 hU) (atI_nat hyi) ?_
        walk_at "go"
        refine n_tup (by simp [sizeLine_eq]) fun T H5 nT s5 hT => ?_
        have hl5 := s5 _ _ hl
        refine g_gtup (SqT.of hT) rfl ?_
        walk_at "go"
        refine g_setL (j := i) hl5 (ixN_i (by omega) (by omega)) fun H6 k6 hl6 => ?_
        walk_at "go"
        refine g_setL (j := j) hl6 (ixN_i (by omega) (by simp; omega)) fun H7 k7 hl7 => ?_
        have s7 : Same H3 H7 := same_keep (same_keep (s4.trans s5) nl k6) nl k7
        have sA : Same H H7 := s3.trans s7
        have hD7 : DpAll K H7 ((ys.set i yj).set j yi) ((swapD ds i j).map pDay) := sA.dpa (dpa_swap hY hyi hyj)
        have dok' : DOk (swapD ds i j) b := dok.of swap_len fun d hd => swap_mem (by omega) hj hd
        walk_at "go"
        refine ⟨v, .ref l, fs, swapD ds i j, b, rfl, sA.dp hv, fok, dp_lst hl7 hD7, dok', fun d hd => known d (swap_mem (by omega) hj hd), fun D z _ hz H9 r s9 hr => ?_, fun hg H9 s9 => ?_⟩
        · walk_at "go"
          refine if_F rfl ?_
          walk_at "go"
          refine ⟨_, _, rfl, sA.trans s9, fun i' j' lt le h => ?_⟩
          by_cases e : i' = i ∧ j' = j
          · obtain ⟨rfl, rfl⟩ := e
            intro hg
            have := hg D
            rw [hz] at this
            exact nomatch this
          · exact no3 i' j' lt le (by omega)
        · walk_at "go"
          refine if_T rfl ?_
          walk_at "go"
          exact ky i j ⟨by omega, hj, hg, no3⟩ H9 l _ (sA.trans s9) (s9 _ _ hl7) (s9.dpa hD7)
      · rintro σ H3 ⟨u4, u5, rfl, s3, no3⟩
        walk_at "go"
        exact ⟨_, _, _, rfl, s3, fun i' j' lt le h => no3 i' j' lt le (by omega)⟩
    · rintro σ H2 ⟨u3, u4, u5, rfl, s2, no⟩
      walk_at "go"
      exact kn (fun i j lt le => no i j lt le (by omega)) H2 s2

end
abbrev s_law_needless : Stmt := top 36
abbrev N_law_needless : List Str := ["_law_fields_here", "_law_days_here", "_law_back", "_law_found", "_law_k", "_law_name", "_law_less", "_law_other"]
theorem sc_law_needless : FnScope N_law_needless ["_law_fields_here", "_law_days_here", "_law_back"] (defScope s_law_needless) := ⟨rfl, rfl, rfl, by decide +kernel, rfl, by decide +kernel, by decide +kernel⟩
section
variable {P : Program} {w : World} {K : PySem.W.Frag}
variable {mg : Str → Option Value} {base : Heap}
theorem less_app {ds : List (List Str)} {k : Nat} {z : Str} (hk : k < ds.length) : ds.take k ++ [(ds.getD k []).filter fun y => !decide (y = z)] ++ ds.drop (k + 1) = lessD ds k z := by
  rw [lessD, List.set_eq_take_append_cons_drop, if_pos hk]
  simp
def sp_law_needless (K : PySem.W.Frag) : Sp := fun vs H Q _ => ∃ (v u : V) (fs : List (Str × Int)) (ds : List (List Str)) (b : Int), vs = [v, u, .int b] ∧ Dp K H v (.list (fs.map pField)) ∧ FOk fs ∧ Dp K H u (.list (ds.map pDay)) ∧ DOk ds b ∧ (∀ d ∈ ds, ∀ z ∈ d, z ∈ fs.map (·.1)) ∧
  ∀ H' r vs, Same H H' → H r = none → H' r = some (.lst vs) → DpAll K H' vs ((needTo fs ds b ds.length).map pHv) → Q (.ref r) H'
theorem ok_law_needless (M : Md K mg) (G : Gd K mg "_law_needless" s_law_needless) (D_law_rots : DefR P w K mg base "_law_rots" 2 (sp_law_rots K)) : DefR P w K mg base "_law_needless" 4 (sp_law_needless K) := by
  refine def_mk G fun f fd F => fnr_mk (F.ok sc_law_needless ?_ (fun cdv A outer s H vs Q E hr h => ?_)) (F.bindsN (fun _ _ _ _ _ _ us hl => match us, hl with | [_, _, _], _ => rfl))
  · rintro vs H Q E ⟨v, u, fs, ds, b, rfl, _⟩; rfl
  · obtain ⟨v, u, fs, ds, b, rfl, hv, fok, hu, dok, known, ky⟩ := h
    have nd := sc_law_needless.nd
    obtain ⟨dl, ys, rfl, hU, hY⟩ := hu.inv_l
    have hyl : ys.length = ds.length := by rw [hY.length]; simp
    have hfew := dok.few
    refine ⟨_, PSs.nox (pss_cons (ps_set (i := 3) nd rfl (by first | exact Or.inl rfl | exact Or.inr rfl) (pe_lst pa_nil))
    (pss_cons (ps_for PassesOwn.never rfl (pi_range1 rfl M.b.range (pa_cons (pe_len K M.b (pv 1)) pa_nil)) (pg_name (i := 4) nd rfl (by first | exact Or.inl rfl | exact Or.inr rfl)) (pss_one (ps_for PassesOwn.never rfl (pi_tupK K (pe_ix (ix_K K) (pv 1) (pv 4) (fun _ _ => rfl))) (pg_name (i := 5) nd rfl (by first | exact Or.inl rfl | exact Or.inr rfl)) (pss_cons (ps_set (i := 6) nd rfl (by first | exact Or.inl rfl | exact Or.inr rfl) (pe_tupOf K M.b (pe_lc (own := [("_law_other", 7)]) (g := (gName 7)) rfl nd (pi_tupK K (pe_ix (ix_K K) (pv 1) (pv 4) (fun _ _ => rfl))) (blkOk_by (N := N_law_needless) (sc := defScope s_law_needless) (by decide +kernel)) (fun _ _ _ _ _ => (pg_name (i := 7) nd rfl (by first | exact Or.inl rfl | exact Or.inr rfl))) (fun _ _ _ _ _ => (pts_one (pt_cmpR (op_neK K hr) (pv 7) (pv 5) (nomark _)))) (fun _ _ _ _ _ => (pv 7)))))
    (pss_one (ps_if (pt_cmpR op_isN1 (pe_callR D_law_rots (hr.mono (by first | decide | omega)) passN (pa_cons (pv 0) (pa_cons (pe_op (op_addK K) (pe_op (op_addK K) (pe_slice (sl_listK K) (pv 1) po_none (po_some (pv 4))) (pe_lst (pa_cons (pv 6) pa_nil))) (pe_slice (sl_listK K) (pv 1) (po_some (pe_op (op_addK K) (pv 4) pe_int)) po_none)) (pa_cons (pv 2) pa_nil)))) pe_non (nomark _)) (pss_one (ps_expr (as_bm K (pe_bm PySem.F.plainAttrs_list PySem.F.slot_list_append PySem.F.type_list_append mt_append (pv 3) (pa_cons (pe_tup (pa_cons (pv 4) (pa_cons (pv 5) pa_nil))) pa_nil))))) pss_nil)))))) (pss_one (ps_ret (pv 3))))), ?_⟩
    show (_ : TS) _ [some v, some (.ref dl), some (.int b), none, none, none, none, none] H
    walk_at "go"
    refine n_lst (by simp) fun l H2 nl s12 hl => ?_
    walk_at "go"
    refine g_len_l (same_l s12 hU) ?_
    rw [hyl]
    walk_at "go"
    refine n_forR1 (by omega) (by omega) (fun i σ H' => ∃ (u4 u5 u6 u7 : Option V) (vs : List V), σ = [some v, some (.ref dl), some (.int b), some (.ref l), u4, u5, u6, u7] ∧ Same H H' ∧ H' l = some (.lst vs) ∧ DpAll K H' vs ((needTo fs ds b i).map pHv)) ⟨_, _, _, _, _, rfl, s12, hl, .nil⟩ ?_ ?_
    · rintro i σ H3 hi' ⟨u4, u5, u6, u7, vs, rfl, s3, hl3, hv3⟩
      have hi : i < ds.length := by omega
      obtain ⟨y, hy⟩ : ∃ y, ys[i]? = some y := ⟨_, List.getElem?_eq_getElem (by omega)⟩
      obtain ⟨dd, hdd, hDy⟩ := hY.get hy
      obtain ⟨zs, hzs, rfl⟩ := getm hdd
      have gz : ds.getD i [] = zs := getD_of hzs
      obtain ⟨t2, ws, rfl, hT2, hW⟩ := hDy.inv_t
      have ew : ws = zs.map V.str := strs_of hW
      subst ew
      have z8 : zs.length ≤ 8 := dok.le zs (List.mem_of_getElem? hzs)
      have n8 := needTo_le (fs := fs) (b := b) dok.le i
      walk_at "go"
      refine g_ix_l (same_l s3 hU) (atI_nat hy) ?_
      walk_at "go"
      refine n_forT (same_t s3 hT2) (fun j σ H' => ∃ (u5 u6 u7 : Option V) (vs : List V), σ = [some v, some (.ref dl), some (.int b), some (.ref l), some (.int i), u5, u6, u7] ∧ Same H H' ∧ H' l = some (.lst vs) ∧ DpAll K H' vs ((needTo fs ds b i ++ needAt fs ds b i (zs.take j)).map pHv)) ⟨_, _, _, vs, rfl, s3, hl3, by simpa [needAt] using hv3⟩ (fun i σ H' ⟨_, _, _, _, _, s5, _⟩ => same_t s5 hT2) ?_ ?_
      · rintro j x σ H5 hx ⟨u5, u6, u7, vs, rfl, s5, hl5, hv5⟩
        obtain ⟨z, hz, rfl⟩ := getm hx
        have hj : j < zs.length := (List.getElem?_eq_some_iff.mp hz).1
        have a8 : (needAt fs ds b i (zs.take j)).length ≤ 8 := Nat.le_trans needAt_le (by rw [List.length_take]; omega)
        walk_at "go"
        refine g_ix_l (same_l s5 hU) (atI_nat hy) ?_
        have sT : ∀ H', Same H5 H' → SqT K H' t2 (zs.map V.str) := fun H' e => same_t (s5.trans e) hT2
        refine n_lcT (sT _ (Same.refl _)) (lc_filt (zs) (by rw [← List.length_map (f := V.str)]; exact walk_tup (xs := zs.map V.str)) (fun y => !decide (y = z)) V.str (fun H' e => sT H' e) ?_ ?_)
        · rintro C i2 y v2 H7 H8 nC hy2 hi2 s7 hC ⟨e, hyv⟩
          subst e
          have hv2 : v2 = V.str y := by
            rw [List.getElem?_map, hy2] at hyv
            exact (Option.some.inj hyv).symm
          subst hv2
          walk_at "go"
          refine ⟨rfl, ?_⟩
          walk_at "go"
          by_cases e : y = z
          · rw [decide_eq_true e]
            walk_at "go"
            exact n_filtF hy2 (by simp [e]) s7 hC
          · rw [decide_eq_false e]
            refine g_lcIfT ?_
            walk_at "go"
            exact n_filtT hy2 (by simp [e]) rfl nC s7 hC
        · intro C H7 nC s7 hC
          walk_at "go"
          refine g_tupOf_l (SqL.of hC) fun m2 H8 nm2 s8 hm2 => ?_
          have s58 := s7.trans s8
          have sA : Same H H8 := s5.trans s58
          walk_at "go"
          refine g_slL (same_l sA hU) fun a1 H9 na1 s9 ha1 => ?_
          rw [cutV_to] at ha1
          walk_at "go"
          refine n_lst (by simp [sizeLine_eq]) fun a2 H10 na2 s10 ha2 => ?_
          walk_at "go"
          refine g_add_l (s10 _ _ ha1) ha2 (by simp [sizeLine_eq]; omega) fun a3 H11 na3 s11 ha3 => ?_
          have s811 := s9.trans (s10.trans s11)
          walk_at "go"
          refine g_slL (same_l (sA.trans s811) hU) fun a4 H12 na4 s12' ha4 => ?_
          have ek : ((i : Int) + 1) = ((i + 1 : Nat) : Int) := by omega
          rw [ek, cutV_from] at ha4
          walk_at "go"
          refine g_add_l (s12' _ _ ha3) ha4 (by simp [sizeLine_eq]; omega) fun a5 H13 na5 s13 ha5 => ?_
          walk_at "go"
          have s813 := s811.trans (s12'.trans s13)
          have sB : Same H H13 := sA.trans s813
          have s513 : Same H5 H13 := s58.trans s813
          have dok' := dok.less (z := z) hi
          have hX : DpAll K H13 (ys.take i ++ [.ref m2] ++ ys.drop (i + 1)) ((lessD ds i z).map pDay) := by
            rw [← less_app hi, gz, List.map_append, List.map_append, List.map_take, List.map_drop]
            have hYB := sB.dpa hY
            exact dpa_app (dpa_app (dpa_take i hYB) (.cons (.tup (same_t s813 (SqT.of hm2)) (dpa_strs _)) .nil)) (dpa_drop (i + 1) hYB)
          refine ⟨v, .ref a5, fs, lessD ds i z, b, rfl, sB.dp hv, fok, dp_lst ha5 hX, dok', less_known hi known, fun D y _ hy H11 r2 s11 hr2 => ?_, fun hg H11 s11 => ?_⟩
          · walk_at "go"
            refine if_F rfl ?_
            walk_at "go"
            have s511 := s513.trans s11
            refine ⟨_, _, _, vs, rfl, s5.trans s511, s511 _ _ hl5, ?_⟩
            rw [needAt_F hz (fun hg => by have := hg D; rw [hy] at this; exact nomatch this)]
            exact s511.dpa hv5
          · walk_at "go"
            refine if_T rfl ?_
            walk_at "go"
            refine n_tup (by simp [sizeLine_eq]) fun T3 H12 nT3 s12' hT3 => ?_
            have s512 := s513.trans (s11.trans s12')
            walk_at "go"
            have vl := hv5.length
            simp only [List.length_map, List.length_append] at vl
            refine g_append (s512 _ _ hl5) (by rw [sizeLine_eq]; omega) fun H13 k13 hl13 => ?_
            walk_at "go"
            refine ⟨_, _, _, _, rfl, same_keep (s5.trans s512) nl k13, hl13, ?_⟩
            rw [needAt_T hz hg, ← List.append_assoc, List.map_append]
            exact dpa_keep k13 (s512 _ _ hl5) (by rw [← List.map_append]; exact noL_hv _) (dpa_app (s512.dpa hv5) (.cons (dp_tup hT3 (.cons (.int _) (.cons (.str _) .nil))) .nil))
      · rintro σ H5 ⟨u5, u6, u7, vs, rfl, s5, hl5, hv5⟩
        have et : zs.take (zs.map V.str).length = zs := List.take_of_length_le (by simp)
        rw [et] at hv5
        walk_at "go"
        refine ⟨_, _, _, _, vs, rfl, s5, hl5, ?_⟩
        rw [needTo_succ, gz]
        exact hv5
    · rintro σ H3 ⟨u4, u5, u6, u7, vs, rfl, s3, hl3, hv3⟩
      walk_at "go"
      exact ky H3 l vs s3 nl hl3 hv3

end
abbrev s_law_good : Stmt := top 37
abbrev N_law_good : List Str := ["_law_state", "_law_days_here", "_law_one", "_law_other"]
theorem sc_law_good : FnScope N_law_good ["_law_state"] (defScope s_law_good) := ⟨rfl, rfl, rfl, by decide +kernel, rfl, by decide +kernel, by decide +kernel⟩
section
variable {P : Program} {w : World} {K : PySem.W.Frag}
variable {mg : Str → Option Value} {base : Heap}
def goodDs : List (List Str) := [["a"], ["b"], ["a"], ["c"], ["a"], ["b"]]
theorem good_days {i j n : Nat} (hn : n ≤ 6) (hi : i < (goodDs.take n).length) (hj : j < (goodDs.take n).length) : DaysOf ["a", "b", "c"] (swapD (goodDs.take n) i j) := by
  have h : ∀ d ∈ goodDs, d.Nodup ∧ d.length ≤ 2 ∧ ∀ z ∈ d, z ∈ (["a", "b", "c"] : List Str) := by decide +kernel
  have hm : ∀ d ∈ swapD (goodDs.take n) i j, d ∈ goodDs := fun d hd => List.mem_of_mem_take (swap_mem hi hj hd)
  exact ⟨fun d hd => (h d (hm d hd)).1, fun d hd => (h d (hm d hd)).2.1, fun d hd => (h d (hm d hd)).2.2⟩
theorem good_fs {x y z : Int} (h1 : 2 ≤ x ∧ x ≤ 3) (h2 : 3 ≤ y ∧ y ≤ 5) (h3 : 4 ≤ z ∧ z ≤ 7) : FOk [("a", x), ("b", y), ("c", z)] := by
  refine ⟨by simp, by simp, (by decide +kernel : (["a", "b", "c"] : List Str).Nodup), ?_, ?_, ?_⟩
  · intro f hf
    have hs : f.1 ∈ (["a", "b", "c"] : List Str) := List.mem_map.mpr ⟨f, hf, rfl⟩
    exact (by decide +kernel : ∀ z ∈ (["a", "b", "c"] : List Str), NmOk z) _ hs
  · intro f hf
    have : f = (("a" : Str), x) ∨ f = (("b" : Str), y) ∨ f = (("c" : Str), z) := by simpa using hf
    rcases this with rfl | rfl | rfl
    · exact ⟨by show 1 ≤ x; omega, by show x ≤ 30; omega⟩
    · exact ⟨by show 1 ≤ y; omega, by show y ≤ 30; omega⟩
    · exact ⟨by show 1 ≤ z; omega, by show z ≤ 30; omega⟩
  · have e : prodL (([("a", x), ("b", y), ("c", z)] : List (Str × Int)).map (·.2)) = x * y * z := by simp [prodL]
    rw [e]
    have hx : x = 2 ∨ x = 3 := by omega
    have hy : y = 3 ∨ y = 4 ∨ y = 5 := by omega
    rcases hx with rfl | rfl <;> rcases hy with rfl | rfl | rfl <;> omega
def sp_law_good (K : PySem.W.Frag) : Sp := fun vs H Q _ => ∃ (d a : Addr) (ns : List Int), vs = [.ref d] ∧ Dr K a ns H d ∧
  ∀ H' r fl dl fx xs fs ds, Keep d H H' → Dr K a ns H' d → SqT K H' r [.ref fl, .ref dl] → Frd K a ns d fl → Frd K a ns d dl → H' fl = some (.lst fx) → DpAll K H' fx (fs.map pField) → FOk fs → H' dl = some (.lst xs) → DpAll K H' xs (ds.map pDay) → 1 ≤ ds.length → ds.length ≤ 6 → DaysOf (fs.map (·.1)) ds → Q (.ref r) H'
theorem ok_law_good (M : Md K mg) (G : Gd K mg "_law_good" s_law_good) (D_law_drawn : DefR P w K mg base "_law_drawn" 2 (sp_law_drawn K)) : DefR P w K mg base "_law_good" 4 (sp_law_good K) := by
  refine def_mk G fun f fd F => fnr_mk (F.ok sc_law_good ?_ (fun cdv A outer s H vs Q E hr h => ?_)) (F.bindsN (fun _ _ _ _ _ _ us hl => match us, hl with | [_], _ => rfl))
  · rintro vs H Q E ⟨d, a, ns, rfl, _⟩; rfl
  · obtain ⟨d, a, ns, rfl, hd, k⟩ := h
    have nd := sc_law_good.nd
    refine ⟨_, PSs.nox (pss_cons (ps_set (i := 1) nd rfl (by first | exact Or.inl rfl | exact Or.inr rfl) (pe_slice (sl_listK K) (pe_lst (pa_cons (pe_tup (pa_cons pe_str pa_nil)) (pa_cons (pe_tup (pa_cons pe_str pa_nil)) (pa_cons (pe_tup (pa_cons pe_str pa_nil)) (pa_cons (pe_tup (pa_cons pe_str pa_nil)) (pa_cons (pe_tup (pa_cons pe_str pa_nil)) (pa_cons (pe_tup (pa_cons pe_str pa_nil)) pa_nil))))))) po_none (po_some (pe_op (op_addK K) pe_int (pe_callR D_law_drawn (hr.mono (by first | decide | omega)) passN (pa_cons (pv 0) (pa_cons pe_int pa_nil)))))))
    (pss_cons (ps_par (i := 2) (j := 3) rfl nd rfl rfl (by decide) rfl rfl (pa_cons (pe_callR D_law_drawn (hr.mono (by first | decide | omega)) passN (pa_cons (pv 0) (pa_cons (pe_len K M.b (pv 1)) pa_nil))) (pa_cons (pe_callR D_law_drawn (hr.mono (by first | decide | omega)) passN (pa_cons (pv 0) (pa_cons (pe_len K M.b (pv 1)) pa_nil))) pa_nil)) (by rfl))
    (pss_cons (ps_asg (pe_tup (pa_cons (pe_ix (ix_K K) (pv 1) (pv 3) (fun _ _ => rfl)) (pa_cons (pe_ix (ix_K K) (pv 1) (pv 2) (fun _ _ => rfl)) pa_nil))) (pg_tupK K rfl (pgs_cons (pg_sub (pv 1) (pv 2) set_list) (pgs_cons (pg_sub (pv 1) (pv 3) set_list) pgs_nil))))
    (pss_one (ps_ret (pe_tup (pa_cons (pe_lst (pa_cons (pe_tup (pa_cons pe_str (pa_cons (pe_op (op_addK K) pe_int (pe_callR D_law_drawn (hr.mono (by first | decide | omega)) passN (pa_cons (pv 0) (pa_cons pe_int pa_nil)))) pa_nil))) (pa_cons (pe_tup (pa_cons pe_str (pa_cons (pe_op (op_addK K) pe_int (pe_callR D_law_drawn (hr.mono (by first | decide | omega)) passN (pa_cons (pv 0) (pa_cons pe_int pa_nil)))) pa_nil))) (pa_cons (pe_tup (pa_cons pe_str (pa_cons (pe_op (op_addK K) pe_int (pe_callR D_law_drawn (hr.mono (by first | decide | omega)) passN (pa_cons (pv 0) (pa_cons pe_int pa_nil)))) pa_nil))) pa_nil)))) (pa_cons (pv 1) pa_nil)))))))), ?_⟩
    show (_ : TS) _ [some (.ref d), none, none, none] H
    walk_at "go"
    refine n_tup (by simp [sizeLine_eq]) fun t1 H1 nt1 s1 ht1 => ?_
    walk_at "go"
    refine n_tup (by simp [sizeLine_eq]) fun t2 H2 nt2 s2 ht2 => ?_
    walk_at "go"
    refine n_tup (by simp [sizeLine_eq]) fun t3 H3 nt3 s3 ht3 => ?_
    walk_at "go"
    refine n_tup (by simp [sizeLine_eq]) fun t4 H4 nt4 s4 ht4 => ?_
    walk_at "go"
    refine n_tup (by simp [sizeLine_eq]) fun t5 H5 nt5 s5 ht5 => ?_
    walk_at "go"
    refine n_tup (by simp [sizeLine_eq]) fun t6 H6 nt6 s6 ht6 => ?_
    walk_at "go"
    refine n_lst (by simp [sizeLine_eq]) fun l0 H7 nl0 s7 hl0 => ?_
    have s67 := s6.trans s7
    have s57 := s5.trans s67
    have s47 := s4.trans s57
    have s37 := s3.trans s47
    have s27 := s2.trans s37
    have sA := s1.trans s27
    have hX7 : DpAll K H7 [V.ref t1, .ref t2, .ref t3, .ref t4, .ref t5, .ref t6] (goodDs.map pDay) :=
      .cons (dp_tup (s27 _ _ ht1) (.cons (.str _) .nil)) (.cons (dp_tup (s37 _ _ ht2) (.cons (.str _) .nil)) (.cons (dp_tup (s47 _ _ ht3) (.cons (.str _) .nil)) (.cons (dp_tup (s57 _ _ ht4) (.cons (.str _) .nil)) (.cons (dp_tup (s67 _ _ ht5) (.cons (.str _) .nil)) (.cons (dp_tup (s7 _ _ ht6) (.cons (.str _) .nil)) .nil)))))
    generalize [V.ref t1, .ref t2, .ref t3, .ref t4, .ref t5, .ref t6] = xs at hl0 hX7
    have d7 := hd.same sA
    have nl0d : d ≠ l0 := (hd.same (s1.trans (s2.trans (s3.trans (s4.trans (s5.trans s6)))))).ne nl0
    walk_at "go"
    refine ⟨d, a, ns, 3, rfl, d7, by decide, by decide, fun H8 r r0 r1 k8 d8 => ?_⟩
    have hX8 : DpAll K H8 xs (goodDs.map pDay) := dp_keepAll k8 d7.notT _ _ (noL_days _) hX7
    walk_at "go"
    refine g_slL (SqL.of (k8 _ _ nl0d.symm hl0)) fun l H9 nl s9 hl => ?_
    have e4 : (4 : Int) + r = ((4 + r.toNat : Nat) : Int) := by omega
    rw [e4, cutV_to] at hl
    have Fl : Frd K a ns d l := d8.frd nl
    have nlH : H l = none := by
      cases e : H l with
      | none => rfl
      | some o => exact absurd (k8 _ _ Fl.ne.symm (sA _ _ e)) (by rw [nl]; exact fun q => nomatch q)
    have hX9 : DpAll K H9 (xs.take (4 + r.toNat)) ((goodDs.take (4 + r.toNat)).map pDay) := by
      rw [List.map_take]
      exact dpa_take _ (s9.dpa hX8)
    have hgl : (goodDs.take (4 + r.toNat)).length = 4 + r.toNat := by rw [List.length_take]; simp [goodDs]; omega
    have hxl : (xs.take (4 + r.toNat)).length = 4 + r.toNat := by rw [hX9.length, List.length_map, hgl]
    generalize hdz : goodDs.take (4 + r.toNat) = ds at hX9 hgl
    generalize xs.take (4 + r.toNat) = ys at hl hX9 hxl
    walk_at "go"
    refine ⟨d, a, ns, _, rfl, d8.same s9, by omega, by omega, fun H10 i i0 i1 k10 d10 => ?_⟩
    have hl10 := k10 _ _ Fl.ne.symm hl
    have hX10 : DpAll K H10 ys (ds.map pDay) := dp_keepAll k10 (d8.same s9).notT _ _ (noL_days _) hX9
    walk_at "go"
    refine ⟨d, a, ns, _, rfl, d10, by omega, by omega, fun H11 j j0 j1 k11 d11 => ?_⟩
    have hl11 := k11 _ _ Fl.ne.symm hl10
    have hX11 : DpAll K H11 ys (ds.map pDay) := dp_keepAll k11 d10.notT _ _ (noL_days _) hX10
    obtain ⟨yi, hyi⟩ : ∃ y, ys[i.toNat]? = some y := ⟨_, List.getElem?_eq_getElem (by omega)⟩
    obtain ⟨yj, hyj⟩ : ∃ y, ys[j.toNat]? = some y := ⟨_, List.getElem?_eq_getElem (by omega)⟩
    walk_at "go"
    refine g_ix_l (SqL.of hl11) (atI_i j0 hyj) ?_
    walk_at "go"
    refine g_ix_l (SqL.of hl11) (atI_i i0 hyi) ?_
    walk_at "go"
    refine n_tup (by simp [sizeLine_eq]) fun T H12 nT s12 hT => ?_
    have hl12 := s12 _ _ hl11
    refine g_gtup (SqT.of hT) rfl ?_
    walk_at "go"
    refine g_setL (j := i.toNat) hl12 (ixN_i i0 (by omega)) fun H13 k13 hl13 => ?_
    walk_at "go"
    refine g_setL (j := j.toNat) hl13 (ixN_i j0 (by rw [List.length_set]; omega)) fun H14 k14 hl14 => ?_
    have hX14 : DpAll K H14 ((ys.set i.toNat yj).set j.toNat yi) ((swapD ds i.toNat j.toNat).map pDay) :=
      dpa_keep k14 hl13 (noL_days _) (dpa_keep k13 hl12 (noL_days _) (s12.dpa (dpa_swap hX11 hyi hyj)))
    have d14 : Dr K a ns H14 d := ((d11.same s12).keepF k13 Fl).keepF k14 Fl
    have kA : Keep d H H14 := fun b o nb hb => by
      have nbl : b ≠ l := ne_of_none hb nlH
      exact k14 _ _ nbl (k13 _ _ nbl (s12 _ _ (k11 _ _ nb (k10 _ _ nb (s9 _ _ (k8 _ _ nb (sA _ _ hb)))))))
    generalize (ys.set i.toNat yj).set j.toNat yi = zs at hl14 hX14
    have ok : DaysOf ["a", "b", "c"] (swapD ds i.toNat j.toNat) := by
      rw [← hdz]
      exact good_days (by omega) (by rw [hdz]; omega) (by rw [hdz]; omega)
    have gl1 : 1 ≤ (swapD ds i.toNat j.toNat).length := by rw [swap_len]; omega
    have gl6 : (swapD ds i.toNat j.toNat).length ≤ 6 := by rw [swap_len]; omega
    generalize swapD ds i.toNat j.toNat = es at hX14 ok gl1 gl6
    walk_at "go"
    refine ⟨d, a, ns, 2, rfl, d14, by decide, by decide, fun H15 q q0 q1 k15 d15 => ?_⟩
    walk_at "go"
    refine n_tup (by simp [sizeLine_eq]) fun f1 H16 nf1 s16 hf1 => ?_
    walk_at "go"
    refine ⟨d, a, ns, 3, rfl, d15.same s16, by decide, by decide, fun H17 q2 q20 q21 k17 d17 => ?_⟩
    walk_at "go"
    refine n_tup (by simp [sizeLine_eq]) fun f2 H18 nf2 s18 hf2 => ?_
    walk_at "go"
    refine ⟨d, a, ns, 4, rfl, d17.same s18, by decide, by decide, fun H19 q3 q30 q31 k19 d19 => ?_⟩
    walk_at "go"
    refine n_tup (by simp [sizeLine_eq]) fun f3 H20 nf3 s20 hf3 => ?_
    walk_at "go"
    refine n_lst (by simp [sizeLine_eq]) fun fl H21 nfl s21 hfl => ?_
    walk_at "go"
    refine n_tup (by simp [sizeLine_eq]) fun R H22 nR s22 hR => ?_
    have hA : DpAll K H16 [V.ref f1] [pField ("a", 2 + q)] := .cons (dp_tup hf1 (.cons (.str _) (.cons (.int _) .nil))) .nil
    have hA17 := dp_keepAll k17 (d15.same s16).notT _ _ (noL_fields [("a", 2 + q)]) hA
    have hB : DpAll K H18 [V.ref f1, .ref f2] [pField ("a", 2 + q), pField ("b", 3 + q2)] := (s18.dpa hA17).append (.cons (dp_tup hf2 (.cons (.str _) (.cons (.int _) .nil))) .nil)
    have hB19 := dp_keepAll k19 (d17.same s18).notT _ _ (noL_fields [("a", 2 + q), ("b", 3 + q2)]) hB
    have hC : DpAll K H20 [V.ref f1, .ref f2, .ref f3] [pField ("a", 2 + q), pField ("b", 3 + q2), pField ("c", 4 + q3)] := (s20.dpa hB19).append (.cons (dp_tup hf3 (.cons (.str _) (.cons (.int _) .nil))) .nil)
    have s2022 := s21.trans s22
    have kB : Keep d H14 H22 := fun b o nb hb => s2022 _ _ (s20 _ _ (k19 _ _ nb (s18 _ _ (k17 _ _ nb (s16 _ _ (k15 _ _ nb hb))))))
    have d20 := d19.same s20
    refine k H22 R fl l _ zs [("a", 2 + q), ("b", 3 + q2), ("c", 4 + q3)] es (kA.trans kB) (d20.same s2022) (SqT.of hR) (d20.frd nfl) Fl (s22 _ _ hfl) (s2022.dpa hC) (good_fs ⟨by omega, by omega⟩ ⟨by omega, by omega⟩ ⟨by omega, by omega⟩) (kB _ _ Fl.ne.symm hl14) (dp_keepAll kB d14.notT _ _ (noL_days _) hX14) gl1 gl6 ok

end
abbrev s_law : Stmt := top 38
abbrev N_law : List Str := ["_law_script", "_law_state", "_law_turn", "_law_fields_here", "_law_days_here", "_law_name", "_law_limit", "_law_back", "_law_farm_here", "_law_plan_here", "_law_expected", "_law_found"]
theorem sc_law : FnScope N_law ["_law_script"] (defScope s_law) := ⟨rfl, rfl, rfl, by decide +kernel, rfl, by decide +kernel, by decide +kernel⟩
section
variable {P : Program} {w : World} {K : PySem.W.Frag}
variable {mg : Str → Option Value} {base : Heap}
def sp_law (K : PySem.W.Frag) : Sp := fun vs H Q _ => ∃ (a : Addr) (ns : List Int), vs = [.ref a] ∧ SqL K H a (ns.map V.int) ∧ ns.length ≤ 63 ∧ ∀ H', Q (.bl true) H'
theorem DaysOf.dok {zs : List Str} {ds : List (List Str)} {b : Int} (h : DaysOf zs ds) (h1 : 1 ≤ ds.length) (h6 : ds.length ≤ 6) (b0 : 0 ≤ b) (b1 : b < ds.length) : DOk ds b := ⟨h1, by omega, h.nd, fun d hd => Nat.le_trans (h.le d hd) (by decide), b0, b1⟩
theorem sh_hv {q : Nat × Str} (h : NmOk q.2) : Sh 1 (pHv q) := sh_t fun d hd => by
  have : d = .int q.1 ∨ d = .str q.2 := by simpa using hd
  rcases this with rfl | rfl
  · exact sh_i _
  · exact sh_s h.str
theorem needTo_mem {fs : List (Str × Int)} {ds : List (List Str)} {b : Int} {n : Nat} {q : Nat × Str} (h : q ∈ needTo fs ds b n) : ∃ d ∈ ds, q.2 ∈ d := by
  obtain ⟨k, _, hk⟩ := List.mem_flatMap.mp h
  obtain ⟨z, hz, rfl⟩ := List.mem_map.mp hk
  have hz' := (List.mem_filter.mp hz).1
  by_cases hn : k < ds.length
  · have e : ds.getD k [] = ds[k] := by simp [List.getD, hn]
    rw [e] at hz'
    exact ⟨_, List.getElem_mem hn, hz'⟩
  · simp [List.getD, List.getElem?_eq_none_iff.mpr (Nat.le_of_not_lt hn)] at hz'
theorem fst_ex {G : Nat → Nat → Prop} {n i j : Nat} (lt : i < j) (le : j < n) (hg : G i j) : ∃ i j, Fst G n i j := by
  have step : ∀ m i j, i * n + j ≤ m → i < j → j < n → G i j → ∃ i j, Fst G n i j := by
    intro m
    induction m with
    | zero => intro i j h lt _ _; omega
    | succ m ih =>
      intro i j h lt le hg
      by_cases ex : ∃ i' j', i' < j' ∧ j' < n ∧ (i' < i ∨ (i' = i ∧ j' < j)) ∧ G i' j'
      · obtain ⟨i', j', l1, l2, l3, g⟩ := ex
        refine ih i' j' ?_ l1 l2 g
        rcases l3 with h3 | ⟨rfl, h3⟩
        · have : (i' + 1) * n ≤ i * n := Nat.mul_le_mul_right n h3
          rw [Nat.add_mul] at this
          omega
        · omega
      · exact ⟨i, j, lt, le, hg, fun i' j' l1 l2 l3 g => ex ⟨i', j', l1, l2, l3, g⟩⟩
  exact step _ i j (Nat.le_refl _) lt le hg
theorem bigOk_hv (q : Nat × Str) : bigOk (pHv q) = true := by simp [pHv, bigOk, bigOks]
theorem sh_days {ds : List (List Str)} (h : ∀ d ∈ ds, ∀ z ∈ d, NmOk z) : Sh 2 (.tuple (ds.map pDay)) := sh_t fun d hd => by
  obtain ⟨zs, hz, rfl⟩ := List.mem_map.mp hd
  exact sh_t fun e he => by
    obtain ⟨z, hz', rfl⟩ := List.mem_map.mp he
    exact sh_s (h zs hz z hz').str
theorem ok_law {f : Addr} {fd : FuncData} (M : Md K mg) (F : FnD K "law" "law" s_law f fd) (D_law_start : DefR P w K mg base "_law_start" 2 (sp_law_start K)) (D_law_drawn : DefR P w K mg base "_law_drawn" 2 (sp_law_drawn K)) (D_law_fields : DefR P w K mg base "_law_fields" 4 (sp_law_fields K))
    (D_law_days : DefR P w K mg base "_law_days" 4 (sp_law_days K)) (D_law_good : DefR P w K mg base "_law_good" 4 (sp_law_good K)) (D_law_farm : DefR P w K mg base "_law_farm" 9 (sp_law_farm K CF)) (D_law_plan : DefR P w K mg base "_law_plan" 6 (sp_law_plan K CP))
    (D_law_mended : DefR P w K mg base "_law_mended" 4 (sp_law_mended K)) (D_mend_by_swap : DefR P w K mg base "mend_by_swap" 12 (sp_mend_by_swap K CF CP)) (D_needless_harvests : DefR P w K mg base "needless_harvests" 12 (sp_needless K CF CP)) (D_law_needless : DefR P w K mg base "_law_needless" 4 (sp_law_needless K))
    (P_Plan_days : PropR P w K mg base CP "days" 2 (sp_plan_days CP)) (P_Plan_lead : PropR P w K mg base CP "lead" 2 (sp_plan_lead CP)) (D_law_same : DefR P w K mg base "_law_same" 8 (spEq K 4)) : FnOk P w K mg base CX0 14 f fd ["_law_script"] (sp_law K) := by
  refine FunD.ok F sc_law ?_ (fun cdv A outer s H vs Q E hr h => ?_)
  · rintro vs H Q E ⟨a, ns, rfl, _⟩; rfl
  · obtain ⟨a, ns, rfl, hS, hl, k⟩ := h
    have nd := sc_law.nd
    refine ⟨_, PSs.nox (pss_cons (ps_set (i := 1) nd rfl (by first | exact Or.inl rfl | exact Or.inr rfl) (pe_callR D_law_start (hr.mono (by first | decide | omega)) passN (pa_cons (pv 0) pa_nil)))
    (pss_cons (ps_for PassesOwn.never rfl (pi_range1 rfl M.b.range (pa_cons pe_int pa_nil)) (pg_name (i := 2) nd rfl (by first | exact Or.inl rfl | exact Or.inr rfl)) (pss_cons (ps_set (i := 3) nd rfl (by first | exact Or.inl rfl | exact Or.inr rfl) (pe_callR D_law_fields (hr.mono (by first | decide | omega)) passN (pa_cons (pv 1) (pa_cons pe_int (pa_cons (pe_ix (ix_K K) (pe_lst (pa_cons pe_int (pa_cons pe_int pa_nil))) (pe_callR D_law_drawn (hr.mono (by first | decide | omega)) passN (pa_cons (pv 1) (pa_cons pe_int pa_nil))) (fun _ _ => rfl)) (pa_cons pe_int pa_nil))))))
    (pss_cons (ps_set (i := 4) nd rfl (by first | exact Or.inl rfl | exact Or.inr rfl) (pe_callR D_law_days (hr.mono (by first | decide | omega)) passN (pa_cons (pv 1) (pa_cons (pe_lc (own := [("_law_name", 5), ("_law_limit", 6)]) (g := (gTup K 2 (gCons (gName 5) (gCons (gName 6) gNil)))) (tt := tYes) rfl nd (pi_listK K (pv 3)) (blkOk_by (N := N_law) (sc := defScope s_law) (by decide +kernel)) (fun _ _ _ _ _ => (pg_tupK K rfl (pgs_cons (pg_name (i := 5) nd rfl (by first | exact Or.inl rfl | exact Or.inr rfl)) (pgs_cons (pg_name (i := 6) nd rfl (by first | exact Or.inl rfl | exact Or.inr rfl)) pgs_nil)))) (fun _ _ _ _ _ => pts_nil) (fun _ _ _ _ _ => (pv 5))) (pa_cons (pe_op (op_addK K) pe_int (pe_callR D_law_drawn (hr.mono (by first | decide | omega)) passN (pa_cons (pv 1) (pa_cons pe_int pa_nil)))) pa_nil)))))
    (C8.pss_cut (ps_if (pt_cmpR (op_eqK K hr) (pe_callR D_law_drawn (hr.mono (by first | decide | omega)) passN (pa_cons (pv 1) (pa_cons pe_int pa_nil))) pe_int (nomark _)) (pss_one (ps_asg (pe_callR D_law_good (hr.mono (by first | decide | omega)) passN (pa_cons (pv 1) pa_nil)) (pg_tupK K rfl (pgs_cons (pg_name (i := 3) nd rfl (by first | exact Or.inl rfl | exact Or.inr rfl)) (pgs_cons (pg_name (i := 4) nd rfl (by first | exact Or.inl rfl | exact Or.inr rfl)) pgs_nil))))) pss_nil)
    (pss_cons (ps_par (i := 7) (j := 8) rfl nd rfl rfl (by decide) rfl rfl (pa_cons (pe_callR D_law_drawn (hr.mono (by first | decide | omega)) passN (pa_cons (pv 1) (pa_cons (pe_len K M.b (pv 4)) pa_nil))) (pa_cons (pe_callR D_law_farm (hr.mono (by first | decide | omega)) passN (pa_cons (pv 3) pa_nil)) pa_nil)) (by rfl))
    (pss_cons (ps_par (i := 9) (j := 10) rfl nd rfl rfl (by decide) rfl rfl (pa_cons (pe_callR D_law_plan (hr.mono (by first | decide | omega)) passN (pa_cons (pv 4) (pa_cons (pv 7) pa_nil))) (pa_cons (pe_callR D_law_mended (hr.mono (by first | decide | omega)) passN (pa_cons (pv 3) (pa_cons (pv 4) (pa_cons (pv 7) pa_nil)))) pa_nil)) (by rfl))
    (pss_cons (ps_set (i := 11) nd rfl (by first | exact Or.inl rfl | exact Or.inr rfl) (pe_callR D_mend_by_swap (hr.mono (by first | decide | omega)) passN (pa_cons (pv 8) (pa_cons (pv 9) pa_nil))))
    (pss_cons (ps_if (pt_cmpR (op_neK K hr) (pe_cmpR op_isN1 (pv 11) pe_non (nomark _)) (pe_cmpR op_isN1 (pv 10) pe_non (nomark _)) (nomark _)) (pss_one (ps_ret pe_bl)) pss_nil)
    (pss_cons (ps_if (PW.pt (pw_and (pt_cmpR op_notN1 (pv 11) pe_non (nomark _)) (pw_and1 (PW.pt (pw_or (pt_cmpR (op_neK K hr) (pe_propR P_Plan_days (hr.mono (by first | decide | omega)) (pv 11)) (pe_tupOf K M.b (pv 10)) (nomark _)) (pw_or1 (pt_cmpR (op_neK K hr) (pe_propR P_Plan_lead (hr.mono (by first | decide | omega)) (pv 11)) (pv 7) (nomark _)))))))) (pss_one (ps_ret pe_bl)) pss_nil)
    (pss_one (ps_if (pt_not (pt_val (pe_callR D_law_same (hr.mono (by first | decide | omega)) passN (pa_cons (pe_callR D_needless_harvests (hr.mono (by first | decide | omega)) passN (pa_cons (pv 8) (pa_cons (pv 9) pa_nil))) (pa_cons (pe_callR D_law_needless (hr.mono (by first | decide | omega)) passN (pa_cons (pv 3) (pa_cons (pv 4) (pa_cons (pv 7) pa_nil)))) pa_nil))))) (pss_one (ps_ret pe_bl)) pss_nil))))))))))) (pss_one (ps_ret pe_bl)))), ?_⟩
    show (_ : TS) _ [some (.ref a), none, none, none, none, none, none, none, none, none, none, none] H
    walk_at "go"
    refine ⟨a, ns, rfl, hS, fun H1 d s1 nd1 hd => ?_⟩
    walk_at "go"
    refine n_forR1 (by decide) (by decide) (fun i σ H' => ∃ u2 u3 u4 u5 u6 u7 u8 u9 u10 u11 : Option V, σ = [some (.ref a), some (.ref d), u2, u3, u4, u5, u6, u7, u8, u9, u10, u11] ∧ Dr K a ns H' d) ⟨_, _, _, _, _, _, _, _, _, _, rfl, hd⟩ ?_ ?_
    · rintro i σ H2 hi ⟨u2, u3, u4, u5, u6, u7, u8, u9, u10, u11, rfl, d2⟩
      walk_at "go"
      refine n_lst (by simp [sizeLine_eq]) fun q3 H3 nq3 s3 hq3 => ?_
      have nqd : d ≠ q3 := d2.ne nq3
      walk_at "go"
      refine ⟨d, a, ns, 2, rfl, d2.same s3, by decide, by decide, fun H4 r r0 r1 k4 d4 => ?_⟩
      have hr01 : r = 0 ∨ r = 1 := by omega
      refine g_ix_l (v := .int (if r = 0 then 3 else 6)) (SqL.of (k4 _ _ nqd.symm hq3)) (by rcases hr01 with rfl | rfl <;> rfl) ?_
      generalize ht : (if r = 0 then 3 else 6 : Int) = top
      have t1 : 1 ≤ top ∧ top ≤ 30 := by rcases hr01 with rfl | rfl <;> subst ht <;> decide
      walk_at "go"
      refine ⟨d, a, ns, 3, top, 4000, rfl, d4, by decide, by decide, t1.1, t1.2, by decide, by decide, fun H5 fl fx fs k5 d5 nfl hfl hfx fok _ _ _ => ?_⟩
      have Ffl : Frd K a ns d fl := d4.frd nfl
      have hxl : fx.length = fs.length := by rw [hfx.length]; simp
      have six := fok.six
      walk_at "go"
      refine n_lcL (SqL.of hfl) (lc_map (walk_list (xs := fx)) (fun j => .str ((fs.getD j ("", 0)).1)) (fun H6 s6 => SqL.of (s6 _ _ hfl)) ?_ ?_)
      · rintro L j y H6 H7 nC hj s6 hC ⟨e, hyj⟩
        subst e
        obtain ⟨dj, hdj, hDj⟩ := (s6.dpa hfx).get hyj
        obtain ⟨fj, hfj, rfl⟩ := getm hdj
        obtain ⟨t3, zs, rfl, hT3, hZ⟩ := hDj.inv_t
        obtain ⟨w1, w2, rfl, hw1, hw2⟩ := hZ.inv2
        obtain rfl := hw1.inv_s
        walk_at "go"
        refine g_gtup hT3 rfl ?_
        walk_at "go"
        refine ⟨rfl, ?_⟩
        walk_at "go"
        exact n_mapK nC s6 hC (by rw [getD_of hfj])
      intro nm H6 nnm s6 hnm
      have e1 : (List.range fx.length).map (fun j => V.str ((fs.getD j ("", 0)).1)) = (fs.map (·.1)).map V.str := by
        rw [hxl, List.map_map]
        exact range_getD fs ("", 0) fun f : Str × Int => V.str f.1
      rw [e1] at hnm
      have Fnm : Frd K a ns d nm := d5.frd nnm
      walk_at "go"
      refine ⟨d, a, ns, 6, rfl, d5.same s6, by decide, by decide, fun H7 r7 r70 r71 k7 d7 => ?_⟩
      walk_at "go"
      refine ⟨d, a, nm, ns, fs.map (·.1), 1 + r7, rfl, d7, Fnm.ne, k7 _ _ Fnm.ne.symm hnm, fok.nd, by simp; omega, fun z hz => ?_, by omega, by omega, fun H8 dl xs ds k8 d8 ndl hdl hX dlen dok => ?_⟩
      · obtain ⟨f, hf, rfl⟩ := List.mem_map.mp hz
        exact (fok.nm f hf).str
      have Fdl : Frd K a ns d dl := d7.frd ndl
      have hfl8 : H8 fl = some (.lst fx) := k8 _ _ Ffl.ne.symm (k7 _ _ Ffl.ne.symm (s6 _ _ hfl))
      have hfx8 : DpAll K H8 fx (fs.map pField) := dp_keepAll k8 d7.notT _ _ (noL_fields fs) (dp_keepAll k7 (d5.same s6).notT _ _ (noL_fields fs) (s6.dpa hfx))
      walk_at "go"
      refine g_cut (fun σ H' => ∃ (fl dl : Addr) (fx xs : List V) (fs : List (Str × Int)) (ds : List (List Str)) (u5 u6 u7 u8 u9 u10 u11 : Option V), σ = [some (.ref a), some (.ref d), some (.int i), some (.ref fl), some (.ref dl), u5, u6, u7, u8, u9, u10, u11] ∧ Dr K a ns H' d ∧ d ≠ fl ∧ d ≠ dl ∧ H' fl = some (.lst fx) ∧ DpAll K H' fx (fs.map pField) ∧ FOk fs ∧ H' dl = some (.lst xs) ∧ DpAll K H' xs (ds.map pDay) ∧ 1 ≤ ds.length ∧ ds.length ≤ 6 ∧ DaysOf (fs.map (·.1)) ds) ?_ ?_
      · walk_at "go"
        refine ⟨d, a, ns, 2, rfl, d8, by decide, by decide, fun H9 r9 r90 r91 k9 d9 => ?_⟩
        walk_at "go"
        refine if_D (fun e => ?_) (fun e => ?_)
        · walk_at "go"
          refine ⟨d, a, ns, rfl, d9, fun H10 R fl' dl' fx' xs' fs' ds' k10 d10 hR F1 F2 h1 h2 h3 h4 h5 h6 h7 h8 => ?_⟩
          refine g_gtup hR rfl ?_
          walk_at "go"
          exact ⟨fl', dl', fx', xs', fs', ds', _, _, _, _, _, _, _, rfl, d10, F1.ne, F2.ne, h1, h2, h3, h4, h5, h6, h7, h8⟩
        · walk_at "go"
          exact ⟨fl, dl, fx, xs, fs, ds, _, _, _, _, _, _, _, rfl, d9, Ffl.ne, Fdl.ne, k9 _ _ Ffl.ne.symm hfl8, dp_keepAll k9 d8.notT _ _ (noL_fields fs) hfx8, fok, k9 _ _ Fdl.ne.symm hdl, dp_keepAll k9 d8.notT _ _ (noL_days ds) hX, by omega, by omega, dok⟩
      · rintro σ H9 ⟨fl, dl, fx, xs, fs, ds, u5, u6, u7, u8, u9, u10, u11, rfl, d9, nfl, ndl, hfl, hfx, fok, hdl, hX, l1, l6, dof⟩
        have hxl : xs.length = ds.length := by rw [hX.length]; simp
        walk_at "go"
        refine ⟨d, a, ns, _, rfl, d9, by omega, by omega, fun H10 b b0 b1 k10 d10 => ?_⟩
        have hfl10 := k10 _ _ nfl.symm hfl
        have hfx10 : DpAll K H10 fx (fs.map pField) := dp_keepAll k10 d9.notT _ _ (noL_fields fs) hfx
        have hdl10 := k10 _ _ ndl.symm hdl
        have hX10 : DpAll K H10 xs (ds.map pDay) := dp_keepAll k10 d9.notT _ _ (noL_days ds) hX
        have dok : DOk ds b := dof.dok l1 l6 b0 (by omega)
        have hDf : Dp K H10 (.ref fl) (.list (fs.map pField)) := dp_lst hfl10 hfx10
        have hDd : Dp K H10 (.ref dl) (.list (ds.map pDay)) := dp_lst hdl10 hX10
        have hnm : ∀ z ∈ fs.map (·.1), NmOk z := fun z hz => by
          obtain ⟨f, hf, rfl⟩ := List.mem_map.mp hz
          exact fok.nm f hf
        walk_at "go"
        refine ⟨_, fs, rfl, hDf, fok, fun H11 fa s11 hfa => ?_⟩
        walk_at "go"
        refine ⟨_, ds, b, rfl, s11.dp hDd, dok, l6, fun H12 pa s12 hpa => ?_⟩
        have s1012 := s11.trans s12
        have hfa12 := FarmAt.same s12 hfa
        by_cases ex : ∃ i j, Fst (fun i j => good fs (swapD ds i j) b) ds.length i j
        · obtain ⟨i1, j1, fst⟩ := ex
          walk_at "go"
          refine ⟨_, _, fs, ds, b, rfl, s1012.dp hDf, fok, s1012.dp hDd, dok, dof.sub, fun i' j' f' H13 ex xe s13 hex hXe => ?_, fun no => absurd fst.ok (no i1 j1 fst.lt fst.le)⟩
          obtain ⟨rfl, rfl⟩ := fst.uni f'
          walk_at "go"
          refine ⟨fa, pa, fs, ds, b, rfl, FarmAt.same s13 hfa12, fok, PlanAt.same s13 hpa, dok, dof.sub, fun i' j' f' H14 fo s14 hfo => ?_, fun no => absurd fst.ok (no i1 j1 fst.lt fst.le)⟩
          obtain ⟨rfl, rfl⟩ := fst.uni f'
          have s1214 := s13.trans s14
          have s1014 := s1012.trans s1214
          have hfo' := hfo
          obtain ⟨dy, u, hq, hw⟩ := hfo'
          obtain ⟨u', ys, e, hU, hY⟩ := hw.inv_t
          cases e
          walk_at "go"
          refine if_F rfl ?_
          walk_at "go"
          refine if_T rfl ?_
          walk_at "go"
          refine n_prop hq ⟨fo, dy, u, b, rfl, hq, ?_⟩
          walk_at "go"
          refine g_tupOf_l (SqL.of (s14 _ _ hex)) fun t2 H15 nt2 s15 ht2 => ?_
          have shd : Sh 2 (.tuple ((swapD ds i1 j1).map pDay)) := sh_days fun d' hd z hz => hnm z (dof.sub d' (swap_mem (by have := fst.lt; have := fst.le; omega) fst.le hd) z hz)
          refine g_ne_d (.tuple ((swapD ds i1 j1).map pDay)) (.tuple ((swapD ds i1 j1).map pDay)) (s15.dp hw) (dp_tup ht2 (s15.dpa (s14.dpa hXe))) (shd.ok (by decide)) (shd.ok (by decide)) ?_
          rw [eqv_refl shd]
          walk_at "go"
          refine if_F rfl ?_
          walk_at "go"
          refine n_prop (s15 _ _ hq) ⟨fo, dy, u, b, rfl, s15 _ _ hq, ?_⟩
          walk_at "go"
          refine if_F (by simp) ?_
          walk_at "go"
          have s1215 := s1214.trans s15
          have s1015 := s1014.trans s15
          refine ⟨fa, pa, fs, ds, b, rfl, FarmAt.same s1215 hfa12, fok, PlanAt.same s1215 hpa, dok, dof.sub, fun H16 r16 v16 s16 n16 h16 hv16 => ?_⟩
          walk_at "go"
          have s1016 := s1015.trans s16
          refine ⟨_, _, fs, ds, b, rfl, s1016.dp hDf, fok, s1016.dp hDd, dok, dof.sub, fun H17 r17 v17 s17 n17 h17 hv17 => ?_⟩
          walk_at "go"
          refine ⟨_, _, .list ((needTo fs ds b ds.length).map pHv), rfl, dp_lst (s17 _ _ h16) (s17.dpa hv16), dp_lst h17 hv17, (sh_l (n := 1) fun x hx => ?_).mono (by decide), ?_, fun H18 s18 => ?_⟩
          · obtain ⟨q, hq, rfl⟩ := List.mem_map.mp hx
            obtain ⟨d', hd', hz⟩ := needTo_mem hq
            exact sh_hv (hnm _ (dof.sub d' hd' _ hz))
          · have h8 := needTo_le (fs := fs) (b := b) dok.le ds.length
            simp only [bigOk, Bool.and_eq_true, decide_eq_true_eq, List.length_map]
            exact ⟨by omega, bigOks_of fun x hx => by obtain ⟨q, _, rfl⟩ := List.mem_map.mp hx; exact bigOk_hv q⟩
          walk_at "go"
          refine if_F rfl ?_
          walk_at "go"
          exact ⟨_, _, _, _, _, _, _, _, _, _, rfl, d10.same (s1016.trans (s17.trans s18))⟩
        · have no : ∀ i j, i < j → j < ds.length → ¬ good fs (swapD ds i j) b := fun i j lt le hg => ex (fst_ex lt le hg)
          walk_at "go"
          refine ⟨_, _, fs, ds, b, rfl, s1012.dp hDf, fok, s1012.dp hDd, dok, dof.sub, fun i' j' f' => absurd ⟨i', j', f'⟩ ex, fun _ H13 s13 => ?_⟩
          walk_at "go"
          refine ⟨fa, pa, fs, ds, b, rfl, FarmAt.same s13 hfa12, fok, PlanAt.same s13 hpa, dok, dof.sub, fun i' j' f' => absurd ⟨i', j', f'⟩ ex, fun _ H14 s14 => ?_⟩
          have s1214 := s13.trans s14
          have s1014 := s1012.trans s1214
          walk_at "go"
          refine if_F rfl ?_
          walk_at "go"
          refine if_F rfl ?_
          refine if_F rfl ?_
          walk_at "go"
          refine ⟨fa, pa, fs, ds, b, rfl, FarmAt.same s1214 hfa12, fok, PlanAt.same s1214 hpa, dok, dof.sub, fun H16 r16 v16 s16 n16 h16 hv16 => ?_⟩
          walk_at "go"
          have s1016 := s1014.trans s16
          refine ⟨_, _, fs, ds, b, rfl, s1016.dp hDf, fok, s1016.dp hDd, dok, dof.sub, fun H17 r17 v17 s17 n17 h17 hv17 => ?_⟩
          walk_at "go"
          refine ⟨_, _, .list ((needTo fs ds b ds.length).map pHv), rfl, dp_lst (s17 _ _ h16) (s17.dpa hv16), dp_lst h17 hv17, (sh_l (n := 1) fun x hx => ?_).mono (by decide), ?_, fun H18 s18 => ?_⟩
          · obtain ⟨q, hq, rfl⟩ := List.mem_map.mp hx
            obtain ⟨d', hd', hz⟩ := needTo_mem hq
            exact sh_hv (hnm _ (dof.sub d' hd' _ hz))
          · have h8 := needTo_le (fs := fs) (b := b) dok.le ds.length
            simp only [bigOk, Bool.and_eq_true, decide_eq_true_eq, List.length_map]
            exact ⟨by omega, bigOks_of fun x hx => by obtain ⟨q, _, rfl⟩ := List.mem_map.mp hx; exact bigOk_hv q⟩
          walk_at "go"
          refine if_F rfl ?_
          walk_at "go"
          exact ⟨_, _, _, _, _, _, _, _, _, _, rfl, d10.same (s1016.trans (s17.trans s18))⟩
    · rintro σ H2 ⟨u2, u3, u4, u5, u6, u7, u8, u9, u10, u11, rfl, d2⟩
      walk_at "go"
      exact k H2

end
section
end
end HC
namespace HC
open PyProof.Rows PySem L2 PySem.Spec

def endFx : List Tst := [fun K => propB K (He.ga K "Farm") "fields",
  fun K => propB K (He.ga K "Farm") "names",
  fun K => propB K (He.ga K "Farm") "limits",
  fun K => propB K (He.ga K "Plan") "days",
  fun K => propB K (He.ga K "Plan") "lead",
  fun K => gconB K (He.ga K "Farm") "MAX_FIELDS" (.int 6),
  fun K => gconB K (He.ga K "Farm") "MAX_STATES" (.int 4000),
  fun K => PySem.W.selfFirst K (He.ga K "Farm")]
def endFa : List He.Fa := [.free "len",
  .free "abs",
  .free "min",
  .free "max",
  .free "all",
  .free "any",
  .free "sum",
  .free "isinstance",
  .free "list",
  .free "tuple",
  .free "int",
  .free "str",
  .free "bool",
  .free "dict",
  .free "range",
  .free "enumerate",
  .free "zip",
  .free "sorted",
  .free "set",
  .str "LETTERS" "abcdefghijklmnopqrstuvwxyz",
  .int "MAX_LETTERS" 8,
  .int "MAX_LIMIT" 30,
  .int "MAX_DAY" 1000000000000000000,
  .int "MAX_DAYS" 5000,
  .glo "Farm",
  .cls "Farm",
  .glo "Plan",
  .cls "Plan",
  .glo "is_name",
  .glo "require_field",
  .glo "place_of",
  .glo "require_known",
  .glo "left_after",
  .glo "first_rot",
  .glo "mend_by_swap",
  .glo "needless_harvests",
  .glo "_law_start",
  .glo "_law_drawn",
  .glo "_law_same",
  .glo "_law_fields",
  .glo "_law_farm",
  .glo "_law_days",
  .glo "_law_plan",
  .glo "_law_rots",
  .glo "_law_mended",
  .glo "_law_needless",
  .glo "_law_good",
  .glo "law",
  .noat "Farm" "rows",
  .noat "Plan" "parts",
  .noat "Plan" "begin",
  .meth "Farm" "__add__",
  .meth "Plan" "__len__",
  .mkr "Farm",
  .mkr "Plan"]
def endFn : List He5.DefA := [⟨fun K => He.ga K "is_name", "is_name", "is_name", defArgs s_is_name, defBody s_is_name, defScope s_is_name, [], []⟩,
  ⟨fun K => He.ga K "require_field", "require_field", "require_field", defArgs s_require_field, defBody s_require_field, defScope s_require_field, [], []⟩,
  ⟨fun K => He.ga K "place_of", "place_of", "place_of", defArgs s_place_of, defBody s_place_of, defScope s_place_of, [], []⟩,
  ⟨fun K => He.ga K "require_known", "require_known", "require_known", defArgs s_require_known, defBody s_require_known, defScope s_require_known, [], []⟩,
  ⟨fun K => He.ga K "left_after", "left_after", "left_after", defArgs s_left_after, defBody s_left_after, defScope s_left_after, [], []⟩,
  ⟨fun K => He.ga K "first_rot", "first_rot", "first_rot", defArgs s_first_rot, defBody s_first_rot, defScope s_first_rot, [], []⟩,
  ⟨fun K => He.ga K "mend_by_swap", "mend_by_swap", "mend_by_swap", defArgs s_mend_by_swap, defBody s_mend_by_swap, defScope s_mend_by_swap, [], []⟩,
  ⟨fun K => He.ga K "needless_harvests", "needless_harvests", "needless_harvests", defArgs s_needless_harvests, defBody s_needless_harvests, defScope s_needless_harvests, [], []⟩,
  ⟨fun K => He.ga K "_law_start", "_law_start", "_law_start", defArgs s_law_start, defBody s_law_start, defScope s_law_start, [], []⟩,
  ⟨fun K => He.ga K "_law_drawn", "_law_drawn", "_law_drawn", defArgs s_law_drawn, defBody s_law_drawn, defScope s_law_drawn, [], []⟩,
  ⟨fun K => He.ga K "_law_same", "_law_same", "_law_same", defArgs s_law_same, defBody s_law_same, defScope s_law_same, [], []⟩,
  ⟨fun K => He.ga K "_law_fields", "_law_fields", "_law_fields", defArgs s_law_fields, defBody s_law_fields, defScope s_law_fields, [], []⟩,
  ⟨fun K => He.ga K "_law_farm", "_law_farm", "_law_farm", defArgs s_law_farm, defBody s_law_farm, defScope s_law_farm, [], []⟩,
  ⟨fun K => He.ga K "_law_days", "_law_days", "_law_days", defArgs s_law_days, defBody s_law_days, defScope s_law_days, [], []⟩,
  ⟨fun K => He.ga K "_law_plan", "_law_plan", "_law_plan", defArgs s_law_plan, defBody s_law_plan, defScope s_law_plan, [], []⟩,
  ⟨fun K => He.ga K "_law_rots", "_law_rots", "_law_rots", defArgs s_law_rots, defBody s_law_rots, defScope s_law_rots, [], []⟩,
  ⟨fun K => He.ga K "_law_mended", "_law_mended", "_law_mended", defArgs s_law_mended, defBody s_law_mended, defScope s_law_mended, [], []⟩,
  ⟨fun K => He.ga K "_law_needless", "_law_needless", "_law_needless", defArgs s_law_needless, defBody s_law_needless, defScope s_law_needless, [], []⟩,
  ⟨fun K => He.ga K "_law_good", "_law_good", "_law_good", defArgs s_law_good, defBody s_law_good, defScope s_law_good, [], []⟩,
  ⟨fun K => He.ga K "law", "law", "law", defArgs s_law, defBody s_law, defScope s_law, [], []⟩,
  ⟨fun K => He.ma K (He.ga K "Farm") "__add__", "__add__", "Farm.__add__", defArgs s_Farm___add__, defBody s_Farm___add__, defScope s_Farm___add__, [], []⟩,
  ⟨fun K => He.ma K (He.ga K "Plan") "__len__", "__len__", "Plan.__len__", defArgs s_Plan___len__, defBody s_Plan___len__, defScope s_Plan___len__, [], []⟩,
  ⟨fun K => He.ma K (He.ga K "Farm") "__init__", "__init__", "Farm.__init__", defArgs s_Farm___init__, defBody s_Farm___init__, defScope s_Farm___init__, [], []⟩,
  ⟨fun K => He.ma K (He.ga K "Plan") "__init__", "__init__", "Plan.__init__", defArgs s_Plan___init__, defBody s_Plan___init__, defScope s_Plan___init__, [], [("lead", .int 0)]⟩,
  ⟨fun K => pgA K (He.ga K "Farm") "fields", "fields", "Farm.fields", defArgs s_Farm_fields, defBody s_Farm_fields, defScope s_Farm_fields, [], []⟩,
  ⟨fun K => pgA K (He.ga K "Farm") "names", "names", "Farm.names", defArgs s_Farm_names, defBody s_Farm_names, defScope s_Farm_names, [], []⟩,
  ⟨fun K => pgA K (He.ga K "Farm") "limits", "limits", "Farm.limits", defArgs s_Farm_limits, defBody s_Farm_limits, defScope s_Farm_limits, [], []⟩,
  ⟨fun K => pgA K (He.ga K "Plan") "days", "days", "Plan.days", defArgs s_Plan_days, defBody s_Plan_days, defScope s_Plan_days, [], []⟩,
  ⟨fun K => pgA K (He.ga K "Plan") "lead", "lead", "Plan.lead", defArgs s_Plan_lead, defBody s_Plan_lead, defScope s_Plan_lead, [], []⟩]
abbrev endR : PySem.W.OpenRow := PySem.W.OpenLaw.row PySem.Challenge.rw_harvestcarts_k04_mended_plans
abbrev endHk : PySem.W.Hook := hookJ 5 endFx endFa endFn
def endOb (s : PySem.W.SharedT) : He.AlD × Bool := obsJG 5 endFx endFa endFn (HandSHeadRun.getT s)
theorem endOb_eq (s : PySem.W.SharedT) : endOb s = endHk.obs s.abs := obsJG_eq (HandSHeadRun.getT_eq s)
def endNames0 : List Str := ["_wall", "FarmError", "InvalidFarm", "TooManyStates", "UnknownField", "InvalidPlan", "InvalidNumber", "LETTERS", "MAX_LETTERS", "MAX_LIMIT", "MAX_DAY", "validate_number", "is_name", "Farm", "require_field", "MAX_DAYS", "Plan", "place_of", "require_known", "left_after"]
def endNames1 : List Str := ["first_rot", "mend_by_swap", "needless_harvests", "_law_start", "_law_drawn", "_law_same", "_law_fields", "_law_farm", "_law_days", "_law_plan", "_law_rots", "_law_mended", "_law_needless", "_law_good"]
def endNames : List Str := endNames0 ++ endNames1
theorem endRun (w : World) : HandSHeadRun.RunEq endR (PySem.W.view endR.prog [38]) endHk endOb 40000 endNames w := by
  intro os
  kernel_rfl
theorem endFacts {P : Program} {w : World} {K : PySem.W.Frag} {h : Heap} {mg : Str → Option Value} {f : Addr} (X : K.In h) (G : h.Ns mainGlobals mg) (hfa : mg ("law" : Str) = some (.ref f)) (c : SaysJ endFx endFa endFn K) :
    ∃ fd : FuncData, (∀ (s : Shared) (v : Value), BindsTo s fd ⟨[v], []⟩ [("_law_script", v)]) ∧ ∀ base : Heap, K.In base → base.Ns mainGlobals mg → FnOk P w K mg base CX0 14 f fd ["_law_script"] (sp_law K) := by
  have hB : Bts mg := ⟨He.free_ok X G (c.base.fact 0 rfl), He.free_ok X G (c.base.fact 1 rfl), He.free_ok X G (c.base.fact 2 rfl), He.free_ok X G (c.base.fact 3 rfl), He.free_ok X G (c.base.fact 4 rfl), He.free_ok X G (c.base.fact 5 rfl), He.free_ok X G (c.base.fact 6 rfl), He.free_ok X G (c.base.fact 7 rfl), He.free_ok X G (c.base.fact 8 rfl), He.free_ok X G (c.base.fact 9 rfl), He.free_ok X G (c.base.fact 10 rfl), He.free_ok X G (c.base.fact 11 rfl), He.free_ok X G (c.base.fact 12 rfl), He.free_ok X G (c.base.fact 13 rfl), He.free_ok X G (c.base.fact 14 rfl), He.free_ok X G (c.base.fact 15 rfl), He.free_ok X G (c.base.fact 16 rfl), He.free_ok X G (c.base.fact 17 rfl), He.free_ok X G (c.base.fact 18 rfl)⟩
  have g_Farm : mg "Farm" = some (.ref (He.ga K "Farm")) := He.glo_ok X G (c.base.fact 24 rfl)
  have g_Plan : mg "Plan" = some (.ref (He.ga K "Plan")) := He.glo_ok X G (c.base.fact 26 rfl)
  have M : Md K mg := ⟨hB, He.str_ok X G (c.base.fact 19 rfl), He.int_ok X G (c.base.fact 20 rfl), He.int_ok X G (c.base.fact 21 rfl), He.int_ok X G (c.base.fact 22 rfl), He.int_ok X G (c.base.fact 23 rfl), gconB_ok g_Farm (c.more 5 rfl), gconB_ok g_Farm (c.more 6 rfl)⟩
  have cl_Farm : Cls K (He.ga K "Farm") := He.cls_ok (c.base.fact 25 rfl)
  have cl_Plan : Cls K (He.ga K "Plan") := He.cls_ok (c.base.fact 27 rfl)
  have self_Farm : PySem.W.selfFirst K (He.ga K "Farm") = true := (c.more 7 rfl)
  have na_Farm_rows : NoAttr K (He.ga K "Farm") "rows" := He.noat_ok (c.base.fact 48 rfl)
  have na_Plan_parts : NoAttr K (He.ga K "Plan") "parts" := He.noat_ok (c.base.fact 49 rfl)
  have na_Plan_begin : NoAttr K (He.ga K "Plan") "begin" := He.noat_ok (c.base.fact 50 rfl)
  have G_is_name : Gd K mg "is_name" s_is_name := by
    obtain ⟨fd, F⟩ := c.base.def_ 0 rfl
    exact ⟨_, fd, He.glo_ok X G (c.base.fact 28 rfl), F⟩
  have G_require_field : Gd K mg "require_field" s_require_field := by
    obtain ⟨fd, F⟩ := c.base.def_ 1 rfl
    exact ⟨_, fd, He.glo_ok X G (c.base.fact 29 rfl), F⟩
  have G_place_of : Gd K mg "place_of" s_place_of := by
    obtain ⟨fd, F⟩ := c.base.def_ 2 rfl
    exact ⟨_, fd, He.glo_ok X G (c.base.fact 30 rfl), F⟩
  have G_require_known : Gd K mg "require_known" s_require_known := by
    obtain ⟨fd, F⟩ := c.base.def_ 3 rfl
    exact ⟨_, fd, He.glo_ok X G (c.base.fact 31 rfl), F⟩
  have G_left_after : Gd K mg "left_after" s_left_after := by
    obtain ⟨fd, F⟩ := c.base.def_ 4 rfl
    exact ⟨_, fd, He.glo_ok X G (c.base.fact 32 rfl), F⟩
  have G_first_rot : Gd K mg "first_rot" s_first_rot := by
    obtain ⟨fd, F⟩ := c.base.def_ 5 rfl
    exact ⟨_, fd, He.glo_ok X G (c.base.fact 33 rfl), F⟩
  have G_mend_by_swap : Gd K mg "mend_by_swap" s_mend_by_swap := by
    obtain ⟨fd, F⟩ := c.base.def_ 6 rfl
    exact ⟨_, fd, He.glo_ok X G (c.base.fact 34 rfl), F⟩
  have G_needless_harvests : Gd K mg "needless_harvests" s_needless_harvests := by
    obtain ⟨fd, F⟩ := c.base.def_ 7 rfl
    exact ⟨_, fd, He.glo_ok X G (c.base.fact 35 rfl), F⟩
  have G_law_start : Gd K mg "_law_start" s_law_start := by
    obtain ⟨fd, F⟩ := c.base.def_ 8 rfl
    exact ⟨_, fd, He.glo_ok X G (c.base.fact 36 rfl), F⟩
  have G_law_drawn : Gd K mg "_law_drawn" s_law_drawn := by
    obtain ⟨fd, F⟩ := c.base.def_ 9 rfl
    exact ⟨_, fd, He.glo_ok X G (c.base.fact 37 rfl), F⟩
  have G_law_same : Gd K mg "_law_same" s_law_same := by
    obtain ⟨fd, F⟩ := c.base.def_ 10 rfl
    exact ⟨_, fd, He.glo_ok X G (c.base.fact 38 rfl), F⟩
  have G_law_fields : Gd K mg "_law_fields" s_law_fields := by
    obtain ⟨fd, F⟩ := c.base.def_ 11 rfl
    exact ⟨_, fd, He.glo_ok X G (c.base.fact 39 rfl), F⟩
  have G_law_farm : Gd K mg "_law_farm" s_law_farm := by
    obtain ⟨fd, F⟩ := c.base.def_ 12 rfl
    exact ⟨_, fd, He.glo_ok X G (c.base.fact 40 rfl), F⟩
  have G_law_days : Gd K mg "_law_days" s_law_days := by
    obtain ⟨fd, F⟩ := c.base.def_ 13 rfl
    exact ⟨_, fd, He.glo_ok X G (c.base.fact 41 rfl), F⟩
  have G_law_plan : Gd K mg "_law_plan" s_law_plan := by
    obtain ⟨fd, F⟩ := c.base.def_ 14 rfl
    exact ⟨_, fd, He.glo_ok X G (c.base.fact 42 rfl), F⟩
  have G_law_rots : Gd K mg "_law_rots" s_law_rots := by
    obtain ⟨fd, F⟩ := c.base.def_ 15 rfl
    exact ⟨_, fd, He.glo_ok X G (c.base.fact 43 rfl), F⟩
  have G_law_mended : Gd K mg "_law_mended" s_law_mended := by
    obtain ⟨fd, F⟩ := c.base.def_ 16 rfl
    exact ⟨_, fd, He.glo_ok X G (c.base.fact 44 rfl), F⟩
  have G_law_needless : Gd K mg "_law_needless" s_law_needless := by
    obtain ⟨fd, F⟩ := c.base.def_ 17 rfl
    exact ⟨_, fd, He.glo_ok X G (c.base.fact 45 rfl), F⟩
  have G_law_good : Gd K mg "_law_good" s_law_good := by
    obtain ⟨fd, F⟩ := c.base.def_ 18 rfl
    exact ⟨_, fd, He.glo_ok X G (c.base.fact 46 rfl), F⟩
  have G_Farm___add__ : Gm K (He.ga K "Farm") "__add__" "Farm.__add__" s_Farm___add__ := by
    obtain ⟨fd, F⟩ := c.base.def_ 20 rfl
    exact ⟨cl_Farm, _, fd, He.meth_ok (c.base.fact 51 rfl), F⟩
  have G_Plan___len__ : Gm K (He.ga K "Plan") "__len__" "Plan.__len__" s_Plan___len__ := by
    obtain ⟨fd, F⟩ := c.base.def_ 21 rfl
    exact ⟨cl_Plan, _, fd, He.meth_ok (c.base.fact 52 rfl), F⟩
  have G_Farm_init : Gk K mg "Farm" (He.ga K "Farm") "Farm.__init__" s_Farm___init__ := by
    obtain ⟨fd, F⟩ := c.base.def_ 22 rfl
    exact ⟨g_Farm, _, fd, He.mkr_ok (c.base.fact 53 rfl), F⟩
  have G_Plan_init := (by
    obtain ⟨fd, F⟩ := c.base.def_ 23 rfl
    exact ⟨g_Plan, _, fd, He.mkr_ok (c.base.fact 54 rfl), F⟩ : GkK K mg "Plan" (He.ga K "Plan") "Plan.__init__" s_Plan___init__ [("lead", .int 0)])
  have G_Farm_fields : Gp K (He.ga K "Farm") "fields" "Farm.fields" s_Farm_fields := by
    obtain ⟨fd, F⟩ := c.base.def_ 24 rfl
    exact ⟨cl_Farm, _, _, fd, propB_ok (c.more 0 rfl), F⟩
  have G_Farm_names : Gp K (He.ga K "Farm") "names" "Farm.names" s_Farm_names := by
    obtain ⟨fd, F⟩ := c.base.def_ 25 rfl
    exact ⟨cl_Farm, _, _, fd, propB_ok (c.more 1 rfl), F⟩
  have G_Farm_limits : Gp K (He.ga K "Farm") "limits" "Farm.limits" s_Farm_limits := by
    obtain ⟨fd, F⟩ := c.base.def_ 26 rfl
    exact ⟨cl_Farm, _, _, fd, propB_ok (c.more 2 rfl), F⟩
  have G_Plan_days : Gp K (He.ga K "Plan") "days" "Plan.days" s_Plan_days := by
    obtain ⟨fd, F⟩ := c.base.def_ 27 rfl
    exact ⟨cl_Plan, _, _, fd, propB_ok (c.more 3 rfl), F⟩
  have G_Plan_lead : Gp K (He.ga K "Plan") "lead" "Plan.lead" s_Plan_lead := by
    obtain ⟨fd, F⟩ := c.base.def_ 28 rfl
    exact ⟨cl_Plan, _, _, fd, propB_ok (c.more 4 rfl), F⟩
  obtain ⟨fd, F⟩ := c.base.def_ 19 rfl
  have e := hfa.symm.trans (He.glo_ok X G (c.base.fact 47 rfl))
  cases e
  have b := FunD.bindsA (ps := ["_law_script"]) F fun _ _ _ _ _ _ us hl => match us, hl with | [_], _ => rfl
  refine ⟨fd, fun s v => b s [v] rfl, fun base _ _ => ?_⟩
  have FC : FarmC K (He.ga K "Farm") := ⟨cl_Farm, na_Farm_rows⟩
  have PC : PlanC K (He.ga K "Plan") := ⟨cl_Plan, na_Plan_parts, na_Plan_begin⟩
  have D1 : DefR P w K mg base "_law_start" 2 (sp_law_start K) := ok_law_start M G_law_start
  have D2 : DefR P w K mg base "_law_drawn" 2 (sp_law_drawn K) := ok_law_drawn M G_law_drawn
  have D3 := ok_law_fields M G_law_fields D2
  have D4 := ok_law_days M G_law_days D2
  have D5 := ok_law_good M G_law_good D2
  have D6 : DefR P w K mg base "is_name" 2 sp_is_name := ok_is_name M G_is_name
  have K1 := ok_farm_init M FC G_Farm_init D6
  have P1 : PropR P w K mg base (He.ga K "Farm") "fields" 2 (sp_farm_fields K (He.ga K "Farm")) := ok_farm_fields FC G_Farm_fields
  have P2 : PropR P w K mg base (He.ga K "Farm") "names" 2 (sp_farm_names K (He.ga K "Farm")) := ok_farm_names M FC G_Farm_names
  have P3 : PropR P w K mg base (He.ga K "Farm") "limits" 2 (sp_farm_limits K (He.ga K "Farm")) := ok_farm_limits M FC G_Farm_limits
  have M1 := ok_farm_add M FC G_Farm___add__ K1
  have D7 := ok_law_farm M G_law_farm self_Farm K1 M1
  have K2 : MakeRK P w K mg base "Plan" (He.ga K "Plan") 4 "lead" (sp_plan_init K (He.ga K "Plan")) := ok_plan_init M PC G_Plan_init
  have P4 : PropR P w K mg base (He.ga K "Plan") "days" 2 (sp_plan_days (He.ga K "Plan")) := ok_plan_days PC G_Plan_days
  have P5 : PropR P w K mg base (He.ga K "Plan") "lead" 2 (sp_plan_lead (He.ga K "Plan")) := ok_plan_lead PC G_Plan_lead
  have M2 : MethR P w K mg base (He.ga K "Plan") "__len__" 2 (sp_plan_len K (He.ga K "Plan")) := ok_plan_len M PC G_Plan___len__
  have D8 := ok_law_plan M G_law_plan K2
  have D9 : DefR P w K mg base "_law_rots" 2 (sp_law_rots K) := ok_law_rots M G_law_rots
  have D10 := ok_law_mended M G_law_mended D9
  have D11 := ok_law_needless M G_law_needless D9
  have D12 : DefR P w K mg base "place_of" 2 (sp_place_of K) := ok_place_of M G_place_of
  have D13 := ok_require_field M G_require_field P2
  have D14 := ok_require_known M G_require_known P4 D13
  have D15 := ok_left_after M G_left_after P1
  have D16 := ok_first_rot M G_first_rot D14 D12 D15 P2 P3 P4 P5
  have D17 := ok_mend_by_swap M G_mend_by_swap D14 D16 P4 P5 M2 K2
  have D18 := ok_needless M G_needless_harvests D14 D16 P4 P5 K2
  have D19 : DefR P w K mg base "_law_same" 8 (spEq K 4) := ok_law_same M G_law_same 4
  exact ok_law M F D1 D2 D3 D4 D5 D7 D8 D10 D17 D18 D11 P4 P5 D19
end HC
open PySem PySem.W PySem.Calls PyProof.Rows in
set_option maxRecDepth 100000 in set_option maxHeartbeats 0 in
theorem PySem.Challenge.cw_harvestcarts_k04_mended_plans_holds : PySem.Challenge.rw_harvestcarts_k04_mended_plans.Holds := by
  w_on; o_law
  refine HandSHeadRun.head_any (r := OpenLaw.row PySem.Challenge.rw_harvestcarts_k04_mended_plans) (q := view (OpenLaw.row PySem.Challenge.rw_harvestcarts_k04_mended_plans).prog [38]) (H := HC.endHk) (ob := HC.endOb) (M := 40000) (loose := HC.endNames) (d := HandSHeadRun.topDef (OpenLaw.row PySem.Challenge.rw_harvestcarts_k04_mended_plans).prog 38) (kwd := []) HC.endOb_eq
    (by kernel_rfl) (fun s => by kernel_rfl) HC.endRun (by kernel_rfl) (by kernel_rfl) (by kernel_rfl) (by rfl) (by first | assumption | decide +kernel) (by decide +kernel) ⟨rfl, rfl, rfl, rfl, rfl, by decide +kernel⟩ ?hw ?hc
  case hw => w_witness2
  case hc =>
    refine L2.walk_ofE (l := PySem.Challenge.rw_harvestcarts_k04_mended_plans) (n := 63) (k := 14) (x := "_law_script") (CX := L2.CX0) rfl (by decide) (by kernel_rfl) ⟨rfl, by decide, by decide⟩ ?F (fun _ _ _ _ z => z)
    intro w mg fa h Y G hmg0
    obtain ⟨K, KX, c⟩ := Y
    have hmg : mg (PySem.Str.ofString "law") = some (.ref fa) := by
      have e : (HandSHeadRun.topDef (OpenLaw.row PySem.Challenge.rw_harvestcarts_k04_mended_plans).prog 38).name = ("law" : PySem.Str) := by kernel_rfl
      rw [← e]
      exact hmg0
    obtain ⟨fd, hb, hF⟩ := HC.endFacts (P := (PySem.Challenge.rw_harvestcarts_k04_mended_plans).prog) (w := w) KX G hmg c
    exact ⟨K, fd, HC.sp_law K, KX, hb, fun H a ns hl _ hS => ⟨a, ns, rfl, hS, hl, fun _ => rfl⟩, hF⟩
namespace HC
section

end
end HC
