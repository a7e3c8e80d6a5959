import PyProof.Rows.All
import Wide.All
import OpenK.AllK
import Wide.FinOn
import KE.KStateDown
import KE.GoesNew
import KE.GoesMore
import HandS.ForMost
import HandS.ForExc
import HandS.Defaults
import HandS.Star
import HandS.Property
import HandS.ClsMeth
import HandS.IsInst
import HandS.Style
import HandS.TupAny
import HandS.Deep
import HandS.Replace
import HandS.Conv
import HandS.Walk
import HandS.Codes
import HandS.Zip
import HandS.Steps
import HandS.Evl
import Lean
import HandS.Head0
import HandS.Head1
import HandS.Head2
import HandS.HeadEnd
import HandS.HeadHook1
import HandS.HeadHook2
import HandS.HeadHook3
import HandS.HeadNt
import PySem.Challenge.RW_harvestcarts_k41_encoded_farms
set_option Elab.async false
set_option linter.all false
set_option maxRecDepth 100000
set_option maxHeartbeats 4100000
/-! promises of defs, methods, makers and properties, and how a call uses them: each by the layer's own rule -/
namespace HC
open PyProof.Rows PySem L2 PySem.Spec
abbrev CXW (P : Program) (w : World) : CXT := L2.CX P w
section
variable {P : Program} {w : World} {K : PySem.W.Frag}
variable {mg : Str → Option Value} {base : Heap} {k : Nat} {f : Addr} {sp : Sp}
/-- a def that takes its parameters by place and keeps sp -/
def FnU (P : Program) (w : World) (K : PySem.W.Frag) (mg : Str → Option Value) (base : Heap) (k : Nat) (f : Addr) (sp : Sp) : Prop := ∃ fd ps, FnOk P w K mg base (CXW P w) k f fd ps sp ∧ Binds K fd ps []
theorem fnr_mk {fd : FuncData} {ps : List Str} (F : FnOk P w K mg base (CXW P w) k f fd ps sp) (B : Binds K fd ps []) : FnU P w K mg base k f sp := ⟨fd, ps, F, B⟩
theorem FnU.raw (F : FnU P w K mg base k f sp) : FnR P w K mg base (CXW P w) k f sp := by
  obtain ⟨fd, ps, F, B⟩ := F
  refine FnR.imp (F.raw B .nil) fun vs H Q E h => ?_
  simpa using h
/-- the module's def x keeps sp -/
structure DefR (P : Program) (w : World) (K : PySem.W.Frag) (mg : Str → Option Value) (base : Heap) (x : Str) (k : Nat) (sp : Sp) : Prop where
  ex : ∃ f, mg x = some (.ref f) ∧ PySem.W.keepIn K (.ref f) = true ∧ FnU P w K mg base k f sp
/-- the method m of the class at C keeps sp -/
structure MethR (P : Program) (w : World) (K : PySem.W.Frag) (mg : Str → Option Value) (base : Heap) (C : Addr) (m : Str) (k : Nat) (sp : Sp) : Prop where
  cl : Cls K C
  ex : ∃ f, Meth K C m f ∧ FnR P w K mg base (CXW P w) k f sp
theorem MethR.at_ {C : Addr} {m : Str} (M : MethR P w K mg base C m k sp) : Meth K C m M.ex.choose := M.ex.choose_spec.1
theorem MethR.fn {C : Addr} {m : Str} (M : MethR P w K mg base C m k sp) : FnR P w K mg base (CXW P w) k M.ex.choose sp := M.ex.choose_spec.2
/-- the class x at C is made by an __init__ that keeps sp -/
structure MakeR (P : Program) (w : World) (K : PySem.W.Frag) (mg : Str → Option Value) (base : Heap) (x : Str) (C : Addr) (k : Nat) (sp : Sp) : Prop where
  at_ : mg x = some (.ref C)
  ex : ∃ f, Mk K C f ∧ FnR P w K mg base (CXW P w) k f sp
/-- the property f of the class at C -/
structure PropR (P : Program) (w : World) (K : PySem.W.Frag) (mg : Str → Option Value) (base : Heap) (C : Addr) (f : Str) (k : Nat) (sp : Sp) : Prop where
  cl : Cls K C
  ex : ∃ p g, PropOf K C f p g ∧ FnU P w K mg base k g sp
/-- what a body owes, the frame's slots laid as start says -/
abbrev Owes (P : Program) (w : World) (K : PySem.W.Frag) (mg : Str → Option Value) (base : Heap) (N : List Str) (qual : Str) (scope : Scope) (body : List Stmt) (k : Nat) (f : Addr) (sp : Sp) (cdv : Value) : Prop :=
  ∀ (A : Around) (outer : List Env) (s : Shared) (H : Hp) (vs : List V) (Q : VK) (E : XK),
    Room k (A.deeper (envOfC qual scope s.heap.objs.size f cdv)) → sp vs H Q E →
    ∃ t, PSs (cxOf (CXW P w) P w K mg base N qual scope f cdv A outer s H E) body t ∧ t { nx := fun _ H' => Q .non H', rt := Q } (start N vs) H
/-- def f(self, *v): by the layer's fn_star -/
theorem fnr_star1 {x qual : Str} {params : Arguments} {body : List Stmt} {scope : Scope} {fd : FuncData} {N : List Str} {p1 pv : Str} (F : FunD K x qual params body scope [] [] f fd) (S : FnScope N ([p1] ++ [pv]) scope)
    (h0 : ∀ (kV doc pm : Value) (an : Option Addr) (cdv ct : Value) (a : Value), bindArgs (PySem.W.fnOf x qual params body scope .none kV doc pm an cdv ct) ⟨[a], []⟩ = (newTuple [] >>= fun t => pure [(p1, a), (pv, t)]))
    (h1 : ∀ (kV doc pm : Value) (an : Option Addr) (cdv ct : Value) (a r : Value) (rs : List Value), bindArgs (PySem.W.fnOf x qual params body scope .none kV doc pm an cdv ct) ⟨a :: r :: rs, []⟩ = (newTuple (r :: rs) >>= fun t => pure [(p1, a), (pv, t)]))
    (owes : ∀ cdv, Owes P w K mg base N qual scope body k f sp cdv) :
    FnR P w K mg base (CXW P w) (k + 1) f (fun vs H Q E => ∃ w0 rest, vs = w0 :: rest ∧ rest.length ≤ sizeLine ∧ ∀ p, H p = none → sp [w0, V.ref p] (upd H p (.tup rest)) Q E) := by
  rcases F.ex with ⟨c1, c2, dv, kv, dc, pm, an, cdv, ct, sl, e, at_, code, dfl, _⟩
  subst e
  have dn : dv = .none := dfl.elim (fun z => z.2) (fun z => absurd rfl z.1)
  subst dn
  have both := StX.bind_star1 (B := fun us => bindArgs (PySem.W.fnOf x qual params body scope .none kv dc pm an cdv ct) ⟨us, []⟩) (h0 kv dc pm an cdv ct) (h1 kv dc pm an cdv ct)
  exact FnR.imp (StX.fn_star (P := P) (w := w) (mg := mg) (base := base) (k := k) (sp := sp) at_ code S StX.cxUp both (owes cdv)) fun vs H Q E ⟨w0, rest, z, hl, h⟩ => ⟨[w0], rest, z, rfl, hl, h⟩
end
section
variable {X : Cx} {k : Nat} {C : Addr} {sp : Sp} {E : XK} {x m f : Str} {e o : Expr} {es : List Expr} {ta te : TE} {t : TA} {p pos apos : Pos}
theorem passN : Passes (CXW X.prog X.w) X E0 := passL
/-- f(e, ..) -/
def tCallR (sp : Sp) (E : XK) (t : TA) : TE := fun σ H Q => t σ H fun vs H1 => sp vs H1 Q E
theorem tCallR_eq (sp : Sp) (E : XK) (t : TA) : tCall sp [] E t = tCallR sp E t := by
  funext σ H Q
  simp only [tCall, tCallR, List.append_nil]
theorem pe_callR (D : DefR X.prog X.w X.K X.mg X.base x k sp) (room : Room k X.A) (leave : Passes (CXW X.prog X.w) X E) (args : PA X (e :: es) t) (glob : Gl X x := by rfl) (nodeb : (x == ("__debug__" : Str)) = false := by decide) (one : starEach (e :: es) X.env = (false, eval e X.env) :: starEach es X.env := by rfl) (plain : (backTo pos (starEach es X.env)).any (·.1) = false := by rfl) : PE X (.Call (.Name x p) (e :: es) [] pos) (tCallR sp E t) := by
  obtain ⟨g, at_, kp, fd, ps, F, B⟩ := D.ex
  rw [← tCallR_eq]
  exact pe_call F room glob at_ kp B .nil leave args nodeb one plain
/-- f( *e) -/
def tStar1 (K : PySem.W.Frag) (te : TE) : TA := fun σ H Q => te σ H fun y H1 => ∃ a xs, y = V.ref a ∧ (SqT K H1 a xs ∨ SqL K H1 a xs) ∧ Q xs H1
/-- C( *e): the class stands in K, so it is called as a def of K is -/
theorem pe_makeS (M : MakeR X.prog X.w X.K X.mg X.base x C k sp) (room : Room (k + 1) X.A) (leave : Passes (CXW X.prog X.w) X E) (arg : PE X e te) (glob : Gl X x := by rfl) (nodeb : (x == ("__debug__" : Str)) = false := by decide) (one : starEach [.Starred e apos] X.env = [(true, eval e X.env)] := by rfl) : PE X (.Call (.Name x p) [.Starred e apos] [] pos) (StX.tMakeR C sp E (tStar1 X.K te)) := by
  constructor
  intro pn sh σ H Q inv h
  obtain ⟨g, made, F⟩ := M.ex
  have argRun := arg.run pn sh σ H _ inv h
  refine wpAny_Call_Name_kw (ld_glob inv glob M.at_ (PySem.W.callWith_S (h₀ := X.base) inv.ok.mod.kin made.kp (thn argRun ?_) one) nodeb)
  rintro v s1 ⟨y, H1, inv1, rel, a, xs, rfl, sq, q⟩
  cases rel
  exact StX.star_any inv1 sq fun us s2 inv2 vals => ⟨inv2.kIn, StX.run_makeR made F room leave inv2 vals q⟩
/-- C(e, ..) -/
theorem pe_makeP (M : MakeR X.prog X.w X.K X.mg X.base x C k sp) (room : Room (k + 1) X.A) (leave : Passes (CXW X.prog X.w) X E) (args : PA X (e :: es) t) (glob : Gl X x := by rfl) (nodeb : (x == ("__debug__" : Str)) = false := by decide) (one : starEach (e :: es) X.env = (false, eval e X.env) :: starEach es X.env := by rfl) (plain : (backTo pos (starEach es X.env)).any (·.1) = false := by rfl) : PE X (.Call (.Name x p) (e :: es) [] pos) (StX.tMakeR C sp E t) := by
  obtain ⟨g, made, F⟩ := M.ex
  exact StX.pe_makeR made F room glob M.at_ leave args nodeb one plain
/-- o.f, a property -/
def tPropR (C : Addr) (sp : Sp) (ta : TE) : TE := tProp C sp [] E0 ta
theorem pe_propR (M : PropR X.prog X.w X.K X.mg X.base C f k sp) (room : Room (k + 1) X.A) (obj : PE X e ta) (plain : attributeBase e f X.env (eval e X.env) = eval e X.env := by rfl) : PE X (.Attribute e f pos) (tPropR C sp ta) := by
  obtain ⟨pr, g, is, fd, ps, F, B⟩ := M.ex
  exact pe_prop (CX := CXW X.prog X.w) obj M.cl is F room B .nil (passL (X := X.nox)) plain
/-- len(o), o an instance with an own __len__ -/
def rLenO (C : Addr) (sp : Sp) : List V → Hp → VK → Prop := fun xs H Q => ∃ a dx fs, xs = [.ref a] ∧ H a = some (.ins C dx fs) ∧ sp [.ref a] H (fun v H' => ∃ n : Int, v = .int n ∧ 0 ≤ n ∧ n < 2 ^ 63 ∧ Q (.int n) H') E0
theorem call_lenO (M : MethR X.prog X.w X.K X.mg X.base C "__len__" k sp) (room : Room (k + 1) X.A) : CallR X (.builtin "len") (rLenO C sp) := by
  rintro pn sh σ H _ us Q inv rel ⟨a, dx, fs, rfl, obj, owed⟩
  obtain ⟨_, rfl, rfl⟩ := vals1 rel
  have look := (ins_get inv.hok obj).choose_spec.1.look
  have call := M.fn X.A.in1 X.stack sh H [.ref a] [.ref a] _ E0 room.in1 inv.env0.in1 (.cons rfl .nil) owed
  refine PySem.W.len_K inv.fr.choose_spec inv.mod.kin look.choose_spec.1 M.at_.at_ M.at_.fn (wpAny_call (codeAny_mono call ?_))
  rintro (er | fl) sh' got
  · rcases got with ⟨_, _, _, _, _, _, _, _, _, _, _, _, none_leaves⟩
    exact none_leaves.elim
  · cases fl with
    | ret val =>
      obtain ⟨v, H', inv', rel', n, rfl, low, high, q⟩ := inv.after got
      obtain ⟨tk, rfl⟩ := rel'
      exact ⟨⟨low, high⟩, V.int n, H', inv'.tok _, ⟨_, rfl⟩, q⟩
    | _ => exact got.elim
end
/-! ### enumerate over a tuple: the turns by GoesN.enumFrom over Draws.tuple; only the call with one argument is walked here -/
namespace EnT
/-- the record that enumerate() makes over the iterator at it -/
abbrev fresh (it : Addr) : Obj := { cls := .type "enumerate", data := .fields #[.none, .bool false, .ref it, rawInt 0, .none, .none] }
theorem new_of {v : Value} {o : Obj} {Z : Heap → Prop} (B : Begins v o Z) :
    Meets (Builtin.«enumerate.__new__» ⟨[.type "enumerate", v], []⟩) (fun _ R s => Z s.heap ∧ R (.ok (.ret (.ref (s.heap.push o).objs.size))) { s with heap := (s.heap.push o).push (fresh s.heap.objs.size) }) := by
  refine .of_wp fun prog w A R s owed => ?_
  have sub := sub_enumerate
  obtain ⟨start, goal⟩ := owed
  wp_walk using B.iter prog w _ _ _ _ start
  refine wpAny_stack_any fun frames => ?_
  refine wpAny_pure ?_
  split
  · rename_i c _ _ _ _ _
    generalize (c == Value.type "enumerate") = short
    cases short <;> (wp_walk using B.iter prog w _ _ _ _ start) <;> exact ⟨_, rfl, goal⟩
  · wp_walk using B.iter prog w _ _ _ _ start
    exact ⟨_, rfl, goal⟩
/-- enumerate(v): an iterator of v's, then the record over it -/
theorem call_of {prog : Program} {w : World} {A : Around} {E : Value → Shared → Prop} {s : Shared} {v : Value} {o : Obj} {Z : Heap → Prop} {Q : Value → Shared → Prop} (B : Begins v o Z) (start : Z s.heap)
    (go : ∀ h, (s.heap.push o).push (fresh s.heap.objs.size) = h → h.get? s.heap.objs.size = some o → IsEnum h (s.heap.objs.size + 1) s.heap.objs.size 0 .none → (∀ b ob, s.heap.get? b = some ob → h.get? b = some ob) →
      Q (.ref (s.heap.objs.size + 1)) { s with heap := h }) : wpAny (model prog w) A (call (.type "enumerate") [v]) Q E s := by
  have size1 : (s.heap.push o).objs.size = s.heap.objs.size + 1 := Heap.size_push ..
  have mine : ((s.heap.push o).push (fresh s.heap.objs.size)).get? (s.heap.objs.size + 1) = some (fresh s.heap.objs.size) := by
    rw [← size1]; exact Heap.get?_push_size _ rfl
  refine callType_new F.called_enumerate (by decide) (F.typeCall_enumerate_1 v) (F.newCall_enumerate_1 v) (fun obj => F.args_object_init_2 obj v) F.entry_enumerate_new (new_of B) ⟨start, ?_⟩
  refine ⟨⟨fresh s.heap.objs.size, ?_, rfl⟩, ?_⟩
  · show Heap.get? _ (s.heap.push o).objs.size = _
    rw [size1]
    exact mine
  · rw [size1]
    exact go _ rfl (Heap.get?_push_of_some _ (Heap.get?_push_size _ B.free)) mine fun b ob z => Heap.get?_push_of_some _ (Heap.get?_push_of_some _ z)
end EnT
/-- enumerate over the tuple at a, of n items: pairs, each new -/
def IteT (K : PySem.W.Frag) (a : Addr) (n : Nat) : It where
  go i H := i < n ∧ ∃ xs, SqT K H a xs ∧ xs.length = n
  yld i H v H' := ∃ T x, v = .ref T ∧ H T = none ∧ H' = upd H T (.tup [.int (i : Nat), x]) ∧ ∀ xs, SqT K H a xs → xs[i]? = some x
  stop i H := n ≤ i ∧ ∃ xs, SqT K H a xs ∧ xs.length = n
/-- what the heap says between two turns -/
structure TnE (a e it : Addr) (n i : Nat) (h : Heap) : Prop where
  le : i ≤ n
  rec_ : ∃ old, IsEnum h e it (0 + (i : Int)) old
  iter : h.IsTupleIter it a i
theorem two {b x y : Addr} (h : b ∈ [x, y]) : b = x ∨ b = y := by simpa using h
section
variable {P : Program} {w : World} {K : PySem.W.Frag} {elts : List Expr} {kk n : Nat} {tpos : Pos} {a e it : Addr}
theorem walkE {A : Around} (calm : A.in1.handled = none) (ai : a ≠ it) (ae : a ≠ e) (ei : e ≠ it) (cells : Array Value) :
    GoesN P w A (.Tuple elts kk tpos) e [e, it, a] [e, it] cells.size (fun i h₀ v h => ∃ T t x, v = .ref T ∧ h₀.objs.size ≤ T ∧ cells[i]? = some x ∧ h.IsTuple T #[.int (0 + (i : Int)) t, x]) (fun i h => (∃ old, IsEnum h e it (0 + (i : Int)) old) ∧ h.IsTupleIter it a i ∧ h.IsTuple a cells) :=
  GoesN.enumFrom 0 (Draws.tuple calm it a ai cells) e ei (by simp [ei, Ne.symm ae]) (by simp)
theorem turn_enumT (ai : a ≠ it) (ae : a ≠ e) (ei : e ≠ it) : Turn P w K (.Tuple elts kk tpos) (IteT K a n) [e, it] e (TnE a e it n) := by
  constructor
  · simp
  · intro i h now b hb
    rcases two hb with rfl | rfl
    · obtain ⟨old, z⟩ := now.rec_
      exact ⟨_, z, nofun⟩
    · obtain ⟨o, z, _, dat⟩ := now.iter
      refine ⟨o, z, fun v c => ?_⟩
      rw [dat] at c
      exact nomatch c
  · intro i h h' now same
    refine ⟨now.le, ?_, now.iter.at (same it (by simp))⟩
    obtain ⟨old, z⟩ := now.rec_
    exact ⟨old, same e (by simp) _ z⟩
  · rintro X rfl rfl rfl calm i pn s σ H E inv fp now ⟨lt, xs, sq, len⟩
    obtain ⟨cells, vals, tup, _⟩ := inv.tuple sq
    have sz : cells.toArray.size = n := by
      have := vals.length
      simp only [List.size_toArray]
      omega
    refine (walkE (P := X.prog) (w := X.w) (A := X.A) (show X.A.in1.handled = none from inv.ok.hd calm) ai ae ei cells.toArray).goes i s _ E (by omega) ⟨now.rec_, now.iter, tup⟩ ?_
    rintro _ h' tk ⟨T, t, u, rfl, new, at_, pair⟩ ⟨rec', iter', _⟩ same _
    have atX : i < xs.length := by omega
    obtain ⟨u', hu, ru⟩ := vals.get (List.getElem?_eq_getElem atX)
    have uu : u' = u := by
      rw [List.getElem?_toArray] at at_
      exact Option.some.inj (hu.symm.trans at_)
    subst uu
    rw [Int.zero_add] at pair
    have ob : ObjOk X.prog X.w (upd H T (.tup [.int (i : Nat), xs[i]])) h' T (.tup [.int (i : Nat), xs[i]]) := by
      refine ⟨?_, _, .cons ⟨t, rfl⟩ (.cons ru .nil), pair⟩
      show 2 ≤ sizeLine
      decide
    refine ⟨.ref T, _, inv.turnedNew same fp new ob, rfl, ⟨T, xs[i], rfl, inv.hok.fresh new, rfl, fun ys hy => ?_⟩, ⟨lt, rec', iter'⟩, fun b hb => ?_⟩
    · rw [inv.tuple_inj hy sq]
      exact List.getElem?_eq_getElem atX
    · refine (upd_ne fun z => ?_).trans (fp b hb).1
      obtain ⟨o, live⟩ : ∃ o, s.heap.get? b = some o := by
        rcases two hb with rfl | rfl
        · obtain ⟨old, q⟩ := now.rec_
          exact ⟨_, q⟩
        · obtain ⟨o, q, _⟩ := now.iter
          exact ⟨o, q⟩
      have := Heap.lt_size live
      rw [z] at this
      exact Nat.lt_irrefl _ (Nat.lt_of_lt_of_le this new)
  · rintro X rfl rfl rfl calm i pn s σ H E inv fp now ⟨ge, xs, sq, len⟩
    obtain ⟨cells, vals, tup, _⟩ := inv.tuple sq
    have sz : cells.toArray.size = i := by
      have := vals.length
      have := now.le
      simp only [List.size_toArray]
      omega
    have W := walkE (P := X.prog) (w := X.w) (A := X.A) (elts := elts) (kk := kk) (tpos := tpos) (show X.A.in1.handled = none from inv.ok.hd calm) ai ae ei cells.toArray
    rw [sz] at W
    exact W.stops s _ E ⟨now.rec_, now.iter, tup⟩ fun h' tk same _ => inv.turnedL same fp
  · intro A i s Q E now q
    obtain ⟨old, z⟩ := now.rec_
    exact wpAny_pyIter_enum z q
end
def iEnumT (K : PySem.W.Frag) (ta : TA) : TI := fun σ H R => ta σ H fun vs H1 => ∃ a xs, vs = [.ref a] ∧ SqT K H1 a xs ∧ R (IteT K a xs.length) H1
theorem pi_enumT {X : Cx} {e : Expr} {ta : TA} {p pos tpos : Pos} {elts : List Expr} {kk : Nat} (glob : Gl X "enumerate") (free : X.mg "enumerate" = none) (args : PA X [e] ta) (one : starEach [e] X.env = [(false, eval e X.env)] := by rfl) : PI X (.Tuple elts kk tpos) (.Call (.Name "enumerate" p) [e] [] pos) (iEnumT X.K ta) := by
  constructor
  intro pn s σ H R inv h
  refine Call_ (ld_blt inv glob free boot_enumerate ?_)
  refine PyProof.Rows.callWith_type1 (thn (args.run pos pn s σ H _ inv h) ?_) one rfl
  rintro us s1 ⟨vs, H1, inv1, rel, a, xs, rfl, sq, q⟩
  obtain ⟨_, rfl, rfl⟩ := vals1 rel
  obtain ⟨cells, vals, tup, _⟩ := inv1.tuple sq
  have below : a < s1.heap.objs.size := by
    obtain ⟨o, z, _⟩ := tup
    exact Heap.lt_size z
  refine EnT.call_of (begins_tuple a cells.toArray) tup fun h' _ isIter isRec same => wpAny_pyIter_enum isRec ?_
  refine ⟨s1.heap.objs.size + 1, [s1.heap.objs.size + 1, s1.heap.objs.size], TnE a _ _ xs.length, IteT X.K a xs.length, H1, rfl, inv1.kept (t' := s1.toks) same, turn_enumT ?_ ?_ ?_, ⟨Nat.zero_le _, ⟨.none, isRec⟩, _, isIter, rfl, rfl⟩, fun b hb => ?_, q⟩
  · exact Nat.ne_of_lt below
  · exact Nat.ne_of_lt (Nat.lt_succ_of_lt below)
  · exact Nat.succ_ne_self _
  · have up : s1.heap.objs.size ≤ b := by
      rcases two hb with z | z <;> rw [z]
      · exact Nat.le_succ _
      · exact Nat.le_refl _
    exact inv1.fpOk up (inv1.hok.fresh up)
theorem walk_enumT {K : PySem.W.Frag} {a : Addr} {xs : List V} : Walk (IteT K a xs.length) xs.length (fun H => SqT K H a xs) (YPair (fun i => some (.int (i : Nat))) (fun i => xs[i]?)) := by
  constructor
  · exact fun i H lt sq => ⟨lt, xs, sq, rfl⟩
  · exact fun H sq => ⟨Nat.le_refl _, xs, sq, rfl⟩
  · rintro i H v H' _ sq ⟨T, x, e1, e2, e3, e4⟩
    exact ⟨T, _, x, e1, e2, e3, rfl, e4 xs sq⟩
end HC
/-! operators whatever the types, and the steps of a reading -/
namespace HC
open PyProof.Rows PySem L2 PySem.Spec

/-! ### heaps -/
theorem same_new {H : Hp} {p : Addr} {o : HO} (h : H p = none) : Same H (upd H p o) := fun b u e => by rw [upd_ne (ne_of_none e h)]; exact e
/-- all but d is as it was -/
def Keep (d : Addr) (H H' : Hp) : Prop := ∀ b o, b ≠ d → H b = some o → H' b = some o
theorem Keep.refl (d : Addr) (H : Hp) : Keep d H H := fun _ _ _ h => h
theorem Keep.trans {d : Addr} {H H1 H2 : Hp} (a : Keep d H H1) (b : Keep d H1 H2) : Keep d H H2 := fun c o n h => b c o n (a c o n h)
theorem keep_upd {H : Hp} {d : Addr} {o : HO} : Keep d H (upd H d o) := fun b u n e => by rw [upd_ne n]; exact e
end HC
namespace L2
open PySem PySem.Spec PyProof.Rows HC
theorem Same.keep {d : Addr} {H H' : Hp} (a : Same H H') : Keep d H H' := fun b o _ h => a b o h
end L2
namespace HC
open PyProof.Rows PySem L2 PySem.Spec
theorem keep_same {d : Addr} {H H' : Hp} (a : Keep d H H') (h : H d = none) : Same H H' := fun b o e => a b o (ne_of_none e h) e
theorem same_l {K : PySem.W.Frag} {H H' : Hp} {a : Addr} {xs : List V} (e : Same H H') (h : SqL K H a xs) : SqL K H' a xs := e.seq h
theorem same_t {K : PySem.W.Frag} {H H' : Hp} {a : Addr} {xs : List V} (e : Same H H') (h : SqT K H a xs) : SqT K H' a xs := h.imp (fun z => z.imp (e a _) fun ⟨o, q⟩ => ⟨o, e a _ q⟩) id
mutual
theorem dp_same {K : PySem.W.Frag} {H H' : Hp} (e : Same H H') : ∀ (d : PyData) (v : V), Dp K H v d → Dp K H' v d
  | .none, _, .non => .non
  | .bool _, _, .bl b => .bl b
  | .int _, _, .int i => .int i
  | .str _, _, .str x => .str x
  | .list ds, _, .lst h a => .lst (same_l e h) (dp_sameAll e ds _ a)
  | .tuple ds, _, .tup h a => .tup (same_t e h) (dp_sameAll e ds _ a)
theorem dp_sameAll {K : PySem.W.Frag} {H H' : Hp} (e : Same H H') : ∀ (ds : List PyData) (vs : List V), DpAll K H vs ds → DpAll K H' vs ds
  | [], _, .nil => .nil
  | d :: ds, _, .cons a b => .cons (dp_same e d _ a) (dp_sameAll e ds _ b)
end
end HC
namespace L2
open PySem PySem.Spec PyProof.Rows HC
theorem Same.dp {K : PySem.W.Frag} {H H' : Hp} {v : V} {d : PyData} (e : Same H H') (h : Dp K H v d) : Dp K H' v d := dp_same e d v h
theorem Same.dpa {K : PySem.W.Frag} {H H' : Hp} {vs : List V} {ds : List PyData} (e : Same H H') (h : DpAll K H vs ds) : DpAll K H' vs ds := dp_sameAll e ds vs h
theorem DpAll.length {K : PySem.W.Frag} {H : Hp} : ∀ {vs : List V} {ds : List PyData}, DpAll K H vs ds → vs.length = ds.length
  | _, _, .nil => rfl
  | _, _, .cons _ b => congrArg Nat.succ (DpAll.length b)
theorem DpAll.get {K : PySem.W.Frag} {H : Hp} {vs : List V} {ds : List PyData} {i : Nat} {v : V} (h : DpAll K H vs ds) (e : vs[i]? = some v) : ∃ d, ds[i]? = some d ∧ Dp K H v d :=
  match i, h, e with
  | 0, .cons a _, e => ⟨_, rfl, Option.some.inj e ▸ a⟩
  | j + 1, .cons _ b, e => DpAll.get (i := j) b e
theorem DpAll.getD {K : PySem.W.Frag} {H : Hp} {vs : List V} {ds : List PyData} {i : Nat} {d : PyData} (h : DpAll K H vs ds) (e : ds[i]? = some d) : ∃ v, vs[i]? = some v ∧ Dp K H v d :=
  match i, h, e with
  | 0, .cons a _, e => ⟨_, rfl, Option.some.inj e ▸ a⟩
  | j + 1, .cons _ b, e => DpAll.getD (i := j) b e
theorem DpAll.append {K : PySem.W.Frag} {H : Hp} : ∀ {vs ws : List V} {ds es : List PyData}, DpAll K H vs ds → DpAll K H ws es → DpAll K H (vs ++ ws) (ds ++ es)
  | _, _, _, _, .nil, s => s
  | _, _, _, _, .cons r t, s => .cons r (DpAll.append t s)
end L2
namespace HC
open PyProof.Rows PySem L2 PySem.Spec
theorem dpa_take {K : PySem.W.Frag} {H : Hp} : ∀ {vs : List V} {ds : List PyData} (n : Nat), DpAll K H vs ds → DpAll K H (vs.take n) (ds.take n)
  | _, _, 0, _ => .nil
  | _, _, _ + 1, .nil => .nil
  | _, _, n + 1, .cons r t => .cons r (dpa_take n t)
theorem getm {α β : Type} {f : α → β} {l : List α} {i : Nat} {d : β} (h : (l.map f)[i]? = some d) : ∃ x, l[i]? = some x ∧ f x = d := by
  rw [List.getElem?_map] at h
  exact Option.map_eq_some_iff.mp h
theorem dpa_ints {K : PySem.W.Frag} {H : Hp} : ∀ ns : List Int, DpAll K H (ns.map V.int) (ns.map PyData.int)
  | [] => .nil
  | n :: r => .cons (.int n) (dpa_ints r)
theorem dpa_strs {K : PySem.W.Frag} {H : Hp} : ∀ ns : List Str, DpAll K H (ns.map V.str) (ns.map PyData.str)
  | [] => .nil
  | n :: r => .cons (.str n) (dpa_strs r)


/-! ### data -/
abbrev pInts (ns : List Int) : PyData := .list (ns.map .int)
theorem dp_lst {K : PySem.W.Frag} {H : Hp} {a : Addr} {xs : List V} {ds : List PyData} (h : H a = some (.lst xs)) (h2 : DpAll K H xs ds) : Dp K H (.ref a) (.list ds) := .lst (SqL.of h) h2
theorem dp_tup {K : PySem.W.Frag} {H : Hp} {a : Addr} {xs : List V} {ds : List PyData} (h : H a = some (.tup xs)) (h2 : DpAll K H xs ds) : Dp K H (.ref a) (.tuple ds) := .tup (SqT.of h) h2
end HC
namespace L2
open PySem PySem.Spec PyProof.Rows HC
theorem Dp.inv_l {K : PySem.W.Frag} {H : Hp} {v : V} {ds : List PyData} (h : Dp K H v (.list ds)) : ∃ a xs, v = .ref a ∧ SqL K H a xs ∧ DpAll K H xs ds := by
  cases h with
  | lst h1 h2 => exact ⟨_, _, rfl, h1, h2⟩
theorem Dp.inv_t {K : PySem.W.Frag} {H : Hp} {v : V} {ds : List PyData} (h : Dp K H v (.tuple ds)) : ∃ a xs, v = .ref a ∧ SqT K H a xs ∧ DpAll K H xs ds := by
  cases h with
  | tup h1 h2 => exact ⟨_, _, rfl, h1, h2⟩
theorem Dp.inv_i {K : PySem.W.Frag} {H : Hp} {v : V} {i : Int} (h : Dp K H v (.int i)) : v = .int i := by cases h; rfl
theorem Dp.inv_s {K : PySem.W.Frag} {H : Hp} {v : V} {i : Str} (h : Dp K H v (.str i)) : v = .str i := by cases h; rfl
theorem Dp.inv_b {K : PySem.W.Frag} {H : Hp} {v : V} {i : Bool} (h : Dp K H v (.bool i)) : v = .bl i := by cases h; rfl
theorem Dp.inv_n {K : PySem.W.Frag} {H : Hp} {v : V} (h : Dp K H v .none) : v = .non := by cases h; rfl
theorem DpAll.inv1 {K : PySem.W.Frag} {H : Hp} {vs : List V} {d : PyData} {ds : List PyData} (h : DpAll K H vs (d :: ds)) : ∃ v r, vs = v :: r ∧ Dp K H v d ∧ DpAll K H r ds :=
  match h with | .cons first more => ⟨_, _, rfl, first, more⟩
theorem DpAll.inv0 {K : PySem.W.Frag} {H : Hp} {vs : List V} (h : DpAll K H vs []) : vs = [] := by cases h; rfl
theorem DpAll.inv2 {K : PySem.W.Frag} {H : Hp} {vs : List V} {d e : PyData} (h : DpAll K H vs [d, e]) : ∃ v u, vs = [v, u] ∧ Dp K H v d ∧ Dp K H u e := by
  obtain ⟨v, r, rfl, h1, h2⟩ := h.inv1
  obtain ⟨u, r, rfl, h3, h4⟩ := h2.inv1
  obtain rfl := h4.inv0
  exact ⟨v, u, rfl, h1, h3⟩
end L2
namespace HC
open PyProof.Rows PySem L2 PySem.Spec

/-! data without lists stand whatever list or instance changes -/
mutual
def noL : PyData → Bool
  | .list _ => false
  | .tuple ds => noLs ds
  | .none | .bool _ | .int _ | .str _ | .dict _ => true
def noLs : List PyData → Bool
  | [] => true
  | d :: ds => noL d && noLs ds
end
def NotT : Option HO → Prop
  | some (.tup _) => False
  | some (.frz _ (.tup _)) => False
  | _ => True
theorem keep_t {K : PySem.W.Frag} {H H' : Hp} {d a : Addr} {xs : List V} (e : Keep d H H') (hd : NotT (H d)) (h : SqT K H a xs) : SqT K H' a xs := by
  refine h.imp (fun z => z.imp (fun q => e a _ (fun ad => ?_) q) (fun ⟨o, q⟩ => ⟨o, e a _ (fun ad => ?_) q⟩)) id
  all_goals (subst ad; rw [q] at hd; exact hd)
mutual
theorem dp_keep {K : PySem.W.Frag} {H H' : Hp} {d : Addr} (e : Keep d H H') (hd : NotT (H d)) : ∀ (x : PyData) (v : V), noL x = true → Dp K H v x → Dp K H' v x
  | .none, _, _, .non => .non
  | .bool _, _, _, .bl b => .bl b
  | .int _, _, _, .int i => .int i
  | .str _, _, _, .str x => .str x
  | .list ds, _, n, .lst h a => by simp [noL] at n
  | .tuple ds, _, n, .tup h a => .tup (keep_t e hd h) (dp_keepAll e hd ds _ (by simpa [noL] using n) a)
theorem dp_keepAll {K : PySem.W.Frag} {H H' : Hp} {d : Addr} (e : Keep d H H') (hd : NotT (H d)) : ∀ (xs : List PyData) (vs : List V), noLs xs = true → DpAll K H vs xs → DpAll K H' vs xs
  | [], _, _, .nil => .nil
  | x :: xs, _, n, .cons a b => by
    have n' : noL x = true ∧ noLs xs = true := by simpa [noLs] using n
    exact .cons (dp_keep e hd x _ n'.1 a) (dp_keepAll e hd xs _ n'.2 b)
end
theorem noLs_of {ds : List PyData} (h : ∀ d ∈ ds, noL d = true) : noLs ds = true := by
  induction ds with
  | nil => rfl
  | cons d r ih => simp [noLs, h d (by simp), ih fun e he => h e (by simp [he])]
theorem notT_l {H : Hp} {d : Addr} {xs : List V} (h : H d = some (.lst xs)) : NotT (H d) := by rw [h]; trivial
theorem notT_n {H : Hp} {d : Addr} (h : H d = none) : NotT (H d) := by rw [h]; trivial
theorem notT_i {H : Hp} {d C dx : Addr} {fs : List (Str × V)} (h : H d = some (.ins C dx fs)) : NotT (H d) := by rw [h]; trivial
/-- data that the layer's == speaks of, to a depth -/
def Sh (n : Nat) (d : PyData) : Prop := d.canLay0 = true ∧ d.depth ≤ n
theorem Sh.ok {n : Nat} {d : PyData} (h : Sh n d) (hn : n ≤ 64) : SeqAt.shaped d = true := by
  unfold SeqAt.shaped
  rw [h.1, Bool.true_and]
  exact decide_eq_true (Nat.le_trans h.2 hn)
theorem Sh.mono {n m : Nat} {d : PyData} (h : Sh n d) (hn : n ≤ m) : Sh m d := ⟨h.1, Nat.le_trans h.2 hn⟩
theorem sh_i (i : Int) : Sh 0 (.int i) := ⟨by simp [PyData.canLay0], by simp [PyData.depth]⟩
theorem sh_s {i : Str} (h : PyData.strOk i = true) : Sh 0 (.str i) := ⟨by simp [PyData.canLay0, h], by simp [PyData.depth]⟩
theorem sh_b (i : Bool) : Sh 0 (.bool i) := ⟨by simp [PyData.canLay0], by simp [PyData.depth]⟩
theorem sh_n : Sh 0 .none := ⟨by simp [PyData.canLay0], by simp [PyData.depth]⟩
theorem lay_all {ds : List PyData} (h : ∀ d ∈ ds, d.canLay0 = true) : PyData.canLayAll0 ds = true := by
  induction ds with
  | nil => simp [PyData.canLayAll0]
  | cons d r ih => simp [PyData.canLayAll0, h d (by simp), ih fun e he => h e (by simp [he])]
theorem depth_all {ds : List PyData} {n : Nat} (h : ∀ d ∈ ds, d.depth ≤ n) : PyData.depthAll ds ≤ n := by
  induction ds with
  | nil => simp [PyData.depthAll]
  | cons d r ih =>
    have h1 := h d (by simp)
    have h2 := ih fun e he => h e (by simp [he])
    simp only [PyData.depthAll]
    omega
theorem sh_l {n : Nat} {ds : List PyData} (h : ∀ d ∈ ds, Sh n d) : Sh (n + 1) (.list ds) := by
  refine ⟨by simp only [PyData.canLay0]; exact lay_all fun d hd => (h d hd).1, ?_⟩
  have := depth_all fun d hd => (h d hd).2
  simp only [PyData.depth]
  omega
theorem sh_t {n : Nat} {ds : List PyData} (h : ∀ d ∈ ds, Sh n d) : Sh (n + 1) (.tuple ds) := by
  refine ⟨by simp only [PyData.canLay0]; exact lay_all fun d hd => (h d hd).1, ?_⟩
  have := depth_all fun d hd => (h d hd).2
  simp only [PyData.depth]
  omega
theorem sh_ints (ns : List Int) : Sh 1 (pInts ns) := sh_l fun d hd => by
  obtain ⟨i, _, rfl⟩ := List.mem_map.mp hd
  exact sh_i i
theorem eqv_refl {n : Nat} {d : PyData} (h : Sh n d) : PyData.eqv d d = true := SeqAt.eqv_refl d h.1
theorem eqv_nil (ds : List PyData) : PyData.eqv (.list ds) (.list []) = ds.isEmpty := by
  cases ds <;> simp [PyData.eqv, PyData.eqvAll]
theorem eqv_nilT (ds : List PyData) : PyData.eqv (.tuple ds) (.tuple []) = ds.isEmpty := by
  cases ds <;> simp [PyData.eqv, PyData.eqvAll]
/-! ### operators -/
section
variable {X : Cx} {K : PySem.W.Frag} {H H' : Hp} {Q : VK} {σ : L2.St} {D : Ends}
def uAdd (K : PySem.W.Frag) : R2 := fun x y H Q => rI0 (fun i j => .int (i + j)) x y H Q ∨ (∃ i j, x = .str i ∧ y = .str j ∧ i.length + j.length ≤ sizeLine ∧ Q (.str (i ++ j)) H) ∨ rCat x y H Q ∨ rCatA K x y H Q
theorem op_addU : OpR X (binaryOp .Add) (uAdd X.K) := op_add.or (op_add_str.or (op_cat.or op_catA))
theorem g_add_i {i j : Int} (h : Q (.int (i + j)) H) : uAdd K (.int i) (.int j) H Q := .inl ⟨i, j, rfl, rfl, h⟩
theorem g_add_s {i j : Str} (hz : i.length + j.length ≤ sizeLine) (h : Q (.str (i ++ j)) H) : uAdd K (.str i) (.str j) H Q := .inr (.inl ⟨i, j, rfl, rfl, hz, h⟩)
theorem g_add_l {a b : Addr} {xs ys : List V} (h1 : H a = some (.lst xs)) (h2 : H b = some (.lst ys)) (hz : xs.length + ys.length ≤ sizeLine)
    (h : ∀ p H', H p = none → Same H H' → H' p = some (.lst (xs ++ ys)) → Q (.ref p) H') : uAdd K (.ref a) (.ref b) H Q :=
  .inr (.inr (.inl ⟨a, b, xs, ys, rfl, rfl, h1, h2, hz, fun p hp => h p _ hp (same_new hp) upd_same⟩))
theorem g_sub {i j : Int} (h : Q (.int (i - j)) H) : rI0 (fun i j => .int (i - j)) (.int i) (.int j) H Q := ⟨i, j, rfl, rfl, h⟩
theorem g_neg {i : Int} (h : Q (.int (-i)) H) : rU (fun i => .int (-i)) (.int i) H Q := ⟨i, rfl, h⟩
theorem g_mul {i j : Int} (hc : CMul i j) (h : Q (.int (i * j)) H) : rI CMul (fun i j => .int (i * j)) (.int i) (.int j) H Q := ⟨i, j, rfl, rfl, hc, h⟩
theorem g_fdiv {i j : Int} (h1 : 0 < j) (h2 : j < 1073741824) (h : Q (.int (i / j)) H) : rI CDiv (fun i j => .int (i / j)) (.int i) (.int j) H Q := ⟨i, j, rfl, rfl, ⟨h1, h2⟩, h⟩
theorem g_mod {i j : Int} (h1 : 0 < j) (h : Q (.int (i % j)) H) : rI (fun _ j => 0 < j) (fun i j => .int (i % j)) (.int i) (.int j) H Q := ⟨i, j, rfl, rfl, h1, h⟩
theorem g_pow {i j : Int} (hc : CPow i j) (h : Q (.int (i ^ j.toNat)) H) : rI CPow (fun i j => .int (i ^ j.toNat)) (.int i) (.int j) H Q := ⟨i, j, rfl, rfl, hc, h⟩
theorem g_lt {i j : Int} (h : Q (.bl (decide (i < j))) H) : rI0 (fun i j => .bl (decide (i < j))) (.int i) (.int j) H Q := ⟨i, j, rfl, rfl, h⟩
theorem g_le {i j : Int} (h : Q (.bl (decide (i ≤ j))) H) : rI0 (fun i j => .bl (decide (i ≤ j))) (.int i) (.int j) H Q := ⟨i, j, rfl, rfl, h⟩
theorem g_gt {i j : Int} (h : Q (.bl (decide (j < i))) H) : rI0 (fun i j => .bl (decide (j < i))) (.int i) (.int j) H Q := ⟨i, j, rfl, rfl, h⟩
theorem g_ge {i j : Int} (h : Q (.bl (decide (j ≤ i))) H) : rI0 (fun i j => .bl (decide (j ≤ i))) (.int i) (.int j) H Q := ⟨i, j, rfl, rfl, h⟩
def uEq (K : PySem.W.Frag) : R2 := fun x y H Q => rEq x y H Q ∨ rEqD K x y H Q
def uNe (K : PySem.W.Frag) : R2 := fun x y H Q => rNe x y H Q ∨ rNeD K x y H Q
theorem op_eqU {k : Nat} (hr : Room k X.A) : OpR X (compareOp .Eq) (uEq X.K) := op_eq.or (op_eqD hr.units)
theorem op_neU {k : Nat} (hr : Room k X.A) : OpR X (compareOp .NotEq) (uNe X.K) := op_ne.or (op_neD hr.units)
theorem dec_i {i j : Int} : decide (V.int i = V.int j) = decide (i = j) := by
  by_cases e : i = j
  · subst e; simp
  · rw [decide_eq_false e, decide_eq_false fun q => e (V.int.inj q)]
theorem dec_s {i j : Str} : decide (V.str i = V.str j) = decide (i = j) := by
  by_cases e : i = j
  · subst e; simp
  · rw [decide_eq_false e, decide_eq_false fun q => e (V.str.inj q)]
theorem dec_b {i j : Bool} : decide (V.bl i = V.bl j) = decide (i = j) := by
  by_cases e : i = j
  · subst e; simp
  · rw [decide_eq_false e, decide_eq_false fun q => e (V.bl.inj q)]
theorem g_eq_i {i j : Int} (h : Q (.bl (decide (i = j))) H) : uEq K (.int i) (.int j) H Q := .inl ⟨rfl, by rw [dec_i]; exact h⟩
theorem g_eq_s {i j : Str} (h : Q (.bl (decide (i = j))) H) : uEq K (.str i) (.str j) H Q := .inl ⟨rfl, by rw [dec_s]; exact h⟩
theorem g_eq_b {i j : Bool} (h : Q (.bl (decide (i = j))) H) : uEq K (.bl i) (.bl j) H Q := .inl ⟨rfl, by rw [dec_b]; exact h⟩
theorem g_ne_i {i j : Int} (h : Q (.bl (!decide (i = j))) H) : uNe K (.int i) (.int j) H Q := .inl ⟨rfl, by rw [dec_i]; exact h⟩
theorem g_ne_s {i j : Str} (h : Q (.bl (!decide (i = j))) H) : uNe K (.str i) (.str j) H Q := .inl ⟨rfl, by rw [dec_s]; exact h⟩
theorem g_ne_b {i j : Bool} (h : Q (.bl (!decide (i = j))) H) : uNe K (.bl i) (.bl j) H Q := .inl ⟨rfl, by rw [dec_b]; exact h⟩
theorem g_eq_d {x y : V} (d e : PyData) (h1 : Dp K H x d) (h2 : Dp K H y e) (s1 : SeqAt.shaped d = true) (s2 : SeqAt.shaped e = true) (h : Q (.bl (PyData.eqv d e)) H) : uEq K x y H Q := .inr ⟨d, e, h1, h2, s1, s2, h⟩
theorem g_ne_d {x y : V} (d e : PyData) (h1 : Dp K H x d) (h2 : Dp K H y e) (s1 : SeqAt.shaped d = true) (s2 : SeqAt.shaped e = true) (h : Q (.bl (!PyData.eqv d e)) H) : uNe K x y H Q := .inr ⟨d, e, h1, h2, s1, s2, h⟩
theorem g_isN {x : V} (h : Q (.bl (decide (x = .non))) H) : rIsN x .non H Q := ⟨rfl, h⟩
theorem g_notN {x : V} (h : Q (.bl (!decide (x = .non))) H) : rNotN x .non H Q := ⟨rfl, h⟩
/-- in -/
def uIn (K : PySem.W.Frag) : R2 := fun x y H Q => rIn K false x y H Q ∨ (∃ (c : Nat) (z : Str), x = .str ⟨#[c]⟩ ∧ y = .str z ∧ Q (.bl (decide (c ∈ z.cps.toList))) H) ∨ rInD K x y H Q
def uNotIn (K : PySem.W.Frag) : R2 := fun x y H Q => rIn K true x y H Q ∨ (∃ (c : Nat) (z : Str), x = .str ⟨#[c]⟩ ∧ y = .str z ∧ Q (.bl (!decide (c ∈ z.cps.toList))) H) ∨ rNotInD K x y H Q
theorem units65 {k : Nat} {A : Around} (hr : Room k A) : A.units + 65 < cLine := by have := hr.un; omega
theorem op_inU {k : Nat} (hr : Room k X.A) : OpR X (compareOp .In) (uIn X.K) := op_in_seq.or (op_in_sign.or (op_inD (units65 hr)))
theorem op_notInU {k : Nat} (hr : Room k X.A) : OpR X (compareOp .NotIn) (uNotIn X.K) := op_notIn_seq.or (op_notIn_sign.or (op_notInD (units65 hr)))
theorem g_in_sign {c : Nat} {z : Str} (h : Q (.bl (decide (c ∈ z.cps.toList))) H) : uIn K (.str ⟨#[c]⟩) (.str z) H Q := .inr (.inl ⟨c, z, rfl, rfl, h⟩)
theorem g_in_seq {x : V} {p : Addr} {xs : List V} (h1 : SqL K H p xs ∨ SqT K H p xs) (h2 : flatV x = true) (h3 : xs.all flatV = true) (h : Q (.bl (inV x xs)) H) : uIn K x (.ref p) H Q := .inl ⟨p, xs, rfl, h1, h2, h3, h⟩
theorem g_notIn_seq {x : V} {p : Addr} {xs : List V} (h1 : SqL K H p xs ∨ SqT K H p xs) (h2 : flatV x = true) (h3 : xs.all flatV = true) (h : Q (.bl (!inV x xs)) H) : uNotIn K x (.ref p) H Q := .inl ⟨p, xs, rfl, h1, h2, h3, h⟩
/-- x[i] -/
theorem g_ix_l {p : Addr} {xs : List V} {i : Int} {v : V} (h1 : SqL K H p xs) (h2 : atI xs i = some v) (h : Q v H) : rIx K (.ref p) (.int i) H Q := .inl ⟨p, xs, i, v, rfl, rfl, h1, h2, h⟩
theorem g_ix_t {p : Addr} {xs : List V} {i : Int} {v : V} (h1 : SqT K H p xs) (h2 : atI xs i = some v) (h : Q v H) : rIx K (.ref p) (.int i) H Q := .inr (.inl ⟨p, xs, i, v, rfl, rfl, h1, h2, h⟩)
theorem g_ix_s {z : Str} {i : Int} {c : Nat} (h1 : z.length ≤ sizeLine) (h2 : atI z.cps.toList i = some c) (h : Q (.str ⟨#[c]⟩) H) : rIx K (.str z) (.int i) H Q := .inr (.inr ⟨z, i, c, rfl, rfl, h1, h2, h⟩)
/-- len -/
def uLen (K : PySem.W.Frag) : List V → Hp → VK → Prop := fun xs H Q => (∃ z, xs = [.str z] ∧ z.length ≤ sizeLine ∧ Q (.int z.length) H) ∨ ∃ p ys, xs = [.ref p] ∧ (SqL K H p ys ∨ SqT K H p ys) ∧ Q (.int ys.length) H
theorem call_lenU : CallR X (.builtin "len") (uLen X.K) := call_len_str.or call_len_seq
theorem g_len_s {z : Str} (hz : z.length ≤ sizeLine) (h : Q (.int z.length) H) : uLen K [.str z] H Q := .inl ⟨z, rfl, hz, h⟩
theorem g_len_l {p : Addr} {ys : List V} (h1 : SqL K H p ys) (h : Q (.int ys.length) H) : uLen K [.ref p] H Q := .inr ⟨p, ys, rfl, .inl h1, h⟩
theorem g_len_t {p : Addr} {ys : List V} (h1 : SqT K H p ys) (h : Q (.int ys.length) H) : uLen K [.ref p] H Q := .inr ⟨p, ys, rfl, .inr h1, h⟩

/-! ### steps -/
variable {ta tb te : TE} {tA tB' : TT} {i : Nat} {v : V} {t u : TS} {ts : TA}
theorem g_var (e : σ[i]? = some (some v)) (h : Q v H) : tVar i σ H Q := ⟨v, e, h⟩
theorem g_c (h : Q v H) : tC v σ H Q := h
theorem g_op {r : R2} (h : ta σ H fun x H1 => tb σ H1 fun y H2 => r x y H2 Q) : tOp r ta tb σ H Q := h
theorem g_un {r : V → Hp → VK → Prop} (h : ta σ H fun x H1 => r x H1 Q) : tUn r ta σ H Q := h
def Bl (Q : Bool → Hp → Prop) : VK := fun x H => ∃ k, x = .bl k ∧ Q k H
theorem g_bl {b : Bool} {Q : Bool → Hp → Prop} (h : Q b H) : Bl Q (.bl b) H := ⟨b, rfl, h⟩
theorem g_test {Q : Bool → Hp → Prop} (h : te σ H (Bl Q)) : tTest te σ H Q := h
theorem g_tB {Q : Bool → Hp → Prop} (h : te σ H (Bl Q)) : tB te σ H Q := h
def Ch (r' : R2) (tc : TE) (y : V) (σ : L2.St) (Q : VK) : VK := fun z H3 => ∃ k, z = .bl k ∧ (if k = true then tc σ H3 fun w' H4 => r' y w' H4 Q else Q (.bl false) H3)
theorem g_chain {r r' : R2} {tc : TE} (h : ta σ H fun x H1 => tb σ H1 fun y H2 => r x y H2 (Ch r' tc y σ Q)) : tChain r r' ta tb tc σ H Q := h
theorem g_ch {r' : R2} {tc : TE} {y : V} {b : Bool} (h1 : b = true → tc σ H fun w' H4 => r' y w' H4 Q) (h2 : b = false → Q (.bl false) H) : Ch r' tc y σ Q (.bl b) H := ⟨b, rfl, by
  cases b with
  | true => exact iteT (h1 rfl)
  | false => exact iteF (h2 rfl)⟩
theorem g_and {Q : Bool → Hp → Prop} (h : tA σ H fun c H1 => if c = true then tB' σ H1 Q else Q false H1) : tAnd tA tB' σ H Q := h
theorem g_or {Q : Bool → Hp → Prop} (h : tA σ H fun c H1 => if c = true then Q true H1 else tB' σ H1 Q) : tOr tA tB' σ H Q := h
theorem g_not {Q : Bool → Hp → Prop} (h : tA σ H fun c H1 => Q (!c) H1) : tNot tA σ H Q := h
theorem g_andV (h : ta σ H (Bl fun c H1 => if c = true then tb σ H1 Q else Q (.bl false) H1)) : tAndV ta tb σ H Q := h
theorem g_orV (h : ta σ H (Bl fun c H1 => if c = true then Q (.bl true) H1 else tb σ H1 Q)) : tOrV ta tb σ H Q := h
theorem g_notV (h : ta σ H (Bl fun c H1 => Q (.bl (!c)) H1)) : tNotV ta σ H Q := h
theorem g_if (h : tA σ H fun c H1 => if c = true then ta σ H1 Q else tb σ H1 Q) : tIf tA ta tb σ H Q := h
theorem g_nil {Q : List V → Hp → Prop} (h : Q [] H) : tNil σ H Q := h
theorem g_cons {Q : List V → Hp → Prop} (h : te σ H fun x H1 => ts σ H1 fun xs H2 => Q (x :: xs) H2) : tCons te ts σ H Q := h
theorem g_cb {r : List V → Hp → VK → Prop} (h : ts σ H fun vs H1 => r vs H1 Q) : tCB r ts σ H Q := h
theorem g_callR {sp : Sp} {E : XK} (h : ts σ H fun vs H1 => sp vs H1 Q E) : tCallR sp E ts σ H Q := h
def NewT (xs : List V) (H : Hp) (Q : VK) : Prop := xs.length ≤ sizeLine ∧ ∀ p, H p = none → Q (.ref p) (upd H p (.tup xs))
def NewL (xs : List V) (H : Hp) (Q : VK) : Prop := xs.length ≤ sizeLine ∧ ∀ p, H p = none → Q (.ref p) (upd H p (.lst xs))
theorem g_tup (h : ts σ H fun xs H1 => NewT xs H1 Q) : tTup ts σ H Q := h
theorem g_lst (h : ts σ H fun xs H1 => NewL xs H1 Q) : tLst ts σ H Q := h
theorem n_tup {xs : List V} (hz : xs.length ≤ sizeLine) (h : ∀ p H', H p = none → Same H H' → H' p = some (.tup xs) → Q (.ref p) H') : NewT xs H Q := ⟨hz, fun p hp => h p _ hp (same_new hp) upd_same⟩
theorem n_lst {xs : List V} (hz : xs.length ≤ sizeLine) (h : ∀ p H', H p = none → Same H H' → H' p = some (.lst xs) → Q (.ref p) H') : NewL xs H Q := ⟨hz, fun p hp => h p _ hp (same_new hp) upd_same⟩
theorem g_seq (h : t { D with nx := u D } σ H) : tSeq t u D σ H := h
theorem g_next (h : D.nx σ H) : tNext D σ H := h
theorem g_asg {g : TG} (h : te σ H fun x H1 => g x σ H1 D.nx) : tAsg te g D σ H := h
theorem g_name {Q : L2.St → Hp → Prop} {σ' : L2.St} (e : σ.set i (some v) = σ') (h : Q σ' H) : gName i v σ H Q := by subst e; exact h
theorem g_ret (h : te σ H D.rt) : tRet te D σ H := h
theorem g_drop (h : te σ H fun _ H1 => D.nx σ H1) : tDrop te D σ H := h
theorem g_ifS (h : tA σ H fun b H1 => if b = true then t D σ H1 else u D σ H1) : tIfS tA t u D σ H := h
theorem if_T {c : Bool} {A B : Prop} (e : c = true) (h : A) : if c = true then A else B := by rw [if_pos e]; exact h
theorem if_F {c : Bool} {A B : Prop} (e : c = false) (h : B) : if c = true then A else B := by rw [if_neg (by rw [e]; decide)]; exact h
theorem if_C {c : Bool} {A B : Prop} (h1 : c = true → A) (h2 : c = false → B) : if c = true then A else B := by
  cases c with
  | true => exact iteT (h1 rfl)
  | false => exact iteF (h2 rfl)
theorem if_D {p : Prop} [Decidable p] {A B : Prop} (h1 : p → A) (h2 : ¬ p → B) : if decide p = true then A else B := by
  by_cases c : p
  · rw [if_pos (decide_eq_true c)]; exact h1 c
  · rw [if_neg (by rw [decide_eq_false c]; decide)]; exact h2 c
theorem if_ND {p : Prop} [Decidable p] {A B : Prop} (h1 : ¬ p → A) (h2 : p → B) : if (!decide p) = true then A else B := by
  by_cases c : p
  · rw [if_neg (by rw [decide_eq_true c]; decide)]; exact h2 c
  · rw [if_pos (by rw [decide_eq_false c]; decide)]; exact h1 c

/-! lists changed, asked -/
theorem atI_c0 {α : Type} {a : α} {l : List α} : atI (a :: l) 0 = some a := atI_nat (j := 0) rfl
theorem atI_c1 {α : Type} {a b : α} {l : List α} : atI (a :: b :: l) 1 = some b := atI_nat (j := 1) rfl
theorem atI_c2 {α : Type} {a b c : α} {l : List α} : atI (a :: b :: c :: l) 2 = some c := atI_nat (j := 2) rfl
theorem atI_i {α : Type} {l : List α} {i : Int} {x : α} (h0 : 0 ≤ i) (h : l[i.toNat]? = some x) : atI l i = some x := by
  have := atI_nat h
  rwa [Int.toNat_of_nonneg h0] at this
theorem ixN_i {n : Nat} {i : Int} (h0 : 0 ≤ i) (h : i < n) : ixN n i = some i.toNat := by unfold ixN; rw [if_pos h0, if_pos h]
theorem seqIx_i {n : Nat} {i : Int} (h0 : 0 ≤ i) (h : i < n) : seqIndex? i n = some i.toNat := (ixN_seq (ixN_i h0 h)).1
def Ty (K : PySem.W.Frag) (T : String) (x : V) (H : Hp) (P : Prop) : Prop := tyV K T x H ∧ P
theorem g_bm {T : String} {r : V → List V → Hp → VK → Prop} {to : TE} (h : to σ H fun x H1 => Ty K T x H1 (ts σ H1 fun xs H2 => r x xs H2 Q)) : tBM K T r to ts σ H Q := h
theorem g_bm0 {T : String} {r : V → List V → Hp → VK → Prop} {to : TE} (h : to σ H fun x H1 => Ty K T x H1 (r x [] H1 Q)) : tBM0 K T r to σ H Q := h
theorem g_tyL {p : Addr} {xs : List V} {P : Prop} (h1 : SqL K H p xs) (h : P) : Ty K "list" (.ref p) H P := ⟨.inl ⟨rfl, _, h1⟩, h⟩
def TyS (x : V) (P : Prop) : Prop := (∃ a, x = .str a) ∧ P
theorem g_m1 {r : V → List V → Hp → VK → Prop} {to : TE} (h : to σ H fun x H1 => TyS x (te σ H1 fun y H2 => r x [y] H2 Q)) : tM1 r to te σ H Q := h
theorem g_m0 {r : V → List V → Hp → VK → Prop} {to : TE} (h : to σ H fun x H1 => TyS x (r x [] H1 Q)) : tM0 r to σ H Q := h
theorem g_tyS {z : Str} {P : Prop} (h : P) : TyS (.str z) P := ⟨⟨z, rfl⟩, h⟩
theorem g_append {l : Addr} {xs : List V} {y : V} (h1 : H l = some (.lst xs)) (hz : xs.length < sizeLine) (h : ∀ H', Keep l H H' → H' l = some (.lst (xs ++ [y])) → Q .non H') : rAppend (.ref l) [y] H Q := ⟨l, xs, y, rfl, rfl, h1, hz, h _ keep_upd upd_same⟩
theorem g_extend {l b : Addr} {xs zs : List V} (h1 : H l = some (.lst xs)) (h2 : H b = some (.lst zs)) (hz : xs.length + zs.length ≤ sizeLine) (h : ∀ H', Keep l H H' → H' l = some (.lst (xs ++ zs)) → Q .non H') : rExtend (.ref l) [.ref b] H Q := ⟨l, b, xs, zs, rfl, rfl, h1, h2, hz, h _ keep_upd upd_same⟩
theorem g_popAt {l : Addr} {xs : List V} {i : Int} {y : V} (h1 : H l = some (.lst xs)) (h0 : 0 ≤ i) (hi : xs[i.toNat]? = some y) (hz : xs.length ≤ sizeLine) (h : ∀ H', Keep l H H' → H' l = some (.lst (xs.eraseIdx i.toNat)) → Q y H') : rPopAt (.ref l) [.int i] H Q := by
  have hl : i.toNat < xs.length := (List.getElem?_eq_some_iff.mp hi).1
  have hs : (sizeLine : Nat) < 2 ^ 63 := line63
  exact ⟨l, xs, i, i.toNat, y, rfl, rfl, h1, by omega, by omega, seqIx_i h0 (by omega), hi, h _ keep_upd upd_same⟩
theorem g_pop {l : Addr} {xs : List V} {y : V} (h1 : H l = some (.lst xs)) (hi : xs[xs.length - 1]? = some y) (h : ∀ H', Keep l H H' → H' l = some (.lst xs.dropLast) → Q y H') : rPop (.ref l) [] H Q := ⟨l, xs, y, rfl, rfl, h1, hi, h _ keep_upd upd_same⟩
theorem g_gsub {Q : L2.St → Hp → Prop} {to ti : TE} {rs : TSet} (h : to σ H fun o H1 => ti σ H1 fun i H2 => rs o i v H2 fun H3 => Q σ H3) : gSub to ti rs v σ H Q := h
theorem g_setL {p : Addr} {xs : List V} {k : Int} {j : Nat} {Q : Hp → Prop} (h1 : H p = some (.lst xs)) (hj : ixN xs.length k = some j) (h : ∀ H', Keep p H H' → H' p = some (.lst (xs.set j v)) → Q H') : rSetL (.ref p) (.int k) v H Q := ⟨p, xs, k, j, rfl, rfl, h1, hj, h _ keep_upd upd_same⟩
/-! slices -/
theorem g_sl {r : V → Option Int → Option Int → Hp → VK → Prop} {tl th : TO} (h : te σ H fun x H1 => tl σ H1 fun l H2 => th σ H2 fun u H3 => r x l u H3 Q) : tSl r te tl th σ H Q := h
theorem g_noPart {Q : Option Int → Hp → Prop} (h : Q none H) : tNoPart σ H Q := h
def PartI (Q : Option Int → Hp → Prop) : VK := fun x H => ∃ i, x = .int i ∧ Q (some i) H
theorem g_part {Q : Option Int → Hp → Prop} (h : te σ H (PartI Q)) : tPart te σ H Q := h
theorem g_partI {i : Int} {Q : Option Int → Hp → Prop} (h : Q (some i) H) : PartI Q (.int i) H := ⟨i, rfl, h⟩
theorem g_slL {a : Addr} {xs : List V} {lo hi : Option Int} (h1 : SqL K H a xs) (h : ∀ p H', H p = none → Same H H' → H' p = some (.lst (cutV xs lo hi)) → Q (.ref p) H') : rSlL K (.ref a) lo hi H Q := ⟨a, xs, rfl, h1, fun p hp => h p _ hp (same_new hp) upd_same⟩
theorem cutV_all (xs : List V) : cutV xs none none = xs := by unfold cutV; rw [HT.sIx_none, HT.sIx_none]; simp
theorem cutV_to (xs : List V) (k : Nat) : cutV xs none (some (k : Int)) = xs.take k := by
  unfold cutV
  rw [HT.sIx_none, HT.sIx_nat, Nat.sub_zero, List.drop_zero]
  rcases Nat.le_total k xs.length with le | ge
  · congr 1
    exact Nat.min_eq_left le
  · rw [Nat.min_eq_right ge, List.take_length, List.take_of_length_le ge]
theorem cutV_from (xs : List V) (k : Nat) : cutV xs (some (k : Int)) none = xs.drop k := by
  unfold cutV
  rw [HT.sIx_none, HT.sIx_nat]
  rcases Nat.le_total k xs.length with le | ge
  · have z := Nat.min_eq_left le
    rw [z, ← List.length_drop, List.take_length]
  · rw [Nat.min_eq_right ge, List.drop_length, List.drop_of_length_le ge, List.take_nil]
theorem g_slT {a : Addr} {xs : List V} {lo hi : Option Int} (h1 : SqT K H a xs) (h : ∀ p H', Same H H' → SqT K H' p (cutV xs lo hi) → Q (.ref p) H') : rSlA K (.ref a) lo hi H Q := by
  refine ⟨a, xs, rfl, h1, fun hw => ?_, fun hw p hp => h p _ (same_new hp) (SqT.of upd_same)⟩
  refine h a H (Same.refl H) ?_
  have e : cutV xs lo hi = xs := by
    unfold cutV; rw [hw.1, hw.2]; simp
  rw [e]; exact h1
/-! loops -/
/-- the turns of a for over J -/
def LoopJ (J : It) (g : TG) (tb : TS) (D : Ends) (σ : L2.St) (H : Hp) : Prop := tFor (fun _ H1 R => R J H1) g tb D σ H
variable {g : TG} {tbs : TS}
def ItL (K : PySem.W.Frag) (g : TG) (tb : TS) (D : Ends) (σ : L2.St) : VK := fun x H1 => ∃ a, x = .ref a ∧ (∃ xs, SqL K H1 a xs) ∧ LoopJ (Itl K a) g tb D σ H1
theorem g_forL (h : te σ H (ItL K g tbs D σ)) : tFor (iList K te) g tbs D σ H := h
theorem n_forL {a : Addr} {xs : List V} (h1 : SqL K H a xs) (Pv : Nat → L2.St → Hp → Prop) (h0 : Pv 0 σ H) (hl : ∀ i σ H, Pv i σ H → SqL K H a xs)
    (hs : ∀ i x σ H, xs[i]? = some x → Pv i σ H → g x σ H fun σ2 H2 => tbs { D with nx := Pv (i + 1), ct := Pv (i + 1), bk := D.nx } σ2 H2) (hd : ∀ σ H, Pv xs.length σ H → D.nx σ H) : ItL K g tbs D σ (.ref a) H :=
  ⟨a, rfl, ⟨xs, h1⟩, for_list Pv h0 (fun i σ H _ p => hl i σ H p) hs hd⟩
def ItT (K : PySem.W.Frag) (g : TG) (tb : TS) (D : Ends) (σ : L2.St) : VK := fun x H1 => ∃ a, x = .ref a ∧ (∃ xs, SqT K H1 a xs) ∧ LoopJ (Itt K a) g tb D σ H1
theorem g_forT (h : te σ H (ItT K g tbs D σ)) : tFor (iTup K te) g tbs D σ H := h
theorem n_forT {a : Addr} {xs : List V} (h1 : SqT K H a xs) (Pv : Nat → L2.St → Hp → Prop) (h0 : Pv 0 σ H) (hl : ∀ i σ H, Pv i σ H → SqT K H a xs)
    (hs : ∀ i x σ H, xs[i]? = some x → Pv i σ H → g x σ H fun σ2 H2 => tbs { D with nx := Pv (i + 1), ct := Pv (i + 1), bk := D.nx } σ2 H2) (hd : ∀ σ H, Pv xs.length σ H → D.nx σ H) : ItT K g tbs D σ (.ref a) H :=
  ⟨a, rfl, ⟨xs, h1⟩, for_tup Pv h0 (fun i σ H _ p => hl i σ H p) hs hd⟩
def ItS (g : TG) (tb : TS) (D : Ends) (σ : L2.St) : VK := fun x H1 => ∃ z, x = .str z ∧ LoopJ (Its z) g tb D σ H1
theorem g_forS (h : te σ H (ItS g tbs D σ)) : tFor (iStr te) g tbs D σ H := h
theorem n_forS {z : Str} (Pv : Nat → L2.St → Hp → Prop) (h0 : Pv 0 σ H)
    (hs : ∀ i c σ H, z.cps[i]? = some c → Pv i σ H → g (.str ⟨#[c]⟩) σ H fun σ2 H2 => tbs { D with nx := Pv (i + 1), ct := Pv (i + 1), bk := D.nx } σ2 H2) (hd : ∀ σ H, Pv z.cps.size σ H → D.nx σ H) : ItS g tbs D σ (.str z) H :=
  ⟨z, rfl, for_it (walk_str (z := z)) Pv h0 (fun _ _ _ _ _ => trivial) (fun i x σ H H' hi p ⟨e, c, hc, ex⟩ => by subst e ex; exact hs i c σ _ hc p) hd⟩
def ItR1 (g : TG) (tb : TS) (D : Ends) (σ : L2.St) (vs : List V) (H1 : Hp) : Prop := ∃ j, vs = [.int j] ∧ -(2 ^ 62) ≤ j ∧ j < 2 ^ 62 ∧ LoopJ (Itr 0 j.toNat) g tb D σ H1
theorem g_forR1 (h : ts σ H (ItR1 g tbs D σ)) : tFor (iRng1 ts) g tbs D σ H := h
theorem n_forR1 {j : Int} (hj : -(2 ^ 62) ≤ j) (hk : j < 2 ^ 62) (Pv : Nat → L2.St → Hp → Prop) (h0 : Pv 0 σ H)
    (hs : ∀ (i : Nat) σ H, i < j.toNat → Pv i σ H → g (.int i) σ H fun σ2 H2 => tbs { D with nx := Pv (i + 1), ct := Pv (i + 1), bk := D.nx } σ2 H2) (hd : ∀ σ H, Pv j.toNat σ H → D.nx σ H) : ItR1 g tbs D σ [.int j] H :=
  ⟨j, rfl, hj, hk, for_range Pv h0 (fun i σ H hi p => by rw [Int.zero_add]; exact hs i σ H hi p) hd⟩
def ItR2 (g : TG) (tb : TS) (D : Ends) (σ : L2.St) (vs : List V) (H1 : Hp) : Prop := ∃ lo hi, vs = [.int lo, .int hi] ∧ (-(2 ^ 62) ≤ lo ∧ lo < 2 ^ 62 ∧ -(2 ^ 62) ≤ hi ∧ hi < 2 ^ 62) ∧ LoopJ (Itr lo (hi - lo).toNat) g tb D σ H1
theorem g_forR2 (h : ts σ H (ItR2 g tbs D σ)) : tFor (iRng2 ts) g tbs D σ H := h
theorem n_forR2 {lo hi : Int} (h1 : -(2 ^ 62) ≤ lo) (h2 : lo < 2 ^ 62) (h3 : -(2 ^ 62) ≤ hi) (h4 : hi < 2 ^ 62) (Pv : Nat → L2.St → Hp → Prop) (h0 : Pv 0 σ H)
    (hs : ∀ (i : Nat) σ H, i < (hi - lo).toNat → Pv i σ H → g (.int (lo + i)) σ H fun σ2 H2 => tbs { D with nx := Pv (i + 1), ct := Pv (i + 1), bk := D.nx } σ2 H2) (hd : ∀ σ H, Pv (hi - lo).toNat σ H → D.nx σ H) : ItR2 g tbs D σ [.int lo, .int hi] H :=
  ⟨lo, hi, rfl, ⟨h1, h2, h3, h4⟩, for_range Pv h0 hs hd⟩
def ItET (K : PySem.W.Frag) (g : TG) (tb : TS) (D : Ends) (σ : L2.St) (vs : List V) (H1 : Hp) : Prop := ∃ a xs, vs = [.ref a] ∧ SqT K H1 a xs ∧ LoopJ (IteT K a xs.length) g tb D σ H1
theorem g_forET (h : ts σ H (ItET K g tbs D σ)) : tFor (iEnumT K ts) g tbs D σ H := h
theorem n_forET {a : Addr} {xs : List V} (h1 : SqT K H a xs) (Pv : Nat → L2.St → Hp → Prop) (h0 : Pv 0 σ H) (hl : ∀ i σ H, Pv i σ H → SqT K H a xs)
    (hs : ∀ (i : Nat) x T σ H H', xs[i]? = some x → Pv i σ H → H T = none → Same H H' → H' T = some (.tup [.int i, x]) → g (.ref T) σ H' fun σ2 H2 => tbs { D with nx := Pv (i + 1), ct := Pv (i + 1), bk := D.nx } σ2 H2) (hd : ∀ σ H, Pv xs.length σ H → D.nx σ H) : ItET K g tbs D σ [.ref a] H :=
  ⟨a, xs, rfl, h1, for_it (walk_enumT (K := K) (a := a) (xs := xs)) Pv h0 (fun i σ H _ p => hl i σ H p) (fun i x σ H H' hi p ⟨T, u, y, ex, hn, eH, e1, e2⟩ => by
    have eu := Option.some.inj e1
    subst ex eH eu
    exact hs i y T σ H _ e2 p hn (same_new hn) upd_same) hd⟩
/-- unpack a pair -/
theorem g_gtup {n : Nat} {t : TGs} {a : Addr} {xs : List V} {Q : L2.St → Hp → Prop} (h1 : SqT K H a xs) (h2 : xs.length = n) (h : t xs σ H Q) : gTup K n t (.ref a) σ H Q := ⟨a, xs, rfl, h1, h2, h⟩
theorem g_gcons {t : TG} {u : TGs} {x : V} {r : List V} {Q : L2.St → Hp → Prop} (h : t x σ H fun σ' H' => u r σ' H' Q) : gCons t u (x :: r) σ H Q := ⟨x, r, rfl, h⟩
theorem g_gnil {Q : L2.St → Hp → Prop} (h : Q σ H) : gNil [] σ H Q := ⟨rfl, h⟩
/-! comprehensions -/
/-- the turns of a list comprehension over J -/
def LcJ (J : It) (g : TG) (tt : TT) (te : TE) (vs : List Nat) (σ : L2.St) (Q : VK) (H : Hp) : Prop := tLc (fun _ H1 R => R J H1) g tt te vs σ H Q
/-- what a turn of a comprehension owes: the list so far stands at D -/
def LcEnd (D : Addr) (P : Hp → V → Prop) : VK := fun y H4 => ∃ acc, H4 D = some (.lst acc) ∧ acc.length < sizeLine ∧ P (upd H4 D (.lst (acc ++ [y]))) y
variable {tt : TT} {vs : List Nat} {ti : TE}
def LcL (K : PySem.W.Frag) (g : TG) (tt : TT) (te : TE) (vs : List Nat) (σ : L2.St) (Q : VK) : VK := fun x H1 => ∃ a, x = .ref a ∧ (∃ xs, SqL K H1 a xs) ∧ LcJ (Itl K a) g tt te vs σ Q H1
theorem g_lcL (h : ti σ H (LcL K g tt te vs σ Q)) : tLc (iList K ti) g tt te vs σ H Q := h
def LcT (K : PySem.W.Frag) (g : TG) (tt : TT) (te : TE) (vs : List Nat) (σ : L2.St) (Q : VK) : VK := fun x H1 => ∃ a, x = .ref a ∧ (∃ xs, SqT K H1 a xs) ∧ LcJ (Itt K a) g tt te vs σ Q H1
theorem g_lcT (h : ti σ H (LcT K g tt te vs σ Q)) : tLc (iTup K ti) g tt te vs σ H Q := h
def LcS (g : TG) (tt : TT) (te : TE) (vs : List Nat) (σ : L2.St) (Q : VK) : VK := fun x H1 => ∃ z, x = .str z ∧ LcJ (Its z) g tt te vs σ Q H1
theorem g_lcS (h : ti σ H (LcS g tt te vs σ Q)) : tLc (iStr ti) g tt te vs σ H Q := h
def LcR1 (g : TG) (tt : TT) (te : TE) (us : List Nat) (σ : L2.St) (Q : VK) (vs : List V) (H1 : Hp) : Prop := ∃ j, vs = [.int j] ∧ -(2 ^ 62) ≤ j ∧ j < 2 ^ 62 ∧ LcJ (Itr 0 j.toNat) g tt te us σ Q H1
theorem g_lcR1 (h : ts σ H (LcR1 g tt te vs σ Q)) : tLc (iRng1 ts) g tt te vs σ H Q := h

def NxP (P : Nat → List V → Hp → Prop) (C : Addr) (i : Nat) : Hp → Prop := fun H => ∃ acc, acc.length ≤ i ∧ H C = some (.lst acc) ∧ P i acc H
def LcK (C : Addr) (Nx : Hp → Prop) : VK := fun y H4 => ∃ acc, H4 C = some (.lst acc) ∧ acc.length < sizeLine ∧ Nx (upd H4 C (.lst (acc ++ [y])))
def LcIf (C : Addr) (te : TE) (σ2 : L2.St) (Nx : Hp → Prop) : Bool → Hp → Prop := fun b H3 => if b = true then te σ2 H3 (LcK C Nx) else Nx H3
theorem g_lcIfT {C : Addr} {Nx : Hp → Prop} (h : te σ H (LcK C Nx)) : LcIf C te σ Nx true H := iteT h
theorem g_lcIfF {C : Addr} {Nx : Hp → Prop} (h : Nx H) : LcIf C te σ Nx false H := iteF h
theorem g_yes {Q : Bool → Hp → Prop} (h : Q true H) : tYes σ H Q := h
theorem n_lcK {C : Addr} {P : Nat → List V → Hp → Prop} {i : Nat} {acc : List V} {y : V} (h1 : H C = some (.lst acc)) (hi : acc.length < i) (hn : i ≤ 1000000) (h : ∀ H', Keep C H H' → H' C = some (.lst (acc ++ [y])) → P i (acc ++ [y]) H') : LcK C (NxP P C i) y H :=
  ⟨acc, h1, Nat.lt_of_lt_of_le (Nat.lt_of_lt_of_le hi hn) (by decide), acc ++ [y], by rw [List.length_append]; exact hi, upd_same, h _ keep_upd upd_same⟩
theorem n_lcN {C : Addr} {P : Nat → List V → Hp → Prop} {i : Nat} {acc : List V} (h1 : H C = some (.lst acc)) (hi : acc.length ≤ i) (h : P i acc H) : NxP P C i H := ⟨acc, hi, h1, h⟩
/-- the comprehension's turns, one after another: at turn i the list at C is acc; P i acc H what else holds -/
theorem lc_run {J : It} {n : Nat} {G : Hp → Prop} {Y : Nat → Hp → V → Hp → Prop} (w : Walk J n G Y) (P : Nat → List V → Hp → Prop) {H1 : Hp}
    (h0 : ∀ C H', H1 C = none → Same H1 H' → H' C = some (.lst []) → P 0 [] H')
    (hG : ∀ i acc H C, H1 C = none → H C = some (.lst acc) → P i acc H → G H)
    (hs : ∀ C i acc x H H', H1 C = none → i < n → acc.length ≤ i → H C = some (.lst acc) → P i acc H → Y i H x H' → g x (wipe σ vs) H' fun σ2 H2 => wipe σ2 vs = wipe σ vs ∧ tt σ2 H2 (LcIf C te σ2 (NxP P C (i + 1))))
    (hd : ∀ C acc H, H1 C = none → H C = some (.lst acc) → P n acc H → Q (.ref C) H) : LcJ J g tt te vs σ Q H1 := by
  intro C hC
  refine ⟨fun i m H => m = n - i ∧ i ≤ n ∧ NxP P C i H, ⟨n, by simp, Nat.zero_le _, [], Nat.le_refl _, upd_same, h0 C _ hC (same_new hC) upd_same⟩, ?_⟩
  rintro i m H ⟨rfl, hi, acc, hl, hC', p⟩
  have q := hG i acc H C hC hC' p
  by_cases hlt : i < n
  · exact .inr ⟨w.goes i H hlt q, NxP P C (i + 1), fun H' q' => ⟨n - (i + 1), by omega, rfl, hlt, q'⟩, fun x H' y => hs C i acc x H H' hC hlt hl hC' p (w.yields i H x H' hlt q y)⟩
  · have e : i = n := by omega
    subst e
    exact .inl ⟨w.stops H q, hd C acc H hC hC' p⟩
theorem n_lcL {a : Addr} {xs : List V} (h1 : SqL K H a xs) (h : LcJ (Itl K a) g tt te vs σ Q H) : LcL K g tt te vs σ Q (.ref a) H := ⟨a, rfl, ⟨xs, h1⟩, h⟩
theorem n_lcT {a : Addr} {xs : List V} (h1 : SqT K H a xs) (h : LcJ (Itt K a) g tt te vs σ Q H) : LcT K g tt te vs σ Q (.ref a) H := ⟨a, rfl, ⟨xs, h1⟩, h⟩
theorem n_lcS {z : Str} (h : LcJ (Its z) g tt te vs σ Q H) : LcS g tt te vs σ Q (.str z) H := ⟨z, rfl, h⟩
theorem n_lcR1 {j : Int} (h1 : -(2 ^ 62) ≤ j) (h2 : j < 2 ^ 62) (h : LcJ (Itr 0 j.toNat) g tt te vs σ Q H) : LcR1 g tt te vs σ Q [.int j] H := ⟨j, rfl, h1, h2, h⟩
/-! fields -/
def Fl (K : PySem.W.Frag) (f : Str) (Q : VK) : VK := fun x H1 => ∃ a C dx fs v, x = .ref a ∧ H1 a = some (.ins C dx fs) ∧ Cls K C ∧ NoAttr K C f ∧ fs.lookup f = some v ∧ Q v H1
theorem g_fld {f : Str} (h : ta σ H (Fl K f Q)) : tFld K ta f σ H Q := h
theorem n_fld {a C dx : Addr} {fs : List (Str × V)} {f : Str} {v : V} (h1 : H a = some (.ins C dx fs)) (h2 : Cls K C) (h3 : NoAttr K C f) (h4 : fs.lookup f = some v) (h : Q v H) : Fl K f Q (.ref a) H := ⟨a, C, dx, fs, v, rfl, h1, h2, h3, h4, h⟩
def Pr (C : Addr) (sp : Sp) (Q : VK) : VK := fun x H1 => ∃ a dx fs, x = .ref a ∧ H1 a = some (.ins C dx fs) ∧ sp [.ref a] H1 Q E0
theorem g_prop {C : Addr} {sp : Sp} (h : ta σ H (Pr C sp Q)) : tPropR C sp ta σ H Q := h
theorem n_prop {a C dx : Addr} {fs : List (Str × V)} {sp : Sp} (h1 : H a = some (.ins C dx fs)) (h : sp [.ref a] H Q E0) : Pr C sp Q (.ref a) H := ⟨a, dx, fs, rfl, h1, h⟩
def Mt (C : Addr) (m : Str) (sp : Sp) (E : XK) (ts : TA) (σ : L2.St) (Q : VK) : VK := fun x H1 => ∃ a dx fs, x = .ref a ∧ H1 a = some (.ins C dx fs) ∧ fs.lookup m = none ∧ ts σ H1 fun vs H2 => sp (x :: vs) H2 Q E
theorem g_meth {C : Addr} {m : Str} {sp : Sp} {E : XK} (h : ta σ H (Mt C m sp E ts σ Q)) : tMethR C m sp E ta ts σ H Q := h
theorem n_meth {a C dx : Addr} {fs : List (Str × V)} {m : Str} {sp : Sp} {E : XK} (h1 : H a = some (.ins C dx fs)) (h2 : fs.lookup m = none) (h : ts σ H fun vs H2 => sp (.ref a :: vs) H2 Q E) : Mt C m sp E ts σ Q (.ref a) H := ⟨a, dx, fs, rfl, h1, h2, h⟩
def MkK (C : Addr) (sp : Sp) (E : XK) (Q : VK) (vs : List V) (H1 : Hp) : Prop := ∀ x dx, H1 x = none → H1 dx = none → dx ≠ x → sp (.ref x :: vs) (upd (upd H1 dx (.own x)) x (.ins C dx [])) (fun v H2 => v = .non ∧ Q (.ref x) H2) E
theorem g_make {C : Addr} {sp : Sp} {E : XK} (h : ts σ H (MkK C sp E Q)) : StX.tMakeR C sp E ts σ H Q := h
theorem n_make {C : Addr} {sp : Sp} {E : XK} {vs : List V} (h : ∀ x dx H', H x = none → H dx = none → dx ≠ x → Same H H' → H' x = some (.ins C dx []) → H' dx = some (.own x) → sp (.ref x :: vs) H' (fun v H2 => v = .non ∧ Q (.ref x) H2) E) : MkK C sp E Q vs H := fun x dx hx hd ne =>
  h x dx _ hx hd ne (fun b o e => by rw [upd_ne (ne_of_none e hx), upd_ne (ne_of_none e hd)]; exact e) upd_same (by rw [upd_ne ne, upd_same])
def St1 (K : PySem.W.Frag) (Q : List V → Hp → Prop) : VK := fun y H1 => ∃ a xs, y = V.ref a ∧ (SqT K H1 a xs ∨ SqL K H1 a xs) ∧ Q xs H1
theorem g_star1 {Q : List V → Hp → Prop} (h : te σ H (St1 K Q)) : tStar1 K te σ H Q := h
theorem n_star1 {a : Addr} {xs : List V} {Q : List V → Hp → Prop} (h1 : SqT K H a xs ∨ SqL K H a xs) (h : Q xs H) : St1 K Q (.ref a) H := ⟨a, xs, rfl, h1, h⟩
def StA (K : PySem.W.Frag) (t : TA) (σ : L2.St) (Q : List V → Hp → Prop) : VK := fun x H1 => ∃ p xs, x = V.ref p ∧ (SqT K H1 p xs ∨ SqL K H1 p xs) ∧ t σ H1 fun ys H2 => Q (xs ++ ys) H2
theorem g_star {Q : List V → Hp → Prop} (h : te σ H (StA K ts σ Q)) : StX.tStar K te ts σ H Q := h
theorem n_star {a : Addr} {xs : List V} {Q : List V → Hp → Prop} (h1 : SqT K H a xs ∨ SqL K H a xs) (h : ts σ H fun ys H2 => Q (xs ++ ys) H2) : StA K ts σ Q (.ref a) H := ⟨a, xs, rfl, h1, h⟩
def SFl (K : PySem.W.Frag) (f : Str) (y : V) (D : Ends) (σ : L2.St) : VK := fun x H2 => ∃ a C dx fs, x = .ref a ∧ H2 a = some (.ins C dx fs) ∧ Cls K C ∧ NoAttr K C f ∧ fs.length < 1000 ∧ D.nx σ (upd H2 a (.ins C dx (putF f y fs)))
theorem g_sfld {f : Str} {tv : TE} (h : tv σ H fun y H1 => ta σ H1 (SFl K f y D σ)) : sFld K ta tv f D σ H := h
theorem n_sfld {a C dx : Addr} {fs : List (Str × V)} {f : Str} {y : V} (h1 : H a = some (.ins C dx fs)) (h2 : Cls K C) (h3 : NoAttr K C f) (h4 : fs.length < 1000) (h : ∀ H', Keep a H H' → H' a = some (.ins C dx (putF f y fs)) → D.nx σ H') : SFl K f y D σ (.ref a) H := ⟨a, C, dx, fs, rfl, h1, h2, h3, h4, h _ keep_upd upd_same⟩

/-! words between -/
def tCutE (t : TE) : TE := fun σ H Q => ∃ Mid : V → Hp → Prop, t σ H Mid ∧ ∀ v H', Mid v H' → Q v H'
def tCutT (t : TT) : TT := fun σ H Q => ∃ Mid : Bool → Hp → Prop, t σ H Mid ∧ ∀ b H', Mid b H' → Q b H'
theorem pe_cut {e : Expr} {t : TE} (h : PE X e t) : PE X e (tCutE t) := ⟨fun pins s σ H Q I ⟨Mid, q, k⟩ => thn (h.run pins s σ H Mid I q) fun v s1 ⟨x, H1, I1, r1, q1⟩ => ⟨x, H1, I1, r1, k x H1 q1⟩⟩
theorem pt_cut {e : Expr} {t : TT} (h : PT X e t) : PT X e (tCutT t) := ⟨fun pins s σ H Q I ⟨Mid, q, k⟩ => thn (h.run pins s σ H Mid I q) fun b s1 ⟨H1, I1, q1⟩ => ⟨H1, I1, k b H1 q1⟩⟩
theorem g_cut {t u : TS} (Mid : L2.St → Hp → Prop) (h1 : t { D with nx := Mid } σ H) (h2 : ∀ σ' H', Mid σ' H' → u D σ' H') : C8.tCut t u D σ H := ⟨Mid, h1, h2⟩
theorem g_cutE {t : TE} (Mid : V → Hp → Prop) (h1 : t σ H Mid) (h2 : ∀ v H', Mid v H' → Q v H') : tCutE t σ H Q := ⟨Mid, h1, h2⟩
theorem g_cutT {t : TT} {Q : Bool → Hp → Prop} (Mid : Bool → Hp → Prop) (h1 : t σ H Mid) (h2 : ∀ b H', Mid b H' → Q b H') : tCutT t σ H Q := ⟨Mid, h1, h2⟩

/-! while -/
def WhK (Pv : Nat → L2.St → Hp → Prop) (m : Nat) (tb : TS) (D : Ends) (σ : L2.St) : Bool → Hp → Prop := fun b H1 => if b = true then ∃ N : L2.St → Hp → Prop, (∀ σ' H', N σ' H' → ∃ m', m' < m ∧ Pv m' σ' H') ∧ tb { D with nx := N, ct := N, bk := D.nx } σ H1 else D.nx σ H1
theorem n_while {c : TT} (Pv : Nat → L2.St → Hp → Prop) (m : Nat) (h0 : Pv m σ H) (hs : ∀ m σ H, Pv m σ H → c σ H (WhK Pv m tbs D σ)) : tWhile c tbs D σ H := ⟨Pv, ⟨m, h0⟩, hs⟩
theorem n_whT {Pv : Nat → L2.St → Hp → Prop} {m : Nat} (h : tbs { D with nx := fun σ' H' => ∃ m', m' < m ∧ Pv m' σ' H', ct := fun σ' H' => ∃ m', m' < m ∧ Pv m' σ' H', bk := D.nx } σ H) : WhK Pv m tbs D σ true H := iteT ⟨_, fun _ _ z => z, h⟩
theorem n_whF {Pv : Nat → L2.St → Hp → Prop} {m : Nat} (h : D.nx σ H) : WhK Pv m tbs D σ false H := iteF h

/-! a, b = x, y -/
def ParK (i j : Nat) (D : Ends) (σ : L2.St) (vs : List V) (H1 : Hp) : Prop := ∃ v w, vs = [v, w] ∧ D.nx ((σ.set i (some v)).set j (some w)) H1
theorem g_par {i j : Nat} (h : ts σ H (ParK i j D σ)) : tPar i j ts D σ H := h
theorem n_par {i j : Nat} {v w : V} {σ' : L2.St} (e : (σ.set i (some v)).set j (some w) = σ') (h : D.nx σ' H) : ParK i j D σ [v, w] H := ⟨v, w, rfl, by rw [e]; exact h⟩
def ParK3 (i j l : Nat) (D : Ends) (σ : L2.St) (vs : List V) (H1 : Hp) : Prop := ∃ u v w, vs = [u, v, w] ∧ D.nx (((σ.set i (some u)).set j (some v)).set l (some w)) H1
theorem g_par3 {i j l : Nat} (h : ts σ H (ParK3 i j l D σ)) : tPar3 i j l ts D σ H := h
theorem n_par3 {i j l : Nat} {u v w : V} {σ' : L2.St} (e : ((σ.set i (some u)).set j (some v)).set l (some w) = σ') (h : D.nx σ' H) : ParK3 i j l D σ [u, v, w] H := ⟨u, v, w, rfl, by rw [e]; exact h⟩
def AugK (i : Nat) (D : Ends) (σ : L2.St) : VK := fun z H2 => D.nx (σ.set i (some z)) H2
theorem g_aug {i : Nat} {x : V} {tip : TIp} (e : σ[i]? = some (some x)) (h : te σ H fun y H1 => tip x y H1 (AugK i D σ)) : tAug i te tip D σ H := ⟨x, e, h⟩
theorem n_aug {i : Nat} {z : V} {σ' : L2.St} (e : σ.set i (some z) = σ') (h : D.nx σ' H) : AugK i D σ z H := by subst e; exact h
theorem g_ipI {f : Int → Int → Int} {i j : Int} (h : Q (.int (f i j)) H) : ipI f (.int i) (.int j) H Q := ⟨i, j, rfl, rfl, h⟩
theorem g_rAdd {i j : Int} (h : Q (.int (i + j)) H) : rAdd (.int i) (.int j) H Q := ⟨i, j, rfl, rfl, h⟩
theorem g_rSub {i j : Int} (h : Q (.int (i - j)) H) : rSub (.int i) (.int j) H Q := ⟨i, j, rfl, rfl, h⟩
def FAK (K : PySem.W.Frag) (f : Str) (tv : TE) (rd : V → V → Hp → VK → Prop) (D : Ends) (σ : L2.St) : VK := fun x H => sFldAug K (fun _ H1 R => R x H1) tv rd f D σ H
def FAE (C a : Addr) (f : Str) (D : Ends) (σ : L2.St) : VK := fun z H3 => ∃ dx' fs', H3 a = some (.ins C dx' fs') ∧ fs'.length < 1000 ∧ D.nx σ (upd H3 a (.ins C dx' (putF f z fs')))
theorem g_fldaug {f : Str} {tv : TE} {rd : V → V → Hp → VK → Prop} (h : ta σ H (FAK K f tv rd D σ)) : sFldAug K ta tv rd f D σ H := h
theorem n_fldaug {a C dx : Addr} {fs : List (Str × V)} {f : Str} {v : V} {tv : TE} {rd : V → V → Hp → VK → Prop} (h1 : H a = some (.ins C dx fs)) (h2 : Cls K C) (h3 : NoAttr K C f) (h4 : fs.lookup f = some v) (h : tv σ H fun y H2 => rd v y H2 (FAE C a f D σ)) : FAK K f tv rd D σ (.ref a) H := ⟨a, C, dx, fs, v, rfl, h1, h2, h3, h4, h⟩
theorem n_fae {a C dx : Addr} {fs : List (Str × V)} {f : Str} {z : V} (h1 : H a = some (.ins C dx fs)) (h4 : fs.length < 1000) (h : ∀ H', Keep a H H' → H' a = some (.ins C dx (putF f z fs)) → D.nx σ H') : FAE C a f D σ z H := ⟨dx, fs, h1, h4, h _ keep_upd upd_same⟩
theorem g_minL {a : Addr} {ns : List Int} (h1 : SqL K H a (ns.map V.int)) (h2 : 0 < ns.length) (h : ∀ m, m ∈ ns → (∀ y, y ∈ ns → m ≤ y) → Q (.int m) H) : rMin K [.ref a] H Q := ⟨a, ns, rfl, h1, h2, h⟩
theorem g_maxL {a : Addr} {ns : List Int} (h1 : SqL K H a (ns.map V.int)) (h2 : 0 < ns.length) (h : ∀ m, m ∈ ns → (∀ y, y ∈ ns → y ≤ m) → Q (.int m) H) : rMax K [.ref a] H Q := ⟨a, ns, rfl, h1, h2, h⟩
theorem g_sumL {a : Addr} {ns : List Int} (h1 : SqL K H a (ns.map V.int)) (h : Q (.int ns.sum) H) : rSum K [.ref a] H Q := ⟨a, ns, rfl, h1, h⟩
theorem g_all {a : Addr} {bs : List Bool} (h1 : SqL K H a (bs.map V.bl)) (h : Q (.bl (bs.all id)) H) : rAll K [.ref a] H Q := ⟨a, bs, rfl, h1, h⟩
theorem g_any {a : Addr} {bs : List Bool} (h1 : SqL K H a (bs.map V.bl)) (h : Q (.bl (bs.any id)) H) : rAny K [.ref a] H Q := ⟨a, bs, rfl, h1, h⟩

/-! a comprehension whose i-th item is f i -/
def PMap (f : Nat → V) (H1 : Hp) : Nat → List V → Hp → Prop := fun i acc H' => Same H1 H' ∧ acc = (List.range i).map f
theorem n_mapK {f : Nat → V} {H1 : Hp} {C : Addr} {i : Nat} {y : V} (hC : H1 C = none) (h1 : Same H1 H) (h2 : H C = some (.lst ((List.range i).map f))) (e : y = f i) (hn : i < 1000000 := by omega) : LcK C (NxP (PMap f H1) C (i + 1)) y H := by
  refine n_lcK h2 (by simp) (by omega) fun H' k hc => ⟨fun b o e => k _ _ (ne_of_none e hC) (h1 _ _ e), ?_⟩
  rw [List.range_succ, List.map_append, e]; rfl
theorem lc_map {J : It} {n : Nat} {G : Hp → Prop} {Y : Nat → Hp → V → Hp → Prop} (w : Walk J n G Y) (f : Nat → V) {H1 : Hp} (hG : ∀ H, Same H1 H → G H)
    (hs : ∀ C i x H H', H1 C = none → i < n → Same H1 H → H C = some (.lst ((List.range i).map f)) → Y i H x H' → g x (wipe σ vs) H' fun σ2 H2 => wipe σ2 vs = wipe σ vs ∧ tt σ2 H2 (LcIf C te σ2 (NxP (PMap f H1) C (i + 1))))
    (hd : ∀ C H, H1 C = none → Same H1 H → H C = some (.lst ((List.range n).map f)) → Q (.ref C) H) : LcJ J g tt te vs σ Q H1 := by
  refine lc_run w (PMap f H1) (fun C H' nC s h => ⟨s, rfl⟩) (fun i acc H C nC hC ⟨s, _⟩ => hG H s) ?_ ?_
  · rintro C i acc x H H' nC hi hl hC ⟨s, rfl⟩ y
    exact hs C i x H H' nC hi s hC y
  · rintro C acc H nC hC ⟨s, rfl⟩
    exact hd C H nC s hC
theorem range_getD {α β : Type} (xs : List α) (d : α) (F : α → β) : (List.range xs.length).map (fun i => F (xs.getD i d)) = xs.map F := by
  apply List.ext_getElem
  · simp
  · intro i h1 h2
    simp at h1
    simp [List.getD, List.getElem?_eq_getElem h1]
theorem getD_of {α : Type} {xs : List α} {i : Nat} {x d : α} (h : xs[i]? = some x) : xs.getD i d = x := by simp [List.getD, h]
theorem cps_get {z : Str} {i c : Nat} (h : z.cps[i]? = some c) : z.cps.toList[i]? = some c := by simpa using h
end
end HC
/-! short words for terms -/
namespace HC
open PyProof.Rows PySem L2 PySem.Spec
theorem bt_len : bootBuiltins "len" = some (.builtin "len") := by decide +kernel
theorem bt_abs : bootBuiltins "abs" = some (.builtin "abs") := by decide +kernel
theorem bt_min : bootBuiltins "min" = some (.builtin "min") := by decide +kernel
theorem bt_max : bootBuiltins "max" = some (.builtin "max") := by decide +kernel
theorem bt_all : bootBuiltins "all" = some (.builtin "all") := by decide +kernel
theorem bt_any : bootBuiltins "any" = some (.builtin "any") := by decide +kernel
theorem bt_sum : bootBuiltins "sum" = some (.builtin "sum") := by decide +kernel
theorem bt_isinstance : bootBuiltins "isinstance" = some (.builtin "isinstance") := by decide +kernel
theorem bt_list : bootBuiltins "list" = some (.type "list") := by decide +kernel
theorem bt_tuple : bootBuiltins "tuple" = some (.type "tuple") := by decide +kernel
theorem bt_int : bootBuiltins "int" = some (.type "int") := by decide +kernel
theorem bt_str : bootBuiltins "str" = some (.type "str") := by decide +kernel
theorem bt_bool : bootBuiltins "bool" = some (.type "bool") := by decide +kernel
theorem bt_dict : bootBuiltins "dict" = some (.type "dict") := by decide +kernel
/-- the builtins' names are not the module's -/
structure Bts (mg : Str → Option Value) : Prop where
  len : mg "len" = none
  abs : mg "abs" = none
  min : mg "min" = none
  max : mg "max" = none
  all : mg "all" = none
  any : mg "any" = none
  sum : mg "sum" = none
  isinstance : mg "isinstance" = none
  list : mg "list" = none
  tuple : mg "tuple" = none
  int : mg "int" = none
  str : mg "str" = none
  bool : mg "bool" = none
  dict : mg "dict" = none
  range : mg "range" = none
  enumerate : mg "enumerate" = none
  zip : mg "zip" = none
  sorted : mg "sorted" = none
  set : mg "set" = none
def GInt (mg : Str → Option Value) (x : Str) (i : Int) : Prop := ∃ t, mg x = some (.int i t)
def GStr (mg : Str → Option Value) (x : Str) (z : Str) : Prop := ∃ t, mg x = some (.str z t)
/-- the class x (at C) has the int constant f -/
structure GCon (K : PySem.W.Frag) (mg : Str → Option Value) (x f : Str) (v : V) : Prop where
  ex : ∃ C mc u, mg x = some (.ref C) ∧ ClX.CRead K C mc ∧ ClX.CVal K C mc f v u
section
variable {X : Cx} {e e2 o : Expr} {es : List Expr} {te te2 to : TE} {ts : TA} {p pos apos tpos : Pos} {x f : Str}
theorem pe_gi {i : Int} (h : GInt X.mg x i) (hg : Gl X x := by rfl) (hd : (x == ("__debug__" : Str)) = false := by decide) : PE X (.Name x pos) (tC (.int i)) := by
  obtain ⟨t, h⟩ := h
  exact pe_glob hg h ⟨t, rfl⟩ hd
theorem pe_gs {z : Str} (h : GStr X.mg x z) (hg : Gl X x := by rfl) (hd : (x == ("__debug__" : Str)) = false := by decide) : PE X (.Name x pos) (tC (.str z)) := by
  obtain ⟨t, h⟩ := h
  exact pe_glob hg h ⟨t, rfl⟩ hd
theorem pe_gcon {v : V} (h : GCon X.K X.mg x f v) (hg : Gl X x := by rfl) (hb : attributeBase (.Name x p) f X.env (eval (.Name x p) X.env) = eval (.Name x p) X.env := by rfl) (hd : (x == ("__debug__" : Str)) = false := by decide) : PE X (.Attribute (.Name x p) f pos) (tC v) := by
  obtain ⟨C, mc, u, h1, h2, h3⟩ := h.ex
  exact ⟨fun pins s σ H Q I h => (ClX.pe_cval (pe_glob (v := .ref C) hg h1 rfl hd) hb).run pins s σ H Q I ⟨C, mc, v, u, rfl, h2, h3, h⟩⟩
theorem pe_len0 (m : Bts X.mg) (he : PE X e te) (hg : Gl X "len" := by rfl) (hs : starEach (e :: []) X.env = (false, eval e X.env) :: starEach [] X.env := by rfl) : PE X (.Call (.Name "len" p) [e] [] pos) (tCB (uLen X.K) (tCons te tNil)) :=
  pe_callB call_lenU hg m.len bt_len (pa_cons he pa_nil hs) (by decide) (by decide) hs rfl
theorem pe_len (K' : PySem.W.Frag) (m : Bts X.mg) (he : PE X e te) (hg : Gl X "len" := by rfl) (hs : starEach (e :: []) X.env = (false, eval e X.env) :: starEach [] X.env := by rfl) (hK : X.K = K' := by rfl) : PE X (.Call (.Name "len" p) [e] [] pos) (tCB (uLen K') (tCons te tNil)) := by
  subst hK
  exact pe_len0 m he hg hs
def rAbs : List V → Hp → VK → Prop := fun xs H Q => ∃ i, xs = [.int i] ∧ Q (.int (if i < 0 then -i else i)) H
theorem pe_abs (m : Bts X.mg) (he : PE X e te) (hg : Gl X "abs" := by rfl) (hs : starEach (e :: []) X.env = (false, eval e X.env) :: starEach [] X.env := by rfl) : PE X (.Call (.Name "abs" p) [e] [] pos) (tCB rAbs (tCons te tNil)) :=
  pe_callB call_abs hg m.abs bt_abs (pa_cons he pa_nil hs) (by decide) (by decide) hs rfl
def rMin2 : List V → Hp → VK → Prop := fun xs H Q => ∃ i j, xs = [.int i, .int j] ∧ Q (.int (if j < i then j else i)) H
theorem pe_min2 (m : Bts X.mg) (ha : PA X [e, e2] ts) (hc : X.calm = true := by rfl) (hg : Gl X "min" := by rfl) (he : starEach [e, e2] X.env = (false, eval e X.env) :: starEach [e2] X.env := by rfl) (hpl : (backTo pos (starEach [e2] X.env)).any (·.1) = false := by rfl) :
    PE X (.Call (.Name "min" p) [e, e2] [] pos) (tCB rMin2 ts) := pe_callB (call_min2 hc) hg m.min bt_min ha (by decide) (by decide) he hpl
theorem pe_max2 (m : Bts X.mg) (ha : PA X [e, e2] ts) (hc : X.calm = true := by rfl) (hg : Gl X "max" := by rfl) (he : starEach [e, e2] X.env = (false, eval e X.env) :: starEach [e2] X.env := by rfl) (hpl : (backTo pos (starEach [e2] X.env)).any (·.1) = false := by rfl) :
    PE X (.Call (.Name "max" p) [e, e2] [] pos) (tCB Evl.rMax2 ts) := pe_callB (call_max2 hc) hg m.max bt_max ha (by decide) (by decide) he hpl
theorem pe_min10 (m : Bts X.mg) (he : PE X e te) (hc : X.calm = true := by rfl) (hg : Gl X "min" := by rfl) (hs : starEach (e :: []) X.env = (false, eval e X.env) :: starEach [] X.env := by rfl) : PE X (.Call (.Name "min" p) [e] [] pos) (tCB (rMin X.K) (tCons te tNil)) :=
  pe_callB (cr_min hc) hg m.min bt_min (pa_cons he pa_nil hs) (by decide) (by decide) hs rfl
theorem pe_min1 (K' : PySem.W.Frag) (m : Bts X.mg) (he : PE X e te) (hc : X.calm = true := by rfl) (hg : Gl X "min" := by rfl) (hs : starEach (e :: []) X.env = (false, eval e X.env) :: starEach [] X.env := by rfl) (hK : X.K = K' := by rfl) : PE X (.Call (.Name "min" p) [e] [] pos) (tCB (rMin K') (tCons te tNil)) := by
  subst hK
  exact pe_min10 m he hc hg hs
theorem pe_max10 (m : Bts X.mg) (he : PE X e te) (hc : X.calm = true := by rfl) (hg : Gl X "max" := by rfl) (hs : starEach (e :: []) X.env = (false, eval e X.env) :: starEach [] X.env := by rfl) : PE X (.Call (.Name "max" p) [e] [] pos) (tCB (rMax X.K) (tCons te tNil)) :=
  pe_callB (cr_max hc) hg m.max bt_max (pa_cons he pa_nil hs) (by decide) (by decide) hs rfl
theorem pe_max1 (K' : PySem.W.Frag) (m : Bts X.mg) (he : PE X e te) (hc : X.calm = true := by rfl) (hg : Gl X "max" := by rfl) (hs : starEach (e :: []) X.env = (false, eval e X.env) :: starEach [] X.env := by rfl) (hK : X.K = K' := by rfl) : PE X (.Call (.Name "max" p) [e] [] pos) (tCB (rMax K') (tCons te tNil)) := by
  subst hK
  exact pe_max10 m he hc hg hs
theorem pe_sum10 (m : Bts X.mg) (he : PE X e te) (hc : X.calm = true := by rfl) (hg : Gl X "sum" := by rfl) (hs : starEach (e :: []) X.env = (false, eval e X.env) :: starEach [] X.env := by rfl) : PE X (.Call (.Name "sum" p) [e] [] pos) (tCB (rSum X.K) (tCons te tNil)) :=
  pe_callB (cr_sum hc) hg m.sum bt_sum (pa_cons he pa_nil hs) (by decide) (by decide) hs rfl
theorem pe_sum1 (K' : PySem.W.Frag) (m : Bts X.mg) (he : PE X e te) (hc : X.calm = true := by rfl) (hg : Gl X "sum" := by rfl) (hs : starEach (e :: []) X.env = (false, eval e X.env) :: starEach [] X.env := by rfl) (hK : X.K = K' := by rfl) : PE X (.Call (.Name "sum" p) [e] [] pos) (tCB (rSum K') (tCons te tNil)) := by
  subst hK
  exact pe_sum10 m he hc hg hs
theorem pe_all0 (m : Bts X.mg) (he : PE X e te) (hc : X.calm = true := by rfl) (hg : Gl X "all" := by rfl) (hs : starEach (e :: []) X.env = (false, eval e X.env) :: starEach [] X.env := by rfl) : PE X (.Call (.Name "all" p) [e] [] pos) (tCB (rAll X.K) (tCons te tNil)) :=
  pe_callB (cr_all hc) hg m.all bt_all (pa_cons he pa_nil hs) (by decide) (by decide) hs rfl
theorem pe_all (K' : PySem.W.Frag) (m : Bts X.mg) (he : PE X e te) (hc : X.calm = true := by rfl) (hg : Gl X "all" := by rfl) (hs : starEach (e :: []) X.env = (false, eval e X.env) :: starEach [] X.env := by rfl) (hK : X.K = K' := by rfl) : PE X (.Call (.Name "all" p) [e] [] pos) (tCB (rAll K') (tCons te tNil)) := by
  subst hK
  exact pe_all0 m he hc hg hs
theorem pe_any0 (m : Bts X.mg) (he : PE X e te) (hc : X.calm = true := by rfl) (hg : Gl X "any" := by rfl) (hs : starEach (e :: []) X.env = (false, eval e X.env) :: starEach [] X.env := by rfl) : PE X (.Call (.Name "any" p) [e] [] pos) (tCB (rAny X.K) (tCons te tNil)) :=
  pe_callB (cr_any hc) hg m.any bt_any (pa_cons he pa_nil hs) (by decide) (by decide) hs rfl
theorem pe_any (K' : PySem.W.Frag) (m : Bts X.mg) (he : PE X e te) (hc : X.calm = true := by rfl) (hg : Gl X "any" := by rfl) (hs : starEach (e :: []) X.env = (false, eval e X.env) :: starEach [] X.env := by rfl) (hK : X.K = K' := by rfl) : PE X (.Call (.Name "any" p) [e] [] pos) (tCB (rAny K') (tCons te tNil)) := by
  subst hK
  exact pe_any0 m he hc hg hs
def rInt1 : List V → Hp → VK → Prop := fun xs H Q => (∃ i, xs = [.int i] ∧ Q (.int i) H) ∨ ∃ k, xs = [.bl k] ∧ Q (.int (if k then 1 else 0)) H
theorem pe_int1 (m : Bts X.mg) (he : PE X e te) (hg : Gl X "int" := by rfl) (hs : starEach (e :: []) X.env = (false, eval e X.env) :: starEach [] X.env := by rfl) : PE X (.Call (.Name "int" p) [e] [] pos) (tCB rInt1 (tCons te tNil)) :=
  pe_callTy call_int1 hg m.int bt_int (pa_cons he pa_nil hs) (by decide) (by decide) hs rfl
def rListOf (K : PySem.W.Frag) : List V → Hp → VK → Prop := fun xs H Q => ∃ p ys, xs = [.ref p] ∧ (SqL K H p ys ∨ SqT K H p ys) ∧ ∀ l, H l = none → Q (.ref l) (upd H l (.lst ys))
def rTupleOf (K : PySem.W.Frag) : List V → Hp → VK → Prop := fun xs H Q => ∃ p ys, xs = [.ref p] ∧ ((SqL K H p ys ∧ ∀ l, H l = none → Q (.ref l) (upd H l (.tup ys))) ∨ (SqT K H p ys ∧ Q (.ref p) H))
theorem pe_listOf0 (m : Bts X.mg) (he : PE X e te) (hg : Gl X "list" := by rfl) (hs : starEach (e :: []) X.env = (false, eval e X.env) :: starEach [] X.env := by rfl) : PE X (.Call (.Name "list" p) [e] [] pos) (tCB (rListOf X.K) (tCons te tNil)) :=
  pe_callTy call_list_of hg m.list bt_list (pa_cons he pa_nil hs) (by decide) (by decide) hs rfl
theorem pe_listOf (K' : PySem.W.Frag) (m : Bts X.mg) (he : PE X e te) (hg : Gl X "list" := by rfl) (hs : starEach (e :: []) X.env = (false, eval e X.env) :: starEach [] X.env := by rfl) (hK : X.K = K' := by rfl) : PE X (.Call (.Name "list" p) [e] [] pos) (tCB (rListOf K') (tCons te tNil)) := by
  subst hK
  exact pe_listOf0 m he hg hs
theorem pe_tupOf0 (m : Bts X.mg) (he : PE X e te) (hg : Gl X "tuple" := by rfl) (hs : starEach (e :: []) X.env = (false, eval e X.env) :: starEach [] X.env := by rfl) : PE X (.Call (.Name "tuple" p) [e] [] pos) (tCB (rTupleOf X.K) (tCons te tNil)) :=
  pe_callTy call_tuple_of hg m.tuple bt_tuple (pa_cons he pa_nil hs) (by decide) (by decide) hs rfl
theorem pe_tupOf (K' : PySem.W.Frag) (m : Bts X.mg) (he : PE X e te) (hg : Gl X "tuple" := by rfl) (hs : starEach (e :: []) X.env = (false, eval e X.env) :: starEach [] X.env := by rfl) (hK : X.K = K' := by rfl) : PE X (.Call (.Name "tuple" p) [e] [] pos) (tCB (rTupleOf K') (tCons te tNil)) := by
  subst hK
  exact pe_tupOf0 m he hg hs
/-- isinstance(e, T), T a built-in class -/
theorem pe_isiB0 {T : String} {n : Str} (m : Bts X.mg) (hn : X.mg n = none) (hb : bootBuiltins n = some (.type T)) (he : PE X e te) (hg : Gl X "isinstance" := by rfl) (hg2 : Gl X n := by rfl) (hd1 : n ≠ "__name__" := by decide) (hd2 : (n == ("__debug__" : Str)) = false := by decide)
    (hs : starEach [e, .Name n tpos] X.env = (false, eval e X.env) :: starEach [.Name n tpos] X.env := by rfl) (hs2 : starEach [.Name n tpos] X.env = (false, eval (.Name n tpos) X.env) :: starEach [] X.env := by rfl) (hpl : (backTo pos (starEach [.Name n tpos] X.env)).any (·.1) = false := by rfl) :
    PE X (.Call (.Name "isinstance" p) [e, .Name n tpos] [] pos) (tCB (rIsi X.K) (tCons te (tCons (tC (.ty T)) tNil))) :=
  pe_callB (p := p) (pos := pos) call_isi hg m.isinstance bt_isinstance (pa_cons he (pa_cons (pe_bltn (pos := tpos) (v := .ty T) hg2 hn hb rfl hd1 hd2) pa_nil hs2) hs) (by decide) (by decide) hs hpl
theorem pe_isiB (K' : PySem.W.Frag) {T : String} {n : Str} (m : Bts X.mg) (hn : X.mg n = none) (hb : bootBuiltins n = some (.type T)) (he : PE X e te) (hg : Gl X "isinstance" := by rfl) (hg2 : Gl X n := by rfl) (hd1 : n ≠ "__name__" := by decide) (hd2 : (n == ("__debug__" : Str)) = false := by decide)
    (hs : starEach [e, .Name n tpos] X.env = (false, eval e X.env) :: starEach [.Name n tpos] X.env := by rfl) (hs2 : starEach [.Name n tpos] X.env = (false, eval (.Name n tpos) X.env) :: starEach [] X.env := by rfl) (hpl : (backTo pos (starEach [.Name n tpos] X.env)).any (·.1) = false := by rfl) (hK : X.K = K' := by rfl) :
    PE X (.Call (.Name "isinstance" p) [e, .Name n tpos] [] pos) (tCB (rIsi K') (tCons te (tCons (tC (.ty T)) tNil))) := by
  subst hK
  exact pe_isiB0 m hn hb he hg hg2 hd1 hd2 hs hs2 hpl
/-- isinstance(e, C), C a class of the module -/
theorem pe_isiC0 {C : Addr} {n : Str} (m : Bts X.mg) (hn : X.mg n = some (.ref C)) (he : PE X e te) (hg : Gl X "isinstance" := by rfl) (hg2 : Gl X n := by rfl) (hd2 : (n == ("__debug__" : Str)) = false := by decide)
    (hs : starEach [e, .Name n tpos] X.env = (false, eval e X.env) :: starEach [.Name n tpos] X.env := by rfl) (hs2 : starEach [.Name n tpos] X.env = (false, eval (.Name n tpos) X.env) :: starEach [] X.env := by rfl) (hpl : (backTo pos (starEach [.Name n tpos] X.env)).any (·.1) = false := by rfl) :
    PE X (.Call (.Name "isinstance" p) [e, .Name n tpos] [] pos) (tCB (rIsi X.K) (tCons te (tCons (tC (.ref C)) tNil))) :=
  pe_callB (p := p) (pos := pos) call_isi hg m.isinstance bt_isinstance (pa_cons he (pa_cons (pe_glob (pos := tpos) (v := .ref C) hg2 hn rfl hd2) pa_nil hs2) hs) (by decide) (by decide) hs hpl
/-! methods of built-in types -/
variable {K : PySem.W.Frag} {H : Hp} {Q : VK} {σ : L2.St}
theorem pe_isiC (K' : PySem.W.Frag) {C : Addr} {n : Str} (m : Bts X.mg) (hn : X.mg n = some (.ref C)) (he : PE X e te) (hg : Gl X "isinstance" := by rfl) (hg2 : Gl X n := by rfl) (hd2 : (n == ("__debug__" : Str)) = false := by decide)
    (hs : starEach [e, .Name n tpos] X.env = (false, eval e X.env) :: starEach [.Name n tpos] X.env := by rfl) (hs2 : starEach [.Name n tpos] X.env = (false, eval (.Name n tpos) X.env) :: starEach [] X.env := by rfl) (hpl : (backTo pos (starEach [.Name n tpos] X.env)).any (·.1) = false := by rfl) (hK : X.K = K' := by rfl) :
    PE X (.Call (.Name "isinstance" p) [e, .Name n tpos] [] pos) (tCB (rIsi K') (tCons te (tCons (tC (.ref C)) tNil))) := by
  subst hK
  exact pe_isiC0 m hn he hg hg2 hd2 hs hs2 hpl
end
section
variable {X : Cx} {K : PySem.W.Frag} {H : Hp} {Q : VK} {σ : L2.St}
theorem g_abs {i : Int} (h : Q (.int (if i < 0 then -i else i)) H) : rAbs [.int i] H Q := ⟨i, rfl, h⟩
theorem g_min2 {i j : Int} (h : Q (.int (if j < i then j else i)) H) : rMin2 [.int i, .int j] H Q := ⟨i, j, rfl, h⟩
theorem g_max2 {i j : Int} (h : Q (.int (if j > i then j else i)) H) : Evl.rMax2 [.int i, .int j] H Q := ⟨i, j, rfl, h⟩
theorem g_int_i {i : Int} (h : Q (.int i) H) : rInt1 [.int i] H Q := .inl ⟨i, rfl, h⟩
theorem g_int_b {k : Bool} (h : Q (.int (if k then 1 else 0)) H) : rInt1 [.bl k] H Q := .inr ⟨k, rfl, h⟩
theorem g_listOf {p : Addr} {ys : List V} (h1 : SqL K H p ys ∨ SqT K H p ys) (h : ∀ l H', H l = none → Same H H' → H' l = some (.lst ys) → Q (.ref l) H') : rListOf K [.ref p] H Q := ⟨p, ys, rfl, h1, fun l hl => h l _ hl (same_new hl) upd_same⟩
theorem g_tupOf_l {p : Addr} {ys : List V} (h1 : SqL K H p ys) (h : ∀ l H', H l = none → Same H H' → H' l = some (.tup ys) → Q (.ref l) H') : rTupleOf K [.ref p] H Q := ⟨p, ys, rfl, .inl ⟨h1, fun l hl => h l _ hl (same_new hl) upd_same⟩⟩
theorem g_tupOf_t {p : Addr} {ys : List V} (h1 : SqT K H p ys) (h : Q (.ref p) H) : rTupleOf K [.ref p] H Q := ⟨p, ys, rfl, .inr ⟨h1, h⟩⟩
theorem g_isi {x : V} {t T : String} {b : Bool} (h1 : TyX K H x (.type t)) (h2 : kitB t T = some b) (h : Q (.bl b) H) : rIsi K [x, .ty T] H Q := ⟨x, .ty T, .type t, .type T, b, rfl, .ty T, h1, kit_ty h2, h⟩
end

section
variable {X : Cx} {K : PySem.W.Frag} {a b e e2 o value : Expr} {es : List Expr} {ta tb te to tl : TE} {ts : TA} {p pos apos cpos tpos p2 pos' : Pos} {f name : Str}
theorem op_addK (K) (hK : X.K = K := by rfl) : OpR X (binaryOp .Add) (uAdd K) := by subst hK; exact op_addU
theorem op_eqK (K) {k : Nat} (hr : Room k X.A) (hK : X.K = K := by rfl) : OpR X (compareOp .Eq) (uEq K) := by subst hK; exact op_eqU hr
theorem op_neK (K) {k : Nat} (hr : Room k X.A) (hK : X.K = K := by rfl) : OpR X (compareOp .NotEq) (uNe K) := by subst hK; exact op_neU hr
theorem op_inK (K) {k : Nat} (hr : Room k X.A) (hK : X.K = K := by rfl) : OpR X (compareOp .In) (uIn K) := by subst hK; exact op_inU hr
theorem op_notInK (K) {k : Nat} (hr : Room k X.A) (hK : X.K = K := by rfl) : OpR X (compareOp .NotIn) (uNotIn K) := by subst hK; exact op_notInU hr
theorem ix_K (K) (hK : X.K = K := by rfl) : IxR X (rIx K) := by subst hK; exact ix_seq
theorem sl_listK (K) (hK : X.K = K := by rfl) : SlR X (rSlL K) := by subst hK; exact sl_list
theorem sl_tupK (K) (hK : X.K = K := by rfl) : SlR X (rSlA K) := by subst hK; exact sl_tupA
theorem pe_fldK (K) (he : PE X e ta) (hb : attributeBase e f X.env (eval e X.env) = eval e X.env := by rfl) (hK : X.K = K := by rfl) : PE X (.Attribute e f pos) (tFld K ta f) := by subst hK; exact pe_fld he hb
theorem ps_fldK (K) (ha : PE X o ta) (hv : PE X value te) (hs : swapsWith value (some (.Attribute o f pos')) pos.line X.env = pure false := by rfl) (hK : X.K = K := by rfl) : PS X (.Assign [.Attribute o f pos'] value pos) (sFld K ta te f) := by subst hK; exact ps_fld ha hv hs
theorem ps_fldaugK (K) {op : Operator} {rd : V → V → Hp → VK → Prop} (ha : PE X o ta) (hv : PE X value te) (hop : InOp X op rd) (hK : X.K = K := by rfl) : PS X (.AugAssign (.Attribute o f tpos) op value pos) (sFldAug K ta te rd f) := by subst hK; exact ps_fldaug ha hv hop
theorem as_bm (K) {c : Expr} {T : String} {r : V → List V → Hp → VK → Prop} (h : PE X c (tBM X.K T r to ts)) (hK : X.K = K := by rfl) : PE X c (tBM K T r to ts) := by subst hK; exact h
theorem pi_listK (K) {tg : Expr} (hl : PE X e tl) (hK : X.K = K := by rfl) : PI X tg e (iList K tl) := by subst hK; exact pi_list hl
theorem pi_tupK (K) {tg : Expr} (hl : PE X e tl) (hK : X.K = K := by rfl) : PI X tg e (iTup K tl) := by subst hK; exact pi_tup hl
theorem pi_enumTK (K) {elts : List Expr} {kk : Nat} (hg : Gl X "enumerate") (hm : X.mg "enumerate" = none) (ha : PA X [e] ts) (hs : starEach [e] X.env = [(false, eval e X.env)] := by rfl) (hK : X.K = K := by rfl) :
    PI X (.Tuple elts kk tpos) (.Call (.Name "enumerate" p) [e] [] pos) (iEnumT K ts) := by subst hK; exact pi_enumT hg hm ha hs
theorem pi_enumLK (K) {elts : List Expr} {kk : Nat} (hg : Gl X "enumerate") (hm : X.mg "enumerate" = none) (ha : PA X [e] ts) (hs : starEach [e] X.env = [(false, eval e X.env)] := by rfl) (hK : X.K = K := by rfl) :
    PI X (.Tuple elts kk tpos) (.Call (.Name "enumerate" p) [e] [] pos) (iEnum K ts) := by subst hK; exact pi_enum hg hm ha hs
theorem pi_zipK (K) {elts : List Expr} {kk : Nat} (hg : Gl X "zip") (hm : X.mg "zip" = none) (ha : PA X [e, e2] ts) (hs : starEach [e, e2] X.env = (false, eval e X.env) :: starEach [e2] X.env := by rfl) (hpl : (backTo pos (starEach [e2] X.env)).any (·.1) = false := by rfl) (hK : X.K = K := by rfl) :
    PI X (.Tuple elts kk tpos) (.Call (.Name "zip" p) [e, e2] [] pos) (RZ.iZipA K ts) := by subst hK; exact RZ.pi_zipA hg hm ha hs hpl
theorem pg_tupK (K) {k : Nat} {t : TGs} {n : Nat} (hc : X.calm = true) (h : PGs X es t) (hn : (assignEach es X.env).length = n := by rfl) (hst : (assignEach es X.env).findIdx? (·.1) = none := by rfl) (hK : X.K = K := by rfl) : PG X (.Tuple es k pos) (gTup K n t) := by subst hK; exact pg_tup hc h hn hst
theorem pa_starK (K) (he : PE X e te) (hr : PA X es ts) (hs : starEach (.Starred e p :: es) X.env = (true, eval e X.env) :: starEach es X.env := by rfl) (hK : X.K = K := by rfl) : PA X (.Starred e p :: es) (StX.tStar K te ts) := by subst hK; exact StX.pa_star he hr hs
def rJoin (K : PySem.W.Frag) : V → List V → Hp → VK → Prop := fun x xs H Q => ∃ a p, ∃ ys : List Str, x = .str a ∧ xs = [.ref p] ∧ (SqL K H p (ys.map V.str) ∨ SqT K H p (ys.map V.str)) ∧ (ys.map (·.length)).sum + ys.length * a.length ≤ 16777216 ∧ Q (.str (Txt.join a ys)) H
theorem pe_joinK (K) (ho : PE X o to) (he : PE X e te) (hs : starEach [e] X.env = [(false, eval e X.env)] := by rfl) (hbase : attributeBase o "join" X.env (eval o X.env) = eval o X.env := by rfl) (hline : (apos.endLine == pos.line) = true := by rfl) (hK : X.K = K := by rfl) :
    PE X (.Call (.Attribute o "join" apos) [e] [] pos) (tM1 (rJoin K) to te) := by subst hK; exact pe_join ho he hs hbase hline
theorem pe_makeSK (K) {x : Str} {C : Addr} {k : Nat} {sp : Sp} {E : XK} (M : MakeR X.prog X.w X.K X.mg X.base x C k sp) (hr : Room (k + 1) X.A) (hx : Passes (CXW X.prog X.w) X E) (he : PE X e te) (hg : Gl X x := by rfl) (hd : (x == ("__debug__" : Str)) = false := by decide)
    (hst : starEach [.Starred e apos] X.env = [(true, eval e X.env)] := by rfl) (hK : X.K = K := by rfl) : PE X (.Call (.Name x p) [.Starred e apos] [] pos) (StX.tMakeR C sp E (tStar1 K te)) := by subst hK; exact pe_makeS M hr hx he hg hd hst
end
end HC
/-! the head's facts: defs at any address, facts by names, properties, constants of classes -/
namespace HC
open PySem PySem.W PySem.Calls PyProof.Rows He He5 L2
/-- a property's getter -/
def pgA (K : Frag) (C : Addr) (f : PySem.Str) : Addr := match recIn K (ma K C f) "property" with
  | some (.ref g :: _) => g
  | _ => 0
def propB (K : Frag) (C : Addr) (f : PySem.Str) : Bool := eqO (findIn K (.ref C) f) (some (some (.ref (ma K C f)))) && (eqO (specialIn K (.ref (ma K C f)) "__get__") (some (some (.builtin "property.__get__"))) &&
  (decide (takesIn K (.ref (ma K C f)) = some true) && (match recIn K (ma K C f) "property" with
    | some (.ref _ :: _) => true
    | _ => false)))
theorem propB_ok {K : Frag} {C : Addr} {f : PySem.Str} (h : propB K C f = true) : PropOf K C f (ma K C f) (pgA K C f) := by
  obtain ⟨h1, h⟩ := ba h
  obtain ⟨h2, h⟩ := ba h
  obtain ⟨h3, h4⟩ := ba h
  refine ⟨eqO_ok h1, eqO_ok h2, of_decide_eq_true h3, ?_⟩
  unfold pgA
  split at h4
  · rename_i g r e
    exact ⟨r, by rw [e]⟩
  · cases h4
def gconB (K : Frag) (C : Addr) (f : PySem.Str) (v : V) : Bool := readsIn K C (.type "type") && (eqO (specialIn K (.ref C) "__getattribute__") (some (some (.builtin "type.__getattribute__"))) && (match findCls K (.ref C) (.type "type") f with
  | some (.val u) => relB v u
  | _ => false))
theorem gconB_ok {K : Frag} {mg : PySem.Str → Option Value} {x f : PySem.Str} {C : Addr} {v : V} (hx : mg x = some (.ref C)) (h : gconB K C f v = true) : GCon K mg x f v := by
  obtain ⟨h1, h⟩ := ba h
  obtain ⟨h2, h3⟩ := ba h
  split at h3
  · rename_i u e
    exact ⟨C, .type "type", u, hx, ⟨h1, eqO_ok h2⟩, ⟨e, relB_ok h3⟩⟩
  · cases h3
/-- facts that He.Fa has no word for -/
inductive Fx where
  | prop (c f : PySem.Str)
  | con (c f : PySem.Str) (v : V)
def Fx.ok (K : Frag) : Fx → Bool
  | .prop c f => propB K (ga K c) f
  | .con c f v => gconB K (ga K c) f v
/-- the library's observation of facts and defs, and these facts beside it -/
def obsH (fx : List Fx) (fa : List Fa) (fn : List DefA) (K : Frag) : He.AlD × Bool := (obsA fa fn K, fx.all (Fx.ok K))
structure SaysH (fx : List Fx) (fa : List Fa) (fn : List DefA) (K : Frag) : Prop where
  base : SaysA fa fn K
  also : fx.all (Fx.ok K) = true
theorem SaysH.more {fx : List Fx} {fa : List Fa} {fn : List DefA} {K : Frag} (c : SaysH fx fa fn K) (i : Nat) {f : Fx} (at_ : fx[i]? = some f := by rfl) : f.ok K = true :=
  (List.all_eq_true.mp c.also) f (List.mem_of_getElem? at_)
def obsHG (n : Nat) (fx : List Fx) (fa : List Fa) (fn : List DefA) (g : Addr → Option Obj) : He.AlD × Bool := obsH fx fa fn (frG g (asA g n))
def hookH (n : Nat) (fx : List Fx) (fa : List Fa) (fn : List DefA) : PySem.W.Hook where
  α := He.AlD × Bool
  obs s := obsHG n fx fa fn s.heap.get?
  val _ := (valA fn, true)
  says _ h := ∃ K : Frag, K.In h ∧ SaysH fx fa fn K
  of _ _ both := ⟨_, frG_in, congrArg Prod.fst both, congrArg Prod.snd both⟩
  keeps _ _ _ here up := let ⟨K, inH, says⟩ := here; ⟨K, inH.keeps up, says⟩
theorem obsHG_eq {n : Nat} {fx : List Fx} {fa : List Fa} {fn : List DefA} {g : Addr → Option Obj} {s : Shared} (same : ∀ a, g a = s.heap.get? a) : obsHG n fx fa fn g = (hookH n fx fa fn).obs s := congrArg (obsHG n fx fa fn) (funext same)
end HC
namespace HC
open PyProof.Rows PySem L2 PySem.Spec
local macro_rules | `(tactic| walk_at "hp") => `(tactic| first | assumption | exact upd_same)
local macro_rules | `(tactic| walk_at "go1") => `(tactic| first
  | with_reducible refine g_seq ?_ | with_reducible refine g_asg ?_ | with_reducible refine g_op ?_ | ((with_reducible refine' g_var ?hv ?_); (case hv => exact rfl))
  | with_reducible refine g_c ?_ | with_reducible refine g_cons ?_ | with_reducible refine g_nil ?_ | with_reducible refine g_cb ?_ | with_reducible refine g_callR ?_
  | ((with_reducible refine' g_name ?hv ?_); (case hv => first | (simp only [List.set]; rfl) | (simp only [wipe, List.map, List.set]; rfl)))
  | with_reducible refine g_ret ?_ | with_reducible refine g_drop ?_ | with_reducible refine g_ifS ?_ | with_reducible refine g_test ?_ | with_reducible refine g_tB ?_ | with_reducible refine g_bl ?_
  | with_reducible refine g_add_i ?_ | with_reducible refine g_sub ?_ | with_reducible refine g_lt ?_ | with_reducible refine g_le ?_ | with_reducible refine g_gt ?_ | with_reducible refine g_ge ?_
  | with_reducible refine g_eq_i ?_ | with_reducible refine g_ne_i ?_ | with_reducible refine g_eq_s ?_ | with_reducible refine g_ne_s ?_ | with_reducible refine g_eq_b ?_ | with_reducible refine g_ne_b ?_ | with_reducible refine g_isN ?_ | with_reducible refine g_notN ?_
  | with_reducible refine g_and ?_ | with_reducible refine g_or ?_ | with_reducible refine g_not ?_ | with_reducible refine g_andV ?_ | with_reducible refine g_orV ?_ | with_reducible refine g_notV ?_ | with_reducible refine g_if ?_ | with_reducible refine g_chain ?_
  | with_reducible refine g_tup ?_ | with_reducible refine g_lst ?_ | with_reducible refine g_un ?_ | with_reducible refine g_next ?_
  | with_reducible refine g_bm ?_ | with_reducible refine g_bm0 ?_ | with_reducible refine g_m1 ?_ | with_reducible refine g_m0 ?_ | with_reducible refine g_tyS ?_ | with_reducible refine g_gsub ?_
  | with_reducible refine g_fld ?_ | with_reducible refine g_prop ?_ | with_reducible refine g_meth ?_ | with_reducible refine g_make ?_ | with_reducible refine g_star1 ?_ | with_reducible refine g_star ?_ | with_reducible refine g_sfld ?_
  | with_reducible refine g_forL ?_ | with_reducible refine g_forT ?_ | with_reducible refine g_forS ?_ | with_reducible refine g_forR1 ?_ | with_reducible refine g_forR2 ?_ | with_reducible refine g_forET ?_
  | with_reducible refine g_lcL ?_ | with_reducible refine g_lcT ?_ | with_reducible refine g_lcS ?_ | with_reducible refine g_lcR1 ?_ | with_reducible refine g_yes ?_ | with_reducible refine g_lcIfT ?_ | with_reducible refine g_lcIfF ?_
  | with_reducible refine g_gcons ?_ | with_reducible refine g_gnil ?_ | with_reducible refine g_sl ?_ | with_reducible refine g_noPart ?_ | with_reducible refine g_part ?_ | with_reducible refine g_partI ?_
  | with_reducible refine g_par ?_ | with_reducible refine g_par3 ?_ | ((with_reducible refine' n_par ?hv ?_); (case hv => (simp only [List.set]; rfl))) | ((with_reducible refine' n_par3 ?hv ?_); (case hv => (simp only [List.set]; rfl)))
  | ((with_reducible refine' g_aug ?hv ?_); (case hv => exact rfl)) | ((with_reducible refine' n_aug ?hv ?_); (case hv => (simp only [List.set]; rfl))) | with_reducible refine g_ipI ?_ | with_reducible refine g_rAdd ?_ | with_reducible refine g_rSub ?_ | with_reducible refine g_fldaug ?_
  | with_reducible refine g_neg ?_ | with_reducible refine g_abs ?_ | with_reducible refine g_min2 ?_ | with_reducible refine g_max2 ?_ | with_reducible refine g_int_i ?_ | with_reducible refine g_int_b ?_ | with_reducible refine g_in_sign ?_
  | ((with_reducible refine' g_mod ?hv ?_); (case hv => first | assumption | omega | decide)) | ((with_reducible refine' g_fdiv ?hv ?hw ?_); (case hv => first | assumption | omega | decide); (case hw => first | assumption | omega | decide))
  | ((with_reducible refine' g_mul ?hv ?_); (case hv => first | assumption | (unfold CMul; omega)))
  | ((with_reducible refine' g_ix_l ?hv ?hw ?_); (case hv => exact SqL.of (by walk_at "hp")); (case hw => first | exact atI_c0 | exact atI_c1 | exact atI_c2))
  | ((with_reducible refine' g_tyL ?hv ?_); (case hv => exact SqL.of (by walk_at "hp")))
  | ((with_reducible refine' g_len_l ?hv ?_); (case hv => exact SqL.of (by walk_at "hp"))))
local macro_rules | `(tactic| walk_at "go") => `(tactic| repeat walk_at "go1")
section
variable {P : Program} {w : World} {K : PySem.W.Frag}
variable {mg : Str → Option Value} {base : Heap}
def top (i : Nat) : Stmt := PySem.Challenge.pw_harvestcarts_k41_encoded_farms.main.body.getD i (.Pass ⟨0, 0, 0, 0⟩)
structure Md (K : PySem.W.Frag) (mg : Str → Option Value) : Prop where
  b : Bts mg
  g_LETTERS : GStr mg "LETTERS" "abcdefghijklmnopqrstuvwxyz"
  g_MAX_LETTERS : GInt mg "MAX_LETTERS" 8
  g_MAX_LIMIT : GInt mg "MAX_LIMIT" 30
  g_TAG : GInt mg "TAG" 72
  g_MODULUS : GInt mg "MODULUS" 233
  k_Farm_MAX_FIELDS : GCon K mg "Farm" "MAX_FIELDS" (.int 6)
  k_Farm_MAX_STATES : GCon K mg "Farm" "MAX_STATES" (.int 4000)
abbrev FnD (K : PySem.W.Frag) (x q : Str) (st : Stmt) (f : Addr) (fd : FuncData) : Prop := FunD K x q (defArgs st) (defBody st) (defScope st) [] [] f fd
/-- a def of the module; a method; a property's getter -/
def Gd (K : PySem.W.Frag) (mg : Str → Option Value) (x : Str) (st : Stmt) : Prop := ∃ f fd, mg x = some (.ref f) ∧ FnD K x x st f fd
def Gm (K : PySem.W.Frag) (C : Addr) (m q : Str) (st : Stmt) : Prop := Cls K C ∧ ∃ f fd, Meth K C m f ∧ FnD K m q st f fd
def Gk (K : PySem.W.Frag) (mg : Str → Option Value) (x : Str) (C : Addr) (q : Str) (st : Stmt) : Prop := mg x = some (.ref C) ∧ ∃ f fd, Mk K C f ∧ FnD K "__init__" q st f fd
def Gp (K : PySem.W.Frag) (C : Addr) (f q : Str) (st : Stmt) : Prop := Cls K C ∧ ∃ p g fd, PropOf K C f p g ∧ FnD K f q st g fd
theorem def_mk {x : Str} {st : Stmt} {k : Nat} {sp : Sp} (G : Gd K mg x st) (h : ∀ f fd, FnD K x x st f fd → FnU P w K mg base k f sp) : DefR P w K mg base x k sp := by
  obtain ⟨f, fd, h1, h2⟩ := G
  exact ⟨f, h1, h2.kp, h f fd h2⟩
theorem meth_mk {C : Addr} {m q : Str} {st : Stmt} {k : Nat} {sp : Sp} (G : Gm K C m q st) (h : ∀ f fd, FnD K m q st f fd → FnR P w K mg base (CXW P w) k f sp) : MethR P w K mg base C m k sp := by
  obtain ⟨c, f, fd, h1, h2⟩ := G
  exact ⟨c, f, h1, h f fd h2⟩
theorem make_mk {x : Str} {C : Addr} {q : Str} {st : Stmt} {k : Nat} {sp : Sp} (G : Gk K mg x C q st) (h : ∀ f fd, FnD K "__init__" q st f fd → FnR P w K mg base (CXW P w) k f sp) : MakeR P w K mg base x C k sp := by
  obtain ⟨c, f, fd, h1, h2⟩ := G
  exact ⟨c, f, h1, h f fd h2⟩
theorem prop_mk {C : Addr} {f q : Str} {st : Stmt} {k : Nat} {sp : Sp} (G : Gp K C f q st) (h : ∀ g fd, FnD K f q st g fd → FnU P w K mg base k g sp) : PropR P w K mg base C f k sp := by
  obtain ⟨c, p, g, fd, h1, h2⟩ := G
  exact ⟨c, p, g, h1, h g fd h2⟩
/-- the source of numbers -/
def Dr (H : Hp) (d : Addr) : Prop := ∃ (s c : Int) (cs : List Int), H d = some (.lst (.int s :: .int c :: cs.map V.int)) ∧ 0 ≤ s ∧ s < 2147483647 ∧ 0 ≤ c ∧ (∀ z ∈ cs, 10 ^ 18 ≤ z) ∧ cs.length ≤ 63
theorem Dr.same {H H' : Hp} {d : Addr} (e : Same H H') (h : Dr H d) : Dr H' d := by
  obtain ⟨s, c, cs, h0, h⟩ := h
  exact ⟨s, c, cs, e _ _ h0, h⟩
theorem Dr.keep {H H' : Hp} {d l : Addr} (e : Keep l H H') (n : d ≠ l) (h : Dr H d) : Dr H' d := by
  obtain ⟨s, c, cs, h0, h⟩ := h
  exact ⟨s, c, cs, e _ _ n h0, h⟩
theorem Dr.ne {H : Hp} {d l : Addr} (h : Dr H d) (n : H l = none) : d ≠ l := by
  obtain ⟨s, c, cs, h0, h⟩ := h
  exact ne_of_none h0 n
theorem Dr.notT {H : Hp} {d : Addr} (h : Dr H d) : NotT (H d) := by
  obtain ⟨s, c, cs, h0, h⟩ := h
  exact notT_l h0

end
abbrev s_law_below : Stmt := top 22
abbrev N_law_below : List Str := ["_law_d", "_law_limit", "_law_result"]
theorem sc_law_below : FnScope N_law_below ["_law_d", "_law_limit"] (defScope s_law_below) := ⟨rfl, rfl, rfl, by decide +kernel, rfl, by decide +kernel, by decide +kernel⟩
section
variable {P : Program} {w : World} {K : PySem.W.Frag}
variable {mg : Str → Option Value} {base : Heap}
def sp_law_below : Sp := fun vs H Q _ => ∃ (d : Addr) (n : Int), vs = [.ref d, .int n] ∧ Dr H d ∧ 0 < n ∧ n < 1073741824 ∧ ∀ H' r, 0 ≤ r → r < n → Keep d H H' → Dr H' d → Q (.int r) H'
theorem ok_law_below (M : Md K mg) (G : Gd K mg "_law_below" s_law_below) : DefR P w K mg base "_law_below" 2 sp_law_below := by
  refine def_mk G fun f fd F => fnr_mk (F.ok sc_law_below ?_ (fun cdv A outer s H vs Q E hr h => ?_)) (F.bindsN (fun _ _ _ _ _ _ us hl => match us, hl with | [_, _], _ => rfl))
  · rintro vs H Q E ⟨d, n, rfl, _⟩; rfl
  · obtain ⟨d, n, rfl, ⟨s0, c, cs, hd, h1, h2, h3, h4, h5⟩, n0, n1, k⟩ := h
    have nd := sc_law_below.nd
    refine ⟨_, PSs.nox (C8.pss_cut (ps_if (PW.pt (pw_and (pt_cmpR (op_eqK K hr) (pe_ix (ix_K K) (pv 0) pe_int (fun _ _ => rfl)) pe_int (nomark _)) (pw_and1 (pt_cmpR op_gt (pe_len K M.b (pv 0)) pe_int (nomark _))))) (pss_one (ps_asg (as_bm K (pe_bm PySem.F.plainAttrs_list PySem.F.slot_list_pop PySem.F.type_list_pop mt_popAt (pv 0) (pa_cons pe_int pa_nil))) (pg_sub (pv 0) pe_int set_list))) pss_nil)
    (pss_cons (ps_if (pt_cmpR op_gt (pe_ix (ix_K K) (pv 0) pe_int (fun _ _ => rfl)) pe_int (nomark _)) (pss_cons (ps_set (i := 2) nd rfl (by first | exact Or.inl rfl | exact Or.inr rfl) (pe_op op_mod (pe_ix (ix_K K) (pv 0) pe_int (fun _ _ => rfl)) (pv 1)))
    (pss_cons (ps_asg (pe_op op_fdiv (pe_ix (ix_K K) (pv 0) pe_int (fun _ _ => rfl)) (pv 1)) (pg_sub (pv 0) pe_int set_list)) (pss_one (ps_ret (pv 2))))) pss_nil)
    (pss_cons (ps_asg (pe_op op_mod (pe_op (op_addK K) (pe_op op_mul (pe_ix (ix_K K) (pv 0) pe_int (fun _ _ => rfl)) pe_int) pe_int) pe_int) (pg_sub (pv 0) pe_int set_list))
    (pss_one (ps_ret (pe_op op_mod (pe_op op_fdiv (pe_ix (ix_K K) (pv 0) pe_int (fun _ _ => rfl)) pe_int) (pv 1))))))), ?_⟩
    show (_ : TS) _ [some (.ref d), some (.int n), none] H
    refine g_cut (fun σ' H' => ∃ s1 c1, ∃ cs1 : List Int, σ' = [some (.ref d), some (.int n), none] ∧ Keep d H H' ∧ H' d = some (.lst (.int s1 :: .int c1 :: cs1.map V.int)) ∧ 0 ≤ s1 ∧ s1 < 2147483647 ∧ 0 ≤ c1 ∧ (∀ z ∈ cs1, 10 ^ 18 ≤ z) ∧ cs1.length ≤ 63) ?_ ?_
    · walk_at "go"
      refine if_D (fun e => ?_) (fun e => ?_)
      · walk_at "go"
        refine if_D (fun e2 => ?_) (fun e2 => ?_)
        · walk_at "go"
          cases cs with
          | nil => simp at e2
          | cons z cs =>
            refine g_popAt (y := .int z) hd (by decide) rfl (by simp [sizeLine_eq]; simp at h5; omega) fun H1 k1 e1 => ?_
            walk_at "go"
            refine g_setL (j := 1) e1 (ixN_i (by decide) (by simp; try omega)) fun H2 k2 e2 => ?_
            have hz := h4 z (by simp)
            refine ⟨s0, z, cs, rfl, k1.trans k2, e2, h1, h2, by omega, fun y hy => h4 y (by simp [hy]), by simp at h5; omega⟩
        · walk_at "go"
          exact ⟨s0, c, cs, rfl, Keep.refl _ _, hd, h1, h2, h3, h4, h5⟩
      · walk_at "go"
        exact ⟨s0, c, cs, rfl, Keep.refl _ _, hd, h1, h2, h3, h4, h5⟩
    · rintro σ' H' ⟨s1, c1, cs1, rfl, k1, hd1, a1, a2, a3, a4, a5⟩
      walk_at "go"
      refine if_D (fun e => ?_) (fun e => ?_)
      · walk_at "go"
        refine g_setL (j := 1) hd1 (ixN_i (by decide) (by simp; try omega)) fun H2 k2 e2 => ?_
        walk_at "go"
        refine k _ _ (Int.emod_nonneg _ (by omega)) (Int.emod_lt_of_pos _ n0) (k1.trans k2) ⟨s1, c1 / n, cs1, e2, a1, a2, Int.ediv_nonneg a3 (by omega), a4, a5⟩
      · walk_at "go"
        refine g_setL (j := 0) hd1 (ixN_i (by decide) (by simp; try omega)) fun H2 k2 e2 => ?_
        walk_at "go"
        exact k _ _ (Int.emod_nonneg _ (by omega)) (Int.emod_lt_of_pos _ n0) (k1.trans k2) ⟨_, c1, cs1, e2, Int.emod_nonneg _ (by decide), Int.emod_lt_of_pos _ (by decide), a3, a4, a5⟩

end
abbrev s_law_random : Stmt := top 21
abbrev N_law_random : List Str := ["_law_script", "_law_salt", "_law_seed", "_law_cell"]
theorem sc_law_random : FnScope N_law_random ["_law_script", "_law_salt"] (defScope s_law_random) := ⟨rfl, rfl, rfl, by decide +kernel, rfl, by decide +kernel, by decide +kernel⟩
section
variable {P : Program} {w : World} {K : PySem.W.Frag}
variable {mg : Str → Option Value} {base : Heap}
def sp_law_random (K : PySem.W.Frag) : Sp := fun vs H Q _ => ∃ (a : Addr) (ns : List Int) (z : Int), vs = [.ref a, .int z] ∧ SqL K H a (ns.map V.int) ∧ ns.length ≤ 63 ∧ 0 ≤ z ∧ z < 2147483647 ∧ ∀ H' d, Same H H' → H d = none → Dr H' d → Q (.ref d) H'
theorem ok_law_random (M : Md K mg) (G : Gd K mg "_law_random" s_law_random) : DefR P w K mg base "_law_random" 2 (sp_law_random K) := by
  refine def_mk G fun f fd F => fnr_mk (F.ok sc_law_random ?_ (fun cdv A outer s H vs Q E hr h => ?_)) (F.bindsN (fun _ _ _ _ _ _ us hl => match us, hl with | [_, _], _ => rfl))
  · rintro vs H Q E ⟨d, n, z, rfl, _⟩; rfl
  · obtain ⟨a, ns, z, rfl, hS, hl, z0, z1, k⟩ := h
    have nd := sc_law_random.nd
    refine ⟨_, PSs.nox (pss_cons (ps_set (i := 2) nd rfl (by first | exact Or.inl rfl | exact Or.inr rfl) (pv 1))
    (pss_cons (ps_for PassesOwn.never rfl (pi_listK K (pv 0)) (pg_name (i := 3) nd rfl (by first | exact Or.inl rfl | exact Or.inr rfl)) (pss_one (ps_set (i := 2) nd rfl (by first | exact Or.inl rfl | exact Or.inr rfl) (pe_op op_mod (pe_op (op_addK K) (pe_op op_mul (pv 2) pe_int) (pe_abs M.b (pv 3))) pe_int))))
    (pss_one (ps_ret (pe_op (op_addK K) (pe_lst (pa_cons (pv 2) (pa_cons pe_int pa_nil))) (pe_lc (own := [("_law_cell", 3)]) (g := (gName 3)) rfl nd (pi_listK K (pv 0)) (blkOk_by (N := N_law_random) (sc := defScope s_law_random) (by decide +kernel)) (fun _ _ _ _ _ => (pg_name (i := 3) nd rfl (by first | exact Or.inl rfl | exact Or.inr rfl))) (fun _ _ _ _ _ => (pts_one (pt_cmpR op_ge (pv 3) (pe_op op_pow pe_int pe_int) (nomark _)))) (fun _ _ _ _ _ => (pv 3)))))))), ?_⟩
    show (_ : TS) _ [some (.ref a), some (.int z), none, none] H
    walk_at "go"
    refine n_forL hS (fun i σ H' => H' = H ∧ ∃ (y : Int) (c : Option V), σ = [some (.ref a), some (.int z), some (.int y), c] ∧ 0 ≤ y ∧ y < 2147483647) ⟨rfl, z, none, rfl, z0, z1⟩ (fun i σ H' ⟨e, _⟩ => e ▸ hS) ?_ ?_
    · rintro i x σ H' hx ⟨rfl, y, c, rfl, y0, y1⟩
      obtain ⟨u, hu, rfl⟩ : ∃ u, ns[i]? = some u ∧ V.int u = x := by simpa using hx
      walk_at "go"
      exact ⟨rfl, _, _, rfl, Int.emod_nonneg _ (by decide), Int.emod_lt_of_pos _ (by decide)⟩
    · rintro σ H' ⟨rfl, y, c, rfl, y0, y1⟩
      walk_at "go"
      refine n_lst (by simp [sizeLine_eq]) fun p H1 np s1 hp => ?_
      walk_at "go"
      refine n_lcL (s1.seq hS) (lc_run (walk_list (xs := ns.map V.int)) (fun i acc H' => Same H1 H' ∧ ∃ cs : List Int, acc = cs.map V.int ∧ cs.length ≤ i ∧ ∀ z ∈ cs, 10 ^ 18 ≤ z) ?_ ?_ ?_ ?_)
      · rintro C H2 nC s2 hC
        exact ⟨s2, [], rfl, Nat.le_refl _, fun z hz => by cases hz⟩
      · rintro i acc H2 C nC hC ⟨s2, _⟩
        exact s2.seq (s1.seq hS)
      · rintro C i acc x H2 H3 nC hi hl2 hC ⟨s2, cs, rfl, hcs, hz⟩ ⟨e, hx⟩
        subst e
        obtain ⟨u, hu, rfl⟩ : ∃ u, ns[i]? = some u ∧ V.int u = x := by simpa using hx
        walk_at "go"
        refine ⟨rfl, ?_⟩
        walk_at "go"
        refine g_pow (by unfold CPow; decide) ?_
        walk_at "go"
        have hi' : i < 63 := by simp at hi; omega
        by_cases c : (10 : Int) ^ (18 : Int).toNat ≤ u
        · rw [decide_eq_true c]
          walk_at "go"
          refine n_lcK hC (by simp; omega) (by omega) fun H4 k4 h4 => ⟨?_, cs ++ [u], by simp, by simp; omega, ?_⟩
          · intro b o e
            exact k4 _ _ (ne_of_none e nC) (s2 _ _ e)
          · intro z hz'
            rcases List.mem_append.mp hz' with q | q
            · exact hz z q
            · have : z = u := by simpa using q
              rw [this]; exact c
        · rw [decide_eq_false c]
          walk_at "go"
          exact n_lcN hC (by simp; omega) ⟨s2, cs, rfl, by omega, hz⟩
      · rintro C acc H2 nC hC ⟨s2, cs, rfl, hcs, hz⟩
        have hcs' : cs.length ≤ 63 := by simp at hcs; omega
        refine g_add_l (s2 _ _ hp) hC (by simp [sizeLine_eq]; omega) fun r H3 nr s3 hr3 => ?_
        refine k H3 r (s1.trans (s2.trans s3)) ((s1.trans s2).free nr) ⟨y, 0, cs, hr3, y0, y1, by decide, hz, hcs'⟩

end
abbrev s_law_shuffled : Stmt := top 23
abbrev N_law_shuffled : List Str := ["_law_d", "_law_items", "_law_pool", "_law_result"]
theorem sc_law_shuffled : FnScope N_law_shuffled ["_law_d", "_law_items"] (defScope s_law_shuffled) := ⟨rfl, rfl, rfl, by decide +kernel, rfl, by decide +kernel, by decide +kernel⟩
section
variable {P : Program} {w : World} {K : PySem.W.Frag}
variable {mg : Str → Option Value} {base : Heap}
def sp_law_shuffled (K : PySem.W.Frag) : Sp := fun vs H Q _ => ∃ (d a : Addr) (zs : List Str), vs = [.ref d, .ref a] ∧ Dr H d ∧ SqL K H a (zs.map V.str) ∧ zs.length ≤ 100 ∧ (∀ z ∈ zs, PyData.strOk z = true) ∧
  ∀ H' r ys, Keep d H H' → Dr H' d → H r = none → H' r = some (.lst (ys.map V.str)) → List.Perm ys zs → Q (.ref r) H'
theorem perm_pop {α : Type} {pool : List α} {i : Nat} {x : α} (h : pool[i]? = some x) : List.Perm (x :: pool.eraseIdx i) pool := by
  induction pool generalizing i with
  | nil => simp at h
  | cons a r ih =>
    cases i with
    | zero =>
      have e : a = x := by simpa using h
      subst e
      simp
    | succ i =>
      have h' : r[i]? = some x := by simpa using h
      rw [List.eraseIdx_cons_succ]
      exact (List.Perm.swap a x _).trans ((ih h').cons a)
theorem map_eraseIdx {α β : Type} (f : α → β) : ∀ (l : List α) (i : Nat), (l.map f).eraseIdx i = (l.eraseIdx i).map f
  | [], _ => rfl
  | _ :: _, 0 => rfl
  | a :: l, i + 1 => by simp [map_eraseIdx f l i]
theorem ok_law_shuffled (M : Md K mg) (G : Gd K mg "_law_shuffled" s_law_shuffled) (D_law_below : DefR P w K mg base "_law_below" 2 sp_law_below) : DefR P w K mg base "_law_shuffled" 4 (sp_law_shuffled K) := by
  refine def_mk G fun f fd F => fnr_mk (F.ok sc_law_shuffled ?_ (fun cdv A outer s H vs Q E hr h => ?_)) (F.bindsN (fun _ _ _ _ _ _ us hl => match us, hl with | [_, _], _ => rfl))
  · rintro vs H Q E ⟨d, n, z, rfl, _⟩; rfl
  · obtain ⟨d, a, zs, rfl, hd, hS, hl, hok, k⟩ := h
    have nd := sc_law_shuffled.nd
    refine ⟨_, PSs.nox (pss_cons (ps_set (i := 2) nd rfl (by first | exact Or.inl rfl | exact Or.inr rfl) (pe_listOf K M.b (pv 1)))
    (pss_cons (ps_set (i := 3) nd rfl (by first | exact Or.inl rfl | exact Or.inr rfl) (pe_lst pa_nil))
    (pss_cons (ps_while PassesOwn.never (pt_cmpR (op_neK K hr) (pv 2) (pe_lst pa_nil) (nomark _)) (pss_one (ps_expr (as_bm K (pe_bm PySem.F.plainAttrs_list PySem.F.slot_list_append PySem.F.type_list_append mt_append (pv 3) (pa_cons (as_bm K (pe_bm PySem.F.plainAttrs_list PySem.F.slot_list_pop PySem.F.type_list_pop mt_popAt (pv 2) (pa_cons (pe_callR D_law_below (hr.mono (by first | decide | omega)) passN (pa_cons (pv 0) (pa_cons (pe_len K M.b (pv 2)) pa_nil))) pa_nil))) pa_nil)))))) (pss_one (ps_ret (pv 3)))))), ?_⟩
    show (_ : TS) _ [some (.ref d), some (.ref a), none, none] H
    walk_at "go"
    refine g_listOf (.inl hS) fun p H1 np s1 hp => ?_
    walk_at "go"
    refine n_lst (by simp) fun r H2 nr s2 hr2 => ?_
    walk_at "go"
    refine n_while (fun m σ H' => ∃ ps ys : List Str, m = ps.length ∧ σ = [some (.ref d), some (.ref a), some (.ref p), some (.ref r)] ∧ Keep d H H' ∧ Dr H' d ∧ H' p = some (.lst (ps.map V.str)) ∧ H' r = some (.lst (ys.map V.str)) ∧ List.Perm (ys ++ ps) zs) zs.length
      ⟨zs, [], rfl, rfl, (s1.trans s2).keep, hd.same (s1.trans s2), s2 _ _ hp, hr2, by simp⟩ ?_
    rintro m σ H' ⟨ps, ys, rfl, rfl, k1, d1, hp1, hr1, pm⟩
    have hpl : ps.length ≤ 100 := by
      have := pm.length_eq
      simp at this
      omega
    have hyl : ys.length ≤ 100 := by
      have := pm.length_eq
      simp at this
      omega
    have npd : p ≠ d := fun e => by subst e; exact absurd np (by obtain ⟨_, _, _, h0, _⟩ := hd; rw [h0]; simp)
    have nrd : r ≠ d := fun e => by subst e; exact absurd (s1.free nr) (by obtain ⟨_, _, _, h0, _⟩ := hd; rw [h0]; simp)
    have nrp : r ≠ p := fun e => by subst e; rw [hp] at nr; cases nr
    walk_at "go"
    refine n_lst (by simp) fun e H3 ne s3 he => ?_
    refine g_ne_d (.list (ps.map .str)) (.list []) (dp_lst (s3 _ _ hp1) (dpa_strs ps)) (dp_lst he .nil) (Sh.ok (sh_l fun x hx => ?_) (by decide : 1 ≤ 64)) (Sh.ok (n := 1) (sh_l fun x hx => by cases hx) (by decide)) ?_
    · obtain ⟨z, hz, rfl⟩ := List.mem_map.mp hx
      exact sh_s (hok z (pm.subset (by simp [hz])))
    rw [eqv_nil]
    walk_at "go"
    cases ps with
    | nil =>
      refine n_whF ?_
      walk_at "go"
      exact k H3 r ys (k1.trans s3.keep) (d1.same s3) (s1.free nr) (s3 _ _ hr1) (by simpa using pm)
    | cons q ps =>
      refine n_whT ?_
      have hp3 := s3 _ _ hp1
      have hr3 := s3 _ _ hr1
      walk_at "go"
      refine ⟨d, _, rfl, d1.same s3, (by simp <;> omega), (by simp at hpl ⊢ <;> omega), fun H4 i i0 i1 k4 d4 => ?_⟩
      have hi : i.toNat < (q :: ps).length := by simp at i1; simp; omega
      have hx : (q :: ps)[i.toNat]? = some (q :: ps)[i.toNat] := List.getElem?_eq_getElem hi
      walk_at "go"
      refine g_popAt (y := .str (q :: ps)[i.toNat]) (k4 _ _ npd hp3) i0 (by rw [List.getElem?_map, hx]; rfl) (by simp [sizeLine_eq]; simp at hpl; omega) fun H5 k5 hp5 => ?_
      walk_at "go"
      refine g_append (k5 _ _ nrp (k4 _ _ nrd hr3)) (by simp [sizeLine_eq]; omega) fun H6 k6 hr6 => ?_
      refine ⟨((q :: ps).eraseIdx i.toNat).length, by rw [List.length_eraseIdx_of_lt hi]; simp, (q :: ps).eraseIdx i.toNat, ys ++ [(q :: ps)[i.toNat]], rfl, rfl, ?_, ?_, ?_, ?_, ?_⟩
      · intro b o nb hb
        have nbp : b ≠ p := ne_of_none hb np
        have nbr : b ≠ r := ne_of_none hb (s1.free nr)
        exact k6 _ _ nbr (k5 _ _ nbp (k4 _ _ nb (s3 _ _ (k1 _ _ nb hb))))
      · exact (d4.keep k5 npd.symm).keep k6 nrd.symm
      · rw [k6 _ _ nrp.symm hp5, map_eraseIdx]
      · rw [hr6]; simp
      · have h1 := perm_pop hx
        refine List.Perm.trans ?_ pm
        rw [List.append_assoc]
        exact List.Perm.append_left ys (by simpa using h1)

end
section
variable {P : Program} {w : World} {K : PySem.W.Frag}
variable {mg : Str → Option Value} {base : Heap}
/-! ### plain mathematics of farms -/
abbrev pField (f : Str × Int) : PyData := .tuple [.str f.1, .int f.2]
def NmOk (z : Str) : Prop := 1 ≤ z.cps.toList.length ∧ z.cps.toList.length ≤ 8 ∧ ∀ c ∈ z.cps.toList, 97 ≤ c ∧ c ≤ 122
instance (z : Str) : Decidable (NmOk z) := by unfold NmOk; infer_instance
def prodL (l : List Int) : Int := l.foldl (· * ·) 1
theorem prodL_snoc (l : List Int) (x : Int) : prodL (l ++ [x]) = prodL l * x := by simp [prodL]
structure FOk (fs : List (Str × Int)) : Prop where
  one : 1 ≤ fs.length
  six : fs.length ≤ 6
  nd : (fs.map (·.1)).Nodup
  nm : ∀ f ∈ fs, NmOk f.1
  lo : ∀ f ∈ fs, 1 ≤ f.2 ∧ f.2 ≤ 30
  pr : prodL (fs.map (·.2)) ≤ 4000
theorem NmOk.str {z : Str} (h : NmOk z) : PyData.strOk z = true := by
  unfold PyData.strOk
  rw [← Array.all_toList]
  exact List.all_eq_true.mpr fun c hc => decide_eq_true (by have := (h.2.2 c hc).2; omega)
def six : List Str := ["a", "bo", "carl", "dora", "ella", "hannahhh"]
theorem six_nm : ∀ z ∈ six, NmOk z := by decide +kernel
theorem six_nd : six.Nodup := by decide +kernel
/-- the bytes of a farm -/
def lets (z : Str) : List Int := z.cps.toList.map fun (c : Nat) => ((c - 97 : Nat) : Int)
def encF (f : Str × Int) : List Int := [f.2, (f.1.cps.toList.length : Int)] ++ lets f.1
def bodyOf (fs : List (Str × Int)) : List Int := [72, (fs.length : Int)] ++ fs.flatMap encF
def cks (l : List Int) : Int := l.foldl (fun t v => (3 * t + v) % 233) 5
def bytesOf (fs : List (Str × Int)) : List Int := bodyOf fs ++ [cks (bodyOf fs)]
theorem cks_snoc (l : List Int) (x : Int) : cks (l ++ [x]) = (3 * cks l + x) % 233 := by simp [cks]
theorem cks_lo : ∀ l : List Int, 0 ≤ cks l ∧ cks l < 233 := fun l => by
  rcases List.eq_nil_or_concat l with rfl | ⟨r, x, rfl⟩
  · decide
  · rw [List.concat_eq_append, cks_snoc]; exact ⟨Int.emod_nonneg _ (by decide), Int.emod_lt_of_pos _ (by decide)⟩
def ALPH : Str := "abcdefghijklmnopqrstuvwxyz"
theorem alph_occ : ∀ k : Fin 26, Builtin.Str.occurrences ALPH ⟨#[97 + k.val]⟩ 0 ALPH.length 1 = [k.val] := by decide +kernel
theorem alph_ix {c : Nat} (h1 : 97 ≤ c) (h2 : c ≤ 122) : Builtin.Str.occurrences ALPH ⟨#[c]⟩ 0 ALPH.length 1 = [c - 97] := by
  have := alph_occ ⟨c - 97, by omega⟩
  simpa [show 97 + (c - 97) = c by omega] using this
theorem alph_mem {c : Nat} (h1 : 97 ≤ c) (h2 : c ≤ 122) : c ∈ ALPH.cps.toList := by
  have h : ∀ k : Fin 26, 97 + k.val ∈ ALPH.cps.toList := by decide +kernel
  have := h ⟨c - 97, by omega⟩
  simpa [show 97 + (c - 97) = c by omega] using this
theorem alph_at : ∀ k : Fin 26, ALPH.cps.toList[k.val]? = some (97 + k.val) := by decide +kernel
theorem noL_fields (fs : List (Str × Int)) : noLs (fs.map pField) = true := noLs_of fun d hd => by
  obtain ⟨f, _, rfl⟩ := List.mem_map.mp hd
  simp [pField, noL, noLs]
theorem sh_field {f : Str × Int} (h : NmOk f.1) : Sh 1 (pField f) := sh_t fun d hd => by
  have : d = .str f.1 ∨ d = .int f.2 := by simpa using hd
  rcases this with rfl | rfl
  · exact sh_s h.str
  · exact sh_i _
theorem sh_fields {fs : List (Str × Int)} (h : ∀ f ∈ fs, NmOk f.1) : Sh 2 (.tuple (fs.map pField)) := sh_t fun d hd => by
  obtain ⟨f, hf, rfl⟩ := List.mem_map.mp hd
  exact sh_field (h f hf)

end
abbrev s_law_fields : Stmt := top 24
abbrev N_law_fields : List Str := ["_law_d", "_law_most", "_law_names", "_law_top", "_law_found", "_law_states", "_law_k", "_law_limit"]
theorem sc_law_fields : FnScope N_law_fields ["_law_d", "_law_most"] (defScope s_law_fields) := ⟨rfl, rfl, rfl, by decide +kernel, rfl, by decide +kernel, by decide +kernel⟩
section
variable {P : Program} {w : World} {K : PySem.W.Frag}
variable {mg : Str → Option Value} {base : Heap}
def sp_law_fields (K : PySem.W.Frag) : Sp := fun vs H Q _ => ∃ (d : Addr) (n : Int), vs = [.ref d, .int n] ∧ Dr H d ∧ 1 ≤ n ∧ n ≤ 6 ∧
  ∀ H' r xs fs, Keep d H H' → Dr H' d → H r = none → H' r = some (.lst xs) → DpAll K H' xs (fs.map pField) → FOk fs → fs.length ≤ n.toNat → Q (.ref r) H'
theorem ok_law_fields (M : Md K mg) (G : Gd K mg "_law_fields" s_law_fields) (D_law_below : DefR P w K mg base "_law_below" 2 sp_law_below) (D_law_shuffled : DefR P w K mg base "_law_shuffled" 4 (sp_law_shuffled K)) : DefR P w K mg base "_law_fields" 6 (sp_law_fields K) := by
  refine def_mk G fun f fd F => fnr_mk (F.ok sc_law_fields ?_ (fun cdv A outer s H vs Q E hr h => ?_)) (F.bindsN (fun _ _ _ _ _ _ us hl => match us, hl with | [_, _], _ => rfl))
  · rintro vs H Q E ⟨d, n, rfl, _⟩; rfl
  · obtain ⟨d, n, rfl, hd, n1, n6, k⟩ := h
    have nd := sc_law_fields.nd
    refine ⟨_, PSs.nox (pss_cons (ps_set (i := 2) nd rfl (by first | exact Or.inl rfl | exact Or.inr rfl) (pe_callR D_law_shuffled (hr.mono (by first | decide | omega)) passN (pa_cons (pv 0) (pa_cons (pe_lst (pa_cons pe_str (pa_cons pe_str (pa_cons pe_str (pa_cons pe_str (pa_cons pe_str (pa_cons pe_str pa_nil))))))) pa_nil))))
    (pss_cons (ps_par3 (i := 3) (j := 4) (l := 5) rfl nd rfl rfl rfl (by decide) (by decide) (by decide) rfl rfl rfl (pa_cons (pe_ix (ix_K K) (pe_lst (pa_cons pe_int (pa_cons pe_int (pa_cons pe_int pa_nil)))) (pe_callR D_law_below (hr.mono (by first | decide | omega)) passN (pa_cons (pv 0) (pa_cons pe_int pa_nil))) (fun _ _ => rfl)) (pa_cons (pe_lst pa_nil) (pa_cons pe_int pa_nil))) (by rfl))
    (pss_cons (ps_for PassesOwn.never rfl (pi_range1 rfl M.b.range (pa_cons (pe_op (op_addK K) pe_int (pe_callR D_law_below (hr.mono (by first | decide | omega)) passN (pa_cons (pv 0) (pa_cons (pv 1) pa_nil)))) pa_nil)) (pg_name (i := 6) nd rfl (by first | exact Or.inl rfl | exact Or.inr rfl)) (pss_cons (ps_set (i := 7) nd rfl (by first | exact Or.inl rfl | exact Or.inr rfl) (pe_op (op_addK K) pe_int (pe_callR D_law_below (hr.mono (by first | decide | omega)) passN (pa_cons (pv 0) (pa_cons (pe_min1 K M.b (pe_lst (pa_cons (pv 3) (pa_cons (pe_op op_fdiv pe_int (pv 5)) pa_nil)))) pa_nil)))))
    (pss_cons (ps_expr (as_bm K (pe_bm PySem.F.plainAttrs_list PySem.F.slot_list_append PySem.F.type_list_append mt_append (pv 4) (pa_cons (pe_tup (pa_cons (pe_ix (ix_K K) (pv 2) (pv 6) (fun _ _ => rfl)) (pa_cons (pv 7) pa_nil))) pa_nil))))
    (pss_one (ps_set (i := 5) nd rfl (by first | exact Or.inl rfl | exact Or.inr rfl) (pe_op op_mul (pv 5) (pv 7))))))) (pss_one (ps_ret (pv 4)))))), ?_⟩
    show (_ : TS) _ [some (.ref d), some (.int n), none, none, none, none, none, none] H
    walk_at "go"
    refine n_lst (by simp [sizeLine_eq]) fun p H1 np s1 hp => ?_
    walk_at "go"
    refine ⟨d, p, six, rfl, hd.same s1, SqL.of hp, by decide, fun z hz => (six_nm z hz).str, fun H2 nm ys k2 d2 nn hnm pm => ?_⟩
    have yl : ys.length = 6 := pm.length_eq
    walk_at "go"
    refine n_lst (by simp [sizeLine_eq]) fun q3 H3 nq3 s3 hq3 => ?_
    walk_at "go"
    refine ⟨d, 3, rfl, d2.same s3, by decide, by decide, fun H4 r r0 r1 k4 d4 => ?_⟩
    have nq3d : q3 ≠ d := (d2.ne nq3).symm
    have nnd : nm ≠ d := ((hd.same s1).ne nn).symm
    have hr012 : r = 0 ∨ r = 1 ∨ r = 2 := by omega
    refine g_ix_l (v := .int (if r = 0 then 3 else if r = 1 then 6 else 30)) (SqL.of (k4 _ _ nq3d hq3)) (by rcases hr012 with rfl | rfl | rfl <;> rfl) ?_
    generalize ht : (if r = 0 then 3 else if r = 1 then 6 else 30 : Int) = top
    have t1 : 1 ≤ top ∧ top ≤ 30 := by rcases hr012 with rfl | rfl | rfl <;> subst ht <;> decide
    walk_at "go"
    refine n_lst (by simp) fun fo H5 nfo s5 hfo => ?_
    walk_at "go"
    refine ⟨d, n, rfl, d4.same s5, by omega, by omega, fun H6 m m0 m1 k6 d6 => ?_⟩
    have nfod : fo ≠ d := (d4.ne nfo).symm
    have hnm5 : H5 nm = some (.lst (ys.map V.str)) := s5 _ _ (k4 _ _ nnd (s3 _ _ hnm))
    have nfonm : fo ≠ nm := (ne_of_none (k4 _ _ nnd (s3 _ _ hnm)) nfo).symm
    have fresh5 : ∀ b o, b ≠ d → H b = some o → H5 b = some o := fun b o nb hb => s5 _ _ (k4 _ _ nb (s3 _ _ (k2 _ _ nb (s1 _ _ hb))))
    have nfo0 : H fo = none := by
      cases e : H fo with
      | none => rfl
      | some o =>
        have := k4 _ _ nfod (s3 _ _ (k2 _ _ nfod (s1 _ _ e)))
        rw [nfo] at this; cases this
    walk_at "go"
    refine n_forR1 (by omega) (by omega) (fun i σ H' => ∃ (xs : List V) (fs : List (Str × Int)) (u v : Option V), σ = [some (.ref d), some (.int n), some (.ref nm), some (.int top), some (.ref fo), some (.int (prodL (fs.map (·.2)))), u, v] ∧ Keep d H H' ∧ Dr H' d ∧
      H' nm = some (.lst (ys.map V.str)) ∧ H' fo = some (.lst xs) ∧ DpAll K H' xs (fs.map pField) ∧ fs.length = i ∧ fs.map (·.1) = ys.take i ∧ (∀ f ∈ fs, 1 ≤ f.2 ∧ f.2 ≤ 30) ∧ 1 ≤ prodL (fs.map (·.2)) ∧ prodL (fs.map (·.2)) ≤ 4000)
      ⟨[], [], none, none, rfl, fun b o nb hb => k6 _ _ nb (fresh5 b o nb hb), d6, k6 _ _ nnd hnm5, k6 _ _ nfod hfo, .nil, rfl, by simp, (fun f hf => by cases hf), by decide, by decide⟩ ?_ ?_
    · rintro i σ H' hi ⟨xs, fs, u, v, rfl, kH, dH, hN, hF, hX, hl, hnames, hlim, p1, p2⟩
      have hi6 : i < 6 := by omega
      generalize hst : prodL (fs.map (·.2)) = st at *
      walk_at "go"
      refine n_lst (by simp [sizeLine_eq]) fun q7 H7 nq7 s7 hq7 => ?_
      walk_at "go"
      refine g_minL (ns := [top, 4000 / st]) (SqL.of hq7) (by simp) fun mn mm mle => ?_
      have mt : mn ≤ top := mle _ (by simp)
      have ms : mn ≤ 4000 / st := mle _ (by simp)
      have q1 : 1 ≤ 4000 / st := (Int.le_ediv_iff_mul_le (by omega)).mpr (by omega)
      have mn1 : 1 ≤ mn := by
        have : mn = top ∨ mn = 4000 / st := by simpa using mm
        rcases this with rfl | rfl
        · exact t1.1
        · exact q1
      walk_at "go"
      refine ⟨d, mn, rfl, dH.same s7, by omega, by omega, fun H8 l l0 l1 k8 d8 => ?_⟩
      have hN8 : H8 nm = some (.lst (ys.map V.str)) := k8 _ _ nnd (s7 _ _ hN)
      have hF8 : H8 fo = some (.lst xs) := k8 _ _ nfod (s7 _ _ hF)
      have hyi : ys[i]? = some ys[i] := List.getElem?_eq_getElem (by omega)
      walk_at "go"
      refine g_ix_l (v := .str ys[i]) (SqL.of hN8) (atI_nat (by rw [List.getElem?_map, hyi]; rfl)) ?_
      walk_at "go"
      refine n_tup (by simp [sizeLine_eq]) fun tp H9 ntp s9 htp => ?_
      walk_at "go"
      have hxl : xs.length ≤ 6 := by rw [hX.length]; simp; omega
      refine g_append (s9 _ _ hF8) (by simp [sizeLine_eq]; omega) fun H10 k10 hF10 => ?_
      walk_at "go"
      have sK : ∀ b o, b ≠ d → b ≠ fo → H' b = some o → H10 b = some o := fun b o nb nf hb => k10 _ _ nf (s9 _ _ (k8 _ _ nb (s7 _ _ hb)))
      have hd9 : Dr H9 d := d8.same s9
      have hX7 : DpAll K H7 xs (fs.map pField) := s7.dpa hX
      have hX8 : DpAll K H8 xs (fs.map pField) := dp_keepAll k8 (dH.same s7).notT _ _ (noL_fields fs) hX7
      have hX9 : DpAll K H9 xs (fs.map pField) := s9.dpa hX8
      have hXt : DpAll K H9 [.ref tp] ([(ys[i], 1 + l)].map pField) := .cons (dp_tup htp (.cons (.str _) (.cons (.int _) .nil))) .nil
      have hlim2 : st * (1 + l) ≤ 4000 := by
        have h1 : 1 + l ≤ 4000 / st := by omega
        have h2 := (Int.le_ediv_iff_mul_le (by omega : (0:Int) < st)).mp h1
        rw [Int.mul_comm]; exact h2
      have hpos : 1 ≤ st * (1 + l) := by
        have : 1 * 1 ≤ st * (1 + l) := Int.mul_le_mul p1 (by omega) (by decide) (by omega)
        omega
      refine ⟨xs ++ [.ref tp], fs ++ [(ys[i], 1 + l)], some (.int i), some (.int (1 + l)), ?_, fun b o nb hb => ?_, ?_, ?_, hF10, ?_, by simp [hl], ?_, ?_, ?_, ?_⟩
      · simp [prodL_snoc, hst]
      · exact sK b o nb (ne_of_none hb nfo0) (kH b o nb hb)
      · exact hd9.keep k10 nfod.symm
      · exact k10 _ _ nfonm.symm (s9 _ _ hN8)
      · rw [List.map_append]
        exact dp_keepAll k10 (notT_l (s9 _ _ hF8)) _ _ (by rw [← List.map_append]; exact noL_fields _) (hX9.append hXt)
      · rw [List.map_append, hnames]
        rw [List.take_add_one, hyi]
        rfl
      · intro f hf
        rcases List.mem_append.mp hf with h | h
        · exact hlim f h
        · have : f = (ys[i], 1 + l) := by simpa using h
          subst this
          exact ⟨by simp; omega, by simp; omega⟩
      · simpa [prodL_snoc, hst] using hpos
      · simpa [prodL_snoc, hst] using hlim2
    · rintro σ H' ⟨xs, fs, u, v, rfl, kH, dH, hN, hF, hX, hl, hnames, hlim, p1, p2⟩
      walk_at "go"
      have hl6 : fs.length ≤ 6 := by omega
      refine k H' fo xs fs kH dH nfo0 hF hX ⟨by omega, hl6, ?_, ?_, hlim, p2⟩ (by omega)
      · rw [hnames]
        exact (pm.nodup_iff.mpr six_nd).sublist (List.take_sublist _ _)
      · intro f hf
        have : f.1 ∈ fs.map (·.1) := List.mem_map.mpr ⟨f, hf, rfl⟩
        rw [hnames] at this
        exact six_nm _ (pm.subset (List.mem_of_mem_take this))

end
abbrev s_law_bytes : Stmt := top 25
abbrev N_law_bytes : List Str := ["_law_fields_here", "_law_found", "_law_total", "_law_name", "_law_limit", "_law_letter", "_law_value"]
theorem sc_law_bytes : FnScope N_law_bytes ["_law_fields_here"] (defScope s_law_bytes) := ⟨rfl, rfl, rfl, by decide +kernel, rfl, by decide +kernel, by decide +kernel⟩
abbrev s_checksum : Stmt := top 16
abbrev N_checksum : List Str := ["values", "found", "value"]
theorem sc_checksum : FnScope N_checksum ["values"] (defScope s_checksum) := ⟨rfl, rfl, rfl, by decide +kernel, rfl, by decide +kernel, by decide +kernel⟩
section
variable {P : Program} {w : World} {K : PySem.W.Frag}
variable {mg : Str → Option Value} {base : Heap}
def sp_law_bytes (K : PySem.W.Frag) : Sp := fun vs H Q _ => ∃ (v : V) (fs : List (Str × Int)), vs = [v] ∧ Dp K H v (.list (fs.map pField)) ∧ FOk fs ∧
  ∀ H' p, Same H H' → H p = none → H' p = some (.lst ((bytesOf fs).map V.int)) → Q (.ref p) H'
theorem flat_take {α β : Type} (f : α → List β) {l : List α} {i : Nat} {x : α} (h : l[i]? = some x) : (l.take (i + 1)).flatMap f = (l.take i).flatMap f ++ f x := by
  rw [List.take_add_one, h]; simp
theorem encF_len (f : Str × Int) (h : NmOk f.1) : (encF f).length ≤ 10 := by
  have := h.2.1
  simp only [encF, lets, List.length_append, List.length_map, List.length_cons, List.length_nil]
  omega
theorem flat_len {fs : List (Str × Int)} (h : ∀ f ∈ fs, NmOk f.1) : (fs.flatMap encF).length ≤ 10 * fs.length := by
  induction fs with
  | nil => simp
  | cons f r ih =>
    have h1 := encF_len f (h f (by simp))
    have h2 := ih fun g hg => h g (by simp [hg])
    simp only [List.flatMap_cons, List.length_append, List.length_cons]
    omega
theorem body_len {fs : List (Str × Int)} (h : FOk fs) : (bodyOf fs).length ≤ 62 := by
  have h1 := flat_len h.nm
  have h2 := h.six
  simp only [bodyOf, List.length_append, List.length_cons, List.length_nil]
  omega
theorem ok_law_bytes (M : Md K mg) (G : Gd K mg "_law_bytes" s_law_bytes) : DefR P w K mg base "_law_bytes" 2 (sp_law_bytes K) := by
  refine def_mk G fun f fd F => fnr_mk (F.ok sc_law_bytes ?_ (fun cdv A outer s H vs Q E hr h => ?_)) (F.bindsN (fun _ _ _ _ _ _ us hl => match us, hl with | [_], _ => rfl))
  · rintro vs H Q E ⟨d, n, rfl, _⟩; rfl
  · obtain ⟨v, fs, rfl, hv, ok, k⟩ := h
    obtain ⟨a, xs, rfl, hS, hX⟩ := hv.inv_l
    have hxl : xs.length = fs.length := by rw [hX.length]; simp
    have nd := sc_law_bytes.nd
    refine ⟨_, PSs.nox (pss_cons (ps_par (i := 1) (j := 2) rfl nd rfl rfl (by decide) rfl rfl (pa_cons (pe_lst (pa_cons pe_int (pa_cons (pe_len K M.b (pv 0)) pa_nil))) (pa_cons pe_int pa_nil)) (by rfl))
    (pss_cons (ps_for PassesOwn.never rfl (pi_listK K (pv 0)) (pg_tupK K rfl (pgs_cons (pg_name (i := 3) nd rfl (by first | exact Or.inl rfl | exact Or.inr rfl)) (pgs_cons (pg_name (i := 4) nd rfl (by first | exact Or.inl rfl | exact Or.inr rfl)) pgs_nil))) (pss_one (ps_set (i := 1) nd rfl (by first | exact Or.inl rfl | exact Or.inr rfl) (pe_op (op_addK K) (pe_op (op_addK K) (pv 1) (pe_lst (pa_cons (pv 4) (pa_cons (pe_len K M.b (pv 3)) pa_nil)))) (pe_lc (own := [("_law_letter", 5)]) (g := (gName 5)) (tt := tYes) rfl nd (pi_str (pv 3)) (blkOk_by (N := N_law_bytes) (sc := defScope s_law_bytes) (by decide +kernel)) (fun _ _ _ _ _ => (pg_name (i := 5) nd rfl (by first | exact Or.inl rfl | exact Or.inr rfl))) (fun _ _ _ _ _ => pts_nil) (fun _ _ _ _ _ => (pe_m1 PySem.F.slot_str_index PySem.F.type_str_index mt_sindex pe_str (pv 5))))))))
    (pss_cons (ps_for PassesOwn.never rfl (pi_listK K (pv 1)) (pg_name (i := 6) nd rfl (by first | exact Or.inl rfl | exact Or.inr rfl)) (pss_one (ps_set (i := 2) nd rfl (by first | exact Or.inl rfl | exact Or.inr rfl) (pe_op op_mod (pe_op (op_addK K) (pe_op op_mul pe_int (pv 2)) (pv 6)) pe_int))))
    (pss_one (ps_ret (pe_op (op_addK K) (pv 1) (pe_lst (pa_cons (pv 2) pa_nil)))))))), ?_⟩
    show (_ : TS) _ [some (.ref a), none, none, none, none, none, none] H
    walk_at "go"
    refine g_len_l hS ?_
    walk_at "go"
    refine n_lst (by simp [sizeLine_eq]) fun q H1 nq s1 hq => ?_
    walk_at "go"
    refine n_forL (s1.seq hS) (fun i σ H' => ∃ (q : Addr) (u1 u2 : Option V), σ = [some (.ref a), some (.ref q), some (.int 5), u1, u2, none, none] ∧ Same H H' ∧ H q = none ∧ H' q = some (.lst (([72, (fs.length : Int)] ++ (fs.take i).flatMap encF).map V.int)))
      ⟨q, none, none, rfl, s1, nq, by rw [hq, hxl]; rfl⟩ (fun i σ H' ⟨q, u1, u2, _, s2, _⟩ => s2.seq hS) ?_ ?_
    · rintro i x σ H' hx ⟨q, u1, u2, rfl, s2, nq, hq⟩
      obtain ⟨dd, hd, hDx⟩ := hX.get hx
      obtain ⟨fi, hfi, rfl⟩ : ∃ fi, fs[i]? = some fi ∧ pField fi = dd := by simpa using hd
      have fm : fi ∈ fs := List.mem_of_getElem? hfi
      obtain ⟨t, ys, rfl, hT, hY⟩ := (s2.dp hDx).inv_t
      obtain ⟨v1, v2, rfl, hv1, hv2⟩ := hY.inv2
      obtain rfl := hv1.inv_s
      obtain rfl := hv2.inv_i
      have tl : ((fs.take i).flatMap encF).length ≤ 60 := by
        have h1 := flat_len (fs := fs.take i) fun g hg => ok.nm g (List.mem_of_mem_take hg)
        have h2 := ok.six
        have h3 : (fs.take i).length ≤ fs.length := by simp; omega
        omega
      have nl := (ok.nm fi fm).2.1
      refine g_gtup hT rfl ?_
      walk_at "go"
      refine g_len_s (by show fi.1.cps.size ≤ sizeLine; rw [← Array.length_toList]; simp only [sizeLine_eq]; omega) ?_
      walk_at "go"
      refine n_lst (by simp [sizeLine_eq]) fun r H3 nr s3 hr3 => ?_
      refine g_add_l (s3 _ _ hq) hr3 (by simp [sizeLine_eq] at tl ⊢; omega) fun p4 H4 np4 s4 hp4 => ?_
      walk_at "go"
      refine n_lcS (lc_map (walk_str (z := fi.1)) (fun j => .int (((fi.1.cps.toList.getD j 97) - 97 : Nat) : Int)) (fun _ _ => trivial) ?_ ?_)
      · rintro C j x H5 H6 nC hj s5 hC ⟨e, c, hc, ex⟩
        subst e ex
        have hc' := cps_get hc
        have cb := (ok.nm fi fm).2.2 c (List.mem_of_getElem? hc')
        have hj8 : j < 1000000 := by rw [← Array.length_toList] at hj; omega
        walk_at "go"
        refine ⟨rfl, ?_⟩
        walk_at "go"
        refine ⟨ALPH, ⟨#[c]⟩, c - 97, [], rfl, rfl, alph_ix cb.1 cb.2, ?_⟩
        exact n_mapK nC s5 hC (by rw [getD_of hc'])
      · intro C H5 nC s5 hC
        have e1 : (List.range fi.1.cps.size).map (fun j => V.int (((fi.1.cps.toList.getD j 97) - 97 : Nat) : Int)) = (lets fi.1).map V.int := by
          rw [← Array.length_toList, range_getD fi.1.cps.toList 97 fun c => V.int ((c - 97 : Nat) : Int)]
          simp [lets, Function.comp_def]
        rw [e1] at hC
        refine g_add_l (s5 _ _ hp4) hC (by simp [sizeLine_eq, lets] at tl nl ⊢; omega) fun p6 H6 np6 s6 hp6 => ?_
        walk_at "go"
        have sA : Same H H6 := s2.trans (s3.trans (s4.trans (s5.trans s6)))
        refine ⟨p6, some (.str fi.1), some (.int fi.2), rfl, sA, (s2.trans (s3.trans (s4.trans s5))).free np6, ?_⟩
        rw [hp6, flat_take encF hfi]
        simp [encF, Str.length]
    · rintro σ H' ⟨q, u1, u2, rfl, s2, nq, hq⟩
      have ef : fs.take xs.length = fs := by rw [hxl, List.take_length]
      rw [ef] at hq
      have eb : H' q = some (.lst ((bodyOf fs).map V.int)) := hq
      walk_at "go"
      refine n_forL (SqL.of eb) (fun i σ H'' => H'' = H' ∧ ∃ u : Option V, σ = [some (.ref a), some (.ref q), some (.int (cks ((bodyOf fs).take i))), u1, u2, none, u]) ⟨rfl, none, rfl⟩ (fun i σ H'' ⟨e, _⟩ => e ▸ SqL.of eb) ?_ ?_
      · rintro i x σ H'' hx ⟨rfl, u, rfl⟩
        obtain ⟨z, hz, rfl⟩ : ∃ z, (bodyOf fs)[i]? = some z ∧ V.int z = x := by simpa using hx
        walk_at "go"
        refine ⟨rfl, some (V.int z), ?_⟩
        have e2 : (bodyOf fs).take (i + 1) = (bodyOf fs).take i ++ [z] := by rw [List.take_add_one, hz]; rfl
        rw [e2, cks_snoc]
      · rintro σ H'' ⟨rfl, u, rfl⟩
        simp only [List.length_map, List.take_length]
        walk_at "go"
        refine n_lst (by simp [sizeLine_eq]) fun r H3 nr s3 hr3 => ?_
        have bl := body_len ok
        refine g_add_l (s3 _ _ eb) hr3 (by simp [sizeLine_eq] at bl ⊢; omega) fun p4 H4 np4 s4 hp4 => ?_
        refine k H4 p4 (s2.trans (s3.trans s4)) ((s2.trans s3).free np4) ?_
        rw [hp4]; simp [bytesOf]
def sp_checksum (K : PySem.W.Frag) : Sp := fun vs H Q _ => ∃ (a : Addr) (ns : List Int), vs = [.ref a] ∧ SqL K H a (ns.map V.int) ∧ Q (.int (cks ns)) H
theorem ok_checksum (M : Md K mg) (G : Gd K mg "checksum" s_checksum) : DefR P w K mg base "checksum" 2 (sp_checksum K) := by
  refine def_mk G fun f fd F => fnr_mk (F.ok sc_checksum ?_ (fun cdv A outer s H vs Q E hr h => ?_)) (F.bindsN (fun _ _ _ _ _ _ us hl => match us, hl with | [_], _ => rfl))
  · rintro vs H Q E ⟨d, n, rfl, _⟩; rfl
  · obtain ⟨a, ns, rfl, hS, k⟩ := h; have nd := sc_checksum.nd
    refine ⟨_, PSs.nox (pss_cons (ps_set (i := 1) nd rfl (by first | exact Or.inl rfl | exact Or.inr rfl) pe_int)
    (pss_cons (ps_for PassesOwn.never rfl (pi_listK K (pv 0)) (pg_name (i := 2) nd rfl (by first | exact Or.inl rfl | exact Or.inr rfl)) (pss_one (ps_set (i := 1) nd rfl (by first | exact Or.inl rfl | exact Or.inr rfl) (pe_op op_mod (pe_op (op_addK K) (pe_op op_mul (pv 1) pe_int) (pv 2)) (pe_gi M.g_MODULUS))))) (pss_one (ps_ret (pv 1))))), ?_⟩
    show (_ : TS) _ [some (.ref a), none, none] H
    walk_at "go"
    refine n_forL hS (fun i σ H'' => H'' = H ∧ ∃ u : Option V, σ = [some (.ref a), some (.int (cks (ns.take i))), u]) ⟨rfl, none, rfl⟩ (fun i σ H'' ⟨e, _⟩ => e ▸ hS) ?_ ?_
    · rintro i x σ H'' hx ⟨rfl, u, rfl⟩
      obtain ⟨z, hz, rfl⟩ : ∃ z, ns[i]? = some z ∧ V.int z = x := by simpa using hx
      walk_at "go"
      refine ⟨rfl, some (V.int z), ?_⟩
      have e2 : ns.take (i + 1) = ns.take i ++ [z] := by rw [List.take_add_one, hz]; rfl
      rw [e2, cks_snoc, Int.mul_comm]
    · rintro σ H'' ⟨rfl, u, rfl⟩
      simp only [List.length_map, List.take_length]
      walk_at "go"
      exact k

end
abbrev s_is_name : Stmt := top 11
abbrev N_is_name : List Str := ["name", "letter"]
theorem sc_is_name : FnScope N_is_name ["name"] (defScope s_is_name) := ⟨rfl, rfl, rfl, by decide +kernel, rfl, by decide +kernel, by decide +kernel⟩
abbrev s_Farm___init__ : Stmt := inClass (top 12) 2
abbrev N_Farm___init__ : List Str := ["self", "fields", "states", "index", "name", "limit", "earlier", "other"]
theorem sc_Farm___init__ : FnScope N_Farm___init__ ["self", "fields"] (defScope s_Farm___init__) := ⟨rfl, rfl, rfl, by decide +kernel, rfl, by decide +kernel, by decide +kernel⟩
abbrev s_Farm_fields : Stmt := inClass (top 12) 4
abbrev N_Farm_fields : List Str := ["self"]
theorem sc_Farm_fields : FnScope N_Farm_fields ["self"] (defScope s_Farm_fields) := ⟨rfl, rfl, rfl, by decide +kernel, rfl, by decide +kernel, by decide +kernel⟩
abbrev s_Farm___len__ : Stmt := inClass (top 12) 8
abbrev N_Farm___len__ : List Str := ["self"]
theorem sc_Farm___len__ : FnScope N_Farm___len__ ["self"] (defScope s_Farm___len__) := ⟨rfl, rfl, rfl, by decide +kernel, rfl, by decide +kernel, by decide +kernel⟩
section
variable {P : Program} {w : World} {K : PySem.W.Frag}
variable {mg : Str → Option Value} {base : Heap}
theorem alph_iff (c : Nat) : c ∈ ALPH.cps.toList ↔ 97 ≤ c ∧ c ≤ 122 := by
  have e : ALPH.cps.toList = (List.range 26).map (fun k => 97 + k) := by decide +kernel
  rw [e, List.mem_map]; simp only [List.mem_range]
  constructor
  · rintro ⟨k, h, rfl⟩; omega
  · intro h; exact ⟨c - 97, by omega, by omega⟩
theorem inV_strs (z : Str) (zs : List Str) : inV (.str z) (zs.map V.str) = decide (z ∈ zs) := by
  unfold inV
  induction zs with
  | nil => rfl
  | cons a r ih =>
    rw [List.map_cons, List.any_cons, ih]
    have h1 : eqV (.str a) (.str z) = decide (a = z) := by
      show (a == z) = decide (a = z)
      exact Bool.beq_eq_decide_eq a z
    rw [h1]
    by_cases h : a = z
    · subst h; simp
    · have h' : ¬ z = a := fun q => h q.symm
      simp [h, h']
theorem flat_strs (zs : List Str) : (zs.map V.str).all flatV = true := by
  rw [List.all_eq_true]; intro x hx; obtain ⟨z, _, rfl⟩ := List.mem_map.mp hx; rfl
def sp_is_name : Sp := fun vs H Q _ => ∃ z : Str, vs = [.str z] ∧ z.length ≤ sizeLine ∧ ∀ H', Same H H' → Q (.bl (decide (NmOk z))) H'
theorem ok_is_name (M : Md K mg) (G : Gd K mg "is_name" s_is_name) : DefR P w K mg base "is_name" 2 sp_is_name := by
  refine def_mk G fun f fd F => fnr_mk (F.ok sc_is_name ?_ (fun cdv A outer s H vs Q E hr h => ?_)) (F.bindsN (fun _ _ _ _ _ _ us hl => match us, hl with | [_], _ => rfl))
  · rintro vs H Q E ⟨z, rfl, _⟩; rfl
  · obtain ⟨z, rfl, hz, k⟩ := h
    have nd := sc_is_name.nd
    have ez : z.length = z.cps.toList.length := by unfold Str.length; simp
    refine ⟨_, PSs.nox (pss_one (ps_ret (pe_and (pe_chain op_le op_le pe_int (pe_len K M.b (pv 0)) (pe_gi M.g_MAX_LETTERS)) (pe_one (pe_all K M.b (pe_lc (own := [("letter", 1)]) (g := (gName 1)) (tt := tYes) rfl nd (pi_str (pv 0)) (blkOk_by (N := N_is_name) (sc := defScope s_is_name) (by decide +kernel)) (fun _ _ _ _ _ => (pg_name (i := 1) nd rfl (by first | exact Or.inl rfl | exact Or.inr rfl))) (fun _ _ _ _ _ => pts_nil) (fun _ _ _ _ _ => (pe_cmpR (op_inK K hr) (pv 1) (pe_gs M.g_LETTERS) rfl)))))))), ?_⟩
    show (_ : TS) _ [some (.str z), none] H
    walk_at "go"
    refine g_len_s hz ?_
    walk_at "go"
    refine g_ch (fun h1 => ?_) (fun h1 => ?_)
    · walk_at "go"
      refine if_D (fun h2 => ?_) (fun h2 => ?_)
      · walk_at "go"
        have h1' : (1 : Int) ≤ z.length := of_decide_eq_true h1
        have b8 : z.cps.size ≤ 8 := by have := ez; simp [Str.length] at h2 this ⊢; omega
        refine n_lcS (lc_map (walk_str (z := z)) (fun j => .bl (decide (z.cps.toList.getD j 0 ∈ ALPH.cps.toList))) (fun _ _ => trivial) ?_ ?_)
        · rintro C j x H5 H6 nC hj s5 hC ⟨e, c, hc, ex⟩
          subst e ex
          walk_at "go"
          refine ⟨rfl, ?_⟩
          walk_at "go"
          exact n_mapK nC s5 hC (by rw [getD_of (cps_get hc)]; rfl) (by omega)
        · intro C H5 nC s5 hC
          have e1 : (List.range z.cps.size).map (fun j => V.bl (decide (z.cps.toList.getD j 0 ∈ ALPH.cps.toList))) = (z.cps.toList.map fun c => decide (c ∈ ALPH.cps.toList)).map V.bl := by
            rw [← Array.length_toList, range_getD z.cps.toList 0 fun c => V.bl (decide (c ∈ ALPH.cps.toList))]
            simp [Function.comp_def]
          rw [e1] at hC
          walk_at "go"
          refine g_all (SqL.of hC) ?_
          have e2 : (z.cps.toList.map fun c => decide (c ∈ ALPH.cps.toList)).all id = decide (NmOk z) := by
            rw [Bool.eq_iff_iff, decide_eq_true_eq, List.all_map, List.all_eq_true]
            unfold NmOk
            constructor
            · intro h
              refine ⟨by rw [← ez]; omega, by rw [← ez]; omega, fun c hc => (alph_iff c).mp ?_⟩
              have := h c hc
              simpa using this
            · intro h c hc
              have := (alph_iff c).mpr (h.2.2 c hc)
              simpa using this
          rw [e2]
          exact k H5 s5
      · have e2 : decide (NmOk z) = false := decide_eq_false fun h => h2 (by rw [ez]; have := h.2.1; omega)
        have := k H (Same.refl H)
        rw [e2] at this
        exact this
    · have h1' : ¬ (1 : Int) ≤ z.length := of_decide_eq_false h1
      have e2 : decide (NmOk z) = false := decide_eq_false fun h => h1' (by rw [ez]; have := h.1; omega)
      walk_at "go"
      refine if_F rfl ?_
      have := k H (Same.refl H)
      rw [e2] at this
      exact this
/-- what the text says of the class Farm -/
structure FarmC (K : PySem.W.Frag) (CF : Addr) : Prop where
  cl : Cls K CF
  rows : NoAttr K CF "rows"
def farmFs (t : Addr) : List (Str × V) := [("rows", .ref t)]
def FarmAt (K : PySem.W.Frag) (CF : Addr) (H : Hp) (p : Addr) (fs : List (Str × Int)) : Prop := ∃ dx t, H p = some (.ins CF dx (farmFs t)) ∧ Dp K H (.ref t) (.tuple (fs.map pField))
variable {CF : Addr}
def sp_farm_init0 (K : PySem.W.Frag) (CF : Addr) : Sp := fun vs H Q _ => ∃ (x dx t : Addr) (fs : List (Str × Int)), vs = [.ref x, .ref t] ∧ H x = some (.ins CF dx []) ∧ Dp K H (.ref t) (.tuple (fs.map pField)) ∧ FOk fs ∧
  ∀ H', Keep x H H' → H' x = some (.ins CF dx (farmFs t)) → Q .non H'
def sp_farm_init (K : PySem.W.Frag) (CF : Addr) : Sp := fun vs H Q E => ∃ w0 rest, vs = w0 :: rest ∧ rest.length ≤ sizeLine ∧ ∀ p, H p = none → sp_farm_init0 K CF [w0, V.ref p] (upd H p (.tup rest)) Q E
theorem nodup_take {fs : List (Str × Int)} {i : Nat} {f : Str × Int} (h : (fs.map (·.1)).Nodup) (hf : fs[i]? = some f) : f.1 ∉ (fs.take i).map (·.1) := by
  intro hm
  rw [List.map_take] at hm
  obtain ⟨j, hj, e⟩ := List.mem_iff_getElem.mp hm
  simp at hj
  have h1 : (fs.map (·.1))[j]? = some f.1 := by
    rw [List.getElem?_eq_getElem (by simp; omega)]
    congr 1
    simpa using e
  have h2 : (fs.map (·.1))[i]? = some f.1 := by rw [List.getElem?_map, hf]; rfl
  have := nd_ix h h1 h2
  omega
theorem prod_take {fs : List (Str × Int)} (lo : ∀ f ∈ fs, 1 ≤ f.2 ∧ f.2 ≤ 30) : ∀ i, 1 ≤ prodL ((fs.take i).map (·.2)) ∧ prodL ((fs.take i).map (·.2)) ≤ 30 ^ i
  | 0 => by simp [prodL]
  | i + 1 => by
    have ih := prod_take lo i
    cases h : fs[i]? with
    | none =>
      have hl : fs.length ≤ i := List.getElem?_eq_none_iff.mp h
      rw [List.take_of_length_le (by omega)]
      rw [List.take_of_length_le hl] at ih
      refine ⟨ih.1, Int.le_trans ih.2 ?_⟩
      rw [Int.pow_succ]
      have : (0 : Int) ≤ 30 ^ i := Int.pow_nonneg (by decide)
      omega
    | some f =>
      have hf := lo f (List.mem_of_getElem? h)
      rw [List.take_add_one, h]
      simp only [Option.toList_some, List.map_append, List.map_cons, List.map_nil, prodL_snoc]
      constructor
      · have : 1 * 1 ≤ prodL ((fs.take i).map (·.2)) * f.2 := Int.mul_le_mul ih.1 hf.1 (by decide) (by omega)
        omega
      · rw [Int.pow_succ]
        exact Int.mul_le_mul ih.2 hf.2 (by omega) (Int.pow_nonneg (by decide))
theorem ok_farm_init (M : Md K mg) (C : FarmC K CF) (G : Gk K mg "Farm" CF "Farm.__init__" s_Farm___init__) (D_is_name : DefR P w K mg base "is_name" 2 sp_is_name) : MakeR P w K mg base "Farm" CF 4 (sp_farm_init K CF) := by
  refine make_mk G fun f fd F => fnr_star1 F sc_Farm___init__ (fun _ _ _ _ _ _ _ => rfl) (fun _ _ _ _ _ _ _ _ _ => rfl) (fun cdv A outer s H vs Q E hr h => ?_)
  obtain ⟨x, dx, t, fs, rfl, hx, hv, ok, k⟩ := h
  obtain ⟨t', xs, e, hS, hX⟩ := hv.inv_t
  cases e
  have hxl : xs.length = fs.length := by rw [hX.length]; simp
  have nd := sc_Farm___init__.nd
  refine ⟨_, PSs.nox (pss_cons (ps_if (pt_cmpR (op_eqK K hr) (pv 1) (pe_tup pa_nil) (nomark _)) (pss_one ps_never) pss_nil)
    (pss_cons (ps_set (i := 2) nd rfl (by first | exact Or.inl rfl | exact Or.inr rfl) pe_int)
    (pss_cons (ps_for PassesOwn.never rfl (pi_enumTK K rfl M.b.enumerate (pa_cons (pv 1) pa_nil)) (pg_tupK K rfl (pgs_cons (pg_name (i := 3) nd rfl (by first | exact Or.inl rfl | exact Or.inr rfl)) (pgs_cons (pg_tupK K rfl (pgs_cons (pg_name (i := 4) nd rfl (by first | exact Or.inl rfl | exact Or.inr rfl)) (pgs_cons (pg_name (i := 5) nd rfl (by first | exact Or.inl rfl | exact Or.inr rfl)) pgs_nil))) pgs_nil))) (pss_cons (ps_setLc (i := 6) (own := [("other", 7)]) (g := (gName 7)) (tt := tYes) rfl nd rfl rfl (sw_true rfl rfl rfl (by decide +kernel)) (pi_tupK K (pe_slice (sl_tupK K) (pv 1) po_none (po_some (pv 3)))) (blkOk_by (N := N_Farm___init__) (sc := defScope s_Farm___init__) (by decide +kernel)) (fun _ _ _ _ _ => (pg_name (i := 7) nd rfl (by first | exact Or.inl rfl | exact Or.inr rfl))) (fun _ _ _ _ _ => pts_nil) (fun _ _ _ _ _ => (pe_ix (ix_K K) (pv 7) pe_int (fun _ _ => rfl))))
    (pss_cons (ps_if (PW.pt (pw_or (pt_cmpR (op_eqK K hr) (pv 3) (pe_gcon M.k_Farm_MAX_FIELDS) (nomark _)) (pw_or (pt_not (pt_val (pe_callR D_is_name (hr.mono (by first | decide | omega)) passN (pa_cons (pv 4) pa_nil)))) (pw_or (pt_not (pt_chain op_le op_le pe_int (pv 5) (pe_gi M.g_MAX_LIMIT))) (pw_or1 (pt_cmpR (op_inK K hr) (pv 4) (pv 6) rfl)))))) (pss_one ps_never) pss_nil)
    (pss_one (ps_set (i := 2) nd rfl (by first | exact Or.inl rfl | exact Or.inr rfl) (pe_op op_mul (pv 2) (pv 5)))))))
    (pss_cons (ps_if (pt_cmpR op_gt (pv 2) (pe_gcon M.k_Farm_MAX_STATES) (nomark _)) (pss_one ps_never) pss_nil) (pss_one (ps_fldK K (pv 0) (pv 1))))))), ?_⟩
  show (_ : TS) _ [some (.ref x), some (.ref t), none, none, none, none, none, none] H
  walk_at "go"
  refine n_tup (by simp) fun e H1 ne s1 he => ?_
  refine g_eq_d (.tuple (fs.map pField)) (.tuple []) (s1.dp hv) (dp_tup he .nil) ((sh_fields ok.nm).ok (by decide)) (Sh.ok (n := 1) (sh_t fun x hx => by cases hx) (by decide)) ?_
  rw [eqv_nilT]
  have en : (fs.map pField).isEmpty = false := by
    cases fs with
    | nil => have := ok.one; simp at this
    | cons f r => rfl
  rw [en]
  walk_at "go"
  refine if_F rfl ?_
  walk_at "go"
  refine n_forET (same_t s1 hS) (fun i σ H' => ∃ u1 u2 u3 u4 u5 : Option V, σ = [some (.ref x), some (.ref t), some (.int (prodL ((fs.take i).map (·.2)))), u1, u2, u3, u4, u5] ∧ Same H H') ⟨_, _, _, _, _, rfl, s1⟩ (fun i σ H' ⟨_, _, _, _, _, _, s2⟩ => same_t s2 hS) ?_ ?_
  · rintro i y T σ H2 H3 hy ⟨u1, u2, u3, u4, u5, rfl, s2⟩ nT s3 hT
    have hi6 : i < 6 := by
      have := (List.getElem?_eq_some_iff.mp hy).1
      have := ok.six
      omega
    obtain ⟨dd, hd, hDx⟩ := hX.get hy
    obtain ⟨fi, hfi, rfl⟩ : ∃ fi, fs[i]? = some fi ∧ pField fi = dd := by simpa using hd
    have fm : fi ∈ fs := List.mem_of_getElem? hfi
    obtain ⟨t2, ys, rfl, hT2, hY⟩ := ((s2.trans s3).dp hDx).inv_t
    obtain ⟨v1, v2, rfl, hv1, hv2⟩ := hY.inv2
    obtain rfl := hv1.inv_s
    obtain rfl := hv2.inv_i
    refine g_gtup (SqT.of hT) rfl ?_
    walk_at "go"
    refine g_gtup hT2 rfl ?_
    walk_at "go"
    have sA := s2.trans s3
    refine g_slT (same_t sA hS) fun p4 H4 s4 hp4 => ?_
    rw [cutV_to] at hp4
    walk_at "go"
    have hXt : DpAll K H4 (xs.take i) ((fs.take i).map pField) := by
      rw [List.map_take]
      exact dpa_take i ((sA.trans s4).dpa hX)
    refine n_lcT hp4 (lc_map (walk_tup (xs := xs.take i)) (fun j => .str ((fs.getD j ("", 0)).1)) (fun H5 s5 => same_t s5 hp4) ?_ ?_)
    · rintro C j y H5 H6 nC hj s5 hC ⟨e, hyj⟩
      subst e
      obtain ⟨dj, hdj, hDj⟩ := (s5.dpa hXt).get hyj
      obtain ⟨fj, hfj, rfl⟩ := getm hdj
      obtain ⟨t3, zs, rfl, hT3, hZ⟩ := hDj.inv_t
      obtain ⟨w1, w2, rfl, hw1, hw2⟩ := hZ.inv2
      obtain rfl := hw1.inv_s
      have hjl : j < xs.length := by simp at hj; omega
      have hfj' : fs[j]? = some fj := by
        rw [List.getElem?_take] at hfj
        split at hfj
        · exact hfj
        · cases hfj
      walk_at "go"
      refine ⟨rfl, ?_⟩
      walk_at "go"
      refine g_ix_t hT3 atI_c0 ?_
      have := ok.six
      exact n_mapK nC s5 hC (by rw [getD_of hfj'])
    · intro C5 H5 nC s5 hC
      have e1 : (List.range (xs.take i).length).map (fun j => V.str ((fs.getD j ("", 0)).1)) = ((fs.take i).map (·.1)).map V.str := by
        have el : (xs.take i).length = (fs.take i).length := by simp [hxl]
        rw [el, List.map_map]
        refine Eq.trans ?_ (range_getD (fs.take i) ("", 0) fun f : Str × Int => V.str f.1)
        apply List.map_congr_left
        intro j hj
        have hj' : j < i ∧ j < fs.length := by simp at hj; omega
        simp [List.getD, List.getElem?_take, hj'.1]
      rw [e1] at hC
      walk_at "go"
      refine if_D (fun e => absurd e (by omega)) (fun _ => ?_)
      walk_at "go"
      refine ⟨fi.1, rfl, ?_, fun H6 s6 => ?_⟩
      · have := (ok.nm fi fm).2.1
        rw [Str.length, ← Array.length_toList, sizeLine_eq]; omega
      rw [decide_eq_true (ok.nm fi fm)]
      walk_at "go"
      refine if_F rfl ?_
      walk_at "go"
      have hb := ok.lo fi fm
      refine g_ch (fun _ => ?_) (fun e => absurd hb.1 (of_decide_eq_false e))
      walk_at "go"
      refine if_F (by rw [decide_eq_true hb.2]; rfl) ?_
      walk_at "go"
      refine g_in_seq (.inl (SqL.of (s6 _ _ hC))) rfl (flat_strs _) ?_
      rw [inV_strs, decide_eq_false (nodup_take ok.nd hfi)]
      walk_at "go"
      refine if_F rfl ?_
      have hp := prod_take ok.lo i
      walk_at "go"
      have ep : prodL ((fs.take i).map (·.2)) * fi.2 = prodL ((fs.take (i + 1)).map (·.2)) := by
        rw [List.take_add_one, hfi]
        simp only [Option.toList_some, List.map_append, List.map_cons, List.map_nil, prodL_snoc]
      rw [ep]
      exact ⟨_, _, _, _, _, rfl, sA.trans (s4.trans (s5.trans s6))⟩
  · rintro σ H2 ⟨u1, u2, u3, u4, u5, rfl, s2⟩
    rw [hxl, List.take_length]
    walk_at "go"
    refine if_D (fun e => absurd e (by have := ok.pr; omega)) (fun _ => ?_)
    walk_at "go"
    refine n_sfld (s2 _ _ hx) C.cl C.rows (by show 0 < 1000; decide) fun H3 k3 h3 => ?_
    exact k H3 (fun b o nb hb => k3 _ _ nb (s2 _ _ hb)) h3
def sp_farm_fields (K : PySem.W.Frag) (CF : Addr) : Sp := fun vs H Q _ => ∃ (p dx t : Addr), vs = [.ref p] ∧ H p = some (.ins CF dx (farmFs t)) ∧ Q (.ref t) H
theorem ok_farm_fields (C : FarmC K CF) (G : Gp K CF "fields" "Farm.fields" s_Farm_fields) : PropR P w K mg base CF "fields" 2 (sp_farm_fields K CF) := by
  refine prop_mk G fun f fd F => fnr_mk (F.ok sc_Farm_fields ?_ (fun cdv A outer s H vs Q E hr h => ?_)) (F.bindsN (fun _ _ _ _ _ _ us hl => match us, hl with | [_], _ => rfl))
  · rintro vs H Q E ⟨z, _, _, rfl, _⟩; rfl
  · obtain ⟨p, dx, t, rfl, hp, k⟩ := h
    have nd := sc_Farm_fields.nd
    refine ⟨_, PSs.nox (pss_one (ps_ret (pe_fldK K (pv 0)))), ?_⟩
    show (_ : TS) _ [some (.ref p)] H
    walk_at "go"
    exact n_fld hp C.cl C.rows rfl k
def sp_farm_len (K : PySem.W.Frag) (CF : Addr) : Sp := fun vs H Q _ => ∃ (p dx t : Addr) (xs : List V), vs = [.ref p] ∧ H p = some (.ins CF dx (farmFs t)) ∧ SqT K H t xs ∧ Q (.int xs.length) H
theorem ok_farm_len (M : Md K mg) (C : FarmC K CF) (G : Gm K CF "__len__" "Farm.__len__" s_Farm___len__) : MethR P w K mg base CF "__len__" 2 (sp_farm_len K CF) := by
  refine meth_mk G fun f fd F => FnU.raw <| fnr_mk (F.ok sc_Farm___len__ ?_ (fun cdv A outer s H vs Q E hr h => ?_)) (F.bindsN (fun _ _ _ _ _ _ us hl => match us, hl with | [_], _ => rfl))
  · rintro vs H Q E ⟨z, _, _, _, rfl, _⟩; rfl
  · obtain ⟨p, dx, t, xs, rfl, hp, hS, k⟩ := h
    have nd := sc_Farm___len__.nd
    refine ⟨_, PSs.nox (pss_one (ps_ret (pe_len K M.b (pe_fldK K (pv 0))))), ?_⟩
    show (_ : TS) _ [some (.ref p)] H
    walk_at "go"
    refine n_fld hp C.cl C.rows rfl ?_
    walk_at "go"
    exact g_len_t hS k

end
abbrev s_encode_farm : Stmt := top 17
abbrev N_encode_farm : List Str := ["farm", "values", "name", "limit", "letter"]
theorem sc_encode_farm : FnScope N_encode_farm ["farm"] (defScope s_encode_farm) := ⟨rfl, rfl, rfl, by decide +kernel, rfl, by decide +kernel, by decide +kernel⟩
abbrev s_Decoder___init__ : Stmt := inClass (top 18) 0
abbrev N_Decoder___init__ : List Str := ["self", "data"]
theorem sc_Decoder___init__ : FnScope N_Decoder___init__ ["self", "data"] (defScope s_Decoder___init__) := ⟨rfl, rfl, rfl, by decide +kernel, rfl, by decide +kernel, by decide +kernel⟩
abbrev s_Decoder_take : Stmt := inClass (top 18) 1
abbrev N_Decoder_take : List Str := ["self", "low", "high"]
theorem sc_Decoder_take : FnScope N_Decoder_take ["self", "low", "high"] (defScope s_Decoder_take) := ⟨rfl, rfl, rfl, by decide +kernel, rfl, by decide +kernel, by decide +kernel⟩
abbrev s_Decoder_take_field : Stmt := inClass (top 18) 2
abbrev N_Decoder_take_field : List Str := ["self", "names", "most", "limit", "start", "length", "name", "letter"]
theorem sc_Decoder_take_field : FnScope N_Decoder_take_field ["self", "names", "most"] (defScope s_Decoder_take_field) := ⟨rfl, rfl, rfl, by decide +kernel, rfl, by decide +kernel, by decide +kernel⟩
abbrev s_decode_farm : Stmt := top 19
abbrev N_decode_farm : List Str := ["data", "decoder", "fields", "states", "number", "most", "name", "limit", "expected"]
theorem sc_decode_farm : FnScope N_decode_farm ["data"] (defScope s_decode_farm) := ⟨rfl, rfl, rfl, by decide +kernel, rfl, by decide +kernel, by decide +kernel⟩
abbrev s_law_farm : Stmt := top 26
abbrev N_law_farm : List Str := ["_law_fields_here"]
theorem sc_law_farm : FnScope N_law_farm ["_law_fields_here"] (defScope s_law_farm) := ⟨rfl, rfl, rfl, by decide +kernel, rfl, by decide +kernel, by decide +kernel⟩
section
variable {P : Program} {w : World} {K : PySem.W.Frag}
variable {mg : Str → Option Value} {base : Heap}
theorem map_lets (z : Str) : (List.range z.cps.size).map (fun j => V.int (((z.cps.toList.getD j 97) - 97 : Nat) : Int)) = (lets z).map V.int := by
  rw [← Array.length_toList, range_getD z.cps.toList 97 fun c => V.int ((c - 97 : Nat) : Int)]
  simp [lets, Function.comp_def]
def sp_encode_farm (K : PySem.W.Frag) (CF : Addr) : Sp := fun vs H Q _ => ∃ (p : Addr) (fs : List (Str × Int)), vs = [.ref p] ∧ FarmAt K CF H p fs ∧ FOk fs ∧
  ∀ H' q, Same H H' → H q = none → H' q = some (.lst ((bytesOf fs).map V.int)) → Q (.ref q) H'
variable {CF CD : Addr}
theorem ok_encode_farm (M : Md K mg) (G : Gd K mg "encode_farm" s_encode_farm) (D_checksum : DefR P w K mg base "checksum" 2 (sp_checksum K)) (P_Farm_fields : PropR P w K mg base CF "fields" 2 (sp_farm_fields K CF)) (M_Farm___len__ : MethR P w K mg base CF "__len__" 2 (sp_farm_len K CF)) :
    DefR P w K mg base "encode_farm" 6 (sp_encode_farm K CF) := by
  refine def_mk G fun f fd F => fnr_mk (F.ok sc_encode_farm ?_ (fun cdv A outer s H vs Q E hr h => ?_)) (F.bindsN (fun _ _ _ _ _ _ us hl => match us, hl with | [_], _ => rfl))
  · rintro vs H Q E ⟨z, _, rfl, _⟩; rfl
  · obtain ⟨p, fs, rfl, ⟨dx, t, hp, hv⟩, ok, k⟩ := h
    obtain ⟨t', xs, e, hS, hX⟩ := hv.inv_t
    cases e
    have hxl : xs.length = fs.length := by rw [hX.length]; simp
    have nd := sc_encode_farm.nd
    refine ⟨_, PSs.nox (pss_cons (ps_set (i := 1) nd rfl (by first | exact Or.inl rfl | exact Or.inr rfl) (pe_lst (pa_cons (pe_gi M.g_TAG) (pa_cons (pe_callB (call_lenO M_Farm___len__ (hr.mono (by first | decide | omega))) rfl M.b.len bt_len (pa_cons (pv 0) pa_nil)) pa_nil))))
    (pss_cons (ps_for PassesOwn.never rfl (pi_tupK K (pe_propR P_Farm_fields (hr.mono (by first | decide | omega)) (pv 0))) (pg_tupK K rfl (pgs_cons (pg_name (i := 2) nd rfl (by first | exact Or.inl rfl | exact Or.inr rfl)) (pgs_cons (pg_name (i := 3) nd rfl (by first | exact Or.inl rfl | exact Or.inr rfl)) pgs_nil))) (pss_one (ps_expr (as_bm K (pe_bm PySem.F.plainAttrs_list PySem.F.slot_list_extend PySem.F.type_list_extend mt_extend (pv 1) (pa_cons (pe_lst (pa_cons (pv 3) (pa_cons (pe_len K M.b (pv 2)) (pa_starK K (pe_lc (own := [("letter", 4)]) (g := (gName 4)) (tt := tYes) rfl nd (pi_str (pv 2)) (blkOk_by (N := N_encode_farm) (sc := defScope s_encode_farm) (by decide +kernel)) (fun _ _ _ _ _ => (pg_name (i := 4) nd rfl (by first | exact Or.inl rfl | exact Or.inr rfl))) (fun _ _ _ _ _ => pts_nil) (fun _ _ _ _ _ => (pe_m1 PySem.F.slot_str_index PySem.F.type_str_index mt_sindex (pe_gs M.g_LETTERS) (pv 4)))) pa_nil)))) pa_nil))))))
    (pss_one (ps_ret (pe_lst (pa_starK K (pv 1) (pa_cons (pe_callR D_checksum (hr.mono (by first | decide | omega)) passN (pa_cons (pv 1) pa_nil)) pa_nil))))))), ?_⟩
    show (_ : TS) _ [some (.ref p), none, none, none, none] H
    walk_at "go"
    refine ⟨p, dx, _, rfl, hp, p, dx, t, xs, rfl, hp, hS, _, rfl, by omega, by have := ok.six; omega, ?_⟩
    walk_at "go"
    refine n_lst (by simp [sizeLine_eq]) fun q H1 nq s1 hq => ?_
    walk_at "go"
    refine n_prop (s1 _ _ hp) ⟨p, dx, t, rfl, s1 _ _ hp, ?_⟩
    refine n_forT (same_t s1 hS) (fun i σ H' => ∃ u1 u2 : Option V, σ = [some (.ref p), some (.ref q), u1, u2, none] ∧ Same H H' ∧ H' q = some (.lst (([72, (fs.length : Int)] ++ (fs.take i).flatMap encF).map V.int)))
      ⟨none, none, rfl, s1, by rw [hq, hxl]; rfl⟩ (fun i σ H' ⟨u1, u2, _, s2, _⟩ => same_t s2 hS) ?_ ?_
    · rintro i x σ H' hx ⟨u1, u2, rfl, s2, hq⟩
      obtain ⟨dd, hd, hDx⟩ := hX.get hx
      obtain ⟨fi, hfi, rfl⟩ := getm hd
      have fm : fi ∈ fs := List.mem_of_getElem? hfi
      obtain ⟨t2, ys, rfl, hT, hY⟩ := (s2.dp hDx).inv_t
      obtain ⟨v1, v2, rfl, hv1, hv2⟩ := hY.inv2
      obtain rfl := hv1.inv_s
      obtain rfl := hv2.inv_i
      have tl : ((fs.take i).flatMap encF).length ≤ 60 := by
        have h1 := flat_len (fs := fs.take i) fun g hg => ok.nm g (List.mem_of_mem_take hg)
        have h2 := ok.six
        have h3 : (fs.take i).length ≤ fs.length := by simp; omega
        omega
      have nl := (ok.nm fi fm).2.1
      refine g_gtup hT rfl ?_
      walk_at "go"
      refine g_len_s (by show fi.1.cps.size ≤ sizeLine; rw [← Array.length_toList]; simp only [sizeLine_eq]; omega) ?_
      walk_at "go"
      refine n_lcS (lc_map (walk_str (z := fi.1)) (fun j => .int (((fi.1.cps.toList.getD j 97) - 97 : Nat) : Int)) (fun _ _ => trivial) ?_ ?_)
      · rintro C j x H5 H6 nC hj s5 hC ⟨e, c, hc, ex⟩
        subst e ex
        have hc' := cps_get hc
        have cb := (ok.nm fi fm).2.2 c (List.mem_of_getElem? hc')
        have hj8 : j < 1000000 := by rw [← Array.length_toList] at hj; omega
        walk_at "go"
        refine ⟨rfl, ?_⟩
        walk_at "go"
        refine ⟨ALPH, ⟨#[c]⟩, c - 97, [], rfl, rfl, alph_ix cb.1 cb.2, ?_⟩
        exact n_mapK nC s5 hC (by rw [getD_of hc'])
      · intro C H5 nC s5 hC
        rw [map_lets] at hC
        walk_at "go"
        refine n_star (.inr (SqL.of hC)) ?_
        walk_at "go"
        refine n_lst (by simp [sizeLine_eq, lets] at nl ⊢; omega) fun r H6 nr s6 hr6 => ?_
        walk_at "go"
        refine g_extend (s6 _ _ (s5 _ _ hq)) hr6 (by simp [sizeLine_eq, lets] at tl nl ⊢; omega) fun H7 k7 h7 => ?_
        walk_at "go"
        refine ⟨some (.str fi.1), some (.int fi.2), rfl, fun b o hb => k7 _ _ (ne_of_none hb nq) (s6 _ _ (s5 _ _ (s2 _ _ hb))), ?_⟩
        rw [h7, flat_take encF hfi]
        simp [encF, Str.length]
    · rintro σ H' ⟨u1, u2, rfl, s2, hq⟩
      have ef : fs.take xs.length = fs := by rw [hxl, List.take_length]
      rw [ef] at hq
      have eb : H' q = some (.lst ((bodyOf fs).map V.int)) := hq
      have bl := body_len ok
      walk_at "go"
      refine n_star (.inr (SqL.of eb)) ?_
      walk_at "go"
      refine ⟨q, bodyOf fs, rfl, SqL.of eb, ?_⟩
      walk_at "go"
      refine n_lst (by simp [sizeLine_eq] at bl ⊢; omega) fun r H6 nr s6 hr6 => ?_
      refine k H6 r (s2.trans s6) (s2.free nr) ?_
      rw [hr6]; simp [bytesOf]
/-! ### the decoder -/
structure DecC (K : PySem.W.Frag) (CD : Addr) : Prop where
  cl : Cls K CD
  data : NoAttr K CD "data"
  place : NoAttr K CD "place"
def decFs (a : Addr) (i : Int) : List (Str × V) := [("data", .ref a), ("place", .int i)]
theorem dec_ne : ¬ (("data" : Str) = "place") := by decide +kernel
theorem dec_put (a : Addr) (i j : Int) : putF "place" (.int j) (decFs a i) = decFs a j := by
  show (if ("data" : Str) = "place" then _ else (("data" : Str), V.ref a) :: (if ("place" : Str) = "place" then [(("place" : Str), V.int j)] else _)) = decFs a j
  rw [if_neg dec_ne, if_pos rfl]; rfl
theorem dec_put0 (a : Addr) (j : Int) : putF "place" (.int j) [(("data" : Str), V.ref a)] = decFs a j := by
  show (if ("data" : Str) = "place" then _ else (("data" : Str), V.ref a) :: putF "place" (.int j) []) = decFs a j
  rw [if_neg dec_ne]; rfl
theorem dec_data (a : Addr) (i : Int) : (decFs a i).lookup ("data" : Str) = some (V.ref a) := rfl
theorem dec_place (a : Addr) (i : Int) : (decFs a i).lookup ("place" : Str) = some (V.int i) := by
  have h : (("place" : Str) == ("data" : Str)) = false := by decide +kernel
  simp [decFs, List.lookup, h]
theorem dec_no (a : Addr) (i : Int) (m : Str) (h1 : (m == ("data" : Str)) = false) (h2 : (m == ("place" : Str)) = false) : (decFs a i).lookup m = none := by simp [decFs, List.lookup, h1, h2]
def sp_dec_init (CD : Addr) : Sp := fun vs H Q _ => ∃ (x dx a : Addr), vs = [.ref x, .ref a] ∧ H x = some (.ins CD dx []) ∧ ∀ H', Keep x H H' → H' x = some (.ins CD dx (decFs a 0)) → Q .non H'
theorem ok_dec_init (C : DecC K CD) (G : Gk K mg "Decoder" CD "Decoder.__init__" s_Decoder___init__) : MakeR P w K mg base "Decoder" CD 2 (sp_dec_init CD) := by
  refine make_mk G fun f fd F => FnU.raw <| fnr_mk (F.ok sc_Decoder___init__ ?_ (fun cdv A outer s H vs Q E hr h => ?_)) (F.bindsN (fun _ _ _ _ _ _ us hl => match us, hl with | [_, _], _ => rfl))
  · rintro vs H Q E ⟨z, _, _, rfl, _⟩; rfl
  · obtain ⟨x, dx, a, rfl, hx, k⟩ := h
    have nd := sc_Decoder___init__.nd
    refine ⟨_, PSs.nox (pss_cons (ps_fldK K (pv 0) (pv 1)) (pss_one (ps_fldK K (pv 0) pe_int))), ?_⟩
    show (_ : TS) _ [some (.ref x), some (.ref a)] H
    walk_at "go"
    refine n_sfld hx C.cl C.data (by show 0 < 1000; decide) fun H1 k1 h1 => ?_
    walk_at "go"
    refine n_sfld h1 C.cl C.place (by show 1 < 1000; decide) fun H2 k2 h2 => ?_
    refine k H2 (k1.trans k2) ?_
    rw [h2]; exact congrArg (fun z => some (HO.ins CD dx z)) (dec_put0 a 0)
def sp_take (K : PySem.W.Frag) (CD : Addr) : Sp := fun vs H Q _ => ∃ (p dx a : Addr) (ns : List Int) (i : Nat) (z lo hi : Int), vs = [.ref p, .int lo, .int hi] ∧ H p = some (.ins CD dx (decFs a i)) ∧ SqL K H a (ns.map V.int) ∧ a ≠ p ∧ ns[i]? = some z ∧ lo ≤ z ∧ z ≤ hi ∧
  ∀ H', Keep p H H' → H' p = some (.ins CD dx (decFs a ((i + 1 : Nat) : Int))) → Q (.int z) H'
theorem keep_l {K : PySem.W.Frag} {H H' : Hp} {d a : Addr} {xs : List V} (e : Keep d H H') (n : a ≠ d) (h : SqL K H a xs) : SqL K H' a xs := h.imp (fun z => z.imp (e a _ n) fun ⟨o, q⟩ => ⟨o, e a _ n q⟩) id
theorem ok_take (M : Md K mg) (C : DecC K CD) (G : Gm K CD "take" "Decoder.take" s_Decoder_take) : MethR P w K mg base CD "take" 2 (sp_take K CD) := by
  refine meth_mk G fun f fd F => FnU.raw <| fnr_mk (F.ok sc_Decoder_take ?_ (fun cdv A outer s H vs Q E hr h => ?_)) (F.bindsN (fun _ _ _ _ _ _ us hl => match us, hl with | [_, _, _], _ => rfl))
  · rintro vs H Q E ⟨_, _, _, _, _, _, _, _, rfl, _⟩; rfl
  · obtain ⟨p, dx, a, ns, i, z, lo, hi, rfl, hp, hS, nap, hz, h1, h2, k⟩ := h
    have hil : i < ns.length := (List.getElem?_eq_some_iff.mp hz).1
    have nd := sc_Decoder_take.nd
    have hzV : (ns.map V.int)[i]? = some (.int z) := by rw [List.getElem?_map, hz]; rfl
    refine ⟨_, PSs.nox (pss_cons (ps_if (PW.pt (pw_or (pt_cmpR (op_eqK K hr) (pe_fldK K (pv 0)) (pe_len K M.b (pe_fldK K (pv 0))) (nomark _)) (pw_or1 (pt_not (pt_chain op_le op_le (pv 1) (pe_ix (ix_K K) (pe_fldK K (pv 0)) (pe_fldK K (pv 0)) (fun _ _ => rfl)) (pv 2)))))) (pss_one ps_never) pss_nil)
    (pss_cons (ps_fldaugK K (pv 0) pe_int in_add)
    (pss_one (ps_ret (pe_ix (ix_K K) (pe_fldK K (pv 0)) (pe_op op_sub (pe_fldK K (pv 0)) pe_int) (fun _ _ => rfl)))))), ?_⟩
    show (_ : TS) _ [some (.ref p), some (.int lo), some (.int hi)] H
    walk_at "go"
    refine n_fld hp C.cl C.place (dec_place _ _) ?_
    walk_at "go"
    refine n_fld hp C.cl C.data (dec_data _ _) ?_
    walk_at "go"
    refine g_len_l hS ?_
    walk_at "go"
    refine if_D (fun e => absurd e (by simp; omega)) (fun _ => ?_)
    walk_at "go"
    refine n_fld hp C.cl C.data (dec_data _ _) ?_
    walk_at "go"
    refine n_fld hp C.cl C.place (dec_place _ _) ?_
    walk_at "go"
    refine g_ix_l hS (atI_nat hzV) ?_
    walk_at "go"
    refine g_ch (fun _ => ?_) (fun e => absurd h1 (of_decide_eq_false e))
    walk_at "go"
    refine if_F (by rw [decide_eq_true h2]; rfl) ?_
    walk_at "go"
    refine n_fldaug hp C.cl C.place (dec_place _ _) ?_
    walk_at "go"
    refine n_fae hp (by show 2 < 1000; decide) fun H1 k1 e1 => ?_
    rw [dec_put] at e1
    walk_at "go"
    refine n_fld e1 C.cl C.data (dec_data _ _) ?_
    walk_at "go"
    refine n_fld e1 C.cl C.place (dec_place _ _) ?_
    walk_at "go"
    refine g_ix_l (keep_l k1 nap hS) (by rw [show (i : Int) + 1 - 1 = (i : Int) by omega]; exact atI_nat hzV) ?_
    refine k H1 k1 ?_
    rw [e1]; rfl

theorem join_signs (cs : List Nat) : Txt.join "" (cs.map fun c => (⟨#[c]⟩ : Str)) = ⟨cs.toArray⟩ := by
  have e : (cs.map fun c => (⟨#[c]⟩ : Str)) = (cs.map fun c => [c]).map SX.S := by simp [Function.comp_def]
  have e0 : ("" : Str) = SX.S [] := by decide +kernel
  rw [e, e0, SX.join_S]
  congr 1
  have : ∀ l : List Nat, TL.joinL [] (l.map fun c => [c]) = l := by
    intro l
    induction l with
    | nil => rfl
    | cons a r ih =>
      cases r with
      | nil => rfl
      | cons b r => exact congrArg (fun z => a :: z) ih
  rw [this]
def sp_take_field (K : PySem.W.Frag) (CD : Addr) : Sp := fun vs H Q _ => ∃ (p dx a nm : Addr) (ns : List Int) (i : Nat) (f : Str × Int) (zs : List Str) (most : Int), vs = [.ref p, .ref nm, .int most] ∧ H p = some (.ins CD dx (decFs a i)) ∧ SqL K H a (ns.map V.int) ∧ a ≠ p ∧
  SqL K H nm (zs.map V.str) ∧ nm ≠ p ∧ (∀ (j : Nat) (z : Int), (encF f)[j]? = some z → ns[i + j]? = some z) ∧ NmOk f.1 ∧ f.1 ∉ zs ∧ 1 ≤ f.2 ∧ f.2 ≤ most ∧
  ∀ H' q, Keep p H H' → H q = none → H' q = some (.tup [.str f.1, .int f.2]) → H' p = some (.ins CD dx (decFs a ((i + (encF f).length : Nat) : Int))) → Q (.ref q) H'
theorem alph_get {c : Nat} (h1 : 97 ≤ c) (h2 : c ≤ 122) : atI ALPH.cps.toList (((c - 97 : Nat) : Int)) = some c := by
  refine atI_nat ?_
  have := alph_at ⟨c - 97, by omega⟩
  simpa [show 97 + (c - 97) = c by omega] using this
theorem ok_take_field (M : Md K mg) (C : DecC K CD) (G : Gm K CD "take_field" "Decoder.take_field" s_Decoder_take_field) (M_Decoder_take : MethR P w K mg base CD "take" 2 (sp_take K CD)) : MethR P w K mg base CD "take_field" 4 (sp_take_field K CD) := by
  refine meth_mk G fun f fd F => FnU.raw <| fnr_mk (F.ok sc_Decoder_take_field ?_ (fun cdv A outer s H vs Q E hr h => ?_)) (F.bindsN (fun _ _ _ _ _ _ us hl => match us, hl with | [_, _, _], _ => rfl))
  · rintro vs H Q E ⟨_, _, _, _, _, _, _, _, _, rfl, _⟩; rfl
  · obtain ⟨p, dx, a, nm, ns, i, f, zs, most, rfl, hp, hS, nap, hN, nnp, hpos, hnm, hnot, l1, l2, k⟩ := h
    have nd := sc_Decoder_take_field.nd
    have nl := hnm.2.1
    have nl1 := hnm.1
    have ctk : ((Str.ofString "take") == (Str.ofString "data")) = false := by decide +kernel
    have ctp : ((Str.ofString "take") == (Str.ofString "place")) = false := by decide +kernel
    refine ⟨_, PSs.nox (pss_cons (ps_set (i := 3) nd rfl (by first | exact Or.inl rfl | exact Or.inr rfl) (pe_methR (pv 0) M_Decoder_take.cl M_Decoder_take.at_ M_Decoder_take.fn (hr.mono (by first | decide | omega)) passN (pa_cons pe_int (pa_cons (pv 2) pa_nil))))
    (pss_cons (ps_set (i := 4) nd rfl (by first | exact Or.inl rfl | exact Or.inr rfl) (pe_fldK K (pv 0)))
    (pss_cons (ps_set (i := 5) nd rfl (by first | exact Or.inl rfl | exact Or.inr rfl) (pe_methR (pv 0) M_Decoder_take.cl M_Decoder_take.at_ M_Decoder_take.fn (hr.mono (by first | decide | omega)) passN (pa_cons pe_int (pa_cons (pe_gi M.g_MAX_LETTERS) pa_nil))))
    (pss_cons (ps_set (i := 6) nd rfl (by first | exact Or.inl rfl | exact Or.inr rfl) (pe_joinK K pe_str (pe_lc (own := [("letter", 7)]) (g := (gName 7)) (tt := tYes) rfl nd (pi_range1 rfl M.b.range (pa_cons (pv 5) pa_nil)) (blkOk_by (N := N_Decoder_take_field) (sc := defScope s_Decoder_take_field) (by decide +kernel)) (fun _ _ _ _ _ => (pg_name (i := 7) nd rfl (by first | exact Or.inl rfl | exact Or.inr rfl))) (fun _ _ _ _ _ => pts_nil) (fun _ _ _ _ _ => (pe_ix (ix_K K) (pe_gs M.g_LETTERS) (pe_methR (pv 0) M_Decoder_take.cl M_Decoder_take.at_ M_Decoder_take.fn (hr.mono (by first | decide | omega)) passN (pa_cons pe_int (pa_cons (pe_op op_sub (pe_len K M.b (pe_gs M.g_LETTERS)) pe_int) pa_nil))) (fun _ _ => rfl))))))
    (pss_cons (ps_if (pt_cmpR (op_inK K hr) (pv 6) (pv 1) rfl) (pss_one ps_never) pss_nil)
    (pss_one (ps_ret (pe_tup (pa_cons (pv 6) (pa_cons (pv 3) pa_nil)))))))))), ?_⟩
    show (_ : TS) _ [some (.ref p), some (.ref nm), some (.int most), none, none, none, none, none] H
    walk_at "go"
    refine n_meth hp (dec_no _ _ _ ctk ctp) ?_
    walk_at "go"
    refine ⟨p, dx, a, ns, i, f.2, 1, most, rfl, hp, hS, nap, hpos 0 _ rfl, l1, l2, fun H1 k1 h1 => ?_⟩
    walk_at "go"
    refine n_fld h1 C.cl C.place (dec_place _ _) ?_
    walk_at "go"
    refine n_meth h1 (dec_no _ _ _ ctk ctp) ?_
    walk_at "go"
    refine ⟨p, dx, a, ns, i + 1, (f.1.cps.toList.length : Int), 1, 8, rfl, h1, keep_l k1 nap hS, nap, hpos 1 _ rfl, by omega, by omega, fun H2 k2 h2 => ?_⟩
    walk_at "go"
    refine n_lcR1 (by omega) (by omega) (lc_run (walk_range (lo := 0) (n := ((f.1.cps.toList.length : Int)).toNat)) (fun j acc H' => acc = (f.1.cps.toList.take j).map (fun c => V.str ⟨#[c]⟩) ∧ Keep p H H' ∧ H' p = some (.ins CD dx (decFs a ((i + 2 + j : Nat) : Int)))) ?_ (fun _ _ _ _ _ _ _ => trivial) ?_ ?_)
    · intro C3 H3 n3 s3 h3
      exact ⟨by simp, (k1.trans k2).trans s3.keep, s3 _ _ h2⟩
    · rintro C3 j acc x H3 H4 n3 hj hl hC ⟨rfl, k3, h3⟩ ⟨e, ex⟩
      subst e ex
      have hj' : j < f.1.cps.toList.length := by omega
      have hcj : f.1.cps.toList[j]? = some f.1.cps.toList[j] := List.getElem?_eq_getElem hj'
      have cb := hnm.2.2 _ (List.mem_of_getElem? hcj)
      have nC3p : C3 ≠ p := (ne_of_none h2 n3).symm
      walk_at "go"
      refine ⟨rfl, ?_⟩
      walk_at "go"
      refine n_meth h3 (dec_no _ _ _ ctk ctp) ?_
      walk_at "go"
      refine g_len_s (by decide +kernel) ?_
      walk_at "go"
      refine ⟨p, dx, a, ns, i + 2 + j, ((f.1.cps.toList[j] - 97 : Nat) : Int), 0, _, rfl, h3, keep_l k3 nap hS, nap, ?_, by omega, ?_, fun H5 k5 h5 => ?_⟩
      · have := hpos (2 + j) ((f.1.cps.toList[j] - 97 : Nat) : Int) (by
          rw [Nat.add_comm]
          show (lets f.1)[j]? = _
          rw [lets, List.getElem?_map, hcj]; rfl)
        rw [← Nat.add_assoc] at this; exact this
      · show _ ≤ ((26 : Nat) : Int) - 1
        omega
      refine g_ix_s (by decide +kernel) (alph_get cb.1 cb.2) ?_
      refine n_lcK (k5 _ _ nC3p hC) (by simp; omega) (by omega) fun H6 k6 h6 => ⟨?_, ?_, ?_⟩
      · rw [List.take_add_one, hcj]; simp
      · intro b o nb hb
        by_cases nbC : b = C3
        · subst nbC
          have := (k1.trans k2) _ _ nb hb
          rw [n3] at this; cases this
        · exact k6 _ _ nbC (k5 _ _ nb (k3 _ _ nb hb))
      · rw [k6 _ _ nC3p.symm h5]; rfl
    · rintro C3 acc H3 n3 hC ⟨rfl, k3, h3⟩
      have el : ((f.1.cps.toList.length : Int)).toNat = f.1.cps.toList.length := by omega
      rw [el, List.take_length] at hC
      rw [el] at h3
      walk_at "go"
      refine ⟨"", C3, f.1.cps.toList.map fun c => (⟨#[c]⟩ : Str), rfl, rfl, .inl (SqL.of (by rw [hC]; simp [Function.comp_def])), ?_, ?_⟩
      · have : ∀ l : List Nat, ((l.map fun c => (⟨#[c]⟩ : Str)).map (·.length)).sum = l.length := by
          intro l
          induction l with
          | nil => rfl
          | cons b r ih => simp [Str.length] at ih ⊢; omega
        rw [this]
        show _ + _ * 0 ≤ _
        omega
      rw [join_signs]
      have ez : (⟨f.1.cps.toList.toArray⟩ : Str) = f.1 := by simp
      rw [ez]
      walk_at "go"
      refine g_in_seq (.inl (keep_l k3 nnp hN)) rfl (flat_strs _) ?_
      rw [inV_strs, decide_eq_false hnot]
      walk_at "go"
      refine if_F rfl ?_
      walk_at "go"
      refine n_tup (by simp [sizeLine_eq]) fun q H4 nq s4 hq => ?_
      have nqp : q ≠ p := (ne_of_none h3 nq).symm
      refine k H4 q (k3.trans s4.keep) ?_ hq ?_
      · cases e : H q with
        | none => rfl
        | some o =>
          have := k3 _ _ nqp e
          rw [nq] at this; cases this
      · rw [s4 _ _ h3]
        have : i + 2 + f.1.cps.toList.length = i + (encF f).length := by simp [encF, lets]; omega
        rw [this]

theorem prodL_append (a b : List Int) : prodL (a ++ b) = prodL a * prodL b := by
  have h : ∀ (l : List Int) (c : Int), l.foldl (· * ·) c = c * l.foldl (· * ·) 1 := by
    intro l
    induction l with
    | nil => intro c; simp
    | cons x r ih => intro c; rw [List.foldl_cons, List.foldl_cons, ih (c * x), ih (1 * x), Int.one_mul, Int.mul_assoc]
  simp only [prodL, List.foldl_append]
  rw [h b]
theorem prodL_pos {l : List Int} (h : ∀ x ∈ l, 1 ≤ x) : 1 ≤ prodL l := by
  induction l with
  | nil => decide
  | cons x r ih =>
    have h1 := h x (by simp)
    have h2 := ih fun y hy => h y (by simp [hy])
    have e : prodL (x :: r) = x * prodL r := by
      have := prodL_append [x] r
      simpa [prodL] using this
    rw [e]
    have : 1 * 1 ≤ x * prodL r := Int.mul_le_mul h1 h2 (by decide) (by omega)
    omega
theorem prod_take_le {fs : List (Str × Int)} (lo : ∀ f ∈ fs, 1 ≤ f.2 ∧ f.2 ≤ 30) (i : Nat) : prodL ((fs.take i).map (·.2)) ≤ prodL (fs.map (·.2)) := by
  have e : fs.map (·.2) = (fs.take i).map (·.2) ++ (fs.drop i).map (·.2) := by rw [← List.map_append, List.take_append_drop]
  rw [e, prodL_append]
  have h1 : 1 ≤ prodL ((fs.take i).map (·.2)) := prodL_pos fun x hx => by
    obtain ⟨f, hf, rfl⟩ := List.mem_map.mp hx
    exact (lo f (List.mem_of_mem_take hf)).1
  have h2 : 1 ≤ prodL ((fs.drop i).map (·.2)) := prodL_pos fun x hx => by
    obtain ⟨f, hf, rfl⟩ := List.mem_map.mp hx
    exact (lo f (List.mem_of_mem_drop hf)).1
  have := Int.mul_le_mul_of_nonneg_left h2 (by omega : (0 : Int) ≤ prodL ((fs.take i).map (·.2)))
  omega
def sp_decode_farm (K : PySem.W.Frag) (CF : Addr) : Sp := fun vs H Q _ => ∃ (a : Addr) (fs : List (Str × Int)), vs = [.ref a] ∧ H a = some (.lst ((bytesOf fs).map V.int)) ∧ FOk fs ∧
  ∀ H' p, Same H H' → H p = none → FarmAt K CF H' p fs → Q (.ref p) H'
theorem get_body {fs : List (Str × Int)} {i : Nat} {f : Str × Int} (hf : fs[i]? = some f) (j : Nat) (z : Int) (h : (encF f)[j]? = some z) : (bytesOf fs)[2 + ((fs.take i).flatMap encF).length + j]? = some z := by
  have e : fs.flatMap encF = (fs.take i).flatMap encF ++ (encF f ++ (fs.drop (i + 1)).flatMap encF) := by
    have h1 : fs = fs.take i ++ (f :: fs.drop (i + 1)) := by
      have h2 := (List.getElem?_eq_some_iff.mp hf)
      obtain ⟨hl, h2⟩ := h2
      rw [← h2, List.getElem_cons_drop, List.take_append_drop]
    conv => lhs; rw [h1]
    rw [List.flatMap_append, List.flatMap_cons]
  have hj : j < (encF f).length := (List.getElem?_eq_some_iff.mp h).1
  show (([72, (fs.length : Int)] ++ fs.flatMap encF) ++ [cks (bodyOf fs)])[2 + ((fs.take i).flatMap encF).length + j]? = some z
  rw [e, List.append_assoc, List.getElem?_append_right (by simp; omega), List.append_assoc, List.getElem?_append_right (by simp; omega), List.append_assoc, List.getElem?_append_left (by simp; omega)]
  rw [← h]; congr 1; simp; omega
theorem ok_decode_farm (M : Md K mg) (CC : DecC K CD) (FC : FarmC K CF) (G : Gd K mg "decode_farm" s_decode_farm) (D_checksum : DefR P w K mg base "checksum" 2 (sp_checksum K)) (K_Decoder : MakeR P w K mg base "Decoder" CD 2 (sp_dec_init CD)) (K_Farm : MakeR P w K mg base "Farm" CF 4 (sp_farm_init K CF))
    (M_Decoder_take : MethR P w K mg base CD "take" 2 (sp_take K CD)) (M_Decoder_take_field : MethR P w K mg base CD "take_field" 4 (sp_take_field K CD)) : DefR P w K mg base "decode_farm" 8 (sp_decode_farm K CF) := by
  refine def_mk G fun f fd F => fnr_mk (F.ok sc_decode_farm ?_ (fun cdv A outer s H vs Q E hr h => ?_)) (F.bindsN (fun _ _ _ _ _ _ us hl => match us, hl with | [_], _ => rfl))
  · rintro vs H Q E ⟨z, _, rfl, _⟩; rfl
  · obtain ⟨a, fs, rfl, hS, ok, k⟩ := h
    have nd := sc_decode_farm.nd
    have ctk : ((Str.ofString "take") == (Str.ofString "data")) = false := by decide +kernel
    have ctp : ((Str.ofString "take") == (Str.ofString "place")) = false := by decide +kernel
    have cfk : ((Str.ofString "take_field") == (Str.ofString "data")) = false := by decide +kernel
    have cfp : ((Str.ofString "take_field") == (Str.ofString "place")) = false := by decide +kernel
    refine ⟨_, PSs.nox (pss_cons (ps_par3 (i := 1) (j := 2) (l := 3) rfl nd rfl rfl rfl (by decide) (by decide) (by decide) rfl rfl rfl (pa_cons (pe_makeP K_Decoder (hr.mono (by first | decide | omega)) passN (pa_cons (pv 0) pa_nil)) (pa_cons (pe_lst pa_nil) (pa_cons pe_int pa_nil))) (by rfl))
    (pss_cons (ps_expr (pe_methR (pv 1) M_Decoder_take.cl M_Decoder_take.at_ M_Decoder_take.fn (hr.mono (by first | decide | omega)) passN (pa_cons (pe_gi M.g_TAG) (pa_cons (pe_gi M.g_TAG) pa_nil))))
    (pss_cons (ps_for PassesOwn.never rfl (pi_range1 rfl M.b.range (pa_cons (pe_methR (pv 1) M_Decoder_take.cl M_Decoder_take.at_ M_Decoder_take.fn (hr.mono (by first | decide | omega)) passN (pa_cons pe_int (pa_cons (pe_gcon M.k_Farm_MAX_FIELDS) pa_nil))) pa_nil)) (pg_name (i := 4) nd rfl (by first | exact Or.inl rfl | exact Or.inr rfl)) (pss_cons (ps_set (i := 5) nd rfl (by first | exact Or.inl rfl | exact Or.inr rfl) (pe_min2 M.b (pa_cons (pe_gi M.g_MAX_LIMIT) (pa_cons (pe_op op_fdiv (pe_gcon M.k_Farm_MAX_STATES) (pv 3)) pa_nil))))
    (pss_cons (ps_expr (as_bm K (pe_bm PySem.F.plainAttrs_list PySem.F.slot_list_append PySem.F.type_list_append mt_append (pv 2) (pa_cons (pe_methR (pv 1) M_Decoder_take_field.cl M_Decoder_take_field.at_ M_Decoder_take_field.fn (hr.mono (by first | decide | omega)) passN (pa_cons (pe_lc (own := [("name", 6), ("limit", 7)]) (g := (gTup K 2 (gCons (gName 6) (gCons (gName 7) gNil)))) (tt := tYes) rfl nd (pi_listK K (pv 2)) (blkOk_by (N := N_decode_farm) (sc := defScope s_decode_farm) (by decide +kernel)) (fun _ _ _ _ _ => (pg_tupK K rfl (pgs_cons (pg_name (i := 6) nd rfl (by first | exact Or.inl rfl | exact Or.inr rfl)) (pgs_cons (pg_name (i := 7) nd rfl (by first | exact Or.inl rfl | exact Or.inr rfl)) pgs_nil)))) (fun _ _ _ _ _ => pts_nil) (fun _ _ _ _ _ => (pv 6))) (pa_cons (pv 5) pa_nil))) pa_nil))))
    (pss_one (ps_aug (i := 3) nd rfl (by first | exact Or.inl rfl | exact Or.inr rfl) (pe_ix (ix_K K) (pe_ix (ix_K K) (pv 2) (pe_un un_neg pe_int) (fun _ _ => rfl)) pe_int (fun _ _ => rfl)) iop_mul)))))
    (pss_cons (ps_set (i := 8) nd rfl (by first | exact Or.inl rfl | exact Or.inr rfl) (pe_callR D_checksum (hr.mono (by first | decide | omega)) passN (pa_cons (pe_slice (sl_listK K) (pv 0) po_none (po_some (pe_fldK K (pv 1)))) pa_nil)))
    (pss_cons (ps_expr (pe_methR (pv 1) M_Decoder_take.cl M_Decoder_take.at_ M_Decoder_take.fn (hr.mono (by first | decide | omega)) passN (pa_cons (pv 8) (pa_cons (pv 8) pa_nil))))
    (pss_cons (ps_if (pt_cmpR op_lt (pe_fldK K (pv 1)) (pe_len K M.b (pv 0)) (nomark _)) (pss_one ps_never) pss_nil)
    (pss_one (ps_ret (pe_makeSK K K_Farm (hr.mono (by first | decide | omega)) passN (pv 2)))))))))), ?_⟩
    show (_ : TS) _ [some (.ref a), none, none, none, none, none, none, none, none] H
    walk_at "go"
    refine n_make fun dc dx H1 ndc ndx nex s1 hdc hdx => ?_
    refine ⟨dc, dx, a, rfl, hdc, fun H2 k2 h2 => ⟨rfl, ?_⟩⟩
    have s12 : Same H H2 := fun b o hb => k2 _ _ (ne_of_none hb ndc) (s1 _ _ hb)
    have hSn : ∀ H', Same H H' → SqL K H' a ((bytesOf fs).map V.int) := fun H' e => SqL.of (e _ _ hS)
    have nadc : a ≠ dc := ne_of_none hS ndc
    walk_at "go"
    refine n_lst (by simp) fun fo H3 nfo s3 hfo => ?_
    walk_at "go"
    refine n_meth (s3 _ _ h2) (dec_no _ _ _ ctk ctp) ?_
    walk_at "go"
    refine ⟨dc, dx, a, bytesOf fs, 0, 72, 72, 72, rfl, s3 _ _ h2, hSn _ (s12.trans s3), nadc, rfl, by omega, by omega, fun H4 k4 h4 => ?_⟩
    walk_at "go"
    refine n_meth h4 (dec_no _ _ _ ctk ctp) ?_
    walk_at "go"
    have nfodc : fo ≠ dc := (ne_of_none h2 nfo).symm
    have s14 : Same H H4 := fun b o hb => k4 _ _ (ne_of_none hb ndc) (s3 _ _ (s12 _ _ hb))
    have one := ok.one
    have six := ok.six
    refine ⟨dc, dx, a, bytesOf fs, 1, (fs.length : Int), 1, 6, rfl, h4, hSn _ s14, nadc, rfl, by omega, by omega, fun H5 k5 h5 => ?_⟩
    have s15 : Same H H5 := fun b o hb => k5 _ _ (ne_of_none hb ndc) (s14 _ _ hb)
    have nfo0 : H fo = none := s12.free nfo
    walk_at "go"
    refine n_forR1 (by omega) (by omega) (fun i σ H' => ∃ (xs : List V) (u1 u2 : Option V), σ = [some (.ref a), some (.ref dc), some (.ref fo), some (.int (prodL ((fs.take i).map (·.2)))), u1, u2, none, none, none] ∧ Same H H' ∧
      H' dc = some (.ins CD dx (decFs a ((2 + ((fs.take i).flatMap encF).length : Nat) : Int))) ∧ H' fo = some (.lst xs) ∧ DpAll K H' xs ((fs.take i).map pField))
      ⟨[], none, none, rfl, s15, by rw [h5]; rfl, k5 _ _ nfodc (k4 _ _ nfodc hfo), .nil⟩ ?_ ?_
    · rintro i σ H' hi ⟨xs, u1, u2, rfl, sH, hD, hF, hX⟩
      have hi' : i < fs.length := by omega
      have hfi : fs[i]? = some fs[i] := List.getElem?_eq_getElem hi'
      generalize fs[i] = fi at hfi
      have fm : fi ∈ fs := List.mem_of_getElem? hfi
      have hb := ok.lo fi fm
      have hp := prod_take ok.lo i
      have ep : prodL ((fs.take i).map (·.2)) * fi.2 = prodL ((fs.take (i + 1)).map (·.2)) := by
        rw [List.take_add_one, hfi]
        simp only [Option.toList_some, List.map_append, List.map_cons, List.map_nil, prodL_snoc]
      have hle : prodL ((fs.take (i + 1)).map (·.2)) ≤ 4000 := Int.le_trans (prod_take_le ok.lo (i + 1)) ok.pr
      have hst : prodL ((fs.take i).map (·.2)) ≤ 4000 := Int.le_trans (prod_take_le ok.lo i) ok.pr
      generalize hst' : prodL ((fs.take i).map (·.2)) = st at *
      have hdv : fi.2 ≤ 4000 / st := (Int.le_ediv_iff_mul_le (by omega)).mpr (by rw [Int.mul_comm]; omega)
      have xl : xs.length ≤ 6 := by rw [hX.length]; simp; omega
      walk_at "go"
      refine n_meth hD (dec_no _ _ _ cfk cfp) ?_
      walk_at "go"
      refine n_lcL (SqL.of hF) (lc_map (walk_list (xs := xs)) (fun j => .str ((fs.getD j ("", 0)).1)) (fun H6 s6 => SqL.of (s6 _ _ hF)) ?_ ?_)
      · rintro C j y H6 H7 nC hj s6 hC ⟨e, hyj⟩
        subst e
        obtain ⟨dj, hdj, hDj⟩ := (s6.dpa hX).get hyj
        obtain ⟨fj, hfj, rfl⟩ := getm hdj
        obtain ⟨t3, zs, rfl, hT3, hZ⟩ := hDj.inv_t
        obtain ⟨w1, w2, rfl, hw1, hw2⟩ := hZ.inv2
        obtain rfl := hw1.inv_s
        have hfj' : fs[j]? = some fj := by
          rw [List.getElem?_take] at hfj
          split at hfj
          · exact hfj
          · cases hfj
        refine g_gtup hT3 rfl ?_
        walk_at "go"
        refine ⟨rfl, ?_⟩
        walk_at "go"
        exact n_mapK nC s6 hC (by rw [getD_of hfj'])
      · intro C6 H6 nC s6 hC
        have e1 : (List.range xs.length).map (fun j => V.str ((fs.getD j ("", 0)).1)) = ((fs.take i).map (·.1)).map V.str := by
          have el : xs.length = (fs.take i).length := by rw [hX.length]; simp
          rw [el, List.map_map]
          refine Eq.trans ?_ (range_getD (fs.take i) ("", 0) fun f : Str × Int => V.str f.1)
          apply List.map_congr_left
          intro j hj
          have hj' : j < i ∧ j < fs.length := by simp at hj; omega
          simp [List.getD, List.getElem?_take, hj'.1]
        rw [e1] at hC
        have nC0 : H C6 = none := sH.free nC
        have nCdc : C6 ≠ dc := (ne_of_none hD nC).symm
        walk_at "go"
        refine ⟨dc, dx, a, C6, bytesOf fs, 2 + ((fs.take i).flatMap encF).length, fi, (fs.take i).map (·.1), _, rfl, s6 _ _ hD, hSn _ (sH.trans s6), nadc, SqL.of hC, nCdc, fun j z hz => get_body hfi j z hz, ok.nm fi fm, nodup_take ok.nd hfi, hb.1, ?_, fun H7 q k7 nq hq h7 => ?_⟩
        · split <;> omega
        have nqfo : q ≠ fo := (ne_of_none (s6 _ _ hF) nq).symm
        walk_at "go"
        have hF7 : H7 fo = some (.lst xs) := k7 _ _ nfodc (s6 _ _ hF)
        refine g_append hF7 (by simp [sizeLine_eq]; omega) fun H8 k8 h8 => ?_
        have nqdc : q ≠ dc := (ne_of_none (s6 _ _ hD) nq).symm
        walk_at "go"
        refine g_ix_l (v := .ref q) (SqL.of h8) (atI_last xs (.ref q)) ?_
        walk_at "go"
        refine g_ix_t (SqT.of (k8 _ _ nqfo hq)) atI_c1 ?_
        walk_at "go"
        rw [ep]
        refine ⟨xs ++ [.ref q], _, _, rfl, fun b o hb' => ?_, ?_, h8, ?_⟩
        · exact k8 _ _ (ne_of_none hb' nfo0) (k7 _ _ (ne_of_none hb' ndc) (s6 _ _ (sH _ _ hb')))
        · rw [k8 _ _ nfodc.symm h7, flat_take encF hfi, List.length_append, Nat.add_assoc]
        · rw [List.take_add_one, hfi]
          simp only [Option.toList_some, List.map_append, List.map_cons, List.map_nil]
          have hX7 : DpAll K H7 xs ((fs.take i).map pField) := dp_keepAll k7 (notT_i (s6 _ _ hD)) _ _ (noL_fields _) (s6.dpa hX)
          have hq7 : DpAll K H7 [.ref q] [pField fi] := .cons (dp_tup hq (.cons (.str _) (.cons (.int _) .nil))) .nil
          exact dp_keepAll k8 (notT_l hF7) _ _ (by have := noL_fields (fs.take i ++ [fi]); rw [List.map_append] at this; exact this) (hX7.append hq7)
    · rintro σ H' ⟨xs, u1, u2, rfl, sH, hD, hF, hX⟩
      have el : fs.take ((fs.length : Int)).toNat = fs := by rw [Int.toNat_natCast, List.take_length]
      rw [el] at hX hD
      have xl : xs.length ≤ 6 := by rw [hX.length]; simp; omega
      have ebl : 2 + (fs.flatMap encF).length = (bodyOf fs).length := by simp [bodyOf]; omega
      rw [ebl] at hD
      walk_at "go"
      refine n_fld hD CC.cl CC.place (dec_place _ _) ?_
      walk_at "go"
      refine g_slL (hSn _ sH) fun q6 H6 nq6 s6 hq6 => ?_
      have ecut : cutV ((bytesOf fs).map V.int) none (some ((bodyOf fs).length : Int)) = (bodyOf fs).map V.int := by
        rw [cutV_to, ← List.map_take, bytesOf, List.take_left]
      rw [ecut] at hq6
      walk_at "go"
      refine ⟨q6, bodyOf fs, rfl, SqL.of hq6, ?_⟩
      walk_at "go"
      refine n_meth (s6 _ _ hD) (dec_no _ _ _ ctk ctp) ?_
      walk_at "go"
      refine ⟨dc, dx, a, bytesOf fs, (bodyOf fs).length, cks (bodyOf fs), _, _, rfl, s6 _ _ hD, hSn _ (sH.trans s6), nadc, by rw [bytesOf, List.getElem?_append_right (Nat.le_refl _)]; simp, Int.le_refl _, Int.le_refl _, fun H7 k7 h7 => ?_⟩
      have s7 : Same H H7 := fun b o hb => k7 _ _ (ne_of_none hb ndc) (s6 _ _ (sH _ _ hb))
      walk_at "go"
      refine n_fld h7 CC.cl CC.place (dec_place _ _) ?_
      walk_at "go"
      refine g_len_l (hSn _ s7) ?_
      walk_at "go"
      refine if_D (fun e => absurd e (by simp [bytesOf])) (fun _ => ?_)
      walk_at "go"
      have hF7 : H7 fo = some (.lst xs) := k7 _ _ nfodc (s6 _ _ hF)
      have hX7 : DpAll K H7 xs (fs.map pField) := dp_keepAll k7 (notT_i (s6 _ _ hD)) _ _ (noL_fields _) (s6.dpa hX)
      refine n_star1 (.inr (SqL.of hF7)) ?_
      refine n_make fun fx fdx H8 nfx nfdx nefx s8 hfx hfdx => ?_
      refine ⟨.ref fx, xs, rfl, by simp [sizeLine_eq]; omega, fun t ht => ?_⟩
      have st := same_new (o := .tup xs) ht
      refine ⟨fx, fdx, t, fs, rfl, st _ _ hfx, dp_tup upd_same (st.dpa (s8.dpa hX7)), ok, fun H9 k9 h9 => ⟨rfl, ?_⟩⟩
      have sB : Same H8 (upd H8 t (.tup xs)) := st
      refine k H9 fx (fun b o hb => k9 _ _ (ne_of_none hb (s7.free nfx)) (st _ _ (s8 _ _ (s7 _ _ hb)))) (s7.free nfx) ⟨fdx, t, h9, ?_⟩
      exact dp_keep k9 (notT_i (st _ _ hfx)) _ _ (by show noLs _ = true; exact noL_fields fs) (dp_tup upd_same (st.dpa (s8.dpa hX7)))
def sp_law_farm (K : PySem.W.Frag) (CF : Addr) : Sp := fun vs H Q _ => ∃ (v : V) (fs : List (Str × Int)), vs = [v] ∧ Dp K H v (.list (fs.map pField)) ∧ FOk fs ∧ ∀ H' p, Same H H' → H p = none → FarmAt K CF H' p fs → Q (.ref p) H'
theorem ok_law_farm (M : Md K mg) (G : Gd K mg "_law_farm" s_law_farm) (D_law_bytes : DefR P w K mg base "_law_bytes" 2 (sp_law_bytes K)) (D_decode_farm : DefR P w K mg base "decode_farm" 8 (sp_decode_farm K CF)) : DefR P w K mg base "_law_farm" 10 (sp_law_farm K CF) := by
  refine def_mk G fun f fd F => fnr_mk (F.ok sc_law_farm ?_ (fun cdv A outer s H vs Q E hr h => ?_)) (F.bindsN (fun _ _ _ _ _ _ us hl => match us, hl with | [_], _ => rfl))
  · rintro vs H Q E ⟨z, _, rfl, _⟩; rfl
  · obtain ⟨v, fs, rfl, hv, ok, k⟩ := h
    have nd := sc_law_farm.nd
    refine ⟨_, PSs.nox (pss_one (ps_ret (pe_callR D_decode_farm (hr.mono (by first | decide | omega)) passN (pa_cons (pe_callR D_law_bytes (hr.mono (by first | decide | omega)) passN (pa_cons (pv 0) pa_nil)) pa_nil)))), ?_⟩
    show (_ : TS) _ [some v] H
    walk_at "go"
    refine ⟨v, fs, rfl, hv, ok, fun H1 p s1 np hp => ?_⟩
    walk_at "go"
    refine ⟨p, fs, rfl, hp, ok, fun H2 q s2 nq hq => ?_⟩
    exact k H2 q (s1.trans s2) (s1.free nq) hq

end
abbrev s_law_equal : Stmt := top 27
abbrev N_law_equal : List Str := ["_law_actual", "_law_expected", "_law_k"]
theorem sc_law_equal : FnScope N_law_equal ["_law_actual", "_law_expected"] (defScope s_law_equal) := ⟨rfl, rfl, rfl, by decide +kernel, rfl, by decide +kernel, by decide +kernel⟩
section
variable {P : Program} {w : World} {K : PySem.W.Frag}
variable {mg : Str → Option Value} {base : Heap}
theorem tyx_l {H : Hp} {a : Addr} {xs : List V} (h : SqL K H a xs) : TyX K H (.ref a) (.type "list") := by
  rcases h with (h | ⟨o, h⟩) | ⟨o, its, n, h1, h2, _⟩
  · exact .base (.lst h)
  · exact .base (.frz h)
  · exact .kList h1 h2
theorem tyx_t {H : Hp} {a : Addr} {xs : List V} (h : SqT K H a xs) : TyX K H (.ref a) (.type "tuple") := by
  rcases h with (h | ⟨o, h⟩) | ⟨o, its, n, h1, h2, _⟩
  · exact .base (.tup h)
  · exact .fTuple h
  · exact .kTuple h1 h2
theorem g_ix_q {H : Hp} {Q : VK} {p : Addr} {xs : List V} {i : Int} {v : V} (h1 : SqL K H p xs ∨ SqT K H p xs) (h2 : atI xs i = some v) (h : Q v H) : rIx K (.ref p) (.int i) H Q := by
  rcases h1 with h1 | h1
  · exact g_ix_l h1 h2 h
  · exact g_ix_t h1 h2 h
theorem g_len_q {H : Hp} {Q : VK} {p : Addr} {ys : List V} (h1 : SqL K H p ys ∨ SqT K H p ys) (h : Q (.int ys.length) H) : uLen K [.ref p] H Q := .inr ⟨p, ys, rfl, h1, h⟩
theorem same_q {H H' : Hp} {p : Addr} {xs : List V} (e : Same H H') (h1 : SqL K H p xs ∨ SqT K H p xs) : SqL K H' p xs ∨ SqT K H' p xs := h1.imp (same_l e) (same_t e)
/-! all sequences within are short -/
mutual
def bigOk : PyData → Bool
  | .list ds => decide (ds.length ≤ 100000) && bigOks ds
  | .tuple ds => decide (ds.length ≤ 100000) && bigOks ds
  | .none | .bool _ | .int _ | .str _ | .dict _ => true
def bigOks : List PyData → Bool
  | [] => true
  | d :: ds => bigOk d && bigOks ds
end
theorem bigOks_get : ∀ {ds : List PyData} {i : Nat} {d : PyData}, bigOks ds = true → ds[i]? = some d → bigOk d = true
  | [], _, _, _, gone => by simp at gone
  | e :: ds, 0, d, h, h2 => by
    have : e = d := by simpa using h2
    subst this
    simp [bigOks] at h; exact h.1
  | e :: ds, i + 1, d, h, h2 => by
    simp [bigOks] at h
    exact bigOks_get h.2 (by simpa using h2)
theorem bigOks_of {ds : List PyData} (h : ∀ d ∈ ds, bigOk d = true) : bigOks ds = true := by
  induction ds with
  | nil => rfl
  | cons d r ih => simp [bigOks, h d (by simp), ih fun e he => h e (by simp [he])]
theorem sh_get : ∀ {ds : List PyData} {n i : Nat} {d : PyData}, PyData.canLayAll0 ds = true → PyData.depthAll ds ≤ n → ds[i]? = some d → Sh n d
  | [], _, _, _, _, _, h => by simp at h
  | e :: ds, n, 0, d, h, h1, h2 => by
    have : e = d := by simpa using h2
    subst this
    simp [PyData.canLayAll0] at h
    simp only [PyData.depthAll] at h1
    exact ⟨h.1, by omega⟩
  | e :: ds, n, i + 1, d, h, h1, h2 => by
    simp [PyData.canLayAll0] at h
    simp only [PyData.depthAll] at h1
    exact sh_get h.2 (by omega) (by simpa using h2)
/-- of equal data it says True; spEq n: data of depth below n -/
def spEq (K : PySem.W.Frag) : Nat → Sp
  | 0 => fun _ _ _ _ => False
  | n + 1 => fun vs H Q _ => ∃ (x y : V) (d : PyData), vs = [x, y] ∧ Dp K H x d ∧ Dp K H y d ∧ Sh n d ∧ bigOk d = true ∧ ∀ H', Same H H' → Q (.bl true) H'


theorem dp_two {H : Hp} {x y : V} {d : PyData} {n : Nat} (hx : Dp K H x d) (hy : Dp K H y d) (sh : Sh n d) (bg : bigOk d = true) : (x = .non ∧ y = .non) ∨ (∃ b, x = .bl b ∧ y = .bl b) ∨ (∃ i, x = .int i ∧ y = .int i) ∨ (∃ z, x = .str z ∧ y = .str z) ∨
    ∃ (T : String) (a b : Addr) (xs ys : List V) (ds : List PyData), (T = "list" ∨ T = "tuple") ∧ x = .ref a ∧ y = .ref b ∧ TyX K H (.ref a) (.type T) ∧ TyX K H (.ref b) (.type T) ∧ (SqL K H a xs ∨ SqT K H a xs) ∧ (SqL K H b ys ∨ SqT K H b ys) ∧ DpAll K H xs ds ∧ DpAll K H ys ds ∧
      PyData.canLayAll0 ds = true ∧ PyData.depthAll ds + 1 ≤ n ∧ ds.length ≤ 100000 ∧ bigOks ds = true := by
  cases d with
  | none => exact .inl ⟨hx.inv_n, hy.inv_n⟩
  | bool b => exact .inr (.inl ⟨b, hx.inv_b, hy.inv_b⟩)
  | int i => exact .inr (.inr (.inl ⟨i, hx.inv_i, hy.inv_i⟩))
  | str z => exact .inr (.inr (.inr (.inl ⟨z, hx.inv_s, hy.inv_s⟩)))
  | dict kvs => cases hx
  | list ds =>
    obtain ⟨a, xs, rfl, h1, h2⟩ := hx.inv_l
    obtain ⟨b, ys, rfl, h3, h4⟩ := hy.inv_l
    have hb : ds.length ≤ 100000 ∧ bigOks ds = true := by simpa [bigOk] using bg
    have hs1 : PyData.canLayAll0 ds = true := by simpa [PyData.canLay0] using sh.1
    have hs2 : PyData.depthAll ds + 1 ≤ n := by simpa [PyData.depth] using sh.2
    exact .inr (.inr (.inr (.inr ⟨"list", a, b, xs, ys, ds, .inl rfl, rfl, rfl, tyx_l h1, tyx_l h3, .inl h1, .inl h3, h2, h4, hs1, hs2, hb.1, hb.2⟩)))
  | tuple ds =>
    obtain ⟨a, xs, rfl, h1, h2⟩ := hx.inv_t
    obtain ⟨b, ys, rfl, h3, h4⟩ := hy.inv_t
    have hb : ds.length ≤ 100000 ∧ bigOks ds = true := by simpa [bigOk] using bg
    have hs1 : PyData.canLayAll0 ds = true := by simpa [PyData.canLay0] using sh.1
    have hs2 : PyData.depthAll ds + 1 ≤ n := by simpa [PyData.depth] using sh.2
    exact .inr (.inr (.inr (.inr ⟨"tuple", a, b, xs, ys, ds, .inr rfl, rfl, rfl, tyx_t h1, tyx_t h3, .inr h1, .inr h3, h2, h4, hs1, hs2, hb.1, hb.2⟩)))
theorem kit_seq {T : String} (hT : T = "list" ∨ T = "tuple") : kitB T "bool" = some false ∧ kitB T "int" = some false ∧ kitB T "str" = some false ∧ kitB T "tuple" = some (decide (T = "tuple")) ∧ kitB T "list" = some (decide (T = "list")) := by
  rcases hT with rfl | rfl <;> decide +kernel
theorem ok_law_equal (M : Md K mg) (G : Gd K mg "_law_equal" s_law_equal) : ∀ n : Nat, DefR P w K mg base "_law_equal" (2 * n) (spEq K n)
  | 0 => def_mk G fun f fd F => fnr_mk (ps := [_, _]) ⟨fun _ _ _ _ h => h.elim, fun _ _ _ _ _ _ _ _ _ _ _ _ _ h => h.elim⟩ (F.bindsN (fun _ _ _ _ _ _ us hl => match us, hl with | [_, _], _ => rfl))
  | n + 1 => by
    have D_law_equal := ok_law_equal M G n
    refine def_mk G fun f fd F => fnr_mk (F.ok (k := 2 * n + 1) sc_law_equal ?_ (fun cdv A outer s H vs Q E hr h => ?_)) (F.bindsN (fun _ _ _ _ _ _ us hl => match us, hl with | [_, _], _ => rfl))
    · rintro vs H Q E ⟨x, y, d, rfl, _⟩; rfl
    · obtain ⟨x, y, d, rfl, hx, hy, sh, bg, k⟩ := h
      have nd := sc_law_equal.nd
      refine ⟨_, PSs.nox (pss_cons (ps_if (pt_cmpR op_isN1 (pv 1) pe_non (nomark _)) (pss_one (ps_ret (pe_cmpR op_isN1 (pv 0) pe_non (nomark _)))) pss_nil)
    (pss_cons (ps_if (pt_val (pe_isiB K M.b M.b.bool bt_bool (pv 1))) (pss_one (ps_ret (pe_and (pe_isiB K M.b M.b.bool bt_bool (pv 0)) (pe_one (pe_cmpR (op_eqK K hr) (pv 0) (pv 1) (nomark _)))))) pss_nil)
    (pss_cons (ps_if (pt_val (pe_isiB K M.b M.b.int bt_int (pv 1))) (pss_one (ps_ret (pe_and (pe_isiB K M.b M.b.int bt_int (pv 0)) (pe_and (pe_not (pe_isiB K M.b M.b.bool bt_bool (pv 0))) (pe_one (pe_cmpR (op_eqK K hr) (pv 0) (pv 1) (nomark _))))))) pss_nil)
    (pss_cons (ps_if (pt_val (pe_isiB K M.b M.b.str bt_str (pv 1))) (pss_one (ps_ret (pe_and (pe_isiB K M.b M.b.str bt_str (pv 0)) (pe_one (pe_cmpR (op_eqK K hr) (pv 0) (pv 1) (nomark _)))))) pss_nil)
    (pss_cons (ps_if (pt_cmpR (op_neK K hr) (pe_isiB K M.b M.b.tuple bt_tuple (pv 1)) (pe_isiB K M.b M.b.tuple bt_tuple (pv 0)) (nomark _)) (pss_one (ps_ret pe_bl)) pss_nil)
    (pss_cons (ps_if (pt_cmpR (op_neK K hr) (pe_isiB K M.b M.b.list bt_list (pv 1)) (pe_isiB K M.b M.b.list bt_list (pv 0)) (nomark _)) (pss_one (ps_ret pe_bl)) pss_nil)
    (pss_cons (ps_if (pt_cmpR (op_neK K hr) (pe_len K M.b (pv 0)) (pe_len K M.b (pv 1)) (nomark _)) (pss_one (ps_ret pe_bl)) pss_nil)
    (pss_one (ps_ret (pe_all K M.b (pe_lc (own := [("_law_k", 2)]) (g := (gName 2)) (tt := tYes) rfl nd (pi_range1 rfl M.b.range (pa_cons (pe_len K M.b (pv 1)) pa_nil)) (blkOk_by (N := N_law_equal) (sc := defScope s_law_equal) (by decide +kernel)) (fun _ _ _ _ _ => (pg_name (i := 2) nd rfl (by first | exact Or.inl rfl | exact Or.inr rfl))) (fun _ _ _ _ _ => pts_nil) (fun _ _ _ _ _ => (pe_callR D_law_equal (hr.mono (by first | decide | omega)) passN (pa_cons (pe_ix (ix_K K) (pv 0) (pv 2) (fun _ _ => rfl)) (pa_cons (pe_ix (ix_K K) (pv 1) (pv 2) (fun _ _ => rfl)) pa_nil))))))))))))))), ?_⟩
      show (_ : TS) _ [some x, some y, none] H
      have kS := k H (Same.refl H)
      rcases dp_two hx hy sh bg with ⟨rfl, rfl⟩ | ⟨b, rfl, rfl⟩ | ⟨b, rfl, rfl⟩ | ⟨b, rfl, rfl⟩ | ⟨T, a, b, xs, ys, ds, hT, rfl, rfl, ta, tb, qa, qb, hX, hY, c1, c2, c3, c4⟩
      · skip
        walk_at "go"
        refine if_T rfl ?_
        walk_at "go"
        exact kS
      · skip
        walk_at "go"
        refine if_F rfl ?_
        walk_at "go"
        refine g_isi (.base (.bl _)) (b := true) (by decide +kernel) ?_
        walk_at "go"
        refine if_T rfl ?_
        walk_at "go"
        refine g_isi (.base (.bl _)) (b := true) (by decide +kernel) ?_
        walk_at "go"
        refine if_T rfl ?_
        walk_at "go"
        rw [decide_eq_true rfl]
        exact kS
      · skip
        walk_at "go"
        refine if_F rfl ?_
        walk_at "go"
        refine g_isi (.base (.int _)) (b := false) (by decide +kernel) ?_
        walk_at "go"
        refine if_F rfl ?_
        walk_at "go"
        refine g_isi (.base (.int _)) (b := true) (by decide +kernel) ?_
        walk_at "go"
        refine if_T rfl ?_
        walk_at "go"
        refine g_isi (.base (.int _)) (b := true) (by decide +kernel) ?_
        walk_at "go"
        refine if_T rfl ?_
        walk_at "go"
        refine g_isi (.base (.int _)) (b := false) (by decide +kernel) ?_
        walk_at "go"
        refine if_T rfl ?_
        walk_at "go"
        rw [decide_eq_true rfl]
        exact kS
      · skip
        walk_at "go"
        refine if_F rfl ?_
        walk_at "go"
        refine g_isi (.base (.str _)) (b := false) (by decide +kernel) ?_
        walk_at "go"
        refine if_F rfl ?_
        walk_at "go"
        refine g_isi (.base (.str _)) (b := false) (by decide +kernel) ?_
        walk_at "go"
        refine if_F rfl ?_
        walk_at "go"
        refine g_isi (.base (.str _)) (b := true) (by decide +kernel) ?_
        walk_at "go"
        refine if_T rfl ?_
        walk_at "go"
        refine g_isi (.base (.str _)) (b := true) (by decide +kernel) ?_
        walk_at "go"
        refine if_T rfl ?_
        walk_at "go"
        rw [decide_eq_true rfl]
        exact kS
      · obtain ⟨kb, ki, ks, kt, kl⟩ := kit_seq hT
        have hxl : xs.length = ds.length := hX.length
        have hyl : ys.length = ds.length := hY.length
        walk_at "go"
        refine if_F rfl ?_
        walk_at "go"
        refine g_isi tb kb ?_
        walk_at "go"
        refine if_F rfl ?_
        walk_at "go"
        refine g_isi tb ki ?_
        walk_at "go"
        refine if_F rfl ?_
        walk_at "go"
        refine g_isi tb ks ?_
        walk_at "go"
        refine if_F rfl ?_
        walk_at "go"
        refine g_isi tb kt ?_
        walk_at "go"
        refine g_isi ta kt ?_
        walk_at "go"
        refine if_F (by simp) ?_
        walk_at "go"
        refine g_isi tb kl ?_
        walk_at "go"
        refine g_isi ta kl ?_
        walk_at "go"
        refine if_F (by simp) ?_
        walk_at "go"
        refine g_len_q qa ?_
        walk_at "go"
        refine g_len_q qb ?_
        walk_at "go"
        refine if_F (by rw [hxl, hyl]; simp) ?_
        walk_at "go"
        refine g_len_q qb ?_
        walk_at "go"
        refine n_lcR1 (by omega) (by omega) (lc_map (walk_range (lo := 0) (n := ((ys.length : Int)).toNat)) (fun _ => .bl true) (fun _ _ => trivial) ?_ ?_)
        · rintro C j x H5 H6 nC hj s5 hC ⟨e, ex⟩
          subst e ex
          have hj' : j < ds.length := by omega
          have hdj : ds[j]? = some ds[j] := List.getElem?_eq_getElem hj'
          obtain ⟨u, hu, hdu⟩ := hX.getD hdj
          obtain ⟨v, hv, hdv⟩ := hY.getD hdj
          walk_at "go"
          refine ⟨rfl, ?_⟩
          walk_at "go"
          refine g_ix_q (same_q s5 qa) (by rw [Int.zero_add]; exact atI_nat hu) ?_
          walk_at "go"
          refine g_ix_q (same_q s5 qb) (by rw [Int.zero_add]; exact atI_nat hv) ?_
          walk_at "go"
          cases n with
          | zero => omega
          | succ n =>
            refine ⟨u, v, ds[j], rfl, s5.dp hdu, s5.dp hdv, sh_get c1 (by omega) hdj, bigOks_get c4 hdj, fun H7 s7 => ?_⟩
            exact n_mapK nC (s5.trans s7) (s7 _ _ hC) rfl
        · intro C H5 nC s5 hC
          have e1 : (List.range ((ys.length : Int)).toNat).map (fun _ => V.bl true) = (List.replicate ys.length true).map V.bl := by rw [Int.toNat_natCast, List.map_const', List.length_range, List.map_replicate]
          rw [e1] at hC
          walk_at "go"
          refine g_all (SqL.of hC) ?_
          have e2 : (List.replicate ys.length true).all id = true := by simp
          rw [e2]
          exact k H5 s5

end
abbrev s_law : Stmt := top 28
abbrev N_law : List Str := ["_law_script", "_law_d", "_law_step", "_law_fields_here", "_law_expected", "_law_again", "_law_code"]
theorem sc_law : FnScope N_law ["_law_script"] (defScope s_law) := ⟨rfl, rfl, rfl, by decide +kernel, rfl, by decide +kernel, by decide +kernel⟩
section
variable {P : Program} {w : World} {K : PySem.W.Frag}
variable {mg : Str → Option Value} {base : Heap}
def sp_law (K : PySem.W.Frag) : Sp := fun vs H Q _ => ∃ (a : Addr) (ns : List Int), vs = [.ref a] ∧ SqL K H a (ns.map V.int) ∧ ns.length ≤ 63 ∧ ∀ H', Q (.bl true) H'
variable {CF CD : Addr}
theorem bytes_lo {fs : List (Str × Int)} (h : FOk fs) : (bytesOf fs).length ≤ 63 := by
  have := body_len h
  simp [bytesOf] at this ⊢; omega
theorem bigOk_ints {ns : List Int} (h : ns.length ≤ 100000) : bigOk (pInts ns) = true := by
  simp only [pInts, bigOk, Bool.and_eq_true, decide_eq_true_eq, List.length_map]
  exact ⟨h, bigOks_of fun d hd => by obtain ⟨i, _, rfl⟩ := List.mem_map.mp hd; rfl⟩
theorem bigOk_field (f : Str × Int) : bigOk (pField f) = true := by simp [pField, bigOk, bigOks]
theorem bigOk_fields {fs : List (Str × Int)} (h : fs.length ≤ 100000) : bigOk (.tuple (fs.map pField)) = true := by
  simp only [bigOk, Bool.and_eq_true, decide_eq_true_eq, List.length_map]
  exact ⟨h, bigOks_of fun d hd => by obtain ⟨i, _, rfl⟩ := List.mem_map.mp hd; exact bigOk_field i⟩
theorem ok_law {f : Addr} {fd : FuncData} (M : Md K mg) (FC : FarmC K CF) (F : FnD K "law" "law" s_law f fd) (D_law_random : DefR P w K mg base "_law_random" 2 (sp_law_random K)) (D_law_fields : DefR P w K mg base "_law_fields" 6 (sp_law_fields K)) (D_law_bytes : DefR P w K mg base "_law_bytes" 2 (sp_law_bytes K))
    (D_law_farm : DefR P w K mg base "_law_farm" 10 (sp_law_farm K CF)) (D_encode_farm : DefR P w K mg base "encode_farm" 6 (sp_encode_farm K CF)) (D_decode_farm : DefR P w K mg base "decode_farm" 8 (sp_decode_farm K CF)) (P_Farm_fields : PropR P w K mg base CF "fields" 2 (sp_farm_fields K CF))
    (D_law_equal : DefR P w K mg base "_law_equal" 8 (spEq K 4)) : FnOk P w K mg base CX0 14 f fd ["_law_script"] (sp_law K) := by
  refine FunD.ok F sc_law ?_ (fun cdv A outer s H vs Q E hr h => ?_)
  · rintro vs H Q E ⟨a, ns, rfl, _⟩; rfl
  · obtain ⟨a, ns, rfl, hS, hl, k⟩ := h
    have nd := sc_law.nd
    refine ⟨_, PSs.nox (pss_cons (ps_set (i := 1) nd rfl (by first | exact Or.inl rfl | exact Or.inr rfl) (pe_callR D_law_random (hr.mono (by first | decide | omega)) passN (pa_cons (pv 0) (pa_cons pe_int pa_nil))))
    (pss_cons (ps_for PassesOwn.never rfl (pi_range1 rfl M.b.range (pa_cons pe_int pa_nil)) (pg_name (i := 2) nd rfl (by first | exact Or.inl rfl | exact Or.inr rfl)) (pss_cons (ps_set (i := 3) nd rfl (by first | exact Or.inl rfl | exact Or.inr rfl) (pe_callR D_law_fields (hr.mono (by first | decide | omega)) passN (pa_cons (pv 1) (pa_cons pe_int pa_nil))))
    (pss_cons (ps_set (i := 4) nd rfl (by first | exact Or.inl rfl | exact Or.inr rfl) (pe_callR D_law_bytes (hr.mono (by first | decide | omega)) passN (pa_cons (pv 3) pa_nil)))
    (pss_one (ps_for PassesOwn.never rfl (pi_range1 rfl M.b.range (pa_cons pe_int pa_nil)) (pg_name (i := 5) nd rfl (by first | exact Or.inl rfl | exact Or.inr rfl)) (pss_cons (ps_set (i := 6) nd rfl (by first | exact Or.inl rfl | exact Or.inr rfl) (pe_callR D_encode_farm (hr.mono (by first | decide | omega)) passN (pa_cons (pe_callR D_law_farm (hr.mono (by first | decide | omega)) passN (pa_cons (pv 3) pa_nil)) pa_nil)))
    (pss_cons (ps_if (PW.pt (pw_or (pt_not (pt_val (pe_callR D_law_equal (hr.mono (by first | decide | omega)) passN (pa_cons (pe_lst (pa_cons (pv 6) (pa_cons (pe_propR P_Farm_fields (hr.mono (by first | decide | omega)) (pe_callR D_decode_farm (hr.mono (by first | decide | omega)) passN (pa_cons (pv 6) pa_nil))) pa_nil))) (pa_cons (pe_lst (pa_cons (pv 4) (pa_cons (pe_tupOf K M.b (pv 3)) pa_nil))) pa_nil))))) (pw_or1 (pt_cmpR (op_neK K hr) (pv 6) (pv 4) (nomark _))))) (pss_one (ps_ret pe_bl)) pss_nil)
    (pss_one (ps_expr (as_bm K (pe_bm PySem.F.plainAttrs_list PySem.F.slot_list_append PySem.F.type_list_append mt_append (pv 6) (pa_cons pe_int pa_nil)))))))))))) (pss_one (ps_ret pe_bl)))), ?_⟩
    show (_ : TS) _ [some (.ref a), none, none, none, none, none, none] H
    walk_at "go"
    refine ⟨a, ns, 41, rfl, hS, hl, by decide, by decide, fun H1 d s1 nd1 hd => ?_⟩
    walk_at "go"
    refine n_forR1 (by decide) (by decide) (fun i σ H' => ∃ u1 u2 u3 u4 u5 : Option V, σ = [some (.ref a), some (.ref d), u1, u2, u3, u4, u5] ∧ Dr H' d) ⟨_, _, _, _, _, rfl, hd⟩ ?_ ?_
    · rintro i σ H2 hi ⟨u1, u2, u3, u4, u5, rfl, hd2⟩
      walk_at "go"
      refine ⟨d, 6, rfl, hd2, by decide, by decide, fun H3 r xs fs k3 d3 nr hr3 hX ok _ => ?_⟩
      walk_at "go"
      refine ⟨.ref r, fs, rfl, dp_lst hr3 hX, ok, fun H4 e s4 ne he => ?_⟩
      have bl := bytes_lo ok
      have six := ok.six
      walk_at "go"
      refine n_forR1 (by decide) (by decide) (fun i' σ H' => ∃ u4 u5 : Option V, σ = [some (.ref a), some (.ref d), some (.int i), some (.ref r), some (.ref e), u4, u5] ∧ Dr H' d ∧ H' r = some (.lst xs) ∧ DpAll K H' xs (fs.map pField) ∧ H' e = some (.lst ((bytesOf fs).map V.int)))
        ⟨_, _, rfl, d3.same s4, s4 _ _ hr3, s4.dpa hX, he⟩ ?_ ?_
      · rintro j σ H5 hj ⟨u4, u5, rfl, d5, hr5, hX5, he5⟩
        walk_at "go"
        refine ⟨.ref r, fs, rfl, dp_lst hr5 hX5, ok, fun H6 fa s6 nfa hfa => ?_⟩
        walk_at "go"
        refine ⟨fa, fs, rfl, hfa, ok, fun H7 c s7 nc hc => ?_⟩
        have s57 := s6.trans s7
        walk_at "go"
        refine ⟨c, fs, rfl, hc, ok, fun H8 fb s8 nfb hfb => ?_⟩
        obtain ⟨dx, t, hfb1, hfb2⟩ := hfb
        walk_at "go"
        refine n_prop hfb1 ⟨fb, dx, t, rfl, hfb1, ?_⟩
        walk_at "go"
        refine n_lst (by simp [sizeLine_eq]) fun l1 H9 nl1 s9 hl1 => ?_
        walk_at "go"
        have hr9 : H9 r = some (.lst xs) := s9 _ _ (s8 _ _ (s57 _ _ hr5))
        refine g_tupOf_l (SqL.of hr9) fun tp H10 ntp s10 htp => ?_
        walk_at "go"
        refine n_lst (by simp [sizeLine_eq]) fun l2 H11 nl2 s11 hl2 => ?_
        walk_at "go"
        have s5A : Same H5 H9 := s57.trans (s8.trans s9)
        have s5B : Same H5 H11 := s5A.trans (s10.trans s11)
        have hcA : Dp K H11 (.ref c) (pInts (bytesOf fs)) := dp_lst (s11 _ _ (s10 _ _ (s9 _ _ (s8 _ _ hc)))) (dpa_ints _)
        have heA : Dp K H11 (.ref e) (pInts (bytesOf fs)) := dp_lst (s5B _ _ he5) (dpa_ints _)
        have htA : Dp K H11 (.ref t) (.tuple (fs.map pField)) := (s9.trans (s10.trans s11)).dp hfb2
        have htB : Dp K H11 (.ref tp) (.tuple (fs.map pField)) := dp_tup (s11 _ _ htp) (s5B.dpa hX5)
        refine ⟨.ref l1, .ref l2, .list [pInts (bytesOf fs), .tuple (fs.map pField)], rfl, dp_lst (s11 _ _ (s10 _ _ hl1)) (.cons hcA (.cons htA .nil)), dp_lst hl2 (.cons heA (.cons htB .nil)), ?_, ?_, fun H12 s12 => ?_⟩
        · refine sh_l fun x hx => ?_
          have : x = pInts (bytesOf fs) ∨ x = .tuple (fs.map pField) := by simpa using hx
          rcases this with rfl | rfl
          · exact (sh_ints _).mono (by decide)
          · exact sh_fields ok.nm
        · simp only [bigOk, bigOks, Bool.and_eq_true, decide_eq_true_eq]
          have h1 := bigOk_ints (ns := bytesOf fs) (by omega)
          have h2 := bigOk_fields (fs := fs) (by omega)
          simp only [bigOk, Bool.and_eq_true, decide_eq_true_eq] at h1 h2
          exact ⟨by simp, ⟨by simpa [pInts, bigOk] using h1, by simpa [bigOk] using h2, trivial⟩⟩
        walk_at "go"
        refine if_F rfl ?_
        walk_at "go"
        refine g_ne_d _ _ (s12.dp hcA) (s12.dp heA) ((sh_ints _).ok (by decide)) ((sh_ints _).ok (by decide)) ?_
        rw [eqv_refl (sh_ints _)]
        walk_at "go"
        refine if_F rfl ?_
        have hc12 : H12 c = some (.lst ((bytesOf fs).map V.int)) := s12 _ _ (s11 _ _ (s10 _ _ (s9 _ _ (s8 _ _ hc))))
        walk_at "go"
        refine g_append hc12 (by simp [sizeLine_eq]; omega) fun H13 k13 h13 => ?_
        have nrc : r ≠ c := ne_of_none (s6 _ _ hr5) nc
        have nec : e ≠ c := ne_of_none (s6 _ _ he5) nc
        have ndc : d ≠ c := (d5.same s6).ne nc
        have s5C : Same H5 H12 := s5B.trans s12
        exact ⟨_, _, rfl, (d5.same s5C).keep k13 ndc, k13 _ _ nrc (s5C _ _ hr5), dp_keepAll k13 (notT_l hc12) _ _ (noL_fields fs) (s5C.dpa hX5), k13 _ _ nec (s5C _ _ he5)⟩
      · rintro σ H5 ⟨u4, u5, rfl, d5, _⟩
        exact ⟨_, _, _, _, _, rfl, d5⟩
    · rintro σ H2 ⟨u1, u2, u3, u4, u5, rfl, hd2⟩
      walk_at "go"
      exact k _

end
section
end
end HC
namespace HC
open PyProof.Rows PySem L2 PySem.Spec

def endFx : List Fx := [.prop "Farm" "fields",
  .con "Farm" "MAX_FIELDS" (.int 6),
  .con "Farm" "MAX_STATES" (.int 4000)]
def endFa : List He.Fa := [.free "len",
  .free "abs",
  .free "min",
  .free "max",
  .free "all",
  .free "any",
  .free "sum",
  .free "isinstance",
  .free "list",
  .free "tuple",
  .free "int",
  .free "str",
  .free "bool",
  .free "dict",
  .free "range",
  .free "enumerate",
  .free "zip",
  .free "sorted",
  .free "set",
  .str "LETTERS" "abcdefghijklmnopqrstuvwxyz",
  .int "MAX_LETTERS" 8,
  .int "MAX_LIMIT" 30,
  .int "TAG" 72,
  .int "MODULUS" 233,
  .glo "Farm",
  .cls "Farm",
  .glo "Decoder",
  .cls "Decoder",
  .glo "is_name",
  .glo "checksum",
  .glo "encode_farm",
  .glo "decode_farm",
  .glo "_law_random",
  .glo "_law_below",
  .glo "_law_shuffled",
  .glo "_law_fields",
  .glo "_law_bytes",
  .glo "_law_farm",
  .glo "_law_equal",
  .glo "law",
  .noat "Farm" "rows",
  .noat "Decoder" "data",
  .noat "Decoder" "place",
  .meth "Farm" "__len__",
  .meth "Decoder" "take",
  .meth "Decoder" "take_field",
  .mkr "Farm",
  .mkr "Decoder"]
def endFn : List He5.DefA := [⟨fun K => He.ga K "is_name", "is_name", "is_name", defArgs s_is_name, defBody s_is_name, defScope s_is_name, [], []⟩,
  ⟨fun K => He.ga K "checksum", "checksum", "checksum", defArgs s_checksum, defBody s_checksum, defScope s_checksum, [], []⟩,
  ⟨fun K => He.ga K "encode_farm", "encode_farm", "encode_farm", defArgs s_encode_farm, defBody s_encode_farm, defScope s_encode_farm, [], []⟩,
  ⟨fun K => He.ga K "decode_farm", "decode_farm", "decode_farm", defArgs s_decode_farm, defBody s_decode_farm, defScope s_decode_farm, [], []⟩,
  ⟨fun K => He.ga K "_law_random", "_law_random", "_law_random", defArgs s_law_random, defBody s_law_random, defScope s_law_random, [], []⟩,
  ⟨fun K => He.ga K "_law_below", "_law_below", "_law_below", defArgs s_law_below, defBody s_law_below, defScope s_law_below, [], []⟩,
  ⟨fun K => He.ga K "_law_shuffled", "_law_shuffled", "_law_shuffled", defArgs s_law_shuffled, defBody s_law_shuffled, defScope s_law_shuffled, [], []⟩,
  ⟨fun K => He.ga K "_law_fields", "_law_fields", "_law_fields", defArgs s_law_fields, defBody s_law_fields, defScope s_law_fields, [], []⟩,
  ⟨fun K => He.ga K "_law_bytes", "_law_bytes", "_law_bytes", defArgs s_law_bytes, defBody s_law_bytes, defScope s_law_bytes, [], []⟩,
  ⟨fun K => He.ga K "_law_farm", "_law_farm", "_law_farm", defArgs s_law_farm, defBody s_law_farm, defScope s_law_farm, [], []⟩,
  ⟨fun K => He.ga K "_law_equal", "_law_equal", "_law_equal", defArgs s_law_equal, defBody s_law_equal, defScope s_law_equal, [], []⟩,
  ⟨fun K => He.ga K "law", "law", "law", defArgs s_law, defBody s_law, defScope s_law, [], []⟩,
  ⟨fun K => He.ma K (He.ga K "Farm") "__len__", "__len__", "Farm.__len__", defArgs s_Farm___len__, defBody s_Farm___len__, defScope s_Farm___len__, [], []⟩,
  ⟨fun K => He.ma K (He.ga K "Decoder") "take", "take", "Decoder.take", defArgs s_Decoder_take, defBody s_Decoder_take, defScope s_Decoder_take, [], []⟩,
  ⟨fun K => He.ma K (He.ga K "Decoder") "take_field", "take_field", "Decoder.take_field", defArgs s_Decoder_take_field, defBody s_Decoder_take_field, defScope s_Decoder_take_field, [], []⟩,
  ⟨fun K => He.ma K (He.ga K "Farm") "__init__", "__init__", "Farm.__init__", defArgs s_Farm___init__, defBody s_Farm___init__, defScope s_Farm___init__, [], []⟩,
  ⟨fun K => He.ma K (He.ga K "Decoder") "__init__", "__init__", "Decoder.__init__", defArgs s_Decoder___init__, defBody s_Decoder___init__, defScope s_Decoder___init__, [], []⟩,
  ⟨fun K => pgA K (He.ga K "Farm") "fields", "fields", "Farm.fields", defArgs s_Farm_fields, defBody s_Farm_fields, defScope s_Farm_fields, [], []⟩]
abbrev endR : PySem.W.OpenRow := PySem.W.OpenLaw.row PySem.Challenge.rw_harvestcarts_k41_encoded_farms
abbrev endHk : PySem.W.Hook := hookH 5 endFx endFa endFn
def endOb (s : PySem.W.SharedT) : He.AlD × Bool := obsHG 5 endFx endFa endFn (HandSHeadRun.getT s)
theorem endOb_eq (s : PySem.W.SharedT) : endOb s = endHk.obs s.abs := obsHG_eq (HandSHeadRun.getT_eq s)
def endNames0 : List Str := ["_wall", "FarmError", "InvalidFarm", "TooManyStates", "UnknownField", "DecodeError", "LETTERS", "MAX_LETTERS", "MAX_LIMIT", "is_name", "Farm", "TAG", "MODULUS", "checksum", "encode_farm", "Decoder", "decode_farm", "_law_random", "_law_below", "_law_shuffled", "_law_fields", "_law_bytes", "_law_farm", "_law_equal"]
def endNames : List Str := endNames0
theorem endRun (w : World) : HandSHeadRun.RunEq endR (PySem.W.view endR.prog [28]) endHk endOb 40000 endNames w := by
  intro os
  kernel_rfl
theorem endFacts {P : Program} {w : World} {K : PySem.W.Frag} {h : Heap} {mg : Str → Option Value} {f : Addr} (X : K.In h) (G : h.Ns mainGlobals mg) (hfa : mg ("law" : Str) = some (.ref f)) (c : SaysH endFx endFa endFn K) :
    ∃ fd : FuncData, (∀ (s : Shared) (v : Value), BindsTo s fd ⟨[v], []⟩ [("_law_script", v)]) ∧ ∀ base : Heap, K.In base → base.Ns mainGlobals mg → FnOk P w K mg base CX0 14 f fd ["_law_script"] (sp_law K) := by
  have hB : Bts mg := ⟨He.free_ok X G (c.base.fact 0 rfl), He.free_ok X G (c.base.fact 1 rfl), He.free_ok X G (c.base.fact 2 rfl), He.free_ok X G (c.base.fact 3 rfl), He.free_ok X G (c.base.fact 4 rfl), He.free_ok X G (c.base.fact 5 rfl), He.free_ok X G (c.base.fact 6 rfl), He.free_ok X G (c.base.fact 7 rfl), He.free_ok X G (c.base.fact 8 rfl), He.free_ok X G (c.base.fact 9 rfl), He.free_ok X G (c.base.fact 10 rfl), He.free_ok X G (c.base.fact 11 rfl), He.free_ok X G (c.base.fact 12 rfl), He.free_ok X G (c.base.fact 13 rfl), He.free_ok X G (c.base.fact 14 rfl), He.free_ok X G (c.base.fact 15 rfl), He.free_ok X G (c.base.fact 16 rfl), He.free_ok X G (c.base.fact 17 rfl), He.free_ok X G (c.base.fact 18 rfl)⟩
  have g_Farm : mg "Farm" = some (.ref (He.ga K "Farm")) := He.glo_ok X G (c.base.fact 24 rfl)
  have g_Decoder : mg "Decoder" = some (.ref (He.ga K "Decoder")) := He.glo_ok X G (c.base.fact 26 rfl)
  have M : Md K mg := ⟨hB, He.str_ok X G (c.base.fact 19 rfl), He.int_ok X G (c.base.fact 20 rfl), He.int_ok X G (c.base.fact 21 rfl), He.int_ok X G (c.base.fact 22 rfl), He.int_ok X G (c.base.fact 23 rfl), gconB_ok g_Farm (c.more 1 rfl), gconB_ok g_Farm (c.more 2 rfl)⟩
  have cl_Farm : Cls K (He.ga K "Farm") := He.cls_ok (c.base.fact 25 rfl)
  have cl_Decoder : Cls K (He.ga K "Decoder") := He.cls_ok (c.base.fact 27 rfl)
  have na_Farm_rows : NoAttr K (He.ga K "Farm") "rows" := He.noat_ok (c.base.fact 40 rfl)
  have na_Decoder_data : NoAttr K (He.ga K "Decoder") "data" := He.noat_ok (c.base.fact 41 rfl)
  have na_Decoder_place : NoAttr K (He.ga K "Decoder") "place" := He.noat_ok (c.base.fact 42 rfl)
  have G_is_name : Gd K mg "is_name" s_is_name := by
    obtain ⟨fd, F⟩ := c.base.def_ 0 rfl
    exact ⟨_, fd, He.glo_ok X G (c.base.fact 28 rfl), F⟩
  have G_checksum : Gd K mg "checksum" s_checksum := by
    obtain ⟨fd, F⟩ := c.base.def_ 1 rfl
    exact ⟨_, fd, He.glo_ok X G (c.base.fact 29 rfl), F⟩
  have G_encode_farm : Gd K mg "encode_farm" s_encode_farm := by
    obtain ⟨fd, F⟩ := c.base.def_ 2 rfl
    exact ⟨_, fd, He.glo_ok X G (c.base.fact 30 rfl), F⟩
  have G_decode_farm : Gd K mg "decode_farm" s_decode_farm := by
    obtain ⟨fd, F⟩ := c.base.def_ 3 rfl
    exact ⟨_, fd, He.glo_ok X G (c.base.fact 31 rfl), F⟩
  have G_law_random : Gd K mg "_law_random" s_law_random := by
    obtain ⟨fd, F⟩ := c.base.def_ 4 rfl
    exact ⟨_, fd, He.glo_ok X G (c.base.fact 32 rfl), F⟩
  have G_law_below : Gd K mg "_law_below" s_law_below := by
    obtain ⟨fd, F⟩ := c.base.def_ 5 rfl
    exact ⟨_, fd, He.glo_ok X G (c.base.fact 33 rfl), F⟩
  have G_law_shuffled : Gd K mg "_law_shuffled" s_law_shuffled := by
    obtain ⟨fd, F⟩ := c.base.def_ 6 rfl
    exact ⟨_, fd, He.glo_ok X G (c.base.fact 34 rfl), F⟩
  have G_law_fields : Gd K mg "_law_fields" s_law_fields := by
    obtain ⟨fd, F⟩ := c.base.def_ 7 rfl
    exact ⟨_, fd, He.glo_ok X G (c.base.fact 35 rfl), F⟩
  have G_law_bytes : Gd K mg "_law_bytes" s_law_bytes := by
    obtain ⟨fd, F⟩ := c.base.def_ 8 rfl
    exact ⟨_, fd, He.glo_ok X G (c.base.fact 36 rfl), F⟩
  have G_law_farm : Gd K mg "_law_farm" s_law_farm := by
    obtain ⟨fd, F⟩ := c.base.def_ 9 rfl
    exact ⟨_, fd, He.glo_ok X G (c.base.fact 37 rfl), F⟩
  have G_law_equal : Gd K mg "_law_equal" s_law_equal := by
    obtain ⟨fd, F⟩ := c.base.def_ 10 rfl
    exact ⟨_, fd, He.glo_ok X G (c.base.fact 38 rfl), F⟩
  have G_Farm___len__ : Gm K (He.ga K "Farm") "__len__" "Farm.__len__" s_Farm___len__ := by
    obtain ⟨fd, F⟩ := c.base.def_ 12 rfl
    exact ⟨cl_Farm, _, fd, He.meth_ok (c.base.fact 43 rfl), F⟩
  have G_Decoder_take : Gm K (He.ga K "Decoder") "take" "Decoder.take" s_Decoder_take := by
    obtain ⟨fd, F⟩ := c.base.def_ 13 rfl
    exact ⟨cl_Decoder, _, fd, He.meth_ok (c.base.fact 44 rfl), F⟩
  have G_Decoder_take_field : Gm K (He.ga K "Decoder") "take_field" "Decoder.take_field" s_Decoder_take_field := by
    obtain ⟨fd, F⟩ := c.base.def_ 14 rfl
    exact ⟨cl_Decoder, _, fd, He.meth_ok (c.base.fact 45 rfl), F⟩
  have G_Farm_init : Gk K mg "Farm" (He.ga K "Farm") "Farm.__init__" s_Farm___init__ := by
    obtain ⟨fd, F⟩ := c.base.def_ 15 rfl
    exact ⟨g_Farm, _, fd, He.mkr_ok (c.base.fact 46 rfl), F⟩
  have G_Decoder_init : Gk K mg "Decoder" (He.ga K "Decoder") "Decoder.__init__" s_Decoder___init__ := by
    obtain ⟨fd, F⟩ := c.base.def_ 16 rfl
    exact ⟨g_Decoder, _, fd, He.mkr_ok (c.base.fact 47 rfl), F⟩
  have G_Farm_fields : Gp K (He.ga K "Farm") "fields" "Farm.fields" s_Farm_fields := by
    obtain ⟨fd, F⟩ := c.base.def_ 17 rfl
    exact ⟨cl_Farm, _, _, fd, propB_ok (c.more 0 rfl), F⟩
  obtain ⟨fd, F⟩ := c.base.def_ 11 rfl
  have e := hfa.symm.trans (He.glo_ok X G (c.base.fact 39 rfl))
  cases e
  have b := FunD.bindsA (ps := ["_law_script"]) F fun _ _ _ _ _ _ us hl => match us, hl with | [_], _ => rfl
  refine ⟨fd, fun s v => b s [v] rfl, fun base _ _ => ?_⟩
  have FC : FarmC K (He.ga K "Farm") := ⟨cl_Farm, na_Farm_rows⟩
  have DC : DecC K (He.ga K "Decoder") := ⟨cl_Decoder, na_Decoder_data, na_Decoder_place⟩
  have D1 : DefR P w K mg base "_law_below" 2 sp_law_below := ok_law_below M G_law_below
  have D2 : DefR P w K mg base "_law_random" 2 (sp_law_random K) := ok_law_random M G_law_random
  have D3 := ok_law_shuffled M G_law_shuffled D1
  have D4 := ok_law_fields M G_law_fields D1 D3
  have D5 : DefR P w K mg base "_law_bytes" 2 (sp_law_bytes K) := ok_law_bytes M G_law_bytes
  have D6 : DefR P w K mg base "checksum" 2 (sp_checksum K) := ok_checksum M G_checksum
  have D7 : DefR P w K mg base "is_name" 2 sp_is_name := ok_is_name M G_is_name
  have K1 := ok_farm_init M FC G_Farm_init D7
  have P1 : PropR P w K mg base (He.ga K "Farm") "fields" 2 (sp_farm_fields K (He.ga K "Farm")) := ok_farm_fields FC G_Farm_fields
  have M1 : MethR P w K mg base (He.ga K "Farm") "__len__" 2 (sp_farm_len K (He.ga K "Farm")) := ok_farm_len M FC G_Farm___len__
  have D8 := ok_encode_farm M G_encode_farm D6 P1 M1
  have K2 : MakeR P w K mg base "Decoder" (He.ga K "Decoder") 2 (sp_dec_init (He.ga K "Decoder")) := ok_dec_init DC G_Decoder_init
  have M2 : MethR P w K mg base (He.ga K "Decoder") "take" 2 (sp_take K (He.ga K "Decoder")) := ok_take M DC G_Decoder_take
  have M3 := ok_take_field M DC G_Decoder_take_field M2
  have D9 := ok_decode_farm M DC FC G_decode_farm D6 K2 K1 M2 M3
  have D10 := ok_law_farm M G_law_farm D5 D9
  have D11 : DefR P w K mg base "_law_equal" 8 (spEq K 4) := ok_law_equal M G_law_equal 4
  exact ok_law M FC F D2 D4 D5 D10 D8 D9 P1 D11
end HC
open PySem PySem.W PySem.Calls PyProof.Rows in
set_option maxRecDepth 100000 in set_option maxHeartbeats 0 in
theorem PySem.Challenge.cw_harvestcarts_k41_encoded_farms_holds : PySem.Challenge.rw_harvestcarts_k41_encoded_farms.Holds := by
  w_on; o_law
  refine HandSHeadRun.head_any (r := OpenLaw.row PySem.Challenge.rw_harvestcarts_k41_encoded_farms) (q := view (OpenLaw.row PySem.Challenge.rw_harvestcarts_k41_encoded_farms).prog [28]) (H := HC.endHk) (ob := HC.endOb) (M := 40000) (loose := HC.endNames) (d := HandSHeadRun.topDef (OpenLaw.row PySem.Challenge.rw_harvestcarts_k41_encoded_farms).prog 28) (kwd := []) HC.endOb_eq
    (by kernel_rfl) (fun s => by kernel_rfl) HC.endRun (by kernel_rfl) (by kernel_rfl) (by kernel_rfl) (by rfl) (by first | assumption | decide +kernel) (by decide +kernel) ⟨rfl, rfl, rfl, rfl, rfl, by decide +kernel⟩ ?hw ?hc
  case hw => w_witness2
  case hc =>
    refine L2.walk_ofE (l := PySem.Challenge.rw_harvestcarts_k41_encoded_farms) (n := 63) (k := 14) (x := "_law_script") (CX := L2.CX0) rfl (by decide) (by kernel_rfl) ⟨rfl, by decide, by decide⟩ ?F (fun _ _ _ _ z => z)
    intro w mg fa h Y G hmg0
    obtain ⟨K, KX, c⟩ := Y
    have hmg : mg (PySem.Str.ofString "law") = some (.ref fa) := by
      have e : (HandSHeadRun.topDef (OpenLaw.row PySem.Challenge.rw_harvestcarts_k41_encoded_farms).prog 28).name = ("law" : PySem.Str) := by kernel_rfl
      rw [← e]
      exact hmg0
    obtain ⟨fd, hb, hF⟩ := HC.endFacts (P := (PySem.Challenge.rw_harvestcarts_k41_encoded_farms).prog) (w := w) KX G hmg c
    exact ⟨K, fd, HC.sp_law K, KX, hb, fun H a ns hl _ hS => ⟨a, ns, rfl, hS, hl, fun _ => rfl⟩, hF⟩
namespace HC
section

end
end HC
