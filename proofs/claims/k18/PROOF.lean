import PyProof.Rows.All
import Wide.All
import OpenK.AllK
import Wide.FinOn
import KE.KStateDown
import HandS.ForMost
import HandS.ForExc
import HandS.Flow
import HandS.Style
import HandS.Defaults
import HandS.IsInst
import HandS.Property
import HandS.Star
import HandS.TupAny
import HandS.Walk
import HandS.Zip
import HandS.Conv
import HandS.Wide
import HandS.SortInts
import HandS.Head0
import HandS.Head1
import HandS.Head2
import HandS.HeadEnd
import HandS.HeadHook1
import HandS.HeadHook2
import KE.GoesMore
import KE.GoesEnum
import HandS.OwnEq
import HandS.More
import OpenK.KMeth
import KE.KOpsOwn
import PyProof.InstNe
import PyProof.P3In
import PyProof.EqLayable
import KE.KDictPairs
import KE.KDictOf
import KE.KDictSum
import HandS.Exc
import HandS.Lambda
import KE.KDflt
import HandS.HeadHook4
import HandS.EndTab
import HandS.TryOnly
import HandS.Small
import HandS.Iter
import HandS.SetFor
import HandS.ExcOwn
import HandS.ExcField
import HandS.ExcIs
import HandS.ExcInit
import HandS.ExcSuper
import HandS.NestedK
import HandS.FStr
import KE.KExcSuper
import HandS.Strs
import HandS.DictComp
import HandS.WordsDict
import KE.DataMinMax
import KE.SortData
import KE.DataCmp
import HandS.TupMul
import KE.KDictZip
import HandS.ListItems
import PyProof.Conv_bool
import PyProof.Rows.Range3
import HandS.DeepEq
import PySem.Challenge.RW_slackrods_k18_closed_loops
set_option Elab.async false
set_option linter.all false
set_option maxRecDepth 100000
set_option maxHeartbeats 4000000
namespace Sr
open PySem PySem.Spec PyProof.Rows L2
/-! ### what the head says -/
/-- a property's getter: its class, its name, its text -/
structure PropD where
  c : Str
  f : Str
  qual : Str
  params : Arguments
  body : List Stmt
  scope : Scope
def prP (K : PySem.W.Frag) (d : PropD) : Addr := He.ma K (He.ga K d.c) d.f
def prG (K : PySem.W.Frag) (d : PropD) : Addr := match PySem.W.recIn K (prP K d) "property" with
  | some (.ref g :: _) => g
  | _ => 0
def PropD.obs (K : PySem.W.Frag) (d : PropD) : He.FnW := match K.lookup (prG K d) with
  | some ⟨_, _, .func fd, _⟩ => some (fd.name, fd.qualname, fd.params, fd.body, fd.scope, fd.globals, fd.closure, fd.builtins)
  | _ => none
def PropD.val (d : PropD) : He.FnW := some (d.f, d.qual, d.params, .stmts d.body, d.scope, mainGlobals, [], builtinsNs)
def PropD.ok (K : PySem.W.Frag) (d : PropD) : Bool := He.eqO (PySem.W.findIn K (.ref (He.ga K d.c)) d.f) (some (some (.ref (prP K d)))) && (decide (PySem.W.specialIn K (.ref (prP K d)) "__get__" = some (some (.builtin "property.__get__"))) &&
  (decide (PySem.W.takesIn K (.ref (prP K d)) = some true) && ((match PySem.W.recIn K (prP K d) "property" with
    | some (.ref _ :: _) => true
    | _ => false) && (PySem.W.keepIn K (.ref (prG K d)) && (match K.lookup (prG K d) with
    | some ⟨_, _, .func fd, _⟩ => PySem.W.codeIn K fd.code d.qual && He.dflB K fd.defaults []
    | _ => false)))))
theorem PropD.funD {K : PySem.W.Frag} {d : PropD} (e : d.obs K = d.val) (c : d.ok K = true) : PropOf K (He.ga K d.c) d.f (prP K d) (prG K d) ∧ ∃ fd, FunD K d.f d.qual d.params d.body d.scope [] [] (prG K d) fd := by
  obtain ⟨c1, c⟩ := He.ba c
  obtain ⟨c2, c⟩ := He.ba c
  obtain ⟨c3, c⟩ := He.ba c
  obtain ⟨c4, c⟩ := He.ba c
  obtain ⟨c5, c6⟩ := He.ba c
  refine ⟨⟨He.eqO_ok c1, of_decide_eq_true c2, of_decide_eq_true c3, ?_⟩, ?_⟩
  · unfold prG
    cases q : PySem.W.recIn K (prP K d) "property" with
    | none => rw [q] at c4; cases c4
    | some l =>
      rw [q] at c4
      cases l with
      | nil => cases c4
      | cons v r =>
        cases v with
        | ref g => exact ⟨r, rfl⟩
        | _ => cases c4
  · unfold PropD.obs at e
    cases q : K.lookup (prG K d) with
    | none => rw [q] at c6; cases c6
    | some o =>
      obtain ⟨oc, od, dt, osl⟩ := o
      rw [q] at c6 e
      cases dt with
      | func fd =>
        obtain ⟨n1, n2, n3, n4, n5, n6, n7, n8, n9, n10, n11, n12, n13, n14, n15⟩ := fd
        have e2 : (some (n1, n2, n3, n4, n5, n6, n7, n15) : He.FnW) = some (d.f, d.qual, d.params, .stmts d.body, d.scope, mainGlobals, [], builtinsNs) := e
        simp only [Option.some.injEq, Prod.mk.injEq] at e2
        obtain ⟨h1, h2, h3, h4, h5, h6, h7, h8⟩ := e2
        subst h1 h2 h3 h4 h5 h6 h7 h8
        obtain ⟨k1, k2⟩ := He.ba (show (PySem.W.codeIn K n13 d.qual && He.dflB K n8 []) = true from c6)
        exact ⟨_, ⟨oc, od, n8, n9, n10, n11, n12, n13, n14, osl, rfl, q, k1, He.dflB_ok k2, .inl rfl⟩, c5⟩
      | _ => cases c6
structure Say (fa : List He.Fa) (fn : List He.DefD) (gt : List PropD) (ex : PySem.W.Frag → Bool) (K : PySem.W.Frag) (mg : Str → Option Value) : Prop where
  g : ∃ h : Heap, K.In h ∧ h.Ns mainGlobals mg
  c : He.SaysD fa fn K
  p : gt.map (PropD.obs K) = gt.map PropD.val
  m : ((gt.all fun d => d.ok K) && ex K) = true
section
variable {fa : List He.Fa} {fn : List He.DefD} {gt : List PropD} {ex : PySem.W.Frag → Bool} {K : PySem.W.Frag} {mg : Str → Option Value}
theorem Say.prop (S : Say fa fn gt ex K mg) (i : Nat) {d : PropD} (h : gt[i]? = some d := by rfl) : PropOf K (He.ga K d.c) d.f (prP K d) (prG K d) ∧ ∃ fd, FunD K d.f d.qual d.params d.body d.scope [] [] (prG K d) fd := by
  have c1 := (He.ba S.m).1
  have e2 : (gt.map (PropD.obs K))[i]? = (gt.map PropD.val)[i]? := by rw [S.p]
  rw [List.getElem?_map, List.getElem?_map, h] at e2
  exact PropD.funD (Option.some.inj e2) (List.all_eq_true.mp c1 d (List.mem_of_getElem? h))
theorem Say.more (S : Say fa fn gt ex K mg) : ex K = true := (He.ba S.m).2
theorem Say.free (S : Say fa fn gt ex K mg) (i : Nat) {x : Str} (h : fa[i]? = some (.free x) := by rfl) : mg x = none := by
  obtain ⟨h0, X, G⟩ := S.g
  exact He.free_ok X G (S.c.fact i h)
theorem Say.glo (S : Say fa fn gt ex K mg) (i : Nat) {x : Str} (h : fa[i]? = some (.glo x) := by rfl) : mg x = some (.ref (He.ga K x)) := by
  obtain ⟨h0, X, G⟩ := S.g
  exact He.glo_ok X G (S.c.fact i h)
theorem Say.int (S : Say fa fn gt ex K mg) (i : Nat) {x : Str} {n : Int} (h : fa[i]? = some (.int x n) := by rfl) : ∃ t, mg x = some (.int n t) := by
  obtain ⟨h0, X, G⟩ := S.g
  exact He.int_ok X G (S.c.fact i h)
theorem Say.str (S : Say fa fn gt ex K mg) (i : Nat) {x : Str} {z : Str} (h : fa[i]? = some (.str x z) := by rfl) : ∃ t, mg x = some (.str z t) := by
  obtain ⟨h0, X, G⟩ := S.g
  exact He.str_ok X G (S.c.fact i h)
end
/-- the Hook: facts, defs, getters, one more Bool -/
abbrev AlM : Type := He.AlD × List He.FnW × Bool
/-! ### a def by its name -/
structure Fn (P : Program) (w : World) (K : PySem.W.Frag) (mg : Str → Option Value) (base : Heap) (CX : CXT) (k : Nat) (x : Str) (ps : List Str) (sp : Sp) : Prop where
  ex : ∃ (f : Addr) (fd : FuncData), mg x = some (.ref f) ∧ PySem.W.keepIn K (.ref f) = true ∧ Binds K fd ps [] ∧ FnOk P w K mg base CX k f fd ps sp ∧ ∃ oc od osl, K.lookup f = some ⟨oc, od, .func fd, osl⟩
section
variable {P : Program} {w : World} {K : PySem.W.Frag} {mg : Str → Option Value} {base : Heap} {CX : CXT} {k : Nat} {x : Str} {ps : List Str} {sp : Sp}
theorem Fn.mono (F : Fn P w K mg base CX k x ps sp) {j : Nat} (h : k ≤ j) : Fn P w K mg base CX j x ps sp := by
  obtain ⟨f, fd, a, b, c, d, e⟩ := F.ex
  exact ⟨f, fd, a, b, c, d.mono h, e⟩
theorem Fn.imp (F : Fn P w K mg base CX k x ps sp) {sp' : Sp} (h : ∀ vs H Q E, sp' vs H Q E → sp vs H Q E) : Fn P w K mg base CX k x ps sp' := by
  obtain ⟨f, fd, a, b, c, d, e⟩ := F.ex
  exact ⟨f, fd, a, b, c, d.imp h, e⟩
end
section
variable {fa : List He.Fa} {fn : List He.DefD} {gt : List PropD} {ex : PySem.W.Frag → Bool} {K : PySem.W.Frag} {mg : Str → Option Value} {P : Program} {w : World} {base : Heap}
theorem _root_.L2.FunD.at_ {x qual : Str} {params : Arguments} {body : List Stmt} {scope : Scope} {dvs : List V} {kws : List (Str × V)} {f : Addr} {fd : FuncData} (F : FunD K x qual params body scope dvs kws f fd) : ∃ oc od osl, K.lookup f = some ⟨oc, od, .func fd, osl⟩ := by
  obtain ⟨oc, od, dV, kV, doc, pm, an, cdv, ct, osl, rfl, lk, _⟩ := F.ex
  exact ⟨oc, od, osl, lk⟩
/-- a def that lets no exception out -/
theorem fn_mk {N ps : List Str} {sp : Sp} {k : Nat} {x : Str} (st : Stmt) (S : Say fa fn gt ex K mg) (i j : Nat) (hd : fn[i]? = some ⟨(x, none), x, x, defArgs st, defBody st, defScope st, [], []⟩) (hg : fa[j]? = some (.glo x)) (SC : FnScope N ps (defScope st))
    (hb : ∀ (kV doc pm : Value) (an : Option Addr) (cdv ct : Value) (us : List Value), us.length = ps.length → bindArgs (PySem.W.fnOf x x (defArgs st) (defBody st) (defScope st) .none kV doc pm an cdv ct) ⟨us, []⟩ = pure (ps.zip us))
    (len : ∀ vs H Q E, sp vs H Q E → vs.length = ps.length)
    (hbody : ∀ (f : Addr) (cdv : Value) (A : Around) (outer : List Env) (s : Shared) (H : Hp) (vs : List V) (Q : VK) (E : XK), Room k (A.deeper (envOfC x (defScope st) s.heap.objs.size f cdv)) → sp vs H Q E →
      ∃ t, PSs (cxOf CX0 P w K mg base N x (defScope st) f cdv A outer s H E).nox (defBody st) t ∧ t { nx := fun _ H' => Q .non H', rt := Q } (start N vs) H) : Fn P w K mg base CX0 (k + 1) x ps sp := by
  obtain ⟨fd, F⟩ := S.c.def_ i hd
  refine ⟨_, fd, S.glo j hg, F.kp, F.bindsN hb, ?_, F.at_⟩
  refine F.ok SC len fun cdv A outer s H vs Q E hr h => ?_
  obtain ⟨t, h1, h2⟩ := hbody _ cdv A outer s H vs Q E hr h
  exact ⟨t, h1.nox, h2⟩
end
section
variable {X : Cx} {CX : CXT} {k : Nat} {ps : List Str} {sp : Sp} {E : XK} {x : Str} {p pos : Pos} {e : Expr} {es : List Expr} {t : TA}
theorem pe_fn (F : Fn X.prog X.w X.K X.mg X.base CX k x ps sp) (hr : Room k X.A) (hx : Passes CX X E) (ha : PA X (e :: es) t) (hg : Gl X x := by rfl) (hdb : (x == ("__debug__" : Str)) = false := by decide)
    (he : starEach (e :: es) X.env = (false, eval e X.env) :: starEach es X.env := by rfl) (hpl : (backTo pos (starEach es X.env)).any (·.1) = false := by rfl) :
    PE X (.Call (.Name x p) (e :: es) [] pos) (tCall sp [] E t) := by
  obtain ⟨f, fd, a, b, c, d, _⟩ := F.ex
  exact pe_call d hr hg a b c .nil hx ha hdb he hpl
theorem pe_gint {i : Int} (h : ∃ t, X.mg x = some (.int i t)) (hg : Gl X x := by rfl) (hd : (x == ("__debug__" : Str)) = false := by decide) : PE X (.Name x pos) (tC (.int i)) := by
  obtain ⟨t, h⟩ := h
  exact pe_glob hg h ⟨t, rfl⟩ hd
end
/-! ### rules over the tracked heap -/
def seqH (H : Hp) (p : Addr) (xs : List V) : Prop := H p = some (.lst xs) ∨ H p = some (.tup xs)
theorem seqH.or {K : PySem.W.Frag} {H : Hp} {p : Addr} {xs : List V} (h : seqH H p xs) : SqL K H p xs ∨ SqT K H p xs := h.elim (fun h => .inl (.of h)) fun h => .inr (.of h)
def rIxU : R2 := fun x y H Q => ∃ p xs i v, x = .ref p ∧ y = .int i ∧ seqH H p xs ∧ atI xs i = some v ∧ Q v H
def rLenU : List V → Hp → VK → Prop := fun vs H Q => ∃ p ys, vs = [.ref p] ∧ seqH H p ys ∧ Q (.int ys.length) H
def rListU : List V → Hp → VK → Prop := fun vs H Q => ∃ p ys, vs = [.ref p] ∧ seqH H p ys ∧ ∀ l, H l = none → Q (.ref l) (upd H l (.lst ys))
def rTupU : List V → Hp → VK → Prop := fun vs H Q => ∃ p ys, vs = [.ref p] ∧ H p = some (.lst ys) ∧ ∀ l, H l = none → Q (.ref l) (upd H l (.tup ys))
def rSlLU : V → Option Int → Option Int → Hp → VK → Prop := fun x lo hi H Q => ∃ a xs, x = .ref a ∧ H a = some (.lst xs) ∧ ∀ p, H p = none → Q (.ref p) (upd H p (.lst (cutV xs lo hi)))
def rMaxU : List V → Hp → VK → Prop := fun vs H Q => ∃ (a : Addr) (ns : List Int), vs = [V.ref a] ∧ seqH H a (ns.map V.int) ∧ 0 < ns.length ∧ ∀ m, m ∈ ns → (∀ y, y ∈ ns → y ≤ m) → Q (.int m) H
def rMinU : List V → Hp → VK → Prop := fun vs H Q => ∃ (a : Addr) (ns : List Int), vs = [V.ref a] ∧ seqH H a (ns.map V.int) ∧ 0 < ns.length ∧ ∀ m, m ∈ ns → (∀ y, y ∈ ns → m ≤ y) → Q (.int m) H
theorem same_upd {H : Hp} {p : Addr} {o : HO} (h : H p = none) : Same H (upd H p o) := fun b u e => by rw [upd_ne (ne_of_none e h)]; exact e
theorem cutV_whole {xs : List V} {lo hi : Option Int} (h1 : HT.sIx xs.length 0 lo = 0) (h2 : HT.sIx xs.length xs.length hi = xs.length) : cutV xs lo hi = xs := by
  unfold cutV; rw [h1, h2]; simp
section
variable {X : Cx}
theorem ix_u : IxR X rIxU := by
  intro value slice pins s σ H x y v u Q I rx ry h hs
  obtain ⟨p, xs, i, z, rfl, rfl, hq | hq, he, q⟩ := h
  · exact ix_list value slice pins s σ H _ _ v u Q I rx ry ⟨p, xs, i, z, rfl, rfl, .of hq, he, q⟩ hs
  · exact ix_tup value slice pins s σ H _ _ v u Q I rx ry ⟨p, xs, i, z, rfl, rfl, .of hq, he, q⟩ hs
theorem call_len_u : CallR X (.builtin "len") rLenU := by
  intro pins s σ H xs us Q I r h
  obtain ⟨p, ys, rfl, hq, q⟩ := h
  exact call_len_seq pins s σ H _ us Q I r ⟨p, ys, rfl, hq.or, q⟩
theorem call_list_u : CallR X (.type "list") rListU := by
  intro pins s σ H xs us Q I r h
  obtain ⟨p, ys, rfl, hq, q⟩ := h
  exact call_list_of pins s σ H _ us Q I r ⟨p, ys, rfl, hq.or, q⟩
theorem call_tup_u : CallR X (.type "tuple") rTupU := by
  intro pins s σ H xs us Q I r h
  obtain ⟨p, ys, rfl, hq, q⟩ := h
  exact call_tuple_of pins s σ H _ us Q I r ⟨p, ys, rfl, .inl ⟨.of hq, q⟩⟩
theorem sl_lu : SlR X rSlLU := by
  intro pins s σ H x v vl vu lo hi sl Q I rx hs pl pu h
  obtain ⟨a, xs, rfl, hx, q⟩ := h
  exact sl_list pins s σ H _ v vl vu lo hi sl Q I rx hs pl pu ⟨a, xs, rfl, .of hx, q⟩
end
/-! ### methods of a tracked list -/
def tBML0 (r : V → List V → Hp → VK → Prop) (to : TE) : TE := fun σ H Q => to σ H fun x H1 => (∃ p xs, x = .ref p ∧ H1 p = some (.lst xs)) ∧ r x [] H1 Q
def tBML (r : V → List V → Hp → VK → Prop) (to : TE) (t : TA) : TE := fun σ H Q => to σ H fun x H1 => (∃ p xs, x = .ref p ∧ H1 p = some (.lst xs)) ∧ t σ H1 fun xs H2 => r x xs H2 Q
section
variable {X : Cx} {o e : Expr} {es : List Expr} {to : TE} {t : TA} {name : Str} {apos cpos : Pos} {id : String} {r : V → List V → Hp → VK → Prop}
theorem tyV_lst {K : PySem.W.Frag} {x : V} {H : Hp} (h : ∃ p xs, x = .ref p ∧ H p = some (.lst xs)) : tyV K "list" x H := by
  obtain ⟨p, xs, rfl, h⟩ := h
  exact .inl ⟨rfl, xs, .of h⟩
theorem pe_bmL0 (slot : Slot "list" name id) (hty : typeOf (.builtin id) = pure (.type "method_descriptor")) (hm : MtR X id r) (ho : PE X o to)
    (hbase : attributeBase o name X.env (eval o X.env) = eval o X.env := by rfl) (hline : (apos.endLine == cpos.line) = true := by rfl) : PE X (.Call (.Attribute o name apos) [] [] cpos) (tBML0 r to) := by
  refine ⟨fun pins s σ H Q I h => ?_⟩
  refine wpAny_Call_method0_late hbase hline (thn (ho.run pins s σ H _ I h) fun v s1 ⟨x, H1, I1, r1, ty, q1⟩ => ?_)
  obtain ⟨h1, h2⟩ := tyV_is I1 r1 (tyV_lst ty)
  exact ⟨"list", id, PySem.F.plainAttrs_list, slot, hty, h1, h2, Calls.callWith_builtin rfl (PySem.evalArgs_none (hm pins s1 σ H1 x [] v [] Q I1 r1 .nil q1))⟩
theorem pe_bmL (slot : Slot "list" name id) (hty : typeOf (.builtin id) = pure (.type "method_descriptor")) (hm : MtR X id r) (ho : PE X o to) (ha : PA X (e :: es) t)
    (hbase : attributeBase o name X.env (eval o X.env) = eval o X.env := by rfl)
    (hfew : ((backTo cpos (starEach (e :: es) X.env)).all (fun x => !x.1) && (backToKw cpos (keywordEach [] X.env)).all (fun x => x.1.isSome)
      && decide ((e :: es).length + ([] : List Keyword).length + (if ([] : List Keyword).isEmpty then 0 else 1) < 30)) = true := by rfl)
    (hline : (apos.endLine == cpos.line) = true := by rfl) (hs : starEach (e :: es) X.env = (false, eval e X.env) :: starEach es X.env := by rfl) (hplain : (backTo cpos (starEach es X.env)).any (·.1) = false := by rfl) :
    PE X (.Call (.Attribute o name apos) (e :: es) [] cpos) (tBML r to t) := by
  refine ⟨fun pins s σ H Q I h => ?_⟩
  refine wpAny_Call_method_late hbase hfew hline rfl (thn (ho.run pins s σ H _ I h) fun v s1 ⟨x, H1, I1, r1, ty, q1⟩ => ?_)
  obtain ⟨h1, h2⟩ := tyV_is I1 r1 (tyV_lst ty)
  refine ⟨"list", id, PySem.F.plainAttrs_list, slot, hty, h1, h2, ?_⟩
  have hA := ha.run cpos pins s1 σ H1 _ I1 q1
  rw [hs] at hA ⊢
  refine Calls.callWith_builtin (by show (false || (backTo cpos (starEach es X.env)).any (·.1)) = false; rw [hplain] <;> rfl) (Calls.evalArgs_plain ?_)
  exact thn hA fun us s2 ⟨vs, H2, I2, r2, q2⟩ => hm pins s2 σ H2 x vs v us Q I2 r1 r2 q2
end
theorem cx_K {CX : CXT} {P : Program} {w : World} {K : PySem.W.Frag} {mg : Str → Option Value} {base : Heap} {N : List Str} {qual : Str} {scope : Scope} {f : Addr} {cd : Value} {A : Around} {outer : List Env} {s : Shared} {H : Hp} {E : XK} :
    (cxOf CX P w K mg base N qual scope f cd A outer s H E).K = K := rfl
/-- a statement, then the others, with what holds between them told -/
def tCut (t u : TS) : TS := fun D σ H => ∃ Mid : L2.St → Hp → Prop, t { D with nx := Mid } σ H ∧ ∀ σ' H', Mid σ' H' → u D σ' H'
theorem pss_cut {X : Cx} {st : Stmt} {rest : List Stmt} {t u : TS} (h1 : PS X st t) (h2 : PSs X rest u) : PSs X (st :: rest) (tCut t u) := by
  refine ⟨fun pins s σ H D I h => ?_⟩
  obtain ⟨Mid, h, hu⟩ := h
  refine wpAny_execs_cons (thn (h1.run pins s σ H { D with nx := Mid } I h) fun f s1 q => ?_)
  cases f with
  | next =>
    obtain ⟨σ', H', I', q⟩ := q
    exact h2.run pins s1 σ' H' D I' (hu σ' H' q)
  | ret v => exact q
  | brk => exact q
  | cont => exact q
/-! ### statements, where they are run -/
section
variable {t u : TS} {te : TE} {g : TG} {D : L2.Ends} {σ : L2.St} {H : Hp} {c : TT} {ta : TA}
theorem tSeq_ap : tSeq t u D σ H = t { D with nx := u D } σ H := rfl
theorem tAsg_ap : tAsg te g D σ H = te σ H fun x H1 => g x σ H1 D.nx := rfl
theorem tRet_ap : tRet te D σ H = te σ H D.rt := rfl
theorem tNext_ap : tNext D σ H = D.nx σ H := rfl
theorem tIfS_ap : tIfS c t u D σ H = c σ H fun b H1 => if b = true then t D σ H1 else u D σ H1 := rfl
end
theorem atI_map {α β : Type} (f : α → β) (xs : List α) (i : Int) : atI (xs.map f) i = (atI xs i).map f := by
  unfold atI
  rw [List.length_map]
  cases ixN xs.length i with
  | none => rfl
  | some j => simp
theorem atI_neg {α : Type} (xs : List α) (k : Nat) : atI xs (-((k : Int) + 1)) = xs.reverse[k]? := by
  unfold atI ixN
  rw [if_neg (by omega)]
  by_cases h : k < xs.length
  · rw [if_pos (by omega)]
    have e : (-((k : Int) + 1) + (xs.length : Int)).toNat = xs.length - 1 - k := by omega
    rw [e, List.getElem?_reverse h]
    rfl
  · rw [if_neg (by omega)]
    have : xs.reverse[k]? = none := List.getElem?_eq_none_iff.mpr (by rw [List.length_reverse]; omega)
    rw [this]; rfl
theorem atI_m1 {α : Type} (xs : List α) : atI xs (-1) = xs.reverse[0]? := atI_neg xs 0
theorem atI_m2 {α : Type} (xs : List α) : atI xs (-2) = xs.reverse[1]? := atI_neg xs 1
theorem atI_zero {α : Type} (x : α) (xs : List α) : atI (x :: xs) 0 = some x := atI_nat (xs := x :: xs) (j := 0) rfl
theorem atI_one {α : Type} (x y : α) (xs : List α) : atI (x :: y :: xs) 1 = some y := atI_nat (xs := x :: y :: xs) (j := 1) rfl
end Sr

namespace Sr
open PySem PySem.Spec PyProof.Rows L2
/-! ### a conditional expression as a test -/
def tIfT (t u v : TT) : TT := fun σ H Q => t σ H fun c H1 => if c = true then u σ H1 Q else v σ H1 Q
theorem pt_ifExp {X : Cx} {c a b : Expr} {tc ta tb : TT} {pos : Pos} (hc : PT X c tc) (ha : PT X a ta) (hb : PT X b tb) : PT X (.IfExp c a b pos) (tIfT tc ta tb) := by
  refine ⟨fun pins s σ H Q I h => ?_⟩
  refine isTrue_IfExp (thn (hc.run pins s σ H _ I h) fun d s1 ⟨H1, I1, q1⟩ => ?_)
  cases d with
  | true => exact ha.run pins s1 σ H1 Q I1 q1
  | false => exact hb.run pins s1 σ H1 Q I1 q1
/-! ### max, min of a tuple of ints -/
section
variable {prog : Program} {w : World} {A : Around} {E : Value → Shared → Prop} {s : Shared} {l : Addr}
theorem iter_tup {Q : Value → Shared → Prop} {its : Array Value} (hl : s.heap.IsTuple l its)
    (h : ∀ s₂ : Shared, s₂ = { s with heap := s.heap.push { cls := .type "tuple_iterator", data := .fields #[.ref l, .int 0 0] } } →
      (s₂.heap.IsTupleIter s.heap.objs.size l 0 ∧ s₂.heap.IsTuple l its) → (∀ b ∈ [s.heap.objs.size, l], b < s₂.heap.objs.size) → l ≠ s.heap.objs.size → Q (.ref s.heap.objs.size) s₂) :
    wpAny (model prog w) A (pyIter (.ref l)) Q E s := by
  have hlt : l < s.heap.objs.size := by obtain ⟨_, e, _⟩ := hl; exact Heap.lt_size e
  refine wpAny_pyIter_tuple hl (h _ rfl ⟨⟨_, Heap.get?_push_size _ rfl, rfl, rfl⟩, hl.at fun o e => Heap.get?_push_of_some _ e⟩ (fun b hb => ?_) (Nat.ne_of_lt hlt))
  show b < (s.heap.push _).objs.size
  rw [Heap.size_push]
  rcases List.mem_cons.mp hb with rfl | hb
  · exact Nat.lt_succ_self _
  · rcases List.mem_cons.mp hb with rfl | hb
    · exact Nat.lt_succ_of_lt hlt
    · cases hb
theorem old_kept {h' : Heap} (hk : ∀ b o, b ∉ [s.heap.objs.size] → (s.heap.push { cls := .type "tuple_iterator", data := .fields #[.ref l, .int 0 0] }).get? b = some o → h'.get? b = some o) :
    ∀ b o, s.heap.get? b = some o → h'.get? b = some o := fun b o e => by
  refine hk b o (fun hm => ?_) (Heap.get?_push_of_some _ e)
  rcases List.mem_cons.mp hm with e1 | hm
  · exact absurd (e1 ▸ Heap.lt_size e) (Nat.lt_irrefl _)
  · cases hm
theorem max_rawT {its : List Value} {ns : List Int} {Q : Value → Shared → Prop} (hh : A.handled = none) (hl : s.heap.IsTuple l its.toArray) (hi : IntsAre its ns) (hne : 0 < ns.length)
    (h : ∀ h' tk M t', (∀ b o, s.heap.get? b = some o → h'.get? b = some o) → M ∈ ns → (∀ a, a ∈ ns → a ≤ M) → Q (.int M t') { s with heap := h', toks := tk }) : wpAny (model prog w) A (call (.builtin "max") [.ref l]) Q E s := by
  obtain ⟨xs, e⟩ := hi.allInts.items
  have hn : numsOf (intItems xs).toList = ns := by rw [← e]; exact hi.numsOf
  rw [nums_intItems] at hn
  subst hn
  rw [e] at hl
  have hsz : 0 < xs.size := by simpa using hne
  refine call_max_walk (iter_tup hl fun s₂ e st hfp hlI => ?_)
  subst e
  refine ⟨_, _, _, _, _, _, _, rfl, Walks.tuple (A := A.in1) hh _ l hlI (intItems xs), st, hfp, by simpa [intItems] using hsz, CmpOf.ints_gt (numAt xs) (fun _ _ => intItems_at), fun v h' tk hP hk => ?_⟩
  have hP : (intItems xs)[argBest (fun i j => decide (numAt xs i > numAt xs j)) (xs.size - 1)]? = some v := by simpa [intItems] using hP
  have hk := old_kept hk
  obtain ⟨t, rfl⟩ := intItems_at hP
  obtain ⟨h1, h2⟩ := argBest_gt (numAt xs) (xs.size - 1)
  refine h h' tk _ t hk ?_ fun a ha => ?_
  · rw [numAt_eq]; exact PySem.getD_mem (by rw [List.length_map, Array.length_toList]; omega)
  · obtain ⟨j, hj, rfl⟩ := mem_getD ha
    rw [List.length_map, Array.length_toList] at hj
    rw [← numAt_eq]; exact h2 j (by omega)
theorem min_rawT {its : List Value} {ns : List Int} {Q : Value → Shared → Prop} (hh : A.handled = none) (hl : s.heap.IsTuple l its.toArray) (hi : IntsAre its ns) (hne : 0 < ns.length)
    (h : ∀ h' tk M t', (∀ b o, s.heap.get? b = some o → h'.get? b = some o) → M ∈ ns → (∀ a, a ∈ ns → M ≤ a) → Q (.int M t') { s with heap := h', toks := tk }) : wpAny (model prog w) A (call (.builtin "min") [.ref l]) Q E s := by
  obtain ⟨xs, e⟩ := hi.allInts.items
  have hn : numsOf (intItems xs).toList = ns := by rw [← e]; exact hi.numsOf
  rw [nums_intItems] at hn
  subst hn
  rw [e] at hl
  have hsz : 0 < xs.size := by simpa using hne
  refine call_min_walk (iter_tup hl fun s₂ e st hfp hlI => ?_)
  subst e
  refine ⟨_, _, _, _, _, _, _, rfl, Walks.tuple (A := A.in1) hh _ l hlI (intItems xs), st, hfp, by simpa [intItems] using hsz, CmpOf.ints_lt (numAt xs) (fun _ _ => intItems_at), fun v h' tk hP hk => ?_⟩
  have hP : (intItems xs)[argBest (fun i j => decide (numAt xs i < numAt xs j)) (xs.size - 1)]? = some v := by simpa [intItems] using hP
  have hk := old_kept hk
  obtain ⟨t, rfl⟩ := intItems_at hP
  obtain ⟨h1, h2⟩ := argBest_lt (numAt xs) (xs.size - 1)
  refine h h' tk _ t hk ?_ fun a ha => ?_
  · rw [numAt_eq]; exact PySem.getD_mem (by rw [List.length_map, Array.length_toList]; omega)
  · obtain ⟨j, hj, rfl⟩ := mem_getD ha
    rw [List.length_map, Array.length_toList] at hj
    rw [← numAt_eq]; exact h2 j (by omega)
end
section
variable {X : Cx}
theorem cr_maxU (hc : X.calm = true) : CallR X (.builtin "max") rMaxU := by
  intro pins s σ H vs us Q I r h
  obtain ⟨a, ns, rfl, hs | hs, hne, q⟩ := h
  · exact cr_max hc pins s σ H _ us Q I r ⟨a, ns, rfl, .of hs, hne, q⟩
  · obtain ⟨its, rv, hl, _⟩ := I.tuple (SqT.of hs)
    rw [Vals.ref1 r]
    exact max_rawT (I.ok.hd hc) hl rv.ints hne fun h' tk m t' hk h1 h2 => ⟨.int _, H, I.kept hk, ⟨_, rfl⟩, q m h1 h2⟩
theorem cr_minU (hc : X.calm = true) : CallR X (.builtin "min") rMinU := by
  intro pins s σ H vs us Q I r h
  obtain ⟨a, ns, rfl, hs | hs, hne, q⟩ := h
  · exact cr_min hc pins s σ H _ us Q I r ⟨a, ns, rfl, .of hs, hne, q⟩
  · obtain ⟨its, rv, hl, _⟩ := I.tuple (SqT.of hs)
    rw [Vals.ref1 r]
    exact min_rawT (I.ok.hd hc) hl rv.ints hne fun h' tk m t' hk h1 h2 => ⟨.int _, H, I.kept hk, ⟨_, rfl⟩, q m h1 h2⟩
end
/-! ### enumerate of a tuple -/
set_option maxHeartbeats 8000000 in
theorem meets_enum1 {v : Value} {o : Obj} {H : Heap → Prop} (B : Begins v o H) :
    Meets (Builtin.«enumerate.__new__» ⟨[.type "enumerate", v], []⟩) (fun _ R s => H s.heap ∧
      R (.ok (.ret (.ref (s.heap.push o).objs.size))) { s with heap := (s.heap.push o).push { cls := .type "enumerate", data := .fields #[.none, .bool false, .ref s.heap.objs.size, rawInt 0, .none, .none] } }) :=
  .of_wp fun prog w A R s h => by
    obtain ⟨hp, g, d, tk, os⟩ := s; obtain ⟨h1, h⟩ := h
    have hsub := sub_enumerate
    have q1 : ∀ {A' : Around} {E : Value → Shared → Prop} {Q : Value → Shared → Prop}, Q (.ref hp.objs.size) ⟨hp.push o, g, d, tk, os⟩ → wpAny (model prog w) A' (pyIter v) Q E ⟨hp, g, d, tk, os⟩ :=
      fun q => B.iter prog w _ _ ⟨hp, g, d, tk, os⟩ _ h1 q
    wp_walk using q1
    refine wpAny_stack_any fun st => wpAny_pure ?_
    split
    · rename_i c _ _ _ _ _
      cases (c == Value.type "enumerate")
      · wp_walk using q1
        exact ⟨_, rfl, h⟩
      · wp_walk using q1
        exact ⟨_, rfl, h⟩
    · wp_walk using q1
      exact ⟨_, rfl, h⟩
theorem call_enum1 {prog : Program} {w : World} {A : Around} {E : Value → Shared → Prop} {s : Shared} {v : Value} {o : Obj} {H : Heap → Prop} {Q : Value → Shared → Prop} (B : Begins v o H) (h1 : H s.heap)
    (h : ∀ h', IsEnum h' (s.heap.objs.size + 1) s.heap.objs.size 0 .none → h'.get? s.heap.objs.size = some o → h'.objs.size = s.heap.objs.size + 2 →
      (∀ b o, s.heap.get? b = some o → h'.get? b = some o) → Q (.ref (s.heap.objs.size + 1)) { s with heap := h' }) :
    wpAny (model prog w) A (call (.type "enumerate") [v]) Q E s := by
  refine callType_new F.called_enumerate (by decide) (F.typeCall_enumerate_1 _) (F.newCall_enumerate_1 _) (fun obj => F.args_object_init_2 obj _) F.entry_enumerate_new
    (meets_enum1 B) ⟨h1, ?_⟩
  have hz : (s.heap.push o).objs.size = s.heap.objs.size + 1 := Heap.size_push ..
  show _ ∧ _
  rw [hz]
  have he : IsEnum ((s.heap.push o).push { cls := .type "enumerate", data := .fields #[.none, .bool false, .ref s.heap.objs.size, rawInt 0, .none, .none] }) (s.heap.objs.size + 1) s.heap.objs.size 0 .none := by
    have := Heap.get?_push_size (s.heap.push o) (o := { cls := .type "enumerate", data := .fields #[.none, .bool false, .ref s.heap.objs.size, rawInt 0, .none, .none] }) rfl
    rw [hz] at this; exact this
  refine ⟨⟨_, he, rfl⟩, h _ he (Heap.get?_push_of_some _ (Heap.get?_push_size _ B.free)) (by rw [Heap.size_push, hz]) fun b o x => Heap.get?_push_of_some _ (Heap.get?_push_of_some _ x)⟩
theorem enumT_end {prog : Program} {w : World} {A : Around} {E : Value → Shared → Prop} {s : Shared} {e it l : Addr} {i : Nat} {items : Array Value} {old : Value} {Q : Option Value → Shared → Prop} (hh : A.handled = none)
    (he : IsEnum s.heap e it i old) (hit : s.heap.IsTupleIter it l i) (hl : s.heap.IsTuple l items) (hx : items[i]? = none)
    (hQ : ∀ h', Heap.ExtBut it s.heap h' → Q none { s with heap := h' }) : wpAny (model prog w) A (pyNext (.ref e)) Q E s := by
  have hT : s.TypeIs (.ref e) "enumerate" := ⟨_, he, rfl⟩
  unfold pyNext
  refine wpAny_bind (wpAny_attempt (wpAny_callSpecial?_slot (name := Str.ofString "__next__") hT F.slot_enumerate_next
    (wpAny_call_entry F.slot_enumerate_next hT F.entry_enumerate_next ?_ (F.args_enumerate_next_1 _))))
  show wpAny _ _ (field (.ref e) 2 >>= _) _ _ _
  refine wpAny_bind (wpAny_field he rfl (x := .ref it) rfl ?_)
  refine wpAny_bind (wpAny_nextOf_tuple_end hh hit hl hx fun h' x he' hx' => ?_)
  obtain ⟨o, ho, hc⟩ := hx'
  refine wpAny_bind (wpAny_isInstance (T := "StopIteration") (b := true) ⟨o, ho, hc⟩ isSubtype_stop ?_)
  exact wpAny_pure (hQ _ he')
def IteT (K : PySem.W.Frag) (a : Addr) : It :=
  ⟨fun i H => ∃ (xs : List V) (x : V), SqT K H a xs ∧ xs[i]? = some x, fun i H v H' => ∃ T x, v = .ref T ∧ H T = none ∧ H' = upd H T (.tup [.int (i : Nat), x]) ∧ ∀ xs, SqT K H a xs → xs[i]? = some x, fun i H => ∃ xs : List V, SqT K H a xs ∧ xs.length ≤ i⟩
theorem turn_enumT {P : Program} {w : World} {K : PySem.W.Frag} {elts : List Expr} {kk : Nat} {tpos : Pos} (a e it : Addr) :
    Turn P w K (.Tuple elts kk tpos) (IteT K a) [e, it] e (fun i h => (∃ old, IsEnum h e it ((i : Nat) : Int) old) ∧ h.IsTupleIter it a i ∧ e ≠ it) where
  mem := by simp
  obj := fun i h st b hb => by
    obtain ⟨⟨old, he⟩, ⟨o, ho, hc, hd⟩, _⟩ := st
    have e' : b = e ∨ b = it := by simpa using hb
    rcases e' with z | z
    · rw [z]; exact ⟨_, he, fun v q => nomatch q⟩
    · rw [z]; exact ⟨o, ho, fun v q => by rw [hd] at q; cases q⟩
  keep := fun i h h' st k => let ⟨⟨old, he⟩, hi, hne⟩ := st; ⟨⟨old, k e (by simp) _ he⟩, hi.at fun o q => k it (by simp) o q, hne⟩
  item := by
    intro X hP hw hK hc i pins s σ H E I hf st hg
    subst hP hw hK
    obtain ⟨⟨old, he⟩, hit, hne⟩ := st
    obtain ⟨xs, x, hq, hx⟩ := hg
    obtain ⟨its, rv, p, hz⟩ := I.tuple hq
    obtain ⟨u, hu, ru⟩ := rv.get hx
    have hel : e < s.heap.objs.size := Heap.lt_size he
    have hil : it < s.heap.objs.size := by obtain ⟨_, q, _⟩ := hit; exact Heap.lt_size q
    have hai : a ≠ it := fun z => by
      obtain ⟨o1, q1, c1, _⟩ := hit
      obtain ⟨o2, q2, c2, _⟩ := p
      rw [← z, q2] at q1
      cases q1
      rw [c2] at c1
      exact absurd c1 (by decide)
    have hae : e ≠ a := fun z => by
      obtain ⟨o2, q2, c2, _⟩ := p
      have he' : s.heap.get? e = some _ := he
      rw [z, q2] at he'
      cases he'
      have c3 : Value.type "enumerate" = Value.type "tuple" := c2
      exact absurd c3 (by decide)
    have hlt : i < its.toArray.size := by
      have := (List.getElem?_eq_some_iff.mp hu).1
      simpa using this
    refine wpAny_pyNext_enum_itemD (Draws.tuple (A := X.A.in1) (I.ok.hd hc) it a hai its.toArray) he ⟨hit, p⟩ hlt hne (by simp [hne, hae]) fun y h' tk hP ho hst hT hsz hk => ?_
    have ey : y = u := by
      rw [show its.toArray[i]? = its[i]? by simp, hu] at hP
      exact (Option.some.inj hP).symm
    subst ey
    obtain ⟨hit', _⟩ := hst
    refine ⟨_, rfl, wpAny_letOwnedTupleGo_enum (s := { s with heap := h', toks := tk + 1 }) ho fun h'' he' sb => ?_⟩
    have hT2 : h''.get? s.heap.objs.size = some { cls := .type "tuple", data := .seq #[.int i tk, y] } := (sb.2 _ (Nat.ne_of_gt hel)).trans hT
    have new : ObjOk X.prog X.w (upd H s.heap.objs.size (.tup [.int (i : Nat), x])) h'' s.heap.objs.size (.tup [.int (i : Nat), x]) :=
      ⟨by show 2 ≤ sizeLine; decide, [.int i tk, y], .cons ⟨_, rfl⟩ (.cons ru .nil), ⟨_, hT2, rfl, _, rfl⟩⟩
    have I1 : Inv X pins σ (upd H s.heap.objs.size (.tup [.int (i : Nat), x])) { s with heap := h'', toks := tk + 1 } :=
      I.turnedNew (ch := [e, it]) (fun b ob hb q => (sb.2 b (fun z => hb (by simp [z]))).trans (hk b ob (fun z => hb (by simp [z])) (fun z => hb (by simp [z])) q)) hf (Nat.le_refl _) new
    refine ⟨.ref s.heap.objs.size, _, I1, rfl, ⟨_, x, rfl, I.hok.fresh (Nat.le_refl _), rfl, fun ys hy => by rw [I.tuple_inj hy hq]; exact hx⟩, ⟨⟨y, ?_⟩, hit'.at fun o q => (sb.2 it (Ne.symm hne)).trans q, hne⟩, fun b hb => ?_⟩
    · have e1 : ((i + 1 : Nat) : Int) = (i : Int) + 1 := by omega
      rw [e1]; exact he'
    · have hb' : b < s.heap.objs.size := by
        have e' : b = e ∨ b = it := by simpa using hb
        rcases e' with z | z
        · rw [z]; exact hel
        · rw [z]; exact hil
      rw [upd_ne (Nat.ne_of_lt hb')]
      exact (hf b hb).1
  done := by
    intro X hP hw hK hc i pins s σ H E I hf st hg
    subst hP hw hK
    obtain ⟨⟨old, he⟩, hit, hne⟩ := st
    obtain ⟨xs, hq, hx⟩ := hg
    obtain ⟨its, rv, p, hz⟩ := I.tuple hq
    obtain ⟨f0, f1, f2, f3, f4, f5⟩ := hf it (by simp)
    have hl := rv.length
    have hai : a ≠ it := fun z => by
      obtain ⟨o1, q1, c1, _⟩ := hit
      obtain ⟨o2, q2, c2, _⟩ := p
      rw [← z, q2] at q1
      cases q1
      rw [c2] at c1
      exact absurd c1 (by decide)
    exact enumT_end (I.ok.hd hc) he hit p (by simp; omega) fun h' eb => ⟨rfl, I.turned (t' := s.toks) (fun b o hb q => eb b o hb q) f0 f1 f3 f4 f5⟩
  self := fun A i s Q E st h => let ⟨⟨_, he⟩, _⟩ := st; wpAny_pyIter_enum he h
def iEnumT (K : PySem.W.Frag) (ta : TA) : TI := fun σ H R => ta σ H fun vs H1 => ∃ a xs, vs = [.ref a] ∧ SqT K H1 a xs ∧ R (IteT K a) H1
theorem pi_enumT {X : Cx} {e : Expr} {ta : TA} {p pos tpos : Pos} {elts : List Expr} {kk : Nat} (hg : Gl X "enumerate") (hm : X.mg "enumerate" = none) (ha : PA X [e] ta) (hs : starEach [e] X.env = [(false, eval e X.env)] := by rfl) :
    PI X (.Tuple elts kk tpos) (.Call (.Name "enumerate" p) [e] [] pos) (iEnumT X.K ta) := by
  refine ⟨fun pins s σ H R I h => ?_⟩
  refine Call_ (ld_blt I hg hm boot_enumerate (PyProof.Rows.callWith_type1 (thn (ha.run pos pins s σ H _ I h) fun us s1 ⟨vs, H1, I1, r1, q1⟩ => ?_) hs rfl))
  obtain ⟨a, xs, ex, hq, q⟩ := q1
  subst ex
  cases r1 with
  | cons r rr =>
    cases rr
    cases r
    obtain ⟨its, rv, p', hz⟩ := I1.tuple hq
    refine call_enum1 (begins_tuple a its.toArray) p' fun h' he hit hsz hk => wpAny_pyIter_enum he ?_
    have I2 : Inv X pins σ H1 { s1 with heap := h' } := I1.kept (t' := s1.toks) hk
    refine ⟨s1.heap.objs.size + 1, [s1.heap.objs.size + 1, s1.heap.objs.size], _, _, H1, rfl, I2, turn_enumT a (s1.heap.objs.size + 1) s1.heap.objs.size, ⟨⟨.none, he⟩, ⟨_, hit, rfl, rfl⟩, Nat.succ_ne_self _⟩, fun b hb => ?_, q⟩
    have e' : b = s1.heap.objs.size + 1 ∨ b = s1.heap.objs.size := by simpa using hb
    have hle : s1.heap.objs.size ≤ b := by
      rcases e' with z | z
      · rw [z]; exact Nat.le_add_right _ _
      · rw [z]; exact Nat.le_refl _
    exact I1.fpOk hle (I1.hok.fresh hle)
theorem walk_enumT {K : PySem.W.Frag} {a : Addr} {xs : List V} : Walk (IteT K a) xs.length (fun H => SqT K H a xs) (YPair (fun i => some (.int (i : Nat))) (fun i => xs[i]?)) := by
  refine ⟨fun i _ hi q => ⟨xs, xs[i], q, by simp [hi]⟩, fun _ q => ⟨xs, q, Nat.le_refl _⟩, fun i H v H' _ q y => ?_⟩
  obtain ⟨T, x, h1, h2, h3, h4⟩ := y
  exact ⟨T, .int (i : Nat), x, h1, h2, h3, rfl, h4 xs q⟩
end Sr

namespace Sr
open PySem PySem.Spec PyProof.Rows L2
/-! ### kinds of values -/
inductive Kd where
  | int | bl | str | non | lst | tup | dct
  deriving DecidableEq
def Kd.name : Kd → String
  | .int => "int" | .bl => "bool" | .str => "str" | .non => "NoneType" | .lst => "list" | .tup => "tuple" | .dct => "dict"
def kdOf (v : V) (H : Hp) : Option Kd := match v with
  | .int _ => some .int
  | .bl _ => some .bl
  | .str _ => some .str
  | .non => some .non
  | .ref p => (match H p with
    | some (.lst _) => some .lst
    | some (.tup _) => some .tup
    | some (.dK _) => some .dct
    | some (.dT _) => some .dct
    | _ => none)
  | _ => none
theorem kdOf_ok {K : PySem.W.Frag} {v : V} {H : Hp} {k : Kd} (h : kdOf v H = some k) : TyX K H v (.type k.name) := by
  cases v with
  | int i => cases h; exact .base (.int i)
  | bl b => cases h; exact .base (.bl b)
  | str x => cases h; exact .base (.str x)
  | non => cases h; exact .base .non
  | ref p =>
    unfold kdOf at h
    dsimp only at h
    split at h
    · rename_i xs e; cases h; exact .base (.lst e)
    · rename_i xs e; cases h; exact .base (.tup e)
    · rename_i xs e; cases h; exact .base (.dK e)
    · rename_i xs e; cases h; exact .base (.dT e)
    · cases h
  | byt b => cases h
  | flt b => cases h
  | ty n => cases h
/-- isinstance(a k, T) -/
def isK : Kd → Kd → Bool
  | .int, .int => true | .bl, .int => true | .bl, .bl => true | .str, .str => true | .lst, .lst => true | .tup, .tup => true | .dct, .dct => true | .non, .non => true
  | _, _ => false
theorem kitB_isK (k T : Kd) (h : T ≠ .non) : kitB k.name T.name = some (isK k T) := by
  cases k <;> cases T <;> first | (exact absurd rfl h) | decide +kernel
def rIsK (T : Kd) : List V → Hp → VK → Prop := fun xs H Q => ∃ x k, xs = [x, .ty T.name] ∧ kdOf x H = some k ∧ Q (.bl (isK k T)) H
/-! ### lists by their last items -/
theorem cutV_len0 (xs : List V) (i : Int) : cutV xs none (some i) = xs.take (HT.sIx xs.length xs.length (some i)) := by
  unfold cutV
  have : HT.sIx xs.length 0 none = 0 := rfl
  rw [this]; simp
theorem cutV_m2 (xs : List Int) : cutV (xs.map V.int) none (some (-2)) = ((xs.reverse.drop 2).reverse).map V.int := by
  rw [cutV_len0]
  have e : HT.sIx (xs.map V.int).length (xs.map V.int).length (some (-2)) = xs.length - 2 := by
    unfold HT.sIx
    simp
    omega
  rw [e, ← List.map_take, List.drop_reverse, List.reverse_reverse]
theorem atI_tr1 (rs : List Int) : atI (List.map V.int rs.reverse) (-1) = (rs[0]?).map V.int := by rw [atI_map, atI_m1, List.reverse_reverse]
theorem atI_tr2 (rs : List Int) : atI (List.map V.int rs.reverse) (-2) = (rs[1]?).map V.int := by rw [atI_map, atI_m2, List.reverse_reverse]
theorem cutV_tr2 (rs : List Int) : cutV (List.map V.int rs.reverse) none (some (-2)) = List.map V.int (rs.drop 2).reverse := by rw [cutV_m2, List.reverse_reverse]
theorem scal_int {i j : Int} : scal (.int i) (.int j) = true := rfl
theorem scal_bl {i j : Bool} : scal (.bl i) (.bl j) = true := rfl
theorem scal_str {i j : Str} : scal (.str i) (.str j) = true := rfl
def rPopG : V → List V → Hp → VK → Prop := fun x vs H Q => ∃ l xs y, x = .ref l ∧ vs = [] ∧ H l = some (.lst xs) ∧ xs.getLast? = some y ∧ Q y (upd H l (.lst xs.dropLast))
theorem mt_popG {X : Cx} : MtM X "list.pop" rPopG := by
  intro pins s σ H x vs v us Q I rx rv h
  obtain ⟨l, xs, y, rfl, rfl, hH, hy, q⟩ := h
  exact mt_pop pins s σ H _ _ v us Q I rx rv ⟨l, xs, y, rfl, rfl, hH, by rw [← List.getLast?_eq_getElem?]; exact hy, q⟩
theorem dropLast_rev (a : Int) (r : List Int) : (List.map V.int (a :: r).reverse).dropLast = List.map V.int r.reverse := by
  simp
theorem _root_.L2.Same.seqH {H H' : Hp} {p : Addr} {xs : List V} (e : Same H H') (h : Sr.seqH H p xs) : Sr.seqH H' p xs := h.elim (fun h => .inl (e _ _ h)) fun h => .inr (e _ _ h)
theorem _root_.L2.Same.updN {H H' : Hp} {p : Addr} {o : HO} (e : Same H H') (h : H p = none) : Same H (upd H' p o) := fun b u q => by
  rw [upd_ne (ne_of_none q h)]; exact e b u q
theorem _root_.L2.Same.new {H H' : Hp} {p : Addr} {o : HO} (e : Same H H') (h : H' p = none) : Same H (upd H' p o) := e.updN (e.free h)
end Sr
namespace Sr
open PySem PySem.Spec PyProof.Rows L2
/-! ### == of sequences of ints -/
end Sr

namespace Sr
open PySem PySem.Spec PyProof.Rows L2
/-! ### methods by names -/
/-- the def at a class's method m: its promise -/
structure MeB (P : Program) (w : World) (K : PySem.W.Frag) (mg : Str → Option Value) (base : Heap) (CX : CXT) (k : Nat) (C : Addr) (m : Str) (ps : List Str) (sp : Sp) : Prop where
  ex : ∃ (f : Addr) (fd : FuncData), PySem.W.findIn K (.ref C) m = some (some (.ref f)) ∧ PySem.W.isFn K (.ref f) = true ∧ PySem.W.keepIn K (.ref f) = true ∧ Binds K fd ps [] ∧ FnOk P w K mg base CX k f fd ps sp
section
variable {fa : List He.Fa} {fn : List He.DefD} {gt : List PropD} {ex : PySem.W.Frag → Bool} {K : PySem.W.Frag} {mg : Str → Option Value} {P : Program} {w : World} {base : Heap}
end
section
variable {X : Cx} {CX : CXT} {k : Nat} {C : Addr} {x m : Str} {ps : List Str} {sp : Sp} {E : XK} {p pos apos : Pos} {e o : Expr} {es : List Expr} {ta : TE} {t : TA}
/-- C(e, ..) -/
theorem pe_mk (M : MeB X.prog X.w X.K X.mg X.base CX k C "__init__" ps sp) (hmk : PySem.W.makesIn X.K C = true) (hkc : PySem.W.keepIn X.K (.ref C) = true) (hm : X.mg x = some (.ref C)) (hr : Room (k + 1) X.A) (hx : Passes CX X E) (ha : PA X (e :: es) t)
    (hg : Gl X x := by rfl) (hdb : (x == ("__debug__" : Str)) = false := by decide)
    (he : starEach (e :: es) X.env = (false, eval e X.env) :: starEach es X.env := by rfl) (hpl : (backTo pos (starEach es X.env)).any (·.1) = false := by rfl) :
    PE X (.Call (.Name x p) (e :: es) [] pos) (tMake C sp [] E t) := by
  obtain ⟨f, fd, a, b, c, d, F⟩ := M.ex
  exact pe_make ⟨hmk, a, b, hkc⟩ F hr hg hm d .nil hx ha hdb he hpl
end
/-! ### the callee under another around -/
section
variable {X : Cx} {pins : List (Addr × Obj)} {σ : L2.St} {H : Hp} {s : Shared} {CX : CXT} {k : Nat} {f C : Addr} {sp : Sp} {E : XK}
/-! ### x == y, x an instance -/
end
/-! ### x != y, by the own == -/
def neIn (K : PySem.W.Frag) (C f : Addr) : Bool := match K.lookup C with
  | some ⟨.type t, _, .cls cd, sl⟩ => decide (t = "type") && (match cd.mro, sl.toList with
    | [.ref C', .type o], [_, _, _, _, some (.builtin _), _] => (C' == C) && (decide (o = "object") && (!cd.hasDel && (PySem.W.nsOkIn K cd.ns && (decide (PySem.W.nsIn K cd.ns "__eq__" = some (some (.ref f))) && (decide (PySem.W.nsIn K cd.ns "__ne__" = some none) && (match K.lookup f with
      | some o => decide (o.cls = .type "function")
      | none => false))))))
    | _, _ => false)
  | _ => false
section
variable {X : Cx} {CX : CXT} {k : Nat} {f C : Addr} {sp : Sp} {E : XK}
/-! ### len(x), x an instance -/
end
/-! ### a property, a call of an instance -/
/-- the property f of the class at C: its getter's promise -/
structure PrB (P : Program) (w : World) (K : PySem.W.Frag) (mg : Str → Option Value) (base : Heap) (CX : CXT) (k : Nat) (C : Addr) (f : Str) (ps : List Str) (sp : Sp) : Prop where
  ex : ∃ (p g : Addr) (fd : FuncData), PropOf K C f p g ∧ Binds K fd ps [] ∧ FnOk P w K mg base CX k g fd ps sp
section
variable {X : Cx} {CX : CXT} {k : Nat} {C : Addr} {f : Str} {ps : List Str} {sp : Sp} {E : XK} {e fe : Expr} {es : List Expr} {pos : Pos} {ta tf : TE} {t : TA}
theorem pe_pr (M : PrB X.prog X.w X.K X.mg X.base CX k C f ps sp) (c : Cls X.K C) (hr : Room (k + 1) X.A) (hx : Passes CX X.nox E) (he : PE X e ta)
    (hab : attributeBase e f X.env (eval e X.env) = eval e X.env := by rfl) : PE X (.Attribute e f pos) (tProp C sp [] E ta) := by
  obtain ⟨p, g, fd, h1, h2, h3⟩ := M.ex
  exact pe_prop he c h1 h3 hr h2 .nil hx hab
end
end Sr
namespace Sr
open PySem PySem.Spec PyProof.Rows L2
/-! ### isinstance(x, C), C an own class -/
def clsAt (K : PySem.W.Frag) (C : Addr) : Bool := decide (PySem.W.findIn K (.ref C) "__class__" = some (some (.builtin "object.__class__"))) && (decide (PySem.W.specialIn K (.builtin "object.__class__") "__get__" = some (some (.builtin "getset_descriptor.__get__"))) &&
  (decide (PySem.W.takesIn K (.builtin "object.__class__") = some true) && (decide (PySem.W.mroIn K C (.type "object") = some true) && (decide (PySem.W.kitOne K (.ref C) (.ref C) = some true) &&
  (decide (PySem.W.kitOne K (.type "tuple") (.ref C) = some false) && (decide (PySem.W.kitOne K (.type "int") (.ref C) = some false) && (decide (PySem.W.kitOne K (.type "NoneType") (.ref C) = some false) && (decide (PySem.W.kitOne K (.type "str") (.ref C) = some false) && (decide (PySem.W.kitOne K (.type "list") (.ref C) = some false) && decide (PySem.W.kitOne K (.type "bool") (.ref C) = some false))))))))))
/-! iterators whose K is written out (inside of a comprehension the context's own K would carry its bound names) -/
end Sr

namespace Sr
open PySem PySem.Spec PyProof.Rows L2
/-! ### in, not in: data among the items of a list or tuple -/
section
variable {X : Cx}
end
theorem walk_zipT {K : PySem.W.Frag} {a b : Addr} {xs ys : List V} {n : Nat} (hn : n = min xs.length ys.length) : Walk (RZ.ItzT K a b) n (fun H => SqT K H a xs ∧ SqT K H b ys) (YPair (fun i => xs[i]?) (fun i => ys[i]?)) := by
  subst hn
  refine ⟨fun i _ hi q => ?_, fun _ q => ⟨xs, ys, q.1, q.2, by omega⟩, fun i H v H' _ q y => ?_⟩
  · have h1 : i < xs.length := by omega
    have h2 : i < ys.length := by omega
    exact ⟨xs, ys, xs[i], ys[i], q.1, q.2, by simp [h1], by simp [h2]⟩
  · obtain ⟨T, x, z, h1, h2, h3, h4, h5⟩ := y
    exact ⟨T, x, z, h1, h2, h3, h4 xs q.1, h5 ys q.2⟩
end Sr

namespace Sr
open PySem PySem.Spec PyProof.Rows L2
/-! ### tuples whose object is known -/
section
variable {X : Cx}
/-! ### dict(t), t a known tuple of pairs -/
/-! ### sorted(d), d a dict whose keys are ints -/
end
end Sr

namespace Pv
open PySem PySem.Spec PyProof.Rows L2 Sr
def expB (K : PySem.W.Frag) (c : Str) : Bool := PySem.W.excIn K (He.ga K c) [.type "ValueError", .type "Exception", .type "BaseException", .type "object"] "ValueError.__new__" && (PySem.W.keepIn K (.ref (He.ga K c)) && (decide (PySem.W.subIn K (.ref (He.ga K c)) (.type "BaseException") = some true) && decide (PySem.W.typeIn K (.ref (He.ga K c)) = some (.type "type"))))
def clsVE (K : PySem.W.Frag) (C : Addr) : Bool := match K.lookup C with
  | some ⟨.type "type", _, .cls cd, sl⟩ => (match cd.mro, sl.toList with
    | .ref C' :: bm, [_, _, _, _, some (.builtin n), _] => C' == C && n == "ValueError.__new__" && !cd.hasDel && cd.hasDict && HandSPX.refsVE bm
    | _, _ => false)
  | _ => false
def eName? : Expr → Option Str
  | .Name x _ => some x
  | _ => none
def eAttr? : Expr → Option (Expr × Str × Pos)
  | .Attribute e x p => some (e, x, p)
  | _ => none
def eCall? : Expr → Option (Expr × List Expr × Pos)
  | .Call f a [] p => some (f, a, p)
  | _ => none
def eJoin? : Expr → Option (List Expr)
  | .JoinedStr l _ => some l
  | _ => none
def eFmt? : Expr → Option (Expr × Int)
  | .FormattedValue e c none _ => some (e, c)
  | _ => none
def eStr? : Expr → Option Str
  | .Constant (.str x) _ _ => some x
  | _ => none
def sExpr? : Stmt → Option Expr
  | .Expr e _ => some e
  | _ => none
def sAsg? : Stmt → Option (Expr × Expr)
  | .Assign [t] e _ => some (t, e)
  | _ => none
def isSup (f pre : Str) (s : Stmt) : Bool := match sExpr? s with
  | some e => match eCall? e with
    | some (m, [j], q7) => (match eAttr? m with
      | some (o, i, q2) => decide (i = "__init__") && (q2.endLine == q7.line) && (match eCall? o with
        | some (n, [], _) => decide (eName? n = some "super")
        | _ => false)
      | none => false) && (match eJoin? j with
      | some [a, b] => decide (eStr? a = some pre) && (match eFmt? b with
        | some (x, c) => decide (c = -1) && decide (eName? x = some f)
        | none => false)
      | _ => false)
    | _ => false
  | none => false
def isSt (f : Str) (s : Stmt) : Bool := match sAsg? s with
  | some (t, e) => decide (eName? e = some f) && (match eAttr? t with
    | some (o, x, _) => decide (x = f) && decide (eName? o = some "self")
    | none => false)
  | none => false
def exiPar (f : Str) (a : Arguments) : Bool := match a with
  | ⟨[], [⟨s, _, _⟩, ⟨x, _, _⟩], none, [], [], none, []⟩ => decide (s = "self") && decide (x = f)
  | _ => false
def exiBody (f pre : Str) (b : FuncBody) : Bool := match b with
  | .stmts [s1, s2] => isSup f pre s1 && isSt f s2
  | _ => false
def exiCode (K : PySem.W.Frag) (a : Addr) : Bool := match K.lookup a with
  | some ⟨_, _, .fields vs, _⟩ => (match (vs[2]? : Option Value) with
    | some (.str x _) => decide (x = ("/claim/cut.py" : Str))
    | _ => false)
  | _ => false
def exiCell (K : PySem.W.Frag) (a C : Addr) : Bool := match K.lookup a with
  | some ⟨_, _, .cell (some (.ref D)), _⟩ => D == C
  | _ => false
def exiFn (K : PySem.W.Frag) (C fI : Addr) (f pre : Str) : Bool := match K.lookup fI with
  | some ⟨_, _, .func fd, _⟩ => (match fd.closure, fd.code with
    | [(x, cc)], .ref cda => decide (x = "__class__") && (exiCell K cc C && (exiCode K cda && PySem.W.codeIn K (.ref cda) fd.qualname))
    | _, _ => false) && (exiPar f fd.params && (exiBody f pre fd.body && (NdefX.nscB ["self", f, "__class__"] ["self", f] ["__class__"] fd.scope && (decide (fd.scope.names.lookup ("super" : Str) = some NameKind.globalImplicit) && (decide (fd.globals = mainGlobals) && (decide (fd.builtins = builtinsNs) && (fd.defaults == .none && fd.kwdefaults == .none)))))))
  | _ => false
def exiB (K : PySem.W.Frag) (c f pre : Str) : Bool := clsVE K (He.ga K c) && (decide (PySem.W.findIn K (.ref (He.ga K c)) "__setattr__" = some (some (.builtin "object.__setattr__"))) && (decide (PySem.W.subIn K (.ref (He.ga K c)) (.type "BaseException") = some true) && (decide (PySem.W.typeIn K (.ref (He.ga K c)) = some (.type "type")) && (PySem.W.keepIn K (.ref (He.ga K c)) &&
  (decide (PySem.W.findIn K (.ref (He.ga K c)) f = some none) && (decide (PySem.W.findIn K (.ref (He.ga K c)) "__init__" = some (some (.ref (He.ma K (He.ga K c) "__init__")))) && (decide (PySem.W.typeIn K (.ref (He.ma K (He.ga K c) "__init__")) = some (.type "function")) && (decide (PySem.W.ks_superIn K (He.ga K c) (He.ga K c) "__init__" = some (some (.builtin "ValueError.__init__"))) &&
  (decide (PySem.W.subIn K (.ref (He.ga K c)) (.type "ValueError") = some true) && (decide (PySem.W.mroIn K (He.ga K c) (.ref (He.ga K c)) = some true) && (decide (PySem.W.nsIn K cStatics "thirdparty.any" = some none) && exiFn K (He.ga K c) (He.ma K (He.ga K c) "__init__") f pre)))))))))))
def lawTf : List He.Defn := [("law", none)]
def obW (n : Nat) (fa : List He.Fa) (fn : List He.DefD) (gt : List PropD) (ex : PySem.W.Frag → Bool) (g : Addr → Option Obj) : AlM :=
  (He.obsD fa fn (He.frT g (cStatics :: He.asD g n)), gt.map (PropD.obs (He.frT g (cStatics :: He.asD g n))), ((gt.all fun d => d.ok (He.frT g (cStatics :: He.asD g n))) && ex (He.frT g (cStatics :: He.asD g n))) && He.tabsB g lawTf (He.frT g (cStatics :: He.asD g n)))
structure SaysW (fa : List He.Fa) (fn : List He.DefD) (gt : List PropD) (ex : PySem.W.Frag → Bool) (h : Heap) (K : PySem.W.Frag) : Prop where
  kin : K.In h
  c : He.SaysD fa fn K
  p : gt.map (PropD.obs K) = gt.map PropD.val
  m : ((gt.all fun d => d.ok K) && ex K) = true
  hd : PySem.W.codeHdIn K (He.cT K ("law", none)).1 (He.cT K ("law", none)).2 = true
  out : K.lookup (He.cT K ("law", none)).2 = none
  empty : h.get? (He.cT K ("law", none)).2 = some { cls := .none, data := .fields #[] }
theorem saysW_of {n : Nat} {fa : List He.Fa} {fn : List He.DefD} {gt : List PropD} {ex : PySem.W.Frag → Bool} {h : Heap} (e : obW n fa fn gt ex h.get? = (He.valD fn, gt.map PropD.val, true)) : SaysW fa fn gt ex h (He.frT h.get? (cStatics :: He.asD h.get? n)) := by
  have e1 : He.obsD fa fn (He.frT h.get? (cStatics :: He.asD h.get? n)) = He.valD fn := congrArg (fun z : AlM => z.1) e
  have e2 := congrArg (fun z : AlM => z.2.1) e
  have e3 := congrArg (fun z : AlM => z.2.2) e
  obtain ⟨h1, h2⟩ := He.ba e3
  obtain ⟨h3, h4⟩ := He.ba (List.all_eq_true.mp h2 ("law", none) (by simp [lawTf]))
  have key : ∃ o, h.get? (He.cT (He.frT h.get? (cStatics :: He.asD h.get? n)) ("law", none)).2 = some o ∧ He.emptyTab o = true := by
    cases q : h.get? (He.cT (He.frT h.get? (cStatics :: He.asD h.get? n)) ("law", none)).2 with
    | none => rw [q] at h4; cases h4
    | some o => rw [q] at h4; exact ⟨o, rfl, h4⟩
  obtain ⟨o, q, z⟩ := key
  exact ⟨He.frT_in, e1, e2, h1, h3, He.frT_none q z, by rw [q, He.emptyTab_eq z]⟩
def hookW (n : Nat) (fa : List He.Fa) (fn : List He.DefD) (gt : List PropD) (ex : PySem.W.Frag → Bool) : PySem.W.Hook where
  α := AlM
  obs := fun s => obW n fa fn gt ex s.heap.get?
  val := fun _ => (He.valD fn, gt.map PropD.val, true)
  says := fun _ h => ∃ K : PySem.W.Frag, SaysW fa fn gt ex h K
  of := fun _ _ e => ⟨_, saysW_of e⟩
  keeps := fun _ _ _ ⟨K, c⟩ k => ⟨K, ⟨PySem.W.Frag.In.keeps c.kin k, c.c, c.p, c.m, c.hd, c.out, k _ _ c.empty⟩⟩
theorem obW_eq {n : Nat} {fa : List He.Fa} {fn : List He.DefD} {gt : List PropD} {ex : PySem.W.Frag → Bool} {g : Addr → Option Obj} {s : Shared} (h : ∀ a, g a = s.heap.get? a) : obW n fa fn gt ex g = (hookW n fa fn gt ex).obs s := by
  have e : g = s.heap.get? := funext h
  rw [e] <;> rfl
end Pv
namespace Lw
open PySem PySem.Spec PyProof.Rows L2 Sr
def top (i : Nat) : Stmt := PySem.Challenge.pw_slackrods_k18_closed_loops.main.body.getD i (.Pass ⟨0, 0, 0, 0⟩)
abbrev s_is_int : Stmt := top 8
abbrev s_is_int_in : Stmt := top 9
abbrev s_is_place : Stmt := top 10
abbrev s_check_place : Stmt := top 11
abbrev s_check_row : Stmt := top 12
abbrev s_is_next : Stmt := top 14
abbrev s_moved : Stmt := top 15
abbrev s_Memory_init : Stmt := inClass (top 16) 0
abbrev s_Memory_places : Stmt := inClass (top 16) 1
abbrev s_Memory_place : Stmt := inClass (top 16) 2
abbrev s_Memory_row : Stmt := inClass (top 16) 3
abbrev s_Memory_call : Stmt := inClass (top 16) 4
abbrev s_Memory_len : Stmt := inClass (top 16) 5
abbrev s_Memory_eq : Stmt := inClass (top 16) 6
abbrev s_followed : Stmt := top 17
abbrev s_memory_of : Stmt := top 18
abbrev s_counted : Stmt := top 20
abbrev s_loops : Stmt := top 21
abbrev s_swings_of : Stmt := top 22
abbrev s_open_swings : Stmt := top 23
abbrev s_L_random : Stmt := top 25
abbrev s_L_below : Stmt := top 26
abbrev s_L_row : Stmt := top 27
abbrev s_L_equal : Stmt := top 28
abbrev s_L_pairs : Stmt := top 29
abbrev s_L_told : Stmt := top 30
abbrev s_L_steps : Stmt := top 31
abbrev s_L_memory : Stmt := top 32
abbrev s_L_loops : Stmt := top 33
abbrev s_law : Stmt := top 34
def d_is_int : He.DefD := ⟨("is_int", none), "is_int", "is_int", defArgs s_is_int, defBody s_is_int, defScope s_is_int, [], []⟩
def d_is_int_in : He.DefD := ⟨("is_int_in", none), "is_int_in", "is_int_in", defArgs s_is_int_in, defBody s_is_int_in, defScope s_is_int_in, [], []⟩
def d_is_place : He.DefD := ⟨("is_place", none), "is_place", "is_place", defArgs s_is_place, defBody s_is_place, defScope s_is_place, [], []⟩
def d_check_place : He.DefD := ⟨("check_place", none), "check_place", "check_place", defArgs s_check_place, defBody s_check_place, defScope s_check_place, [], []⟩
def d_check_row : He.DefD := ⟨("check_row", none), "check_row", "check_row", defArgs s_check_row, defBody s_check_row, defScope s_check_row, [], []⟩
def d_is_next : He.DefD := ⟨("is_next", none), "is_next", "is_next", defArgs s_is_next, defBody s_is_next, defScope s_is_next, [], []⟩
def d_moved : He.DefD := ⟨("moved", none), "moved", "moved", defArgs s_moved, defBody s_moved, defScope s_moved, [], []⟩
def d_Memory_init : He.DefD := ⟨("Memory", some "__init__"), "__init__", "Memory.__init__", defArgs s_Memory_init, defBody s_Memory_init, defScope s_Memory_init, [], []⟩
def d_Memory_call : He.DefD := ⟨("Memory", some "__call__"), "__call__", "Memory.__call__", defArgs s_Memory_call, defBody s_Memory_call, defScope s_Memory_call, [], []⟩
def d_Memory_len : He.DefD := ⟨("Memory", some "__len__"), "__len__", "Memory.__len__", defArgs s_Memory_len, defBody s_Memory_len, defScope s_Memory_len, [], []⟩
def d_Memory_eq : He.DefD := ⟨("Memory", some "__eq__"), "__eq__", "Memory.__eq__", defArgs s_Memory_eq, defBody s_Memory_eq, defScope s_Memory_eq, [], []⟩
def d_followed : He.DefD := ⟨("followed", none), "followed", "followed", defArgs s_followed, defBody s_followed, defScope s_followed, [], []⟩
def d_memory_of : He.DefD := ⟨("memory_of", none), "memory_of", "memory_of", defArgs s_memory_of, defBody s_memory_of, defScope s_memory_of, [], []⟩
def d_counted : He.DefD := ⟨("counted", none), "counted", "counted", defArgs s_counted, defBody s_counted, defScope s_counted, [], []⟩
def d_loops : He.DefD := ⟨("loops", none), "loops", "loops", defArgs s_loops, defBody s_loops, defScope s_loops, [], []⟩
def d_swings_of : He.DefD := ⟨("swings_of", none), "swings_of", "swings_of", defArgs s_swings_of, defBody s_swings_of, defScope s_swings_of, [], []⟩
def d_open_swings : He.DefD := ⟨("open_swings", none), "open_swings", "open_swings", defArgs s_open_swings, defBody s_open_swings, defScope s_open_swings, [], []⟩
def d_L_random : He.DefD := ⟨("_law_random", none), "_law_random", "_law_random", defArgs s_L_random, defBody s_L_random, defScope s_L_random, [], []⟩
def d_L_below : He.DefD := ⟨("_law_below", none), "_law_below", "_law_below", defArgs s_L_below, defBody s_L_below, defScope s_L_below, [], []⟩
def d_L_row : He.DefD := ⟨("_law_row", none), "_law_row", "_law_row", defArgs s_L_row, defBody s_L_row, defScope s_L_row, [], []⟩
def d_L_equal : He.DefD := ⟨("_law_equal", none), "_law_equal", "_law_equal", defArgs s_L_equal, defBody s_L_equal, defScope s_L_equal, [], []⟩
def d_L_pairs : He.DefD := ⟨("_law_pairs", none), "_law_pairs", "_law_pairs", defArgs s_L_pairs, defBody s_L_pairs, defScope s_L_pairs, [], []⟩
def d_L_told : He.DefD := ⟨("_law_told", none), "_law_told", "_law_told", defArgs s_L_told, defBody s_L_told, defScope s_L_told, [], []⟩
def d_L_steps : He.DefD := ⟨("_law_steps", none), "_law_steps", "_law_steps", defArgs s_L_steps, defBody s_L_steps, defScope s_L_steps, [], []⟩
def d_L_memory : He.DefD := ⟨("_law_memory", none), "_law_memory", "_law_memory", defArgs s_L_memory, defBody s_L_memory, defScope s_L_memory, [], []⟩
def d_L_loops : He.DefD := ⟨("_law_loops", none), "_law_loops", "_law_loops", defArgs s_L_loops, defBody s_L_loops, defScope s_L_loops, [], []⟩
def d_law : He.DefD := ⟨("law", none), "law", "law", defArgs s_law, defBody s_law, defScope s_law, [], []⟩
def fn : List He.DefD := [d_is_int, d_is_int_in, d_is_place, d_check_place, d_check_row, d_is_next, d_moved, d_Memory_init, d_Memory_call, d_Memory_len, d_Memory_eq, d_followed, d_memory_of, d_counted, d_loops, d_swings_of, d_open_swings, d_L_random, d_L_below, d_L_row, d_L_equal, d_L_pairs, d_L_told, d_L_steps, d_L_memory, d_L_loops, d_law]
def g_Memory_places : PropD := ⟨"Memory", "places", "Memory.places", defArgs s_Memory_places, defBody s_Memory_places, defScope s_Memory_places⟩
def g_Memory_place : PropD := ⟨"Memory", "place", "Memory.place", defArgs s_Memory_place, defBody s_Memory_place, defScope s_Memory_place⟩
def g_Memory_row : PropD := ⟨"Memory", "row", "Memory.row", defArgs s_Memory_row, defBody s_Memory_row, defScope s_Memory_row⟩
def gt : List PropD := [g_Memory_places, g_Memory_place, g_Memory_row]
def fa : List He.Fa := [.glo "RodError", .glo "InvalidPlace", .glo "InvalidRow", .glo "InvalidMemory", .int "FAR" (1000000), .int "MAX_ROW" (1000), .glo "is_int", .glo "is_int_in", .glo "is_place", .glo "check_place", .glo "check_row", .glo "is_next", .glo "moved", .glo "Memory", .glo "followed", .glo "memory_of", .glo "counted", .glo "loops", .glo "swings_of", .glo "open_swings", .glo "_law_random", .glo "_law_below", .glo "_law_row", .glo "_law_equal", .glo "_law_pairs", .glo "_law_told", .glo "_law_steps", .glo "_law_memory", .glo "_law_loops", .glo "law", .free "len", .free "abs", .free "min", .free "max", .free "sorted", .free "all", .free "isinstance", .free "range", .free "enumerate", .free "zip", .free "super", .free "int", .free "list", .free "tuple", .free "dict", .free "set", .free "bool", .free "str", .free "ValueError", .cls "Memory", .mkr "Memory", .noat "Memory" "told", .meth "Memory" "__init__", .meth "Memory" "__call__", .meth "Memory" "__len__", .meth "Memory" "__eq__"]
def ex (K : PySem.W.Frag) : Bool := (neIn K (He.ga K "Memory") (He.ma K (He.ga K "Memory") "__eq__") && (PySem.W.notFirst K (He.ga K "Memory") (.type "tuple") && (PySem.W.fnIn K (He.ma K (He.ga K "Memory") "__call__") && (clsAt K (He.ga K "Memory") && (Pv.expB K "InvalidPlace" && (Pv.exiB K "InvalidRow" "index" "index " && (Pv.exiB K "InvalidMemory" "index" "index " && true)))))))
abbrev SayL (K : PySem.W.Frag) (mg : Str → Option Value) : Prop := Say fa fn gt ex K mg
section
variable {K : PySem.W.Frag} {mg : Str → Option Value}
theorem S_InvalidRow (S : SayL K mg) : mg "InvalidRow" = some (.ref (He.ga K "InvalidRow")) := S.glo 2
theorem S_InvalidMemory (S : SayL K mg) : mg "InvalidMemory" = some (.ref (He.ga K "InvalidMemory")) := S.glo 3
theorem S_FAR (S : SayL K mg) : ∃ t, mg "FAR" = some (.int (1000000) t) := S.int 4
theorem S_MAX_ROW (S : SayL K mg) : ∃ t, mg "MAX_ROW" = some (.int (1000) t) := S.int 5
theorem S_Memory (S : SayL K mg) : mg "Memory" = some (.ref (He.ga K "Memory")) := S.glo 13
theorem S_law (S : SayL K mg) : mg "law" = some (.ref (He.ga K "law")) := S.glo 29
theorem S_len (S : SayL K mg) : mg "len" = none := S.free 30
theorem S_abs (S : SayL K mg) : mg "abs" = none := S.free 31
theorem S_min (S : SayL K mg) : mg "min" = none := S.free 32
theorem S_max (S : SayL K mg) : mg "max" = none := S.free 33
theorem S_sorted (S : SayL K mg) : mg "sorted" = none := S.free 34
theorem S_all (S : SayL K mg) : mg "all" = none := S.free 35
theorem S_isinstance (S : SayL K mg) : mg "isinstance" = none := S.free 36
theorem S_range (S : SayL K mg) : mg "range" = none := S.free 37
theorem S_enumerate (S : SayL K mg) : mg "enumerate" = none := S.free 38
theorem S_zip (S : SayL K mg) : mg "zip" = none := S.free 39
theorem S_super (S : SayL K mg) : mg "super" = none := S.free 40
theorem S_int (S : SayL K mg) : mg "int" = none := S.free 41
theorem S_list (S : SayL K mg) : mg "list" = none := S.free 42
theorem S_tuple (S : SayL K mg) : mg "tuple" = none := S.free 43
theorem S_dict (S : SayL K mg) : mg "dict" = none := S.free 44
theorem S_set (S : SayL K mg) : mg "set" = none := S.free 45
theorem S_bool (S : SayL K mg) : mg "bool" = none := S.free 46
theorem S_str (S : SayL K mg) : mg "str" = none := S.free 47
theorem C_Memory (S : SayL K mg) : Cls K (He.ga K "Memory") := He.cls_ok (S.c.fact 49)
theorem K_Memory (S : SayL K mg) : Mk K (He.ga K "Memory") (He.ma K (He.ga K "Memory") "__init__") := He.mkr_ok (S.c.fact 50)
theorem N_Memory_told (S : SayL K mg) : NoAttr K (He.ga K "Memory") "told" := He.noat_ok (S.c.fact 51)
theorem X_exi_InvalidRow (S : SayL K mg) : (Pv.exiB K "InvalidRow" "index" "index ") = true := (He.ba (He.ba (He.ba (He.ba (He.ba (He.ba S.more).2).2).2).2).2).1
theorem X_exi_InvalidMemory (S : SayL K mg) : (Pv.exiB K "InvalidMemory" "index" "index ") = true := (He.ba (He.ba (He.ba (He.ba (He.ba (He.ba (He.ba S.more).2).2).2).2).2).2).1
end
end Lw
namespace Lw
open PySem PySem.Spec PyProof.Rows L2 Sr Pv
abbrev R : PySem.W.OpenRow := PySem.W.OpenLaw.row PySem.Challenge.rw_slackrods_k18_closed_loops
abbrev hk : PySem.W.Hook := hookW 7 fa fn gt ex
def ob (s : PySem.W.SharedT) : AlM := obW 7 fa fn gt ex (HandSHeadRun.getT s)
theorem ob_eq (s : PySem.W.SharedT) : ob s = hk.obs s.abs := obW_eq (HandSHeadRun.getT_eq s)
def loose0 : List PySem.Str := ["RodError", "InvalidPlace", "InvalidRow", "InvalidMemory", "FAR", "MAX_ROW", "is_int", "is_int_in", "is_place", "check_place", "check_row", "is_next", "moved", "Memory", "followed", "memory_of", "counted", "loops", "swings_of", "open_swings", "_law_random", "_law_below", "_law_row", "_law_equal", "_law_pairs", "_law_told", "_law_steps", "_law_memory", "_law_loops"]
def loose : List PySem.Str := loose0
theorem run (w : World) : HandSHeadRun.RunEq R (PySem.W.view R.prog [34]) hk ob 20000 loose w := by
  intro os
  kernel_rfl
end Lw
/-! plain mathematics: memories. A memory's places are held as a list, the LAST place first. -/
namespace Mt
def iabs (a : Int) : Int := if a < 0 then -a else a
/-- the place p, moved to upward or downward, is behind b -/
def pas (up : Bool) (p b : Int) : Bool := if up then decide (b ≤ p) else decide (p ≤ b)
/-- what is popped: found (last first), heights -/
def shrink (up : Bool) (p : Int) : List Int → List Int → List Int × List Int
  | a :: b :: r, hs => if pas up p b = true then shrink up p r (hs ++ [iabs (a - b)]) else (a :: b :: r, hs)
  | [a], hs => ([a], hs)
  | [], hs => ([], hs)
def movedR (rs : List Int) (p : Int) : List Int × List Int := match rs with
  | [] => ([p], [])
  | a :: r => if p = a then (a :: r, []) else
    let up := decide (a < p)
    let f := if up = decide ((r.length + 1) % 2 = 0) then r else a :: r
    (p :: (shrink up p f []).1, (shrink up p f []).2)
def followR (rs : List Int) : List Int → List Int × List Int
  | [] => (rs, [])
  | p :: row => ((followR (movedR rs p).1 row).1, (movedR rs p).2 ++ (followR (movedR rs p).1 row).2)
theorem shrink_len (up : Bool) (p : Int) : ∀ (n : Nat) (f hs : List Int), f.length ≤ n → (shrink up p f hs).1.length ≤ f.length ∧ (shrink up p f hs).2.length ≤ hs.length + f.length
  | _, [], hs, _ => by simp [shrink]
  | _, [a], hs, _ => by simp [shrink]
  | 0, a :: b :: r, hs, h => by simp at h
  | n + 1, a :: b :: r, hs, h => by
    unfold shrink
    split
    · have ih := shrink_len up p n r (hs ++ [iabs (a - b)]) (by simp at h; omega)
      simp at ih ⊢
      omega
    · simp
theorem moved_len (rs : List Int) (p : Int) : (movedR rs p).1.length ≤ rs.length + 1 ∧ (movedR rs p).2.length ≤ rs.length := by
  cases rs with
  | nil => simp [movedR]
  | cons a r =>
    unfold movedR
    dsimp only
    split
    · simp
    · split
      · have := shrink_len (decide (a < p)) p r.length r [] (Nat.le_refl _)
        simp at this ⊢; omega
      · have := shrink_len (decide (a < p)) p (a :: r).length (a :: r) [] (Nat.le_refl _)
        simp at this ⊢; omega
theorem moved_ne (rs : List Int) (p : Int) : (movedR rs p).1 ≠ [] := by
  cases rs with
  | nil => simp [movedR]
  | cons a r =>
    unfold movedR
    dsimp only
    split
    · simp
    · simp
theorem moved_head (rs : List Int) (p : Int) : ∃ t, (movedR rs p).1 = p :: t := by
  cases rs with
  | nil => exact ⟨_, rfl⟩
  | cons a r =>
    unfold movedR
    dsimp only
    split
    · rename_i h; exact ⟨r, by rw [h]⟩
    · exact ⟨_, rfl⟩
theorem follow_len : ∀ (row rs : List Int), (followR rs row).1.length ≤ rs.length + row.length
  | [], rs => by simp [followR]
  | p :: row, rs => by
    have h1 := follow_len row (movedR rs p).1
    have h2 := moved_len rs p
    simp [followR]; omega
theorem follow_ne : ∀ (row rs : List Int), rs ≠ [] → (followR rs row).1 ≠ []
  | [], rs, h => by simpa [followR] using h
  | p :: row, rs, h => by
    simp only [followR]
    exact follow_ne row _ (moved_ne rs p)
theorem follow_append : ∀ (a b rs : List Int), followR rs (a ++ b) = ((followR (followR rs a).1 b).1, (followR rs a).2 ++ (followR (followR rs a).1 b).2)
  | [], b, rs => by simp [followR]
  | p :: a, b, rs => by
    simp only [List.cons_append, followR]
    rw [follow_append a b]
    simp
theorem follow_snoc (a : List Int) (p : Int) (rs : List Int) : followR rs (a ++ [p]) = ((movedR (followR rs a).1 p).1, (followR rs a).2 ++ (movedR (followR rs a).1 p).2) := by
  rw [follow_append]; simp [followR]
theorem shrink_cnt (up : Bool) (p : Int) : ∀ (n : Nat) (f hs : List Int), f.length ≤ n → (shrink up p f hs).1.length + 2 * (shrink up p f hs).2.length = f.length + 2 * hs.length
  | _, [], hs, _ => by simp [shrink]
  | _, [a], hs, _ => by simp [shrink]
  | 0, a :: b :: r, hs, h => by simp at h
  | n + 1, a :: b :: r, hs, h => by
    unfold shrink
    split
    · have ih := shrink_cnt up p n r (hs ++ [iabs (a - b)]) (by simp at h; omega)
      simp at ih ⊢
      omega
    · simp
theorem moved_cnt (rs : List Int) (p : Int) : (movedR rs p).1.length + 2 * (movedR rs p).2.length ≤ rs.length + 1 := by
  cases rs with
  | nil => simp [movedR]
  | cons a r =>
    unfold movedR
    dsimp only
    split
    · simp
    · split
      · have := shrink_cnt (decide (a < p)) p r.length r [] (Nat.le_refl _)
        simp at this ⊢; omega
      · have := shrink_cnt (decide (a < p)) p (a :: r).length (a :: r) [] (Nat.le_refl _)
        simp at this ⊢; omega
theorem follow_cnt : ∀ (row rs : List Int), (followR rs row).1.length + 2 * (followR rs row).2.length ≤ rs.length + row.length
  | [], rs => by simp [followR]
  | p :: row, rs => by
    have h1 := follow_cnt row (movedR rs p).1
    have h2 := moved_cnt rs p
    simp [followR]; omega
/-- whether p can follow behind the places rs (last first) -/
def isNextR : List Int → Int → Bool
  | [], p => decide (p ≤ 0)
  | [a], p => decide (a < p)
  | b :: a :: _, p => decide (min a b < p) && decide (p < max a b)
/-- a memory, last place first -/
def MemV : List Int → Prop
  | [] => True
  | a :: r => (-1000000 ≤ a ∧ a ≤ 1000000) ∧ isNextR r a = true ∧ MemV r
def MemOk (rs : List Int) : Prop := rs ≠ [] ∧ MemV rs
theorem memV_at : ∀ {rs : List Int} {k : Nat}, MemV rs → (h : k < rs.length) → (-1000000 ≤ rs[k] ∧ rs[k] ≤ 1000000) ∧ isNextR (rs.drop (k + 1)) rs[k] = true
  | a :: r, 0, m, _ => ⟨m.1, m.2.1⟩
  | a :: r, k + 1, m, h => by
    have := memV_at (rs := r) (k := k) m.2.2 (by simpa using h)
    simpa using this
theorem memV_alt : ∀ {r : List Int} {a b : Int}, MemV (b :: a :: r) → (r.length % 2 = 0 → a < b) ∧ (r.length % 2 = 1 → b < a)
  | [], a, b, m => by
    have h : decide (a < b) = true := m.2.1
    exact ⟨fun _ => of_decide_eq_true h, fun h => by simp at h⟩
  | c :: r, a, b, m => by
    have ih := memV_alt (r := r) (a := c) (b := a) m.2.2
    have h : (decide (min c a < b) && decide (b < max c a)) = true := m.2.1
    simp only [Bool.and_eq_true, decide_eq_true_eq] at h
    simp only [List.length_cons]
    constructor
    · intro e; have := ih.2 (by omega); omega
    · intro e; have := ih.1 (by omega); omega
theorem shrink_up (p : Int) : ∀ (n : Nat) (f hs : List Int), f.length ≤ n → f.length % 2 = 1 → MemV f → (∀ x t, f = x :: t → x < p) → MemV (shrink true p f hs).1 ∧ isNextR (shrink true p f hs).1 p = true ∧ (shrink true p f hs).1 ≠ []
  | _, [], hs, _, h, _, _ => by simp at h
  | _, [a], hs, _, _, m, h => by
    have := h a [] rfl
    simp [shrink, isNextR, m, this]
  | 0, a :: b :: r, hs, h, _, _, _ => by simp at h
  | n + 1, a :: b :: r, hs, h, ho, m, hx => by
    unfold shrink
    split
    · rename_i c
      have cb : b ≤ p := by simpa [pas] using c
      refine shrink_up p n r _ (by simp at h; omega) (by simp at ho; omega) m.2.2.2.2 ?_
      intro x t e
      subst e
      have := (memV_alt m.2.2).1 (by simp at ho; omega)
      omega
    · rename_i c
      have cb : p < b := by simpa [pas] using c
      have ha := hx a (b :: r) rfl
      refine ⟨m, ?_, by simp⟩
      simp only [isNextR, Bool.and_eq_true, decide_eq_true_eq]
      omega
theorem shrink_dn (p : Int) : ∀ (n : Nat) (f hs : List Int), f.length ≤ n → f.length % 2 = 0 → MemV f → (∀ x t, f = x :: t → p < x) → (f = [] → p ≤ 0) → MemV (shrink false p f hs).1 ∧ isNextR (shrink false p f hs).1 p = true
  | _, [], hs, _, h, _, _, h0 => by
    have := h0 rfl
    simp [shrink, isNextR, MemV, this]
  | _, [a], hs, _, h, m, _, _ => by simp at h
  | 0, a :: b :: r, hs, h, _, _, _, _ => by simp at h
  | n + 1, a :: b :: r, hs, h, ho, m, hx, _ => by
    unfold shrink
    split
    · rename_i c
      have cb : p ≤ b := by simpa [pas] using c
      refine shrink_dn p n r _ (by simp at h; omega) (by simp at ho; omega) m.2.2.2.2 ?_ ?_
      · intro x t e
        subst e
        have := (memV_alt m.2.2).2 (by simp at ho; omega)
        omega
      · intro e
        subst e
        have h1 : decide (b ≤ 0) = true := m.2.2.2.1
        have := of_decide_eq_true h1
        omega
    · rename_i c
      have cb : b < p := by simpa [pas] using c
      have ha := hx a (b :: r) rfl
      refine ⟨m, ?_⟩
      simp only [isNextR, Bool.and_eq_true, decide_eq_true_eq]
      omega
theorem memV_moved {rs : List Int} {p : Int} (m : MemV rs) (hne : rs ≠ []) (hp : -1000000 ≤ p ∧ p ≤ 1000000) : MemV (movedR rs p).1 := by
  cases rs with
  | nil => exact absurd rfl hne
  | cons a r =>
    unfold movedR
    dsimp only
    split
    · exact m
    · rename_i hpa
      by_cases up : a < p
      · have hu : decide (a < p) = true := decide_eq_true up
        simp only [hu]
        split
        · rename_i e
          have ev : (r.length + 1) % 2 = 0 := of_decide_eq_true e.symm
          have := shrink_up p r.length r [] (Nat.le_refl _) (by omega) m.2.2 (fun x t e => by
            subst e
            have := (memV_alt m).1 (by simp at ev; omega)
            omega)
          exact ⟨hp, this.2.1, this.1⟩
        · rename_i e
          have ev : ¬ (r.length + 1) % 2 = 0 := fun z => e (decide_eq_true z).symm
          have := shrink_up p (a :: r).length (a :: r) [] (Nat.le_refl _) (by simp; omega) m (fun x t e => by cases e; exact up)
          exact ⟨hp, this.2.1, this.1⟩
      · have hu : decide (a < p) = false := decide_eq_false up
        simp only [hu]
        split
        · rename_i e
          have ev : ¬ (r.length + 1) % 2 = 0 := of_decide_eq_false e.symm
          have := shrink_dn p r.length r [] (Nat.le_refl _) (by omega) m.2.2 (fun x t e => by
            subst e
            have := (memV_alt m).2 (by simp at ev; omega)
            omega) (fun e => by
            subst e
            have h1 : decide (a ≤ 0) = true := m.2.1
            have := of_decide_eq_true h1
            omega)
          exact ⟨hp, this.2, this.1⟩
        · rename_i e
          have ev : (r.length + 1) % 2 = 0 := by
            by_cases z : (r.length + 1) % 2 = 0
            · exact z
            · exact absurd (decide_eq_false z).symm e
          have := shrink_dn p (a :: r).length (a :: r) [] (Nat.le_refl _) (by simpa using ev) m (fun x t e => by cases e; omega) (fun e => by cases e)
          exact ⟨hp, this.2, this.1⟩
theorem memOk_follow : ∀ (row rs : List Int), MemOk rs → (∀ n ∈ row, -1000000 ≤ n ∧ n ≤ 1000000) → MemOk (followR rs row).1
  | [], rs, m, _ => m
  | p :: row, rs, m, h => by
    simp only [followR]
    exact memOk_follow row _ ⟨moved_ne rs p, memV_moved m.2 m.1 (h p (by simp))⟩ (fun n hn => h n (by simp [hn]))
theorem memOk_rest : MemOk [0] := ⟨by simp, by simp [MemV, isNextR]⟩
def memR (row : List Int) : List Int := (followR [0] row).1
/-- the row of a memory (last first) -/
def rowOf (rs : List Int) : List Int := if rs.reverse.head? = some 0 then rs.reverse.tail else rs.reverse
end Mt

/-! plain mathematics: the memory by its meaning -/
namespace Mt
/-- p is at or behind a (low: not above it) -/
def trig (low : Bool) (a p : Int) : Bool := if low then decide (p ≤ a) else decide (a ≤ p)
/-- one more place, by the places from the first on -/
def addF : Bool → List Int → Int → List Int
  | _, [], p => [p]
  | low, a :: r, p => if trig low a p = true then [p] else a :: addF (!low) r p
/-- ps are the turning places of the walk w, beginning with its lowest (low) or highest place -/
inductive LM : Bool → List Int → List Int → Prop
  | stop {low : Bool} {u : List Int} {a : Int} (h : ∀ x ∈ u ++ [a], trig low x a = true) : LM low (u ++ [a]) [a]
  | go {low : Bool} {u v : List Int} {a : Int} {ps : List Int} (h : ∀ x ∈ u ++ a :: v, trig low x a = true) (hv : v ≠ []) (hn : a ∉ v) (r : LM (!low) (a :: v) ps) : LM low (u ++ a :: v) (a :: ps)
theorem snoc_last {l m : List Int} {a b : Int} (h : l ++ [a] = m ++ [b]) : a = b := by
  have e := congrArg List.reverse h
  rw [List.reverse_append, List.reverse_append] at e
  exact (List.cons.inj e).1
theorem trig_self (low : Bool) (a : Int) : trig low a a = true := by cases low <;> simp [trig]
theorem trig_trans {low : Bool} {a b c : Int} (h1 : trig low a b = true) (h2 : trig low b c = true) : trig low a c = true := by
  cases low <;> simp [trig] at h1 h2 ⊢ <;> omega
theorem trig_total {low : Bool} {a b : Int} (h : ¬ trig low a b = true) : trig low b a = true := by
  cases low <;> simp [trig] at h ⊢ <;> omega
theorem trig_not {low : Bool} {a b : Int} (h : ¬ trig low a b = true) : trig (!low) a b = true := by
  cases low <;> simp [trig] at h ⊢ <;> omega
theorem LM.head {low : Bool} {w ps : List Int} (h : LM low w ps) : ∃ a r u v, ps = a :: r ∧ w = u ++ a :: v ∧ a ∉ v ∧ (∀ x ∈ w, trig low x a = true) ∧ ((v = [] ∧ r = []) ∨ (v ≠ [] ∧ LM (!low) (a :: v) r)) := by
  cases h with
  | stop h => exact ⟨_, [], _, [], rfl, rfl, by simp, h, .inl ⟨rfl, rfl⟩⟩
  | go h hv hn r => exact ⟨_, _, _, _, rfl, rfl, hn, h, .inr ⟨hv, r⟩⟩
theorem LM.snoc {low : Bool} {w ps : List Int} (h : LM low w ps) (p : Int) : LM low (w ++ [p]) (addF low ps p) := by
  induction h with
  | @stop low u a h =>
    unfold addF
    split
    · rename_i c
      refine LM.stop (u := u ++ [a]) fun x hx => ?_
      rcases List.mem_append.mp hx with hx | hx
      · exact trig_trans (h x hx) c
      · have : x = p := by simpa using hx
        rw [this]; exact trig_self _ _
    · rename_i c
      have e : u ++ [a] ++ [p] = u ++ a :: [p] := by simp
      rw [e]
      refine LM.go (fun x hx => ?_) (by simp) ?_ ?_
      · rcases List.mem_append.mp hx with hx | hx
        · exact h x (by simp [hx])
        · rcases List.mem_cons.mp hx with hx | hx
          · rw [hx]; exact trig_self _ _
          · have : x = p := by simpa using hx
            rw [this]; exact trig_total c
      · intro z
        have : a = p := by simpa using z
        rw [this] at c
        exact c (trig_self _ _)
      · show LM (!low) ([a] ++ [p]) (addF (!low) [] p)
        refine LM.stop fun x hx => ?_
        have : x = a ∨ x = p := by simpa using hx
        rcases this with e | e
        · rw [e]; exact trig_not c
        · rw [e]; exact trig_self _ _
  | @go low u v a ps h hv hn r ih =>
    unfold addF
    split
    · rename_i c
      have e : u ++ a :: v ++ [p] = (u ++ a :: v) ++ [p] := rfl
      refine LM.stop (u := u ++ a :: v) fun x hx => ?_
      rcases List.mem_append.mp hx with hx | hx
      · exact trig_trans (h x hx) c
      · have : x = p := by simpa using hx
        rw [this]; exact trig_self _ _
    · rename_i c
      have e : u ++ a :: v ++ [p] = u ++ a :: (v ++ [p]) := by simp
      rw [e]
      refine LM.go (fun x hx => ?_) (by simp) ?_ ih
      · have hx' : x ∈ (u ++ a :: v) ++ [p] := by simpa using hx
        rcases List.mem_append.mp hx' with hx | hx
        · exact h x hx
        · have : x = p := by simpa using hx
          rw [this]; exact trig_total c
      · intro z
        rcases List.mem_append.mp z with z | z
        · exact hn z
        · have : a = p := by simpa using z
          rw [this] at c
          exact c (trig_self _ _)
/-- none of the places (last first) is met by p -/
def Ins : List Int → Int → Prop
  | [], _ => True
  | a :: r, p => ¬ trig (decide (r.length % 2 = 0)) a p = true ∧ Ins r p
theorem addF_app : ∀ (f g : List Int) (p : Int), Ins f p → addF true (f.reverse ++ g) p = f.reverse ++ addF (decide (f.length % 2 = 0)) g p
  | [], g, p, _ => rfl
  | a :: r, g, p, h => by
    rw [List.reverse_cons, List.append_assoc, addF_app r ([a] ++ g) p h.2]
    show r.reverse ++ addF _ (a :: g) p = _
    rw [addF, if_neg h.1]
    simp only [List.length_cons, List.append_assoc, List.cons_append, List.nil_append]
    have e : (!decide (r.length % 2 = 0)) = decide ((r.length + 1) % 2 = 0) := by
      by_cases c : r.length % 2 = 0
      · have : ¬ (r.length + 1) % 2 = 0 := by omega
        simp [c, this]
      · have : (r.length + 1) % 2 = 0 := by omega
        simp [c, this]
    rw [e]
theorem ins_of : ∀ {f : List Int} {p : Int}, MemV f → isNextR f p = true → Ins f p
  | [], p, _, _ => trivial
  | [a], p, _, h => by
    have h : decide (a < p) = true := h
    have := of_decide_eq_true h
    refine ⟨?_, trivial⟩
    simp [trig]; exact this
  | b :: a :: r, p, m, h => by
    have alt := memV_alt m
    have h' : (decide (min a b < p) && decide (p < max a b)) = true := h
    simp only [Bool.and_eq_true, decide_eq_true_eq] at h'
    have hb : ¬ trig (decide ((r.length + 1) % 2 = 0)) b p = true := by
      by_cases c : r.length % 2 = 0
      · have c' : ¬ (r.length + 1) % 2 = 0 := by omega
        have := alt.1 c
        simp [trig, c']; omega
      · have c' : (r.length + 1) % 2 = 0 := by omega
        have := alt.2 (by omega)
        simp [trig, c']; omega
    refine ⟨hb, ?_⟩
    refine ins_of m.2.2 ?_
    cases r with
    | nil =>
      have := alt.1 rfl
      show decide (a < p) = true
      exact decide_eq_true (by omega)
    | cons c r =>
      have hb2 : (decide (min c a < b) && decide (b < max c a)) = true := m.2.1
      simp only [Bool.and_eq_true, decide_eq_true_eq] at hb2
      show (decide (min c a < p) && decide (p < max c a)) = true
      simp only [Bool.and_eq_true, decide_eq_true_eq]
      simp only [List.length_cons] at alt
      by_cases z : (r.length + 1) % 2 = 0
      · have := alt.1 z
        have := (memV_alt m.2.2).2 (by omega)
        omega
      · have := alt.2 (by omega)
        have := (memV_alt m.2.2).1 (by omega)
        omega
/-- what is left of the places is a beginning of them, and the first one that went was met -/
theorem shrink_suf (up : Bool) (p : Int) : ∀ (n : Nat) (f hs : List Int), f.length ≤ n → (up = true → f.length % 2 = 1) → (up = false → f.length % 2 = 0) →
    ∃ g, f = g ++ (shrink up p f hs).1 ∧ ∀ z a, g = z ++ [a] → trig (decide ((shrink up p f hs).1.length % 2 = 0)) a p = true
  | _, [], hs, _, _, _ => ⟨[], by simp [shrink], by simp⟩
  | _, [a], hs, _, _, _ => ⟨[], by simp [shrink], by simp⟩
  | 0, a :: b :: r, hs, h, _, _ => by simp at h
  | n + 1, a :: b :: r, hs, h, h1, h0 => by
    unfold shrink
    split
    · rename_i c
      obtain ⟨g, e, t⟩ := shrink_suf up p n r (hs ++ [iabs (a - b)]) (by simp at h; omega) (fun z => by have := h1 z; simp at this; omega) (fun z => by have := h0 z; simp at this; omega)
      refine ⟨a :: b :: g, by rw [List.cons_append, List.cons_append, ← e], fun z x hz => ?_⟩
      rcases List.eq_nil_or_concat g with hg | ⟨g', y, hg⟩
      · subst hg
        have er : (shrink up p r (hs ++ [iabs (a - b)])).1 = r := by simpa using e.symm
        have hz' : [a] ++ [b] = z ++ [x] := by simpa using hz
        have exb : b = x := by
          have := congrArg List.getLast? hz'
          simpa using this
        subst exb
        rw [er]
        cases up with
        | true =>
          have := h1 rfl
          have cz : ¬ r.length % 2 = 0 := by simp at this; omega
          simp only [cz, decide_false]
          simpa [trig, pas] using c
        | false =>
          have := h0 rfl
          have cz : r.length % 2 = 0 := by simp at this; omega
          simp only [cz, decide_true]
          simpa [trig, pas] using c
      · have hg2 : g = g' ++ [y] := by simpa using hg
        refine t g' x ?_
        have hz' : a :: b :: g' ++ [y] = z ++ [x] := by rw [← hz, hg2]; simp
        have : y = x := snoc_last (l := a :: b :: g') hz'
        rw [hg2, this]
    · exact ⟨[], rfl, by simp⟩
theorem moved_addF {rs : List Int} {p : Int} (m : MemV rs) (hne : rs ≠ []) (hp : -1000000 ≤ p ∧ p ≤ 1000000) : (movedR rs p).1.reverse = addF true rs.reverse p := by
  have mm := memV_moved m hne hp
  cases rs with
  | nil => exact absurd rfl hne
  | cons a r =>
    by_cases hpa : p = a
    · have e : (movedR (a :: r) p).1 = a :: r := by simp [movedR, hpa]
      rw [e]
      have hi := ins_of m.2.2 m.2.1
      rw [List.reverse_cons, hpa, addF_app r [a] a hi]
      rw [addF, if_pos (trig_self _ _)]
    · -- a beginning f of the places, and p
      have key : ∃ f g, a :: r = g ++ f ∧ (movedR (a :: r) p).1 = p :: f ∧ ∀ z x, g = z ++ [x] → trig (decide (f.length % 2 = 0)) x p = true := by
        unfold movedR
        dsimp only
        rw [if_neg hpa]
        by_cases c : decide (a < p) = decide ((r.length + 1) % 2 = 0)
        · rw [if_pos c]
          obtain ⟨g, e, t⟩ := shrink_suf (decide (a < p)) p r.length r [] (Nat.le_refl _) (fun z => by rw [c] at z; have := of_decide_eq_true z; omega) (fun z => by rw [c] at z; have := of_decide_eq_false z; omega)
          refine ⟨_, a :: g, by rw [List.cons_append, ← e], rfl, fun z x hz => ?_⟩
          rcases List.eq_nil_or_concat g with hg | ⟨g', y, hg⟩
          · subst hg
            have er : (shrink (decide (a < p)) p r []).1 = r := by simpa using e.symm
            have hz' : [] ++ [a] = z ++ [x] := by simpa using hz
            have exb : a = x := by
              have := congrArg List.getLast? hz'
              simpa using this
            subst exb
            rw [er]
            by_cases up : a < p
            · have : (r.length + 1) % 2 = 0 := by rw [decide_eq_true up] at c; exact of_decide_eq_true c.symm
              have cz : ¬ r.length % 2 = 0 := by omega
              simp only [cz, decide_false, trig]
              simp; omega
            · have : ¬ (r.length + 1) % 2 = 0 := by rw [decide_eq_false up] at c; exact of_decide_eq_false c.symm
              have cz : r.length % 2 = 0 := by omega
              simp only [cz, decide_true, trig]
              simp; omega
          · have hg2 : g = g' ++ [y] := by simpa using hg
            refine t g' x ?_
            have hz' : a :: g' ++ [y] = z ++ [x] := by rw [← hz, hg2]; simp
            have : y = x := snoc_last (l := a :: g') hz'
            rw [hg2, this]
        · rw [if_neg c]
          obtain ⟨g, e, t⟩ := shrink_suf (decide (a < p)) p (a :: r).length (a :: r) [] (Nat.le_refl _) (fun z => by
              simp only [List.length_cons]
              by_cases q : (r.length + 1) % 2 = 0
              · exact absurd (by rw [z, decide_eq_true q]) c
              · omega) (fun z => by
              simp only [List.length_cons]
              by_cases q : (r.length + 1) % 2 = 0
              · exact q
              · exact absurd (by rw [z, decide_eq_false q]) c)
          exact ⟨_, g, e, rfl, t⟩
      obtain ⟨f, g, e, em, t⟩ := key
      rw [em] at mm ⊢
      have hi := ins_of mm.2.2 mm.2.1
      have er : (a :: r).reverse = f.reverse ++ g.reverse := by rw [e, List.reverse_append]
      rw [er, addF_app f g.reverse p hi, List.reverse_cons]
      rcases List.eq_nil_or_concat g with hg | ⟨g', y, hg⟩
      · subst hg; rfl
      · have hg2 : g = g' ++ [y] := by simpa using hg
        have := t g' y hg2
        rw [hg2]
        simp only [List.reverse_append, List.reverse_cons, List.reverse_nil, List.nil_append, List.cons_append]
        rw [addF, if_pos this]
theorem memR_snoc (row : List Int) (p : Int) : memR (row ++ [p]) = (movedR (memR row) p).1 := by
  unfold memR; rw [follow_snoc]
theorem memR_ok {row : List Int} (h : ∀ n ∈ row, -1000000 ≤ n ∧ n ≤ 1000000) : MemOk (memR row) := memOk_follow row [0] memOk_rest h
theorem memR_LM (n : Nat) : ∀ {row : List Int}, row.length = n → (∀ n ∈ row, -1000000 ≤ n ∧ n ≤ 1000000) → LM true (0 :: row) (memR row).reverse := by
  induction n with
  | zero =>
    intro row hl _
    have : row = [] := List.eq_nil_of_length_eq_zero hl
    subst this
    show LM true ([] ++ [0]) [0]
    exact LM.stop (fun x hx => by
      have : x = 0 := by simpa using hx
      rw [this]; exact trig_self _ _)
  | succ n ih =>
    intro row hl h
    rcases List.eq_nil_or_concat row with hr | ⟨q, p, hr⟩
    · subst hr; simp at hl
    · have hr2 : row = q ++ [p] := by simpa using hr
      subst hr2
      have hq : ∀ n ∈ q, -1000000 ≤ n ∧ n ≤ 1000000 := fun n hn => h n (by simp [hn])
      have ok := memR_ok hq
      rw [memR_snoc, moved_addF ok.2 ok.1 (h p (by simp))]
      exact LM.snoc (ih (by simpa using hl) hq) p
end Mt

/-! plain mathematics: rows of memories -/
namespace Mt
theorem rev_inj {a b : List Int} (h : a.reverse = b.reverse) : a = b := by
  have := congrArg List.reverse h
  simpa using this
/-- a move to a place that can follow -/
theorem moved_next {r : List Int} {p : Int} (m : MemV (p :: r)) (hne : r ≠ []) : (movedR r p).1 = p :: r := by
  apply rev_inj
  rw [moved_addF m.2.2 hne m.1]
  have h := addF_app r [] p (ins_of m.2.2 m.2.1)
  rw [List.append_nil] at h
  rw [h, List.reverse_cons]; rfl
/-- how many moves the row of a memory has -/
def wt (rs : List Int) : Nat := (rowOf rs).length
/-- places in turn, from a memory that they go on from -/
theorem follow_places : ∀ (qs rs : List Int), rs ≠ [] → MemV (qs.reverse ++ rs) → (followR rs qs).1 = qs.reverse ++ rs
  | [], rs, _, _ => rfl
  | p :: qs, rs, h, m => by
    have e : (p :: qs).reverse ++ rs = qs.reverse ++ (p :: rs) := by simp
    rw [e] at m ⊢
    have tail : ∀ (a b : List Int), MemV (a ++ b) → MemV b := by
      intro a
      induction a with
      | nil => intro b h; exact h
      | cons x a ih => intro b h; exact ih b h.2.2
    have mp := tail qs.reverse (p :: rs) m
    simp only [followR]
    rw [moved_next mp h]
    exact follow_places qs (p :: rs) (by simp) m
theorem memR_row {rs : List Int} (m : MemOk rs) : memR (rowOf rs) = rs := by
  obtain ⟨hne, hv⟩ := m
  have hne' : rs.reverse ≠ [] := by simpa using hne
  obtain ⟨a, r, hr⟩ := List.exists_cons_of_ne_nil hne'
  have hrs : rs = r.reverse ++ [a] := by
    have := congrArg List.reverse hr
    simpa using this
  have hmem : ∀ (l : List Int), MemV (l ++ [a]) → (-1000000 ≤ a ∧ a ≤ 1000000) ∧ a ≤ 0 := by
    intro l
    induction l with
    | nil => intro h; exact ⟨h.1, of_decide_eq_true h.2.1⟩
    | cons x l ih => intro h; exact ih h.2.2
  have ha := hmem r.reverse (by rw [← hrs]; exact hv)
  unfold rowOf
  rw [hr]
  by_cases h0 : a = 0
  · subst h0
    simp only [List.head?_cons, List.tail_cons, if_true]
    unfold memR
    rw [follow_places r [0] (by simp) (by rw [← hrs]; exact hv), ← hrs]
  · have : ¬ ((a :: r).head? = some 0) := by simpa using h0
    rw [if_neg this]
    unfold memR
    simp only [followR]
    have em : (movedR [0] a).1 = [a] := by
      apply rev_inj
      rw [moved_addF memOk_rest.2 memOk_rest.1 ha.1]
      show addF true [0] a = [a]
      rw [addF, if_pos (by simp [trig]; exact ha.2)]
    rw [em, follow_places r [a] (by simp) (by rw [← hrs]; exact hv), ← hrs]
theorem memR_len (row : List Int) : (memR row).length ≤ row.length + 1 := by
  have := follow_len row [0]
  simp at this
  unfold memR
  omega
end Mt

/-! plain mathematics: fewest moves between memories (places from the first on) -/
namespace Mt
def goF (ps ws : List Int) : Nat → Option (List Int)
  | 0 => none
  | c + 1 => if addF true ps (ws.getD c 0) = ws.take (c + 1) then some (ws.drop c) else goF ps ws c
/-- the moves that are found -/
def fewF (ps ws : List Int) : Option (List Int) := if ps = ws then some [] else goF ps ws ws.length
def fl (rs gs : List Int) : Nat := ((fewF rs.reverse gs.reverse).getD []).length
end Mt

/-! plain mathematics: arms, curves, ends -/
namespace Mt
/-- max(0, x) -/
def pos (x : Int) : Int := if 0 < x then x else 0
def curveA (arms : List (Int × Int)) (h : Int) : Int := (arms.map fun a => a.2 * pos (h - a.1)).sum
def pullA (arms : List (Int × Int)) : Int := (arms.map fun a => a.2).sum
/-- the sum over the swings, places from the first on -/
def swings (arms : List (Int × Int)) : Int → List Int → Int
  | sg, a :: b :: r => sg * curveA arms (iabs (b - a)) + swings arms (0 - sg) (b :: r)
  | _, _ => 0
def endA (arms : List (Int × Int)) (ps : List Int) : Int := ps.getD 0 0 * pullA arms + swings arms 1 ps
/-- places that swing, each swing less than the one before -/
def Zig : Bool → List Int → Prop
  | up, a :: b :: c :: r => (if up then a < c ∧ c < b else b < c ∧ c < a) ∧ Zig (!up) (b :: c :: r)
  | up, [a, b] => if up then a < b else b < a
  | _, _ => True
theorem Zig.two {up : Bool} {a b : Int} : ∀ {r : List Int}, Zig up (a :: b :: r) → if up then a < b else b < a
  | [], h => h
  | c :: r, h => by
    have := h.1
    cases up <;> simp at this ⊢ <;> omega
theorem Zig.tail {up : Bool} {a b : Int} : ∀ {r : List Int}, Zig up (a :: b :: r) → Zig (!up) (b :: r)
  | [], _ => trivial
  | _ :: _, h => h.2
theorem Zig.snoc : ∀ {l : List Int} {up : Bool} {x y z : Int}, Zig up (l ++ [x, y]) → (min x y < z ∧ z < max x y) → Zig up (l ++ [x, y, z])
  | [], up, x, y, z, h, hz => by
    have h' : if up then x < y else y < x := h
    refine ⟨?_, ?_⟩
    · cases up <;> simp at h' ⊢ <;> omega
    · show if !up then y < z else z < y
      cases up <;> simp at h' ⊢ <;> omega
  | [a], up, x, y, z, h, hz => by
    obtain ⟨h1, h2⟩ := h
    exact ⟨h1, Zig.snoc (l := []) h2 hz⟩
  | a :: b :: l, up, x, y, z, h, hz => by
    cases l with
    | nil =>
      obtain ⟨h1, h2⟩ := h
      exact ⟨h1, Zig.snoc (l := [b]) h2 hz⟩
    | cons c l =>
      obtain ⟨h1, h2⟩ := h
      exact ⟨h1, Zig.snoc (l := b :: c :: l) h2 hz⟩
theorem zig_memV : ∀ {rs : List Int}, MemV rs → Zig true rs.reverse
  | [], _ => trivial
  | [a], _ => trivial
  | [b, a], h => by
    have := (memV_alt h).1 rfl
    show if true = true then a < b else b < a
    rw [if_pos rfl]; exact this
  | z :: y :: x :: r, h => by
    have ih := zig_memV h.2.2
    have hz := h.2.1
    simp only [isNextR, Bool.and_eq_true, decide_eq_true_eq] at hz
    rw [List.reverse_cons, List.reverse_cons] at ih
    rw [List.reverse_cons, List.reverse_cons, List.reverse_cons]
    simp only [List.append_assoc, List.singleton_append] at ih ⊢
    exact Zig.snoc ih (by omega)
/-- the swings of one rod -/
def Tr (s : Int) : List Int → Int
  | a :: b :: r => pos (iabs (b - a) - s) - Tr s (b :: r)
  | _ => 0
theorem curve_rod (s h : Int) : curveA [(s, 1)] h = pos (h - s) := by simp [curveA]
theorem swings_rod (s : Int) : ∀ (l : List Int) (sg : Int), swings [(s, 1)] sg l = sg * Tr s l
  | [], sg => by simp [swings, Tr]
  | [a], sg => by simp [swings, Tr]
  | a :: b :: r, sg => by
    show sg * curveA [(s, 1)] (iabs (b - a)) + swings [(s, 1)] (0 - sg) (b :: r) = sg * (pos (iabs (b - a) - s) - Tr s (b :: r))
    rw [swings_rod s (b :: r) (0 - sg), curve_rod, Int.mul_sub, Int.sub_mul, Int.zero_mul]
    omega
theorem end_rod (s : Int) (ps : List Int) : endA [(s, 1)] ps = ps.getD 0 0 + Tr s ps := by
  unfold endA
  rw [swings_rod]
  simp [pullA]
/-- the first swing bounds it; one more slack takes 0 or 1 away -/
theorem Tr_bound (s : Int) : ∀ {r : List Int} {a b : Int} {up : Bool}, Zig up (a :: b :: r) → (0 ≤ Tr s (a :: b :: r) ∧ Tr s (a :: b :: r) ≤ pos (iabs (b - a) - s)) ∧
    (0 ≤ Tr s (a :: b :: r) - Tr (s + 1) (a :: b :: r) ∧ Tr s (a :: b :: r) - Tr (s + 1) (a :: b :: r) ≤ (if s < iabs (b - a) then 1 else 0))
  | [], a, b, up, h => by
    simp only [Tr, pos]
    constructor <;> constructor <;> (repeat' split) <;> omega
  | c :: r, a, b, up, h => by
    have ih := Tr_bound s h.2
    have h1 := h.1
    have e : ∀ s, Tr s (a :: b :: c :: r) = pos (iabs (b - a) - s) - Tr s (b :: c :: r) := fun _ => rfl
    rw [e s, e (s + 1)]
    have hh : iabs (c - b) < iabs (b - a) := by
      unfold iabs
      cases up <;> simp at h1 <;> (repeat' split) <;> omega
    obtain ⟨⟨i1, i2⟩, i3, i4⟩ := ih
    simp only [pos] at i2 ⊢
    constructor <;> constructor <;> (repeat' split at *) <;> omega
theorem Tr_zero {s : Int} : ∀ {r : List Int} {a b : Int} {up : Bool}, Zig up (a :: b :: r) → iabs (b - a) ≤ s → Tr s (a :: b :: r) = 0 := by
  intro r a b up h hs
  have := (Tr_bound s h).1
  simp only [pos] at this
  split at this <;> omega
theorem Zig.pos {up : Bool} {a b : Int} {r : List Int} (h : Zig up (a :: b :: r)) : 1 ≤ iabs (b - a) := by
  have := h.two
  unfold iabs
  cases up <;> simp at this <;> split <;> omega
/-- the end of the rod with slack s at a memory (last place first) -/
def rodE (rs : List Int) (s : Int) : Int := endA [(s, 1)] rs.reverse
theorem rowOf_mem {rs : List Int} {x : Int} (h : x ∈ rowOf rs) : x ∈ rs := by
  unfold rowOf at h
  split at h
  · exact List.mem_reverse.mp (List.mem_of_mem_tail h)
  · exact List.mem_reverse.mp h
end Mt

/-! plain maths of arms and curves -/
namespace Rg
abbrev Arms := List (Int × Int)
def pos (x : Int) : Int := if x > 0 then x else 0
def cv (a : Arms) (h : Int) : Int := (a.map fun p => p.2 * pos (h - p.1)).sum
def pull (a : Arms) : Int := (a.map fun p => p.2).sum
def Canon (a : Arms) : Prop := a.Pairwise (fun p q => p.1 < q.1) ∧ ∀ p ∈ a, 0 ≤ p.1 ∧ p.2 ≠ 0
theorem pos_of_le {x : Int} (h : x ≤ 0) : pos x = 0 := by unfold pos; split <;> omega
theorem pos_of_ge {x : Int} (h : 0 ≤ x) : pos x = x := by unfold pos; split <;> omega
@[simp] theorem cv_nil (h : Int) : cv [] h = 0 := rfl
@[simp] theorem cv_cons (p : Int × Int) (a : Arms) (h : Int) : cv (p :: a) h = p.2 * pos (h - p.1) + cv a h := by simp [cv]
@[simp] theorem pull_nil : pull [] = 0 := rfl
@[simp] theorem pull_cons (p : Int × Int) (a : Arms) : pull (p :: a) = p.2 + pull a := by simp [pull]
theorem cv_zero_of {a : Arms} {h : Int} (hs : ∀ p ∈ a, h ≤ p.1) : cv a h = 0 := by
  induction a with
  | nil => rfl
  | cons p a ih =>
    rw [cv_cons, ih fun q hq => hs q (List.mem_cons_of_mem _ hq), pos_of_le (by have := hs p (by simp); omega)]
    simp
theorem Canon.tail {p : Int × Int} {a : Arms} (h : Canon (p :: a)) : Canon a := ⟨(List.pairwise_cons.mp h.1).2, fun q hq => h.2 q (List.mem_cons_of_mem _ hq)⟩
theorem Canon.first {p : Int × Int} {a : Arms} (h : Canon (p :: a)) : cv (p :: a) (p.1 + 1) = p.2 := by
  rw [cv_cons, cv_zero_of fun q hq => by have := (List.pairwise_cons.mp h.1).1 q hq; omega, show p.1 + 1 - p.1 = 1 by omega]
  simp [pos]
theorem Canon.zero (a : Arms) (h : Canon a) : cv a 0 = 0 := cv_zero_of fun p hp => (h.2 p hp).1
/-! ### sums over a table of weights -/
/-- a sum over the entries -/
def sm (φ : Int → Int) (a : Arms) : Int := (a.map fun p => p.2 * φ p.1).sum
@[simp] theorem sm_nil (φ : Int → Int) : sm φ [] = 0 := rfl
@[simp] theorem sm_cons (φ : Int → Int) (p : Int × Int) (a : Arms) : sm φ (p :: a) = p.2 * φ p.1 + sm φ a := by simp [sm]
theorem sm_append (φ : Int → Int) (a b : Arms) : sm φ (a ++ b) = sm φ a + sm φ b := by simp [sm]
theorem cv_sm (a : Arms) (h : Int) : cv a h = sm (fun s => pos (h - s)) a := rfl
theorem sm_perm {φ : Int → Int} {a b : Arms} (h : a.Perm b) : sm φ a = sm φ b := by
  induction h with
  | nil => rfl
  | cons x _ ih => simp [ih]
  | swap x y l => simp; omega
  | trans _ _ ih1 ih2 => rw [ih1, ih2]
theorem pull_sm (a : Arms) : pull a = sm (fun _ => 1) a := by
  induction a with
  | nil => rfl
  | cons p a ih => simp [ih]
def look (ws : Arms) (s : Int) : Int := match ws.find? (fun p => decide (p.1 = s)) with
  | some p => p.2
  | none => 0
def isort (ks : List Int) : List Int := ks.mergeSort (fun a b => decide (a ≤ b))
theorem isort_perm (ks : List Int) : (isort ks).Perm ks := List.mergeSort_perm ks _
theorem isort_sorted (ks : List Int) : (isort ks).Pairwise (· ≤ ·) := by
  have := List.pairwise_mergeSort (le := fun a b : Int => decide (a ≤ b)) (fun a b c h1 h2 => by simp at *; omega) (fun a b => by simp; omega) ks
  exact this.imp (by intro a b h; simpa using h)
def srt (ws : Arms) : Arms := ((isort (ws.map (·.1))).map fun s => (s, look ws s)).filter fun p => decide (p.2 ≠ 0)
theorem look_cons (p : Int × Int) (ws : Arms) (s : Int) : look (p :: ws) s = if p.1 = s then p.2 else look ws s := by
  unfold look
  rw [List.find?_cons]
  by_cases h : p.1 = s <;> simp [h]
theorem look_mem {ws : Arms} (hn : (ws.map (·.1)).Nodup) {p : Int × Int} (hp : p ∈ ws) : look ws p.1 = p.2 := by
  induction ws with
  | nil => cases hp
  | cons q ws ih =>
    rw [List.map_cons, List.nodup_cons] at hn
    rw [look_cons]
    rcases List.mem_cons.mp hp with rfl | hp
    · simp
    · have : q.1 ≠ p.1 := fun e => hn.1 (by rw [e]; exact List.mem_map.mpr ⟨p, hp, rfl⟩)
      rw [if_neg this, ih hn.2 hp]
theorem look_map {ws : Arms} (hn : (ws.map (·.1)).Nodup) : (ws.map (·.1)).map (fun s => (s, look ws s)) = ws := by
  rw [List.map_map]
  conv => rhs; rw [← List.map_id ws]
  apply List.map_congr_left
  intro p hp
  simp [look_mem hn hp]
theorem sm_filter (φ : Int → Int) (a : Arms) : sm φ (a.filter fun p => decide (p.2 ≠ 0)) = sm φ a := by
  induction a with
  | nil => rfl
  | cons p a ih =>
    by_cases h : p.2 = 0
    · rw [List.filter_cons_of_neg (by simp [h]), sm_cons, ih, h]; simp
    · rw [List.filter_cons_of_pos (by simp [h]), sm_cons, sm_cons, ih]
theorem sm_srt (φ : Int → Int) {ws : Arms} (hn : (ws.map (·.1)).Nodup) : sm φ (srt ws) = sm φ ws := by
  unfold srt
  rw [sm_filter]
  have : ((isort (ws.map (·.1))).map fun s => (s, look ws s)).Perm ws := by
    have := (isort_perm (ws.map (·.1))).map fun s => (s, look ws s)
    rw [look_map hn] at this
    exact this
  exact sm_perm this
theorem srt_canon {ws : Arms} (hn : (ws.map (·.1)).Nodup) (h0 : ∀ p ∈ ws, 0 ≤ p.1) : Canon (srt ws) := by
  have hperm := isort_perm (ws.map (·.1))
  have hnd : (isort (ws.map (·.1))).Nodup := hperm.nodup_iff.mpr hn
  have hlt : (isort (ws.map (·.1))).Pairwise (· < ·) := by
    have h1 := isort_sorted (ws.map (·.1))
    exact (List.pairwise_and_iff.mpr ⟨h1, hnd⟩).imp (by intro a b h; have := h.1; have := h.2; omega)
  refine ⟨?_, fun p hp => ?_⟩
  · refine List.Pairwise.filter _ ?_
    exact List.pairwise_map.mpr hlt
  · obtain ⟨h1, h2⟩ := List.mem_filter.mp hp
    obtain ⟨s, hs, rfl⟩ := List.mem_map.mp h1
    have : s ∈ ws.map (·.1) := hperm.mem_iff.mp hs
    obtain ⟨q, hq, rfl⟩ := List.mem_map.mp this
    exact ⟨h0 q hq, by simpa using h2⟩
theorem srt_mem {ws : Arms} {p : Int × Int} (hp : p ∈ srt ws) : (∃ q ∈ ws, q.1 = p.1) ∧ p.2 = look ws p.1 := by
  obtain ⟨h1, h2⟩ := List.mem_filter.mp hp
  obtain ⟨s, hs, rfl⟩ := List.mem_map.mp h1
  have : s ∈ ws.map (·.1) := (isort_perm _).mem_iff.mp hs
  obtain ⟨q, hq, e⟩ := List.mem_map.mp this
  exact ⟨⟨q, hq, e⟩, rfl⟩
theorem srt_len (ws : Arms) : (srt ws).length ≤ ws.length := by
  refine Nat.le_trans (List.length_filter_le _ _) ?_
  rw [List.length_map, (isort_perm _).length_eq, List.length_map]
  exact Nat.le_refl _
/-! ### a table that is written -/
def put (ws : Arms) (s w : Int) : Arms := if (ws.any fun p => decide (p.1 = s)) = true then ws.map (fun p => if p.1 = s then (p.1, w) else p) else ws ++ [(s, w)]
theorem put_keys (ws : Arms) (s w : Int) : (put ws s w).map (·.1) = if s ∈ ws.map (·.1) then ws.map (·.1) else ws.map (·.1) ++ [s] := by
  unfold put
  have e : ((ws.any fun p => decide (p.1 = s)) = true) ↔ s ∈ ws.map (·.1) := by simp
  by_cases h : s ∈ ws.map (·.1)
  · rw [if_pos (e.mpr h), if_pos h, List.map_map]
    apply List.map_congr_left
    intro p _
    simp only [Function.comp]
    split <;> rfl
  · rw [if_neg (fun z => h (e.mp z)), if_neg h, List.map_append]; rfl
theorem put_nodup {ws : Arms} (hn : (ws.map (·.1)).Nodup) (s w : Int) : ((put ws s w).map (·.1)).Nodup := by
  rw [put_keys]
  split
  · exact hn
  · rename_i h
    exact List.nodup_append.mpr ⟨hn, by simp, fun a ha b hb => by
      have : b = s := by simpa using hb
      subst this
      exact fun z => h (z ▸ ha)⟩
theorem sm_put (φ : Int → Int) {ws : Arms} (hn : (ws.map (·.1)).Nodup) (s w : Int) : sm φ (put ws s w) = sm φ ws + (w - look ws s) * φ s := by
  unfold put
  by_cases h : s ∈ ws.map (·.1)
  · rw [if_pos (by simpa using h)]
    induction ws with
    | nil => simp at h
    | cons p ws ih =>
      rw [List.map_cons, List.nodup_cons] at hn
      rw [List.map_cons, sm_cons, sm_cons, look_cons]
      by_cases e : p.1 = s
      · have hns : s ∉ ws.map (·.1) := e ▸ hn.1
        have : ws.map (fun p => if p.1 = s then (p.1, w) else p) = ws := by
          conv => rhs; rw [← List.map_id ws]
          apply List.map_congr_left
          intro q hq
          have : q.1 ≠ s := fun z => hns (z ▸ List.mem_map.mpr ⟨q, hq, rfl⟩)
          simp [this]
        rw [this]
        simp only [e, if_true]
        rw [Int.sub_mul]; omega
      · simp only [e, if_false]
        have hm : s ∈ ws.map (·.1) := by
          rcases List.mem_cons.mp h with z | z
          · exact absurd z.symm e
          · exact z
        rw [ih hn.2 hm]; omega
  · rw [if_neg (by simpa using h), sm_append, sm_cons, sm_nil]
    have : look ws s = 0 := by
      unfold look
      have : ws.find? (fun p => decide (p.1 = s)) = none := List.find?_eq_none.mpr fun p hp => by
        have : p.1 ≠ s := fun z => h (z ▸ List.mem_map.mpr ⟨p, hp, rfl⟩)
        simpa using this
      rw [this]
    rw [this]; simp
/-! ### sums of rigs -/
def addW (a b : Arms) (t : Int) : Arms := b.foldl (fun ws p => put ws p.1 (look ws p.1 + t * p.2)) a
theorem addW_ok (φ : Int → Int) (t : Int) : ∀ {b a : Arms}, (a.map (·.1)).Nodup → ((addW a b t).map (·.1)).Nodup ∧ sm φ (addW a b t) = sm φ a + t * sm φ b
  | [], a, hn => ⟨hn, by simp [addW]⟩
  | p :: b, a, hn => by
    obtain ⟨h1, h2⟩ := addW_ok φ t (b := b) (put_nodup hn p.1 (look a p.1 + t * p.2))
    refine ⟨h1, ?_⟩
    show sm φ (addW (put a p.1 (look a p.1 + t * p.2)) b t) = _
    rw [h2, sm_put φ hn, sm_cons, Int.mul_add]
    have : (look a p.1 + t * p.2 - look a p.1) * φ p.1 = t * (p.2 * φ p.1) := by
      rw [show look a p.1 + t * p.2 - look a p.1 = t * p.2 by omega, Int.mul_assoc]
    omega
theorem put_mem {ws : Arms} {s w : Int} {p : Int × Int} (h : p ∈ put ws s w) : p.1 = s ∨ p ∈ ws := by
  unfold put at h
  split at h
  · obtain ⟨q, hq, rfl⟩ := List.mem_map.mp h
    split
    · rename_i e; exact .inl e
    · exact .inr hq
  · rcases List.mem_append.mp h with h | h
    · exact .inr h
    · have : p = (s, w) := by simpa using h
      exact .inl (by rw [this])
theorem addW_keys (t : Int) : ∀ {b a : Arms} {p : Int × Int}, p ∈ addW a b t → (∃ q ∈ a, q.1 = p.1) ∨ ∃ q ∈ b, q.1 = p.1
  | [], a, p, h => .inl ⟨p, h, rfl⟩
  | q :: b, a, p, h => by
    rcases addW_keys t (b := b) h with ⟨r, hr, e⟩ | ⟨r, hr, e⟩
    · rcases put_mem hr with z | z
      · exact .inr ⟨q, by simp, by rw [← z]; exact e⟩
      · exact .inl ⟨r, z, e⟩
    · exact .inr ⟨r, by simp [hr], e⟩
def addA (a b : Arms) (t : Int) : Arms := srt (addW a b t)
theorem Canon.nodup {a : Arms} (h : Canon a) : (a.map (·.1)).Nodup := by
  have := List.pairwise_map.mpr h.1
  exact this.imp (by intro a b h; omega)
theorem addA_canon {a b : Arms} (ha : Canon a) (hb : ∀ p ∈ b, 0 ≤ p.1) (t : Int) : Canon (addA a b t) := by
  refine srt_canon (addW_ok (fun _ => 0) t ha.nodup).1 fun p hp => ?_
  rcases addW_keys t hp with ⟨q, hq, e⟩ | ⟨q, hq, e⟩
  · rw [← e]; exact (ha.2 q hq).1
  · rw [← e]; exact hb q hq
theorem addA_sm (φ : Int → Int) {a b : Arms} (ha : Canon a) (t : Int) : sm φ (addA a b t) = sm φ a + t * sm φ b := by
  obtain ⟨h1, h2⟩ := addW_ok φ t (b := b) ha.nodup
  unfold addA
  rw [sm_srt φ h1, h2]
theorem addA_cv {a b : Arms} (ha : Canon a) (t h : Int) : cv (addA a b t) h = cv a h + t * cv b h := by rw [cv_sm, cv_sm, cv_sm]; exact addA_sm _ ha t
/-! ### bends and tails -/
theorem cv_step (a : Arms) (h : Int) : cv a (h + 1) - cv a h = sm (fun s => if s ≤ h then 1 else 0) a := by
  induction a with
  | nil => rfl
  | cons p a ih =>
    rw [cv_cons, cv_cons, sm_cons, ← ih]
    have : pos (h + 1 - p.1) = pos (h - p.1) + if p.1 ≤ h then 1 else 0 := by unfold pos; split <;> split <;> split <;> omega
    rw [this, Int.mul_add]; omega
theorem sm_congr {φ ψ : Int → Int} {a : Arms} (h : ∀ p ∈ a, φ p.1 = ψ p.1) : sm φ a = sm ψ a := by
  induction a with
  | nil => rfl
  | cons p a ih => rw [sm_cons, sm_cons, h p (by simp), ih fun q hq => h q (List.mem_cons_of_mem _ hq)]
/-- no slack is greater -/
def Upto (M : Int) (a : Arms) : Prop := ∀ p ∈ a, p.1 ≤ M
theorem cv_tail1 {a : Arms} {M h : Int} (hM : Upto M a) (hh : M ≤ h) : cv a (h + 1) = cv a h + pull a := by
  have := cv_step a h
  rw [sm_congr (ψ := fun _ => 1) fun p hp => by have := hM p hp; simp; omega, ← pull_sm] at this
  omega
theorem cv_tail {a : Arms} {M h : Int} (hM : Upto M a) (hh : M ≤ h) : ∀ k : Nat, cv a (h + k) = cv a h + k * pull a
  | 0 => by simp
  | k + 1 => by
    have h1 := cv_tail hM hh k
    have h2 := cv_tail1 hM (show M ≤ h + k by omega)
    rw [show h + ((k + 1 : Nat) : Int) = h + k + 1 by omega, h2, h1, show ((k + 1 : Nat) : Int) = (k : Int) + 1 by omega, Int.add_mul]
    omega
theorem cv_tail' {a : Arms} {M h x : Int} (hM : Upto M a) (hh : M ≤ h) (hx : h ≤ x) : cv a x = cv a h + (x - h) * pull a := by
  have := cv_tail hM hh (x - h).toNat
  rw [show h + ((x - h).toNat : Int) = x by omega, show ((x - h).toNat : Int) = x - h by omega] at this
  exact this
/-- the curve never falls -/
def Rises (a : Arms) : Prop := ∀ h : Int, 0 ≤ h → cv a h ≤ cv a (h + 1)
theorem Rises.le {a : Arms} (r : Rises a) {x y : Int} (hx : 0 ≤ x) (hxy : x ≤ y) : cv a x ≤ cv a y := by
  have : ∀ k : Nat, cv a x ≤ cv a (x + k) := fun k => by
    induction k with
    | zero => simp
    | succ k ih =>
      have := r (x + k) (by omega)
      rw [show x + ((k + 1 : Nat) : Int) = x + k + 1 by omega]; omega
  have h := this (y - x).toNat
  rwa [show x + ((y - x).toNat : Int) = y by omega] at h
theorem Rises.nonneg {a : Arms} (r : Rises a) (hc : Canon a) {x : Int} (hx : 0 ≤ x) : 0 ≤ cv a x := by
  have := r.le (Int.le_refl 0) hx
  rw [hc.zero] at this
  exact this
def nf : Arms → Int → Bool
  | [], _ => true
  | p :: a, t => decide (0 ≤ t + p.2) && nf a (t + p.2)
/-! ### a curve by its places -/
def bw (E : Int → Int) (h : Nat) : Int := (E (h + 1) - E h) - (if h = 0 then 0 else E h - E (h - 1))
def wB (E : Int → Int) (n : Nat) : Arms := (List.range n).map fun h : Nat => ((h : Int), bw E h)
theorem wB_succ (E : Int → Int) (n : Nat) : wB E (n + 1) = wB E n ++ [((n : Int), bw E n)] := by
  unfold wB; rw [List.range_succ, List.map_append]; rfl
theorem cv_append (a b : Arms) (h : Int) : cv (a ++ b) h = cv a h + cv b h := by rw [cv_sm, sm_append]; rfl
theorem wB_cv (E : Int → Int) : ∀ (n : Nat) (x : Int), 0 ≤ x → (x ≤ n → cv (wB E n) x = E x - E 0) ∧ ((n : Int) ≤ x → 1 ≤ n → cv (wB E n) x = E n - E 0 + (x - n) * (E n - E (n - 1)))
  | 0, x, hx => by
    refine ⟨fun h => ?_, fun _ h => by omega⟩
    have : x = 0 := by omega
    subst this
    simp [wB]
  | n + 1, x, hx => by
    obtain ⟨h1, h2⟩ := wB_cv E n x hx
    have key : cv (wB E (n + 1)) x = cv (wB E n) x + bw E n * pos (x - n) := by rw [wB_succ, cv_append, cv_cons, cv_nil]; simp
    have big : (n : Int) + 1 ≤ x → cv (wB E (n + 1)) x = E (n + 1) - E 0 + (x - (n + 1)) * (E (n + 1) - E n) := fun hnx => by
      rw [key, pos_of_ge (by omega)]
      by_cases hn : n = 0
      · subst hn
        have e0 : cv (wB E 0) x = 0 := rfl
        have e1 : bw E 0 = E (0 + 1) - E 0 := by simp [bw]
        rw [e0, e1]
        have e2 : x - ((0 : Nat) : Int) = (x - (0 + 1)) + 1 := by omega
        rw [e2, Int.mul_add, Int.mul_one, Int.mul_comm (E (0 + 1) - E 0)]
        simp only [Int.natCast_zero]
        omega
      · rw [h2 (by omega) (by omega)]
        have e3 : bw E n = (E (n + 1) - E n) - (E n - E (n - 1)) := by simp [bw, hn]
        rw [e3]
        have e0 : E (↑n + 1) = E ↑n + (E (↑n + 1) - E ↑n) := by omega
        generalize hA : E (↑n + 1) - E ↑n = A at *
        generalize E ↑n - E (↑n - 1) = B at *
        rw [e0]
        have e1 : (x - ↑n) * B + (A - B) * (x - ↑n) = (x - n) * A := by rw [Int.mul_comm (A - B), ← Int.mul_add]; congr 1; omega
        have e2 : (x - ↑n) * A = (x - (↑n + 1)) * A + A := by rw [show x - (n : Int) = (x - (n + 1)) + 1 by omega, Int.add_mul]; omega
        omega
    have cast : ((n + 1 : Nat) : Int) = (n : Int) + 1 := by omega
    refine ⟨fun hx1 => ?_, fun hx1 _ => ?_⟩
    · by_cases hxn : x ≤ n
      · rw [key, pos_of_le (by omega), h1 hxn]; simp
      · have : x = n + 1 := by omega
        rw [big (by omega), this]; simp
    · rw [big (by omega), cast, show (n : Int) + 1 - 1 = n by omega]
theorem wB_keys (E : Int → Int) (n : Nat) : (wB E n).map (·.1) = (List.range n).map fun h : Nat => (h : Int) := by
  unfold wB; rw [List.map_map]; rfl
theorem wB_nodup (E : Int → Int) (n : Nat) : ((wB E n).map (·.1)).Nodup := by
  rw [wB_keys]
  refine List.pairwise_map.mpr ((List.nodup_range (n := n)).imp ?_)
  intro a b h z
  exact h (by omega)
def bentA (E : Int → Int) (n : Nat) : Arms := srt (wB E n)
theorem bentA_canon (E : Int → Int) (n : Nat) : Canon (bentA E n) := srt_canon (wB_nodup E n) fun p hp => by
  obtain ⟨h, _, rfl⟩ := List.mem_map.mp hp
  exact Int.natCast_nonneg h
theorem bentA_cv (E : Int → Int) (n : Nat) (h : Int) : cv (bentA E n) h = cv (wB E n) h := by rw [cv_sm, cv_sm]; exact sm_srt _ (wB_nodup E n)
theorem bentA_upto (E : Int → Int) (n : Nat) : Upto (n - 1) (bentA E n) := fun p hp => by
  obtain ⟨⟨q, hq, e⟩, _⟩ := srt_mem hp
  obtain ⟨h, hh, rfl⟩ := List.mem_map.mp hq
  have := List.mem_range.mp hh
  rw [← e]
  show (h : Int) ≤ n - 1
  omega
/-! ### a rig that drives another one -/
def gs (a : Arms) : Int := match a.getLast? with
  | some p => p.1
  | none => 0
theorem gs_nonneg {a : Arms} (hc : Canon a) : 0 ≤ gs a := by
  unfold gs
  split
  · rename_i p h; exact (hc.2 p (List.mem_of_getLast? h)).1
  · omega
theorem upto_gs {a : Arms} (hc : Canon a) : Upto (gs a) a := fun p hp => by
  unfold gs
  cases q : a.getLast? with
  | none => rw [List.getLast?_eq_none_iff] at q; subst q; cases hp
  | some r =>
    obtain ⟨l, rfl⟩ := List.getLast?_eq_some_iff.mp q
    rcases List.mem_append.mp hp with hp | hp
    · have := (List.pairwise_append.mp hc.1).2.2 p hp r (by simp)
      dsimp only; omega
    · have : p = r := by simpa using hp
      subst this; exact Int.le_refl _
def drA (a b : Arms) : Arms := bentA (fun h => cv b (cv a h)) (gs a + gs b + 1).toNat
theorem drA_cv {a b : Arms} (ha : Canon a) (hb : Canon b) (hr : Rises a) {x : Int} (hx : 0 ≤ x) : cv (drA a b) x = cv b (cv a x) := by
  have ga := gs_nonneg ha
  have gb := gs_nonneg hb
  have hn : ((gs a + gs b + 1).toNat : Int) = gs a + gs b + 1 := by omega
  have e0 : cv b (cv a 0) = 0 := by rw [ha.zero, hb.zero]
  unfold drA
  rw [bentA_cv]
  obtain ⟨h1, h2⟩ := wB_cv (fun h => cv b (cv a h)) (gs a + gs b + 1).toNat x hx
  rw [hn] at h1 h2
  by_cases hle : x ≤ gs a + gs b + 1
  · rw [h1 hle, e0]; omega
  · rw [h2 (by omega) (by omega), e0]
    have hU := upto_gs ha
    have hV := upto_gs hb
    -- beyond gs a + gs b the curve goes evenly
    have lin : ∀ y, gs a + gs b ≤ y → cv b (cv a (y + 1)) - cv b (cv a y) = pull a * pull b := fun y hy => by
      have t1 := cv_tail1 hU (show gs a ≤ y by omega)
      have hm : 0 ≤ pull a := by have := hr y (by omega); omega
      by_cases hz : pull a = 0
      · rw [t1, hz]; simp
      · have hbig : gs b ≤ cv a y := by
          have t2 := cv_tail' hU (Int.le_refl (gs a)) (show gs a ≤ y by omega)
          have t3 := hr.nonneg ha ga
          have t4 : (y - gs a) * 1 ≤ (y - gs a) * pull a := Int.mul_le_mul_of_nonneg_left (by omega) (by omega)
          omega
        have t5 := cv_tail' hV hbig (show cv a y ≤ cv a (y + 1) by omega)
        rw [t5, show cv a (y + 1) - cv a y = pull a by omega]
        omega
    have l1 := lin (gs a + gs b) (Int.le_refl _)
    have all : ∀ k : Nat, cv b (cv a (gs a + gs b + 1 + k)) = cv b (cv a (gs a + gs b + 1)) + k * (pull a * pull b) := fun k => by
      induction k with
      | zero => simp
      | succ k ih =>
        have := lin (gs a + gs b + 1 + k) (by omega)
        rw [show gs a + gs b + 1 + ((k + 1 : Nat) : Int) = gs a + gs b + 1 + k + 1 by omega, show ((k + 1 : Nat) : Int) = (k : Int) + 1 by omega, Int.add_mul]
        omega
    have l2 := all (x - (gs a + gs b + 1)).toNat
    rw [show gs a + gs b + 1 + ((x - (gs a + gs b + 1)).toNat : Int) = x by omega, show ((x - (gs a + gs b + 1)).toNat : Int) = x - (gs a + gs b + 1) by omega] at l2
    rw [l2, show gs a + gs b + 1 - 1 = gs a + gs b by omega, l1]
    omega
theorem drA_canon (a b : Arms) : Canon (drA a b) := bentA_canon _ _
theorem drA_upto {a b : Arms} (ha : Canon a) (hb : Canon b) : Upto (gs a + gs b) (drA a b) := fun p hp => by
  have := bentA_upto _ _ p hp
  have ga := gs_nonneg ha
  have gb := gs_nonneg hb
  omega
end Rg

namespace Rg
theorem nodup_len : ∀ {l m : List Int}, l.Nodup → (∀ x ∈ l, x ∈ m) → l.length ≤ m.length
  | [], m, _, _ => by simp
  | x :: l, m, hn, hs => by
    obtain ⟨h1, h2⟩ := List.nodup_cons.mp hn
    have hx := hs x (by simp)
    have := nodup_len (m := m.erase x) h2 fun y hy => by
      have : y ≠ x := fun z => h1 (z ▸ hy)
      exact (List.mem_erase_of_ne this).mpr (hs y (by simp [hy]))
    rw [List.length_erase_of_mem hx] at this
    have hp : 0 < m.length := List.length_pos_of_mem hx
    simp only [List.length_cons]
    omega
/-! ### bends -/
theorem step_step (a : Arms) (hn : (a.map (·.1)).Nodup) (h : Int) : (cv a (h + 1) - cv a h) - (cv a h - cv a (h - 1)) = look a h := by
  have e1 := cv_step a h
  have e2 := cv_step a (h - 1)
  rw [show h - 1 + 1 = h by omega] at e2
  rw [e1, e2]
  clear e1 e2
  induction a with
  | nil => rfl
  | cons p a ih =>
    rw [List.map_cons, List.nodup_cons] at hn
    rw [sm_cons, sm_cons, look_cons]
    have := ih hn.2
    by_cases e : p.1 = h
    · rw [if_pos (by omega), if_neg (by omega), if_pos e]
      have hz : look a h = 0 := by
        unfold look
        have : a.find? (fun p => decide (p.1 = h)) = none := List.find?_eq_none.mpr fun q hq => by
          have : q.1 ≠ h := fun z => hn.1 (by rw [e, ← z]; exact List.mem_map.mpr ⟨q, hq, rfl⟩)
          simpa using this
        rw [this]
      omega
    · rw [if_neg e]
      by_cases hl : p.1 ≤ h
      · rw [if_pos hl, if_pos (by omega)]; omega
      · rw [if_neg hl, if_neg (by omega)]; omega
theorem cv_neg {a : Arms} (hc : Canon a) {h : Int} (hh : h ≤ 0) : cv a h = 0 := cv_zero_of fun p hp => by have := (hc.2 p hp).1; omega
structure RB (a : Arms) (M L : Int) (n : Nat) : Prop where
  c : Canon a
  m : Upto M a
  m0 : 0 ≤ M
  l : ∀ h : Int, 0 ≤ h → -L ≤ cv a (h + 1) - cv a h ∧ cv a (h + 1) - cv a h ≤ L
  n : a.length ≤ n
theorem RB.l0 {a : Arms} {M L : Int} {n : Nat} (r : RB a M L n) : 0 ≤ L := by have := r.l 0 (by omega); omega
theorem RB.arm {a : Arms} {M L : Int} {n : Nat} (r : RB a M L n) {p : Int × Int} (hp : p ∈ a) : -(2 * L) ≤ p.2 ∧ p.2 ≤ 2 * L := by
  have h := step_step a r.c.nodup p.1
  rw [look_mem r.c.nodup hp] at h
  have h0 := (r.c.2 p hp).1
  have h1 := r.l p.1 h0
  have h2 : -L ≤ cv a p.1 - cv a (p.1 - 1) ∧ cv a p.1 - cv a (p.1 - 1) ≤ L := by
    by_cases z : p.1 = 0
    · rw [z, cv_neg r.c (Int.le_refl 0), cv_neg r.c (show (0 : Int) - 1 ≤ 0 by omega)]
      have := r.l0
      omega
    · have := r.l (p.1 - 1) (by omega)
      rw [show p.1 - 1 + 1 = p.1 by omega] at this
      exact this
  omega
theorem RB.mono {a : Arms} {M L M' L' : Int} {n n' : Nat} (r : RB a M L n) (h1 : M ≤ M') (h2 : L ≤ L') (h3 : n ≤ n') : RB a M' L' n' :=
  ⟨r.c, fun p hp => Int.le_trans (r.m p hp) h1, Int.le_trans r.m0 h1, fun h hh => by have := r.l h hh; omega, Nat.le_trans r.n h3⟩
theorem RB.gs {a : Arms} {M L : Int} {n : Nat} (r : RB a M L n) : gs a ≤ M := by
  unfold Rg.gs
  split
  · rename_i p h; exact r.m p (List.mem_of_getLast? h)
  · exact r.m0
theorem RB.rod {s : Int} (h0 : 0 ≤ s) : RB [(s, 1)] s 1 1 := by
  refine ⟨⟨by simp, by simp [h0]⟩, by intro p hp; simp at hp; subst hp; exact Int.le_refl _, h0, fun h hh => ?_, by simp⟩
  simp only [cv_cons, cv_nil]
  unfold pos
  split <;> split <;> omega
theorem RB.nil {M L : Int} (h1 : 0 ≤ M) (h2 : 0 ≤ L) : RB [] M L 0 := ⟨⟨.nil, by simp⟩, (fun p hp => nomatch hp), h1, (fun h hh => by simp; omega), by simp⟩
theorem put_len (ws : Arms) (s w : Int) : (put ws s w).length ≤ ws.length + 1 := by
  unfold put; split <;> simp
theorem addW_len (t : Int) : ∀ (b a : Arms), (addW a b t).length ≤ a.length + b.length
  | [], a => by simp [addW]
  | p :: b, a => by
    have h1 := addW_len t b (put a p.1 (look a p.1 + t * p.2))
    have h2 := put_len a p.1 (look a p.1 + t * p.2)
    have : (addW a (p :: b) t).length = (addW (put a p.1 (look a p.1 + t * p.2)) b t).length := rfl
    simp only [List.length_cons]
    omega
theorem RB.add {a b : Arms} {M L M' L' T t : Int} {n n' : Nat} (r : RB a M L n) (q : RB b M' L' n') (h1 : -T ≤ t) (h2 : t ≤ T) : RB (addA a b t) (max M M') (L + T * L') (n + n') := by
  refine ⟨addA_canon r.c (fun p hp => (q.c.2 p hp).1) t, fun p hp => ?_, by have := r.m0; omega, fun h hh => ?_, ?_⟩
  · obtain ⟨⟨z, hz, e⟩, _⟩ := srt_mem hp
    rw [← e]
    rcases addW_keys t hz with ⟨w, hw, e2⟩ | ⟨w, hw, e2⟩
    · have := r.m w hw; omega
    · have := q.m w hw; omega
  · have ea := r.l h hh
    have eb := q.l h hh
    have hL := q.l0
    rw [addA_cv r.c, addA_cv r.c]
    have e : cv a (h + 1) + t * cv b (h + 1) - (cv a h + t * cv b h) = (cv a (h + 1) - cv a h) + t * (cv b (h + 1) - cv b h) := by rw [Int.mul_sub]; omega
    rw [e]
    generalize cv b (h + 1) - cv b h = d at *
    have hT : 0 ≤ T := by omega
    have key : -(T * L') ≤ t * d ∧ t * d ≤ T * L' := by
      have k1 : t * d ≤ T * L' := by
        rcases Int.le_total 0 t with ht | ht
        · exact Int.le_trans (Int.mul_le_mul_of_nonneg_left eb.2 ht) (Int.mul_le_mul_of_nonneg_right h2 hL)
        · have : t * d = (-t) * (-d) := by rw [Int.neg_mul_neg]
          rw [this]
          exact Int.le_trans (Int.mul_le_mul_of_nonneg_left (show -d ≤ L' by omega) (by omega)) (Int.mul_le_mul_of_nonneg_right (show -t ≤ T by omega) hL)
      have k2 : -(t * d) ≤ T * L' := by
        rcases Int.le_total 0 t with ht | ht
        · have : -(t * d) = t * (-d) := by rw [Int.mul_neg]
          rw [this]
          exact Int.le_trans (Int.mul_le_mul_of_nonneg_left (show -d ≤ L' by omega) ht) (Int.mul_le_mul_of_nonneg_right h2 hL)
        · have : -(t * d) = (-t) * d := by rw [Int.neg_mul]
          rw [this]
          exact Int.le_trans (Int.mul_le_mul_of_nonneg_left eb.2 (by omega)) (Int.mul_le_mul_of_nonneg_right (show -t ≤ T by omega) hL)
      omega
    omega
  · refine Nat.le_trans (srt_len _) ?_
    have := addW_len t b a
    have := r.n
    have := q.n
    omega
/-- far steps of a curve -/
theorem RB.far {b : Arms} {M L : Int} {n : Nat} (r : RB b M L n) {x d : Int} (hx : 0 ≤ x) (hd : 0 ≤ d) : -(L * d) ≤ cv b (x + d) - cv b x ∧ cv b (x + d) - cv b x ≤ L * d := by
  have : ∀ k : Nat, -(L * k) ≤ cv b (x + k) - cv b x ∧ cv b (x + k) - cv b x ≤ L * k := fun k => by
    induction k with
    | zero => simp
    | succ k ih =>
      have := r.l (x + k) (by omega)
      rw [show x + ((k + 1 : Nat) : Int) = x + k + 1 by omega, show ((k + 1 : Nat) : Int) = (k : Int) + 1 by omega, Int.mul_add]
      omega
  have := this d.toNat
  rwa [show (d.toNat : Int) = d by omega] at this
theorem bend_pos {x m q : Int} (hm : 0 ≤ m) (h : pos (x + m - q) - 2 * pos (x - q) + pos (x - m - q) ≠ 0) : x - m < q ∧ q < x + m := by
  unfold pos at h
  constructor
  · apply Int.not_le.mp
    intro z
    apply h
    split <;> split <;> split <;> omega
  · apply Int.not_le.mp
    intro z
    apply h
    split <;> split <;> split <;> omega
theorem bend_some {b : Arms} {x m : Int} (hm : 0 ≤ m) (h : cv b (x + m) - 2 * cv b x + cv b (x - m) ≠ 0) : ∃ p ∈ b, x - m < p.1 ∧ p.1 < x + m := by
  induction b with
  | nil => simp at h
  | cons p b ih =>
    by_cases e : pos (x + m - p.1) - 2 * pos (x - p.1) + pos (x - m - p.1) = 0
    · obtain ⟨q, hq, hh⟩ := ih (by
        intro z
        apply h
        rw [cv_cons, cv_cons, cv_cons]
        have : p.2 * pos (x + m - p.1) + -2 * (p.2 * pos (x - p.1)) + p.2 * pos (x - m - p.1) = p.2 * (pos (x + m - p.1) - 2 * pos (x - p.1) + pos (x - m - p.1)) := by
          rw [Int.mul_add, Int.mul_sub]
          have : p.2 * (2 * pos (x - p.1)) = 2 * (p.2 * pos (x - p.1)) := by rw [← Int.mul_assoc, Int.mul_comm p.2 2, Int.mul_assoc]
          omega
        rw [e] at this
        simp at this
        omega)
      exact ⟨q, List.mem_cons_of_mem _ hq, hh⟩
    · exact ⟨p, by simp, bend_pos hm e⟩
theorem least {P : Nat → Prop} : (∃ k, P k) → ∃ k, P k ∧ ∀ j, P j → k ≤ j := by
  rintro ⟨k, hk⟩
  induction k using Nat.strongRecOn with
  | _ k ih =>
    by_cases h : ∃ j, j < k ∧ P j
    · obtain ⟨j, hj, pj⟩ := h
      exact ih j hj pj
    · exact ⟨k, hk, fun j pj => Nat.not_lt.mp fun z => h ⟨j, z, pj⟩⟩
open Classical in
/-- the least height at which a curve comes up to a place -/
noncomputable def reach (a : Arms) (q : Int) : Int := if h : ∃ k : Nat, q ≤ cv a k then (((least h).choose : Nat) : Int) else 0
theorem drA_len {a b : Arms} (ha : Canon a) (hb : Canon b) (hr : Rises a) : (drA a b).length ≤ a.length + 2 * b.length := by
  have hnd := (drA_canon a b).nodup
  have key : ∀ x ∈ (drA a b).map (·.1), x ∈ a.map (·.1) ++ b.flatMap (fun q => [reach a q.1 - 1, reach a q.1]) := fun x hx => by
    obtain ⟨p, hp, rfl⟩ := List.mem_map.mp hx
    by_cases hm : p.1 ∈ a.map (·.1)
    · exact List.mem_append_left _ hm
    · apply List.mem_append_right
      have h0 := ((drA_canon a b).2 p hp).1
      have hne := ((drA_canon a b).2 p hp).2
      have e1 := step_step (drA a b) hnd p.1
      rw [look_mem hnd hp] at e1
      have cvE : ∀ y : Int, -1 ≤ y → cv (drA a b) y = cv b (cv a y) := fun y hy => by
        by_cases hz : 0 ≤ y
        · exact drA_cv ha hb hr hz
        · rw [cv_neg (drA_canon a b) (by omega), cv_neg ha (show y ≤ 0 by omega), hb.zero]
      rw [cvE _ (by omega), cvE _ (by omega), cvE _ (by omega)] at e1
      have e2 := step_step a ha.nodup p.1
      have hz : look a p.1 = 0 := by
        unfold look
        have : a.find? (fun q => decide (q.1 = p.1)) = none := List.find?_eq_none.mpr fun q hq => by
          have : q.1 ≠ p.1 := fun z => hm (z ▸ List.mem_map.mpr ⟨q, hq, rfl⟩)
          simpa using this
        rw [this]
      rw [hz] at e2
      have hm0 : 0 ≤ cv a (p.1 + 1) - cv a p.1 := by have := hr p.1 h0; omega
      obtain ⟨q, hq, l1, l2⟩ := bend_some (b := b) (x := cv a p.1) (m := cv a (p.1 + 1) - cv a p.1) hm0 (by
        rw [show cv a p.1 + (cv a (p.1 + 1) - cv a p.1) = cv a (p.1 + 1) by omega, show cv a p.1 - (cv a (p.1 + 1) - cv a p.1) = cv a (p.1 - 1) by omega]
        omega)
      refine List.mem_flatMap.mpr ⟨q, hq, ?_⟩
      have hex : ∃ k : Nat, q.1 ≤ cv a k := ⟨(p.1 + 1).toNat, by rw [show (((p.1 + 1).toNat : Nat) : Int) = p.1 + 1 by omega]; omega⟩
      have hre : reach a q.1 = (((least hex).choose : Nat) : Int) := by unfold reach; rw [dif_pos hex]
      obtain ⟨f1, fm⟩ := (least hex).choose_spec
      generalize (least hex).choose = kk at *
      have f2 : kk ≤ (p.1 + 1).toNat := fm _ (by rw [show (((p.1 + 1).toNat : Nat) : Int) = p.1 + 1 by omega]; omega)
      have f3 : p.1 ≤ (kk : Int) := by
        apply Int.not_lt.mp
        intro z
        have := hr.le (show (0 : Int) ≤ (kk : Int) by omega) (show (kk : Int) ≤ p.1 - 1 by omega)
        omega
      rw [hre]
      have : p.1 = (kk : Int) - 1 ∨ p.1 = (kk : Int) := by omega
      rcases this with z | z
      · rw [z]; simp
      · rw [z]; simp
  have := nodup_len hnd key
  rw [List.length_map, List.length_append, List.length_map] at this
  have e : (b.flatMap fun q => [reach a q.1 - 1, reach a q.1]).length = 2 * b.length := by
    clear key this hb hnd
    induction b with
    | nil => rfl
    | cons q b ih => rw [List.flatMap_cons, List.length_append, ih]; simp; omega
  omega
theorem RB.dr {a b : Arms} {M L M' L' : Int} {n n' : Nat} (r : RB a M L n) (q : RB b M' L' n') (hr : Rises a) : RB (drA a b) (M + M') (L * L') (n + 2 * n') := by
  refine ⟨drA_canon a b, fun p hp => ?_, by have := r.m0; have := q.m0; omega, fun h hh => ?_, ?_⟩
  · have := drA_upto r.c q.c p hp
    have := r.gs
    have := q.gs
    omega
  · rw [drA_cv r.c q.c hr (by omega), drA_cv r.c q.c hr hh]
    have h1 := r.l h hh
    have h2 := hr h hh
    have h3 := q.far (hr.nonneg r.c hh) (show 0 ≤ cv a (h + 1) - cv a h by omega)
    rw [show cv a h + (cv a (h + 1) - cv a h) = cv a (h + 1) by omega] at h3
    have h4 : L' * (cv a (h + 1) - cv a h) ≤ L' * L := Int.mul_le_mul_of_nonneg_left h1.2 q.l0
    rw [Int.mul_comm L L']
    omega
  · have := drA_len r.c q.c hr
    have := r.n
    have := q.n
    omega
end Rg

namespace Rg
theorem look_not {a : Arms} {s : Int} (h : s ∉ a.map (·.1)) : look a s = 0 := by
  unfold look
  have : a.find? (fun q => decide (q.1 = s)) = none := List.find?_eq_none.mpr fun q hq => by
    have : q.1 ≠ s := fun z => h (z ▸ List.mem_map.mpr ⟨q, hq, rfl⟩)
    simpa using this
  rw [this]
/-- driven by a curve of slopes 0 and 1, each bend comes once -/
theorem drA_len1 {a b : Arms} (ha : Canon a) (hb : Canon b) (hr : Rises a) (h1 : ∀ h : Int, 0 ≤ h → cv a (h + 1) - cv a h ≤ 1) : (drA a b).length ≤ a.length + b.length := by
  have hnd := (drA_canon a b).nodup
  have key : ∀ x ∈ (drA a b).map (·.1), x ∈ a.map (·.1) ++ b.map (fun q => reach a q.1) := fun x hx => by
    obtain ⟨p, hp, rfl⟩ := List.mem_map.mp hx
    by_cases hm : p.1 ∈ a.map (·.1)
    · exact List.mem_append_left _ hm
    · apply List.mem_append_right
      have h0 := ((drA_canon a b).2 p hp).1
      have hne := ((drA_canon a b).2 p hp).2
      have e1 := step_step (drA a b) hnd p.1
      rw [look_mem hnd hp] at e1
      have cvE : ∀ y : Int, -1 ≤ y → cv (drA a b) y = cv b (cv a y) := fun y hy => by
        by_cases hz : 0 ≤ y
        · exact drA_cv ha hb hr hz
        · rw [cv_neg (drA_canon a b) (by omega), cv_neg ha (show y ≤ 0 by omega), hb.zero]
      rw [cvE _ (by omega), cvE _ (by omega), cvE _ (by omega)] at e1
      have e2 := step_step a ha.nodup p.1
      rw [look_not hm] at e2
      have hm0 : 0 ≤ cv a (p.1 + 1) - cv a p.1 := by have := hr p.1 h0; omega
      have hm1 := h1 p.1 h0
      obtain ⟨q, hq, l1, l2⟩ := bend_some (b := b) (x := cv a p.1) (m := cv a (p.1 + 1) - cv a p.1) hm0 (by
        rw [show cv a p.1 + (cv a (p.1 + 1) - cv a p.1) = cv a (p.1 + 1) by omega, show cv a p.1 - (cv a (p.1 + 1) - cv a p.1) = cv a (p.1 - 1) by omega]
        omega)
      refine List.mem_map.mpr ⟨q, hq, ?_⟩
      have hex : ∃ k : Nat, q.1 ≤ cv a k := ⟨(p.1 + 1).toNat, by rw [show (((p.1 + 1).toNat : Nat) : Int) = p.1 + 1 by omega]; omega⟩
      have hre : reach a q.1 = (((least hex).choose : Nat) : Int) := by unfold reach; rw [dif_pos hex]
      obtain ⟨f1, fm⟩ := (least hex).choose_spec
      generalize (least hex).choose = kk at *
      have f2 : kk ≤ p.1.toNat := fm _ (by rw [show ((p.1.toNat : Nat) : Int) = p.1 by omega]; omega)
      have f3 : p.1 ≤ (kk : Int) := by
        apply Int.not_lt.mp
        intro z
        have := hr.le (show (0 : Int) ≤ (kk : Int) by omega) (show (kk : Int) ≤ p.1 - 1 by omega)
        omega
      rw [hre]; omega
  have := nodup_len hnd key
  rw [List.length_map, List.length_append, List.length_map, List.length_map] at this
  exact this
theorem RB.dr1 {a b : Arms} {M M' L' : Int} {n n' : Nat} (r : RB a M 1 n) (q : RB b M' L' n') (hr : Rises a) : RB (drA a b) (M + M') L' (n + n') := by
  have h := r.dr q hr
  refine ⟨h.c, h.m, h.m0, by simpa using h.l, ?_⟩
  have := drA_len1 r.c q.c hr fun h hh => (r.l h hh).2
  have := r.n
  have := q.n
  omega
/-! ### trees -/
inductive Tr where
  | rod (s : Int) | mul (t : Tr) (k : Int) | neg (t : Tr) | add (a b : Tr) | sub (a b : Tr) | chn (a b : Tr)
def Tr.ar : Tr → Arms
  | .rod s => [(s, 1)]
  | .mul t k => addA [] t.ar k
  | .neg t => addA [] t.ar (-1)
  | .add a b => addA a.ar b.ar 1
  | .sub a b => addA a.ar b.ar (-1)
  | .chn a b => drA a.ar b.ar
def Tr.tot : Tr → Int
  | .rod s => s
  | .mul t _ => t.tot
  | .neg t => t.tot
  | .add a b => a.tot + b.tot
  | .sub a b => a.tot + b.tot
  | .chn a b => a.tot + b.tot
/-- a tree that is drawn: its depth, its slacks, its chains -/
inductive TOk : Nat → Tr → Prop
  | rod {n : Nat} {s : Int} (h0 : 0 ≤ s) (h6 : s ≤ 6) : TOk n (.rod s)
  | mul {n : Nat} {t : Tr} {k : Int} (ht : TOk n t) (h1 : -3 ≤ k) (h2 : k ≤ 3) : TOk (n + 1) (.mul t k)
  | neg {n : Nat} {t : Tr} (ht : TOk n t) : TOk (n + 1) (.neg t)
  | add {n : Nat} {a b : Tr} (ha : TOk n a) (hb : TOk n b) : TOk (n + 1) (.add a b)
  | sub {n : Nat} {a b : Tr} (ha : TOk n a) (hb : TOk n b) : TOk (n + 1) (.sub a b)
  | chn {n : Nat} {a b : Tr} (ha : TOk n a) (hb : TOk n b) (hr : Rises a.ar) : TOk (n + 1) (.chn a b)
def Lb : Nat → Int
  | 0 => 1
  | 1 => 3
  | 2 => 9
  | _ => 81
def Nb : Nat → Nat
  | 0 => 1
  | 1 => 2
  | 2 => 6
  | _ => 18
def Mb : Nat → Int
  | 0 => 6
  | n + 1 => 2 * Mb n
theorem Mb_pos : ∀ n, 6 ≤ Mb n
  | 0 => by simp [Mb]
  | n + 1 => by have := Mb_pos n; simp only [Mb]; omega
theorem TOk.rb : ∀ {n : Nat} {t : Tr}, TOk n t → n ≤ 3 → RB t.ar (Mb n) (Lb n) (Nb n) ∧ Upto t.tot t.ar ∧ 0 ≤ t.tot ∧ t.tot ≤ Mb n
  | n, _, .rod (s := s) h0 h6, hn => by
    have hM := Mb_pos n
    have hL : 1 ≤ Lb n := by match n with | 0 => decide | 1 => decide | 2 => decide | n + 3 => exact (by decide : (1 : Int) ≤ 81)
    have hN : 1 ≤ Nb n := by match n with | 0 => decide | 1 => decide | 2 => decide | n + 3 => exact (by decide : 1 ≤ 18)
    exact ⟨(RB.rod h0).mono (by omega) hL hN, fun p hp => by simp [Tr.ar] at hp; subst hp; exact Int.le_refl _, h0, by simp only [Tr.tot]; omega⟩
  | n + 1, _, .mul (t := t) (k := k) ht h1 h2, hn => by
    obtain ⟨r, u, t0, t1⟩ := ht.rb (by omega)
    have hM := Mb_pos n
    have q := (RB.nil (M := 0) (L := 0) (by omega) (by omega)).add r (T := 3) (t := k) h1 h2
    refine ⟨q.mono ?_ ?_ ?_, fun p hp => ?_, t0, by simp only [Tr.tot, Mb]; omega⟩
    · simp only [Mb]; omega
    · match n, hn with | 0, _ => decide | 1, _ => decide | 2, _ => decide
    · match n, hn with | 0, _ => decide | 1, _ => decide | 2, _ => decide
    · obtain ⟨⟨z, hz, e⟩, _⟩ := srt_mem hp
      rcases addW_keys k hz with ⟨w, hw, e2⟩ | ⟨w, hw, e2⟩
      · cases hw
      · rw [← e, ← e2]; exact u w hw
  | n + 1, _, .neg (t := t) ht, hn => by
    obtain ⟨r, u, t0, t1⟩ := ht.rb (by omega)
    have hM := Mb_pos n
    have q := (RB.nil (M := 0) (L := 0) (by omega) (by omega)).add r (T := 3) (t := -1) (by omega) (by omega)
    refine ⟨q.mono ?_ ?_ ?_, fun p hp => ?_, t0, by simp only [Tr.tot, Mb]; omega⟩
    · simp only [Mb]; omega
    · match n, hn with | 0, _ => decide | 1, _ => decide | 2, _ => decide
    · match n, hn with | 0, _ => decide | 1, _ => decide | 2, _ => decide
    · obtain ⟨⟨z, hz, e⟩, _⟩ := srt_mem hp
      rcases addW_keys (-1) hz with ⟨w, hw, e2⟩ | ⟨w, hw, e2⟩
      · cases hw
      · rw [← e, ← e2]; exact u w hw
  | n + 1, _, .add (a := a) (b := b) ha hb, hn => by
    obtain ⟨r, u, t0, t1⟩ := ha.rb (by omega)
    obtain ⟨r', u', t0', t1'⟩ := hb.rb (by omega)
    have hM := Mb_pos n
    have q := r.add r' (T := 1) (t := 1) (by omega) (by omega)
    refine ⟨q.mono ?_ ?_ ?_, fun p hp => ?_, by simp only [Tr.tot]; omega, by simp only [Tr.tot, Mb]; omega⟩
    · simp only [Mb]; omega
    · match n, hn with | 0, _ => decide | 1, _ => decide | 2, _ => decide
    · match n, hn with | 0, _ => decide | 1, _ => decide | 2, _ => decide
    · obtain ⟨⟨z, hz, e⟩, _⟩ := srt_mem hp
      show p.1 ≤ a.tot + b.tot
      rcases addW_keys 1 hz with ⟨w, hw, e2⟩ | ⟨w, hw, e2⟩
      · have := u w hw; omega
      · have := u' w hw; omega
  | n + 1, _, .sub (a := a) (b := b) ha hb, hn => by
    obtain ⟨r, u, t0, t1⟩ := ha.rb (by omega)
    obtain ⟨r', u', t0', t1'⟩ := hb.rb (by omega)
    have hM := Mb_pos n
    have q := r.add r' (T := 1) (t := -1) (by omega) (by omega)
    refine ⟨q.mono ?_ ?_ ?_, fun p hp => ?_, by simp only [Tr.tot]; omega, by simp only [Tr.tot, Mb]; omega⟩
    · simp only [Mb]; omega
    · match n, hn with | 0, _ => decide | 1, _ => decide | 2, _ => decide
    · match n, hn with | 0, _ => decide | 1, _ => decide | 2, _ => decide
    · obtain ⟨⟨z, hz, e⟩, _⟩ := srt_mem hp
      show p.1 ≤ a.tot + b.tot
      rcases addW_keys (-1) hz with ⟨w, hw, e2⟩ | ⟨w, hw, e2⟩
      · have := u w hw; omega
      · have := u' w hw; omega
  | n + 1, _, .chn (a := a) (b := b) ha hb hr, hn => by
    obtain ⟨r, u, t0, t1⟩ := ha.rb (by omega)
    obtain ⟨r', u', t0', t1'⟩ := hb.rb (by omega)
    have hM := Mb_pos n
    refine ⟨?_, fun p hp => ?_, by simp only [Tr.tot]; omega, by simp only [Tr.tot, Mb]; omega⟩
    · match n, hn with
      | 0, _ => exact (r.dr1 r' hr).mono (by simp only [Mb]; omega) (by decide) (by decide)
      | 1, _ => exact (r.dr r' hr).mono (by simp only [Mb]; omega) (by decide) (by decide)
      | 2, _ => exact (r.dr r' hr).mono (by simp only [Mb]; omega) (by decide) (by decide)
    · have h := drA_upto r.c r'.c p hp
      have g1 : gs a.ar ≤ a.tot := by
        unfold gs; split
        · rename_i q hq; exact u q (List.mem_of_getLast? hq)
        · exact t0
      have g2 : gs b.ar ≤ b.tot := by
        unfold gs; split
        · rename_i q hq; exact u' q (List.mem_of_getLast? hq)
        · exact t0'
      show p.1 ≤ a.tot + b.tot
      omega
end Rg

namespace Rg
/-! ### the algebra of rigs -/
variable {a b c : Arms} {t u : Int}
end Rg

namespace Rg
/-! ### the state of all rods as a number and a row of marks -/
abbrev Sw := Int × List Bool
def dl (a : Arms) (j : Int) : Int := cv a (j + 1) - cv a j
def sumB (a : Arms) : Int → List Bool → Int
  | _, [] => 0
  | j, b :: l => (if b then dl a j else 0) + sumB a (j + 1) l
def eB (a : Arms) (S : Sw) : Int := S.1 * pull a + sumB a 0 S.2
def pl (S : Sw) : Int := eB [(0, 1)] S
/-! the middle of a chain -/
def spr (a : Arms) : Int → List Bool → List Bool
  | _, [] => []
  | j, b :: l => List.replicate (dl a j).toNat b ++ spr a (j + 1) l
def mid (a : Arms) (S : Sw) : Sw := (S.1 * pull a, spr a 0 S.2)
theorem sumB_rep (b : Arms) (x : Bool) : ∀ (n : Nat) (j : Int) (l : List Bool), sumB b j (List.replicate n x ++ l) = (if x then cv b (j + n) - cv b j else 0) + sumB b (j + n) l
  | 0, j, l => by cases x <;> simp
  | n + 1, j, l => by
    rw [List.replicate_succ, List.cons_append, sumB, sumB_rep b x n (j + 1) l]
    rw [show j + 1 + (n : Int) = j + ((n + 1 : Nat) : Int) by omega]
    cases x
    · simp
    · simp only [if_true, dl]; omega
/-! moves by one -/
def upB : List Bool → List Bool
  | [] => [true]
  | false :: l => true :: l
  | true :: l => true :: upB l
def dnB : List Bool → Option (List Bool)
  | [] => none
  | true :: l => some (false :: l)
  | false :: l => (dnB l).map (false :: ·)
def upS (S : Sw) : Sw := (S.1, upB S.2)
def dnS (S : Sw) : Sw := match dnB S.2 with
  | some l => (S.1, l)
  | none => (S.1 - 1, S.2)
/-- the rise of the end in an upward move -/
def upI (a : Arms) : Int → List Bool → Int
  | j, [] => dl a j
  | j, false :: _ => dl a j
  | j, true :: l => upI a (j + 1) l
theorem sumB_up (a : Arms) : ∀ (l : List Bool) (j : Int), sumB a j (upB l) = sumB a j l + upI a j l
  | [], j => by simp [upB, sumB, upI]
  | false :: l, j => by simp [upB, sumB, upI]; omega
  | true :: l, j => by simp only [upB, sumB, upI, sumB_up a l]; omega
theorem eB_up (a : Arms) (S : Sw) : eB a (upS S) = eB a S + upI a 0 S.2 := by
  unfold eB upS; dsimp only; rw [sumB_up]; omega
def dnI (a : Arms) : Int → List Bool → Int
  | _, [] => pull a
  | j, true :: _ => dl a j
  | j, false :: l => dnI a (j + 1) l
theorem sumB_dn (a : Arms) : ∀ (l : List Bool) (j : Int), (∀ l', dnB l = some l' → sumB a j l' = sumB a j l - dnI a j l) ∧ (dnB l = none → dnI a j l = pull a)
  | [], j => by simp [dnB, dnI]
  | true :: l, j => by
    refine ⟨fun l' h => ?_, fun h => nomatch h⟩
    simp only [dnB, Option.some.injEq] at h
    subst h
    simp only [sumB, dnI, if_true, Bool.false_eq_true, if_false]; omega
  | false :: l, j => by
    have ih := sumB_dn a l (j + 1)
    refine ⟨fun l' h => ?_, fun h => ?_⟩
    · simp only [dnB, Option.map_eq_some_iff] at h
      obtain ⟨l2, h2, rfl⟩ := h
      simp only [sumB, dnI, ih.1 l2 h2]; omega
    · simp only [dnB, Option.map_eq_none_iff] at h
      simp only [dnI, ih.2 h]
theorem eB_dn (a : Arms) (S : Sw) : eB a (dnS S) = eB a S - dnI a 0 S.2 := by
  have h := sumB_dn a S.2 0
  unfold eB dnS
  split
  · rename_i l q; dsimp only; rw [h.1 l q]; omega
  · rename_i q; dsimp only; rw [h.2 q, Int.sub_mul]; omega
/-! rows of moves -/
def upN : Nat → Sw → Sw
  | 0, S => S
  | n + 1, S => upN n (upS S)
def dnN : Nat → Sw → Sw
  | 0, S => S
  | n + 1, S => dnN n (dnS S)
def upL : Nat → List Bool → List Bool
  | 0, l => l
  | n + 1, l => upL n (upB l)
/-! downwards -/
theorem dnB_off {l : List Bool} : ∀ k : Nat, dnB (List.replicate k false ++ l) = (dnB l).map (List.replicate k false ++ ·)
  | 0 => by simp
  | k + 1 => by
    rw [List.replicate_succ, List.cons_append, dnB, dnB_off k]
    cases dnB l <;> simp
theorem dnN_on (m : Int) : ∀ (k i : Nat) (l : List Bool), dnN k (m, List.replicate i false ++ (List.replicate k true ++ l)) = (m, List.replicate i false ++ (List.replicate k false ++ l))
  | 0, i, l => rfl
  | k + 1, i, l => by
    rw [dnN]
    have : dnS (m, List.replicate i false ++ (List.replicate (k + 1) true ++ l)) = (m, List.replicate (i + 1) false ++ (List.replicate k true ++ l)) := by
      unfold dnS
      rw [dnB_off, List.replicate_succ (n := k), List.cons_append, dnB]
      simp [List.replicate_succ', List.append_assoc]
    rw [this, dnN_on m k (i + 1) l, List.replicate_succ', List.append_assoc, List.replicate_succ (n := k)]; rfl
end Rg

namespace Rg
/-! ### one rod -/
theorem dl_rod (s j : Int) : dl [(s, 1)] j = if s ≤ j then 1 else 0 := by
  unfold dl
  simp only [cv_cons, cv_nil]
  unfold pos
  repeat' split
  all_goals omega
theorem pull_rod (s : Int) : pull [(s, 1)] = 1 := by simp [pull]
theorem rodK {s : Int} (hs : 0 ≤ s) : ∀ (l : List Bool) (j : Int), 0 ≤ j →
    (0 ≤ sumB [(0, 1)] j l - sumB [(s, 1)] j l ∧ sumB [(0, 1)] j l - sumB [(s, 1)] j l ≤ pos (s - j)) ∧
    upI [(s, 1)] j l = (if sumB [(0, 1)] j l - sumB [(s, 1)] j l = pos (s - j) then 1 else 0) ∧ dnI [(s, 1)] j l = (if sumB [(0, 1)] j l - sumB [(s, 1)] j l = 0 then 1 else 0)
  | [], j, hj => by
    simp only [sumB, upI, dnI, dl_rod, pull_rod]
    unfold pos
    repeat' split
    all_goals omega
  | b :: l, j, hj => by
    obtain ⟨⟨h1, h2⟩, h3, h4⟩ := rodK hs l (j + 1) (by omega)
    have h0 : (0 : Int) ≤ j := hj
    cases b
    · simp only [sumB, upI, dnI, dl_rod, h4, Bool.false_eq_true, if_false, Int.zero_add]
      clear h3 h4
      unfold pos at *
      generalize sumB [(0, 1)] (j + 1) l = A at *
      generalize sumB [(s, 1)] (j + 1) l = B at *
      refine ⟨⟨h1, ?_⟩, ?_, trivial⟩
      · split at h2 <;> split <;> omega
      · split at h2 <;> repeat' split
        all_goals omega
    · simp only [sumB, upI, dnI, dl_rod, h3, if_true]
      clear h3 h4
      unfold pos at *
      generalize sumB [(0, 1)] (j + 1) l = A at *
      generalize sumB [(s, 1)] (j + 1) l = B at *
      rw [if_pos h0]
      refine ⟨⟨?_, ?_⟩, ?_, ?_⟩
      · split <;> omega
      · split at h2 <;> repeat' split
        all_goals omega
      · split at h2 <;> repeat' split
        all_goals omega
      · repeat' split
        all_goals omega
theorem eB_rod (s : Int) (S : Sw) : eB [(s, 1)] S = S.1 + sumB [(s, 1)] 0 S.2 := by unfold eB; rw [pull_rod]; omega
theorem rod_in {s : Int} (hs : 0 ≤ s) (S : Sw) : pl S - s ≤ eB [(s, 1)] S ∧ eB [(s, 1)] S ≤ pl S := by
  have h := (rodK hs S.2 0 (by omega)).1
  unfold pl
  rw [eB_rod, eB_rod]
  rw [show s - 0 = s by omega] at h
  have : pos s = s := by unfold pos; split <;> omega
  omega
theorem pl_up (S : Sw) : pl (upS S) = pl S + 1 := by
  unfold pl
  rw [eB_up, (rodK (Int.le_refl 0) S.2 0 (by omega)).2.1]
  simp [pos]
theorem pl_dn (S : Sw) : pl (dnS S) = pl S - 1 := by
  unfold pl
  rw [eB_dn, (rodK (Int.le_refl 0) S.2 0 (by omega)).2.2]
  simp
theorem rod_up {s : Int} (hs : 0 ≤ s) (S : Sw) : eB [(s, 1)] (upS S) = min (max (eB [(s, 1)] S) (pl (upS S) - s)) (pl (upS S)) := by
  have h := rodK hs S.2 0 (by omega)
  have hi := rod_in hs S
  rw [pl_up, eB_up, h.2.1]
  have e0 : pl S = S.1 + sumB [(0, 1)] 0 S.2 := eB_rod 0 S
  have e1 := eB_rod s S
  rw [show s - 0 = s by omega, show pos s = s by unfold pos; split <;> omega] at *
  split <;> omega
theorem rod_dn {s : Int} (hs : 0 ≤ s) (S : Sw) : eB [(s, 1)] (dnS S) = min (max (eB [(s, 1)] S) (pl (dnS S) - s)) (pl (dnS S)) := by
  have h := rodK hs S.2 0 (by omega)
  have hi := rod_in hs S
  rw [pl_dn, eB_dn, h.2.2]
  have e0 : pl S = S.1 + sumB [(0, 1)] 0 S.2 := eB_rod 0 S
  have e1 := eB_rod s S
  split <;> omega
theorem rod_stay {s : Int} (hs : 0 ≤ s) (S : Sw) : min (max (eB [(s, 1)] S) (pl S - s)) (pl S) = eB [(s, 1)] S := by
  have hi := rod_in hs S
  omega
/-! ### chains -/
theorem Rises.pull {a : Arms} {M L : Int} {n : Nat} (hr : Rises a) (r : RB a M L n) : 0 ≤ pull a := by
  have h := cv_tail1 r.m (Int.le_refl M)
  have := hr M r.m0
  omega
end Rg

namespace Rg
/-! ### sizes -/
theorem dnB_len : ∀ {l l' : List Bool}, dnB l = some l' → l'.length = l.length
  | true :: l, l', h => by simp only [dnB, Option.some.injEq] at h; subst h; rfl
  | false :: l, l', h => by
    simp only [dnB, Option.map_eq_some_iff] at h
    obtain ⟨l2, h2, rfl⟩ := h
    simp [dnB_len h2]
end Rg

namespace Rg
/-! ### going to a place -/
structure Bd (F : Int) (S : Sw) : Prop where
  lo : -F ≤ S.1
  neg : S.1 ≤ 0
  len : (S.2.length : Int) ≤ 2 * F
theorem upB_full : ∀ (l : List Bool) (j : Int), 0 ≤ j → (upB l).length = l.length ∨ sumB [(0, 1)] j (upB l) = (upB l).length
  | [], j, h => .inr (by simp [upB, sumB, dl_rod, h])
  | false :: l, j, h => .inl rfl
  | true :: l, j, h => by
    rcases upB_full l (j + 1) (by omega) with e | e
    · exact .inl (by simp [upB, e])
    · refine .inr ?_
      simp only [upB, sumB, dl_rod, e, if_true, h, List.length_cons]; omega
theorem Bd.up {F : Int} {S : Sw} (h : Bd F S) (hp : pl (upS S) ≤ F) : Bd F (upS S) := by
  have h1 := h.lo
  have h2 := h.neg
  have h3 := h.len
  refine ⟨h1, h2, ?_⟩
  have e := eB_rod 0 (upS S)
  unfold pl at hp
  rcases upB_full S.2 0 (Int.le_refl 0) with e2 | e2
  · show ((upB S.2).length : Int) ≤ 2 * F
    rw [e2]; exact h3
  · have e3 : eB [(0, 1)] (upS S) = S.1 + (upB S.2).length := by rw [e]; show S.1 + sumB [(0, 1)] 0 (upB S.2) = _; rw [e2]
    show ((upB S.2).length : Int) ≤ 2 * F
    omega
theorem dnB_none_sum : ∀ (l : List Bool) (j : Int), dnB l = none → sumB [(0, 1)] j l = 0
  | [], j, h => rfl
  | false :: l, j, h => by
    simp only [dnB, Option.map_eq_none_iff] at h
    simp [sumB, dnB_none_sum l (j + 1) h]
theorem Bd.dn {F : Int} {S : Sw} (h : Bd F S) (hp : -F ≤ pl (dnS S)) : Bd F (dnS S) := by
  have h1 := h.lo
  have h2 := h.neg
  have h3 := h.len
  have e := eB_rod 0 (dnS S)
  unfold pl at hp
  rw [e] at hp
  unfold dnS at hp ⊢
  split at hp
  · rename_i l q
    exact ⟨h1, h2, by dsimp only; rw [dnB_len q]; exact h3⟩
  · rename_i q
    dsimp only at hp
    rw [dnB_none_sum S.2 0 q] at hp
    exact ⟨by dsimp only; omega, by dsimp only; omega, h3⟩
theorem Bd.upN {F : Int} : ∀ (n : Nat) {S : Sw}, Bd F S → pl S + n ≤ F → Bd F (upN n S)
  | 0, S, h, _ => h
  | n + 1, S, h, hp => Bd.upN n (h.up (by rw [pl_up]; omega)) (by rw [pl_up]; omega)
theorem Bd.dnN {F : Int} : ∀ (n : Nat) {S : Sw}, Bd F S → -F ≤ pl S - n → Bd F (dnN n S)
  | 0, S, h, _ => h
  | n + 1, S, h, hp => Bd.dnN n (h.dn (by rw [pl_dn]; omega)) (by rw [pl_dn]; omega)
/-- the states on the way to a place -/
def wayS (S : Sw) (p : Int) (i : Nat) : Sw := if pl S ≤ p then upN i S else dnN i S
def wayN (S : Sw) (p : Int) : Nat := if pl S ≤ p then (p - pl S).toNat else (pl S - p).toNat
def goS (S : Sw) (p : Int) : Sw := wayS S p (wayN S p)
theorem Bd.way {F : Int} {S : Sw} (h : Bd F S) {p : Int} (h1 : -F ≤ p) (h2 : p ≤ F) {i : Nat} (hi : i ≤ wayN S p) : Bd F (wayS S p i) := by
  unfold wayS wayN at *
  split
  · rename_i q; rw [if_pos q] at hi; exact h.upN i (by omega)
  · rename_i q; rw [if_neg q] at hi; exact h.dnN i (by omega)
theorem Bd.go {F : Int} {S : Sw} (h : Bd F S) {p : Int} (h1 : -F ≤ p) (h2 : p ≤ F) : Bd F (goS S p) := h.way h1 h2 (Nat.le_refl _)
theorem Bd.rest {F : Int} (h : 0 ≤ F) : Bd F (0, []) := ⟨by dsimp only; omega, Int.le_refl 0, by simp; omega⟩
def endsB (a : Arms) : Sw → List Int → List Int
  | _, [] => []
  | S, p :: r => eB a (goS S p) :: endsB a (goS S p) r
def lastS (S : Sw) (row : List Int) : Sw := row.foldl goS S
/-- the way of the end -/
def farW (a : Arms) (q : Nat → Sw) : Nat → Int
  | 0 => 0
  | n + 1 => farW a q n + (if eB a (q (n + 1)) - eB a (q n) < 0 then -(eB a (q (n + 1)) - eB a (q n)) else eB a (q (n + 1)) - eB a (q n))
def farB (a : Arms) : Sw → List Int → Int
  | _, [] => 0
  | S, p :: r => farW a (wayS S p) (wayN S p) + farB a (goS S p) r
/-! ### the play law -/
theorem go_rod {s : Int} (hs : 0 ≤ s) (S : Sw) (p : Int) : eB [(s, 1)] (goS S p) = min (max (eB [(s, 1)] S) (p - s)) p := by
  have hU : ∀ (n : Nat) (S : Sw), eB [(s, 1)] (Rg.upN n S) = min (max (eB [(s, 1)] S) (pl S + n - s)) (pl S + n) := fun n => by
    induction n with
    | zero => intro S; have := rod_stay hs S; simp only [Rg.upN]; omega
    | succ n ih =>
      intro S
      have h1 := rod_up hs S
      have h2 := pl_up S
      have h3 := rod_in hs S
      rw [Rg.upN, ih (upS S), h1, h2]
      omega
  have hD : ∀ (n : Nat) (S : Sw), eB [(s, 1)] (Rg.dnN n S) = min (max (eB [(s, 1)] S) (pl S - n - s)) (pl S - n) := fun n => by
    induction n with
    | zero => intro S; have := rod_stay hs S; simp only [Rg.dnN]; omega
    | succ n ih =>
      intro S
      have h1 := rod_dn hs S
      have h2 := pl_dn S
      have h3 := rod_in hs S
      rw [Rg.dnN, ih (dnS S), h1, h2]
      omega
  unfold goS wayS wayN
  split
  · rw [hU, show pl S + ((p - pl S).toNat : Int) = p by omega]
  · rw [hD, show pl S - ((pl S - p).toNat : Int) = p by omega]
theorem eB_arms (a : Arms) (S : Sw) : eB a S = (a.map fun p => p.2 * eB [(p.1, 1)] S).sum := by
  have hs : ∀ (l : List Bool) (j : Int), sumB a j l = (a.map fun p => p.2 * sumB [(p.1, 1)] j l).sum := fun l => by
    induction l with
    | nil =>
      intro j
      clear S
      simp only [sumB]
      induction a with
      | nil => rfl
      | cons p a ih => rw [List.map_cons, List.sum_cons, ← ih]; omega
    | cons b l ih =>
      intro j
      simp only [sumB, ih, dl_rod]
      cases b
      · simp
      · simp only [if_true, dl]
        clear ih
        induction a with
        | nil => simp
        | cons p a ih =>
          simp only [cv_cons, List.map_cons, List.sum_cons, Int.mul_add]
          rw [show p.2 * pos (j + 1 - p.1) + cv a (j + 1) - (p.2 * pos (j - p.1) + cv a j) = p.2 * (pos (j + 1 - p.1) - pos (j - p.1)) + (cv a (j + 1) - cv a j) by rw [Int.mul_sub]; omega]
          have e : pos (j + 1 - p.1) - pos (j - p.1) = if p.1 ≤ j then 1 else 0 := by unfold pos; repeat' split
                                                                                      all_goals omega
          rw [e]
          simp only [Int.mul_add] at ih
          omega
  unfold eB
  rw [hs]
  have : ∀ a : Arms, S.1 * pull a + (a.map fun p => p.2 * sumB [(p.1, 1)] 0 S.2).sum = (a.map fun p => p.2 * (S.1 * pull [(p.1, 1)] + sumB [(p.1, 1)] 0 S.2)).sum := fun a => by
    induction a with
    | nil => simp [pull]
    | cons p a ih =>
      rw [List.map_cons, List.sum_cons, List.map_cons, List.sum_cons, ← ih, pull_rod, Int.mul_add, Int.mul_one]
      rw [show pull (p :: a) = p.2 + pull a by simp [pull], Int.mul_add, Int.mul_comm S.1 p.2]
      omega
  exact this a
end Rg

namespace Mt
/-! ### one more place moves each rod by the play law -/
mutual
theorem playU {s : Int} (hs : 0 ≤ s) : ∀ (r : List Int) (a p : Int), Zig true (a :: r) → (addF true (a :: r) p).getD 0 0 + Tr s (addF true (a :: r) p) = min (max (a + Tr s (a :: r)) (p - s)) p
  | r, a, p, h => by
    by_cases hp : p ≤ a
    · have e : addF true (a :: r) p = [p] := by simp [addF, trig, hp]
      have h0 : 0 ≤ Tr s (a :: r) := by
        match r, h with
        | [], _ => simp [Tr]
        | b :: r', h => exact (Tr_bound s h).1.1
      rw [e]
      simp only [Tr, List.getD_cons_zero]
      omega
    · match r, h with
      | [], h =>
        have e : addF true [a] p = [a, p] := by simp [addF, trig, hp]
        rw [e]
        simp only [Tr, List.getD_cons_zero, pos, iabs]
        repeat' split
        all_goals omega
      | b :: r', h =>
        have hab : a < b := by simpa using h.two
        have hb := (Tr_bound s h).1
        have z := fun hz => Tr_zero (s := s) h hz
        have ei : iabs (b - a) = b - a := by unfold iabs; split <;> omega
        rw [ei] at hb z
        by_cases hq : b ≤ p
        · have e : addF true (a :: b :: r') p = [a, p] := by simp [addF, trig, hp, hq]
          rw [e]
          have e2 : Tr s [a, p] = pos (p - a - s) := by simp only [Tr, pos, iabs]; (repeat' split) <;> omega
          rw [e2, List.getD_cons_zero]
          unfold pos at *
          repeat' split
          all_goals (split at hb <;> omega)
        · have e : addF true (a :: b :: r') p = a :: addF false (b :: r') p := by simp [addF, trig, hp]
          have e3 : ∃ X, addF false (b :: r') p = b :: X := ⟨addF true r' p, by simp [addF, trig, hq]⟩
          have d := playD hs r' b p (by simpa using h.tail) (by omega)
          obtain ⟨X, e3⟩ := e3
          rw [e, e3]
          rw [e3] at d
          have t1 : Tr s (a :: b :: X) = pos (b - a - s) - Tr s (b :: X) := by rw [Tr, ei]
          have t2 : Tr s (a :: b :: r') = pos (b - a - s) - Tr s (b :: r') := by rw [Tr, ei]
          rw [t2] at hb z
          rw [t1, t2, List.getD_cons_zero]
          have z2 : b - a ≤ s → Tr s (b :: r') = 0 := fun hz => by
            have := z hz
            have e : pos (b - a - s) = 0 := by unfold pos; split <;> omega
            omega
          unfold pos at *
          split
          · omega
          · have := z2 (by omega)
            rw [this] at d
            omega
theorem playD {s : Int} (hs : 0 ≤ s) : ∀ (r : List Int) (b p : Int), Zig false (b :: r) → p < b → b - s - Tr s (addF false (b :: r) p) = min (max (b - s - Tr s (b :: r)) (p - s)) p
  | r, b, p, h, hp => by
    have hnp : ¬ b ≤ p := by omega
    match r, h with
    | [], h =>
      have e : addF false [b] p = [b, p] := by simp [addF, trig, hnp]
      rw [e]
      simp only [Tr, pos, iabs]
      repeat' split
      all_goals omega
    | c :: r', h =>
      have hcb : c < b := by simpa using h.two
      have hb := (Tr_bound s h).1
      have z := fun hz => Tr_zero (s := s) h hz
      have ei : iabs (c - b) = b - c := by unfold iabs; split <;> omega
      rw [ei] at hb z
      by_cases hq : p ≤ c
      · have e : addF false (b :: c :: r') p = [b, p] := by simp [addF, trig, hnp, hq]
        rw [e]
        have e2 : Tr s [b, p] = pos (b - p - s) := by simp only [Tr, pos, iabs]; (repeat' split) <;> omega
        rw [e2]
        unfold pos at *
        repeat' split
        all_goals (split at hb <;> omega)
      · have e : addF false (b :: c :: r') p = b :: addF true (c :: r') p := by simp [addF, trig, hnp]
        have e3 : ∃ X, addF true (c :: r') p = c :: X := ⟨addF false r' p, by simp [addF, trig, hq]⟩
        have d := playU hs r' c p (by simpa using h.tail)
        obtain ⟨X, e3⟩ := e3
        rw [e, e3]
        rw [e3, List.getD_cons_zero] at d
        have t1 : Tr s (b :: c :: X) = pos (b - c - s) - Tr s (c :: X) := by rw [Tr, ei]
        have t2 : Tr s (b :: c :: r') = pos (b - c - s) - Tr s (c :: r') := by rw [Tr, ei]
        rw [t2] at hb z
        rw [t1, t2]
        have z2 : b - c ≤ s → Tr s (c :: r') = 0 := fun hz => by
          have := z hz
          have e : pos (b - c - s) = 0 := by unfold pos; split <;> omega
          omega
        unfold pos at *
        split
        · omega
        · have := z2 (by omega)
          rw [this] at d
          omega
end
theorem rodE_moved {s : Int} (hs : 0 ≤ s) {rs : List Int} {p : Int} (m : MemV rs) (hne : rs ≠ []) (hp : -1000000 ≤ p ∧ p ≤ 1000000) : rodE (movedR rs p).1 s = min (max (rodE rs s) (p - s)) p := by
  unfold rodE
  rw [moved_addF m hne hp, end_rod, end_rod]
  have z := zig_memV m
  cases q : rs.reverse with
  | nil => exact absurd (List.reverse_eq_nil_iff.mp q) hne
  | cons a r =>
    rw [q] at z
    rw [playU hs r a p z, List.getD_cons_zero]
end Mt

namespace Mt
open Rg (Arms Sw eB goS lastS)
theorem cv_eq (h : Int) : ∀ a : Arms, Rg.cv a h = curveA a h
  | [] => by simp [curveA]
  | p :: a => by
    rw [Rg.cv_cons, cv_eq h a]
    simp [curveA, Rg.pos, pos]
theorem swings_arms : ∀ (ps : List Int) (a : Arms) (sg : Int), swings a sg ps = sg * (a.map fun p => p.2 * Tr p.1 ps).sum
  | [], a, sg => by
    have : (a.map fun p => p.2 * Tr p.1 []).sum = 0 := by
      induction a with
      | nil => rfl
      | cons p a ih => rw [List.map_cons, List.sum_cons, ih]; simp [Tr]
    simp [swings, this]
  | [x], a, sg => by
    have : (a.map fun p => p.2 * Tr p.1 [x]).sum = 0 := by
      induction a with
      | nil => rfl
      | cons p a ih => rw [List.map_cons, List.sum_cons, ih]; simp [Tr]
    simp [swings, this]
  | x :: y :: r, a, sg => by
    rw [swings, swings_arms (y :: r) a]
    have : (a.map fun p => p.2 * Tr p.1 (x :: y :: r)).sum = curveA a (iabs (y - x)) - (a.map fun p => p.2 * Tr p.1 (y :: r)).sum := by
      unfold curveA
      induction a with
      | nil => rfl
      | cons p a ih =>
        rw [List.map_cons, List.sum_cons, List.map_cons, List.sum_cons, List.map_cons, List.sum_cons, ih]
        rw [show Tr p.1 (x :: y :: r) = pos (iabs (y - x) - p.1) - Tr p.1 (y :: r) from rfl, Int.mul_sub]
        omega
    rw [this, Int.mul_sub, Int.sub_mul, Int.zero_mul]
    omega
theorem endA_arms (a : Arms) (ps : List Int) : endA a ps = (a.map fun p => p.2 * endA [(p.1, 1)] ps).sum := by
  unfold endA
  rw [swings_arms, Int.one_mul]
  have : ∀ a : Arms, ps.getD 0 0 * pullA a + (a.map fun p => p.2 * Tr p.1 ps).sum = (a.map fun p => p.2 * (ps.getD 0 0 * pullA [(p.1, 1)] + swings [(p.1, 1)] 1 ps)).sum := fun a => by
    induction a with
    | nil => simp [pullA]
    | cons p a ih =>
      rw [List.map_cons, List.sum_cons, List.map_cons, List.sum_cons, ← ih, swings_rod, show pullA (p :: a) = p.2 + pullA a by simp [pullA], show pullA [(p.1, 1)] = 1 by simp [pullA], Int.one_mul, Int.mul_one, Int.mul_add, Int.mul_add, Int.mul_comm p.2 (ps.getD 0 0)]
      omega
  exact this a
/-- a memory and a state of all rods that tell the same -/
def Sam (rs : List Int) (S : Sw) : Prop := ∀ s, 0 ≤ s → rodE rs s = eB [(s, 1)] S
theorem Sam.move {rs : List Int} {S : Sw} (h : Sam rs S) (m : MemOk rs) {p : Int} (hp : -1000000 ≤ p ∧ p ≤ 1000000) : Sam (movedR rs p).1 (goS S p) := fun s hs => by
  rw [rodE_moved hs m.2 m.1 hp, h s hs, Rg.go_rod hs]
theorem Sam.follow : ∀ {row rs : List Int} {S : Sw}, Sam rs S → MemOk rs → (∀ p ∈ row, -1000000 ≤ p ∧ p ≤ 1000000) → Sam (followR rs row).1 (lastS S row)
  | [], rs, S, h, m, hr => h
  | p :: row, rs, S, h, m, hr => by
    have hp := hr p (by simp)
    exact Sam.follow (row := row) (h.move m hp) ⟨moved_ne rs p, memV_moved m.2 m.1 hp⟩ fun x hx => hr x (by simp [hx])
theorem Sam.rest : Sam [0] (0, []) := fun s hs => by simp [rodE, end_rod, Tr, Rg.eB, Rg.sumB]
theorem Sam.end {rs : List Int} {S : Sw} (h : Sam rs S) {a : Arms} (hc : Rg.Canon a) : endA a rs.reverse = eB a S := by
  rw [endA_arms, Rg.eB_arms]
  congr 1
  refine List.map_congr_left fun p hp => ?_
  have : endA [(p.1, 1)] rs.reverse = rodE rs p.1 := rfl
  rw [this, h p.1 (hc.2 p hp).1]
end Mt

namespace Rg
/-! ### trees of any depth, with the bounds that their rigs keep; U bounds the size of the states that they are stepped through -/
inductive TG : Nat → Int → Tr → Int → Int → Nat → Prop
  | rod {n : Nat} {U s M : Int} (h0 : 0 ≤ s) (h1 : s ≤ M) (h2 : M ≤ 99) : TG n U (.rod s) M 1 1
  | mul {n N : Nat} {U M L K k : Int} {t : Tr} (ht : TG n U t M L N) (h1 : -K ≤ k) (h2 : k ≤ K) (hK : K ≤ 99) (hL : 2 * (K * L) ≤ 1000000) : TG (n + 1) U (.mul t k) M (K * L) N
  | neg {n N : Nat} {U M L : Int} {t : Tr} (ht : TG n U t M L N) : TG (n + 1) U (.neg t) M L N
  | add {n N N' : Nat} {U M L M' L' : Int} {a b : Tr} (ha : TG n U a M L N) (hb : TG n U b M' L' N') (hM : M + M' ≤ 999) (hL : 2 * (L + L') ≤ 1000000) (hN : N + N' ≤ 60) : TG (n + 1) U (.add a b) (M + M') (L + L') (N + N')
  | sub {n N N' : Nat} {U M L M' L' : Int} {a b : Tr} (ha : TG n U a M L N) (hb : TG n U b M' L' N') (hM : M + M' ≤ 999) (hL : 2 * (L + L') ≤ 1000000) (hN : N + N' ≤ 60) : TG (n + 1) U (.sub a b) (M + M') (L + L') (N + N')
  | chn {n N N' : Nat} {U M L M' L' : Int} {a b : Tr} (ha : TG n U a M L N) (hb : TG n (L * U) b M' L' N') (hr : Rises a.ar) (hM : M + M' ≤ 999) (hL : 2 * (L * L') ≤ 1000000) (hN : N + 2 * N' ≤ 60) (hU : L * U ≤ 8000000) : TG (n + 1) U (.chn a b) (M + M') (L * L') (N + 2 * N')
  | mono {n N N' : Nat} {U M L M' L' : Int} {t : Tr} (ht : TG n U t M L N) (h1 : M ≤ M') (h2 : L ≤ L') (h3 : N ≤ N') (hM : M' ≤ 999) (hL : 2 * L' ≤ 1000000) (hN : N' ≤ 60) : TG n U t M' L' N'
theorem upto_add {a b : Arms} {x y t : Int} (u : Upto x a) (v : Upto y b) (hx : 0 ≤ x) (hy : 0 ≤ y) : Upto (x + y) (addA a b t) := fun p hp => by
  obtain ⟨⟨z, hz, e⟩, _⟩ := srt_mem hp
  rcases addW_keys t hz with ⟨w, hw, e2⟩ | ⟨w, hw, e2⟩
  · have := u w hw; omega
  · have := v w hw; omega
theorem upto_nil (x : Int) : Upto x [] := fun p hp => nomatch hp
theorem upto_dr {a b : Arms} {x y : Int} (ha : Canon a) (hb : Canon b) (u : Upto x a) (v : Upto y b) (hx : 0 ≤ x) (hy : 0 ≤ y) : Upto (x + y) (drA a b) := fun p hp => by
  have h := drA_upto ha hb p hp
  have g1 : gs a ≤ x := by
    unfold gs; split
    · rename_i q hq; exact u q (List.mem_of_getLast? hq)
    · exact hx
  have g2 : gs b ≤ y := by
    unfold gs; split
    · rename_i q hq; exact v q (List.mem_of_getLast? hq)
    · exact hy
  omega
theorem TG.rb : ∀ {n N : Nat} {U M L : Int} {t : Tr}, TG n U t M L N → (RB t.ar M L N ∧ Upto t.tot t.ar ∧ 0 ≤ t.tot ∧ t.tot ≤ M) ∧ M ≤ 999 ∧ 2 * L ≤ 1000000 ∧ N ≤ 60
  | _, _, _, _, _, _, .rod (s := s) h0 h1 h2 => ⟨⟨(RB.rod h0).mono h1 (Int.le_refl _) (Nat.le_refl _), fun p hp => by simp [Tr.ar] at hp; subst hp; exact Int.le_refl _, h0, h1⟩, by omega, by decide, by decide⟩
  | _, _, _, _, _, _, .mul (k := k) ht h1 h2 hK hL => by
    obtain ⟨⟨r, u, t0, t1⟩, q1, q2, q3⟩ := ht.rb
    have m0 := r.m0
    refine ⟨⟨?_, fun p hp => ?_, t0, t1⟩, q1, hL, q3⟩
    · exact ((RB.nil (M := 0) (L := 0) (by omega) (by omega)).add r h1 h2).mono (by omega) (by omega) (by omega)
    · have := upto_add (t := k) (upto_nil 0) u (by omega) t0 p hp; simp only [Tr.tot]; omega
  | _, _, _, _, _, _, .neg ht => by
    obtain ⟨⟨r, u, t0, t1⟩, q1, q2, q3⟩ := ht.rb
    have m0 := r.m0
    refine ⟨⟨?_, fun p hp => ?_, t0, t1⟩, q1, q2, q3⟩
    · exact ((RB.nil (M := 0) (L := 0) (by omega) (by omega)).add r (T := 1) (t := -1) (by omega) (by omega)).mono (by omega) (by omega) (by omega)
    · have := upto_add (t := -1) (upto_nil 0) u (by omega) t0 p hp; simp only [Tr.tot]; omega
  | _, _, _, _, _, _, .add ha hb hM hL hN => by
    obtain ⟨⟨r, u, t0, t1⟩, q1, q2, q3⟩ := ha.rb
    obtain ⟨⟨r', u', t0', t1'⟩, q1', q2', q3'⟩ := hb.rb
    have m0 := r.m0
    have m0' := r'.m0
    refine ⟨⟨?_, upto_add u u' t0 t0', by simp only [Tr.tot]; omega, by simp only [Tr.tot]; omega⟩, hM, hL, hN⟩
    exact (r.add r' (T := 1) (t := 1) (by omega) (by omega)).mono (by omega) (by omega) (by omega)
  | _, _, _, _, _, _, .sub ha hb hM hL hN => by
    obtain ⟨⟨r, u, t0, t1⟩, q1, q2, q3⟩ := ha.rb
    obtain ⟨⟨r', u', t0', t1'⟩, q1', q2', q3'⟩ := hb.rb
    have m0 := r.m0
    have m0' := r'.m0
    refine ⟨⟨?_, upto_add u u' t0 t0', by simp only [Tr.tot]; omega, by simp only [Tr.tot]; omega⟩, hM, hL, hN⟩
    exact (r.add r' (T := 1) (t := -1) (by omega) (by omega)).mono (by omega) (by omega) (by omega)
  | _, _, _, _, _, _, .chn ha hb hr hM hL hN hU => by
    obtain ⟨⟨r, u, t0, t1⟩, q1, q2, q3⟩ := ha.rb
    obtain ⟨⟨r', u', t0', t1'⟩, q1', q2', q3'⟩ := hb.rb
    exact ⟨⟨r.dr r' hr, upto_dr r.c r'.c u u' t0 t0', by simp only [Tr.tot]; omega, by simp only [Tr.tot]; omega⟩, hM, hL, hN⟩
  | _, _, _, _, _, _, .mono ht h1 h2 h3 hM hL hN => by
    obtain ⟨⟨r, u, t0, t1⟩, _⟩ := ht.rb
    exact ⟨⟨r.mono h1 h2 h3, u, t0, by omega⟩, hM, hL, hN⟩
theorem TG.up : ∀ {n N m : Nat} {U M L : Int} {t : Tr}, TG n U t M L N → n ≤ m → TG m U t M L N
  | _, _, _, _, _, _, _, .rod h0 h1 h2, _ => .rod h0 h1 h2
  | _, _, m + 1, _, _, _, _, .mul ht h1 h2 hK hL, h => .mul (ht.up (by omega)) h1 h2 hK hL
  | _, _, m + 1, _, _, _, _, .neg ht, h => .neg (ht.up (by omega))
  | _, _, m + 1, _, _, _, _, .add ha hb hM hL hN, h => .add (ha.up (by omega)) (hb.up (by omega)) hM hL hN
  | _, _, m + 1, _, _, _, _, .sub ha hb hM hL hN, h => .sub (ha.up (by omega)) (hb.up (by omega)) hM hL hN
  | _, _, m + 1, _, _, _, _, .chn ha hb hr hM hL hN hU, h => .chn (ha.up (by omega)) (hb.up (by omega)) hr hM hL hN hU
  | _, _, _, _, _, _, _, .mono ht h1 h2 h3 hM hL hN, h => .mono (ht.up h) h1 h2 h3 hM hL hN
theorem TG.low : ∀ {n N : Nat} {U V M L : Int} {t : Tr}, TG n U t M L N → V ≤ U → TG n V t M L N
  | _, _, _, _, _, _, _, .rod h0 h1 h2, _ => .rod h0 h1 h2
  | _, _, _, _, _, _, _, .mul ht h1 h2 hK hL, h => .mul (ht.low h) h1 h2 hK hL
  | _, _, _, _, _, _, _, .neg ht, h => .neg (ht.low h)
  | _, _, _, _, _, _, _, .add ha hb hM hL hN, h => .add (ha.low h) (hb.low h) hM hL hN
  | _, _, _, _, _, _, _, .sub ha hb hM hL hN, h => .sub (ha.low h) (hb.low h) hM hL hN
  | _, _, _, _, _, _, _, .chn (L := L) ha hb hr hM hL hN hU, h => by
    have l0 := ha.rb.1.1.l0
    have := Int.mul_le_mul_of_nonneg_left h l0
    exact .chn (ha.low h) (hb.low this) hr hM hL hN (Int.le_trans this hU)
  | _, _, _, _, _, _, _, .mono ht h1 h2 h3 hM hL hN, h => .mono (ht.low h) h1 h2 h3 hM hL hN
/-! the bounds of trees that are drawn -/
end Rg

namespace Mt
open Rg (Arms Sw eB goS lastS pl wayS wayN farW farB)
/-! ### the way of an end, by the memory and the loops that are closed -/
def eR (a : Arms) : List Int → Int
  | x :: y :: r => eR a (y :: r) + (if r.length % 2 = 0 then 1 else -1) * curveA a (iabs (x - y))
  | [x] => x * pullA a
  | [] => 0
def swT (f : Int → Int) (P : Int) : List Int → Int
  | x :: y :: r => swT f P (y :: r) + f (iabs (x - y))
  | [x] => P * iabs x
  | [] => 0
theorem swings_snoc (a : Arms) : ∀ (l : List Int) (sg y x : Int), swings a sg (l ++ [y, x]) = swings a sg (l ++ [y]) + (if l.length % 2 = 0 then sg else -sg) * curveA a (iabs (x - y))
  | [], sg, y, x => by simp [swings]
  | [z], sg, y, x => by simp [swings]
  | z :: w :: l, sg, y, x => by
    have := swings_snoc a (w :: l) (0 - sg) y x
    simp only [List.cons_append] at this ⊢
    rw [swings, this, swings]
    simp only [List.length_cons]
    by_cases h : l.length % 2 = 0
    · have h1 : ¬ (l.length + 1) % 2 = 0 := by omega
      have h2 : (l.length + 1 + 1) % 2 = 0 := by omega
      rw [if_neg h1, if_pos h2]; rw [show -(0 - sg) = sg by omega]; omega
    · have h1 : (l.length + 1) % 2 = 0 := by omega
      have h2 : ¬ (l.length + 1 + 1) % 2 = 0 := by omega
      rw [if_pos h1, if_neg h2]; rw [show (0 - sg) = -sg by omega]; omega
def lsum (f : Int → Int) (hs : List Int) : Int := (hs.map f).sum
/-- what a step by 1 does -/
def UL (rs : List Int) (o : List Int × List Int) : Prop :=
  (∃ h sg : Int, 0 ≤ h ∧ (sg = 1 ∨ sg = -1) ∧ (∀ (f : Int → Int) (P : Int), f 0 = 0 → swT f P o.1 + 2 * lsum f o.2 = swT f P rs + (f (h + 1) - f h)) ∧ ∀ a : Arms, curveA a 0 = 0 → eR a o.1 = eR a rs + sg * (curveA a (h + 1) - curveA a h)) ∨
  ((∀ (f : Int → Int) (P : Int), swT f P o.1 + 2 * lsum f o.2 = swT f P rs + P) ∧ ∀ a : Arms, eR a o.1 = eR a rs - pullA a)
theorem next2 {a b c : Int} {r : List Int} (h : isNextR (b :: c :: r) a = true) : min c b < a ∧ a < max c b := by
  simpa [isNextR] using h
theorem shrink_stop {up : Bool} {p a b : Int} {r hs : List Int} (h : pas up p b = false) : shrink up p (a :: b :: r) hs = (a :: b :: r, hs) := by simp [shrink, h]
theorem shrink_go {up : Bool} {p a b : Int} {r hs : List Int} (h : pas up p b = true) : shrink up p (a :: b :: r) hs = shrink up p r (hs ++ [iabs (a - b)]) := by simp [shrink, h]
theorem shrink_no {up : Bool} {p a : Int} {r hs : List Int} (h : ∀ b t, r = b :: t → pas up p b = false) : shrink up p (a :: r) hs = (a :: r, hs) := by
  cases r with
  | nil => rfl
  | cons b t => exact shrink_stop (h b t rfl)
theorem shrink_no2 {up : Bool} {p : Int} {r hs : List Int} (h : ∀ a b t, r = a :: b :: t → pas up p b = false) : shrink up p r hs = (r, hs) := by
  cases r with
  | nil => rfl
  | cons a r => exact shrink_no fun b t e => h a b t (by rw [e])
theorem pas_u {p b : Int} : pas true p b = decide (b ≤ p) := rfl
theorem pas_d {p b : Int} : pas false p b = decide (p ≤ b) := rfl
end Mt

namespace Mt
open Rg (Arms Sw eB goS lastS pl wayS wayN farW farB)
/-! ### a move on the way of a farther one -/
theorem shrink_acc (up : Bool) (p : Int) : ∀ (n : Nat) (f hs : List Int), f.length ≤ n → shrink up p f hs = ((shrink up p f []).1, hs ++ (shrink up p f []).2)
  | _, [], hs, _ => by simp [shrink]
  | _, [a], hs, _ => by simp [shrink]
  | 0, a :: b :: r, hs, h => by simp at h
  | n + 1, a :: b :: r, hs, h => by
    by_cases hb : pas up p b = true
    · rw [shrink_go hb, shrink_go hb, shrink_acc up p n r (hs ++ [iabs (a - b)]) (by simp at h; omega), shrink_acc up p n r ([] ++ [iabs (a - b)]) (by simp at h; omega)]
      simp
    · rw [shrink_stop (by simpa using hb), shrink_stop (by simpa using hb)]; simp
def beh (up : Bool) (x p : Int) : Prop := if up then x ≤ p else p ≤ x
theorem pas_beh {up : Bool} {x p b : Int} (h : beh up x p) (hb : pas up x b = true) : pas up p b = true := by
  cases up <;> simp [beh, pas] at * <;> omega
theorem shrink_mid {up : Bool} {x p : Int} (h : beh up x p) : ∀ (n : Nat) (f hs : List Int), f.length ≤ n → shrink up p f hs = shrink up p (shrink up x f hs).1 (shrink up x f hs).2
  | _, [], hs, _ => rfl
  | _, [a], hs, _ => rfl
  | 0, a :: b :: r, hs, hl => by simp at hl
  | n + 1, a :: b :: r, hs, hl => by
    by_cases hb : pas up x b = true
    · rw [shrink_go (pas_beh h hb), shrink_go hb]
      exact shrink_mid h n r _ (by simp at hl; omega)
    · rw [shrink_stop (up := up) (p := x) (by simpa using hb)]
theorem shrink_par (up : Bool) (p : Int) : ∀ (n : Nat) (f hs : List Int), f.length ≤ n → (shrink up p f hs).1.length % 2 = f.length % 2
  | _, [], hs, _ => rfl
  | _, [a], hs, _ => rfl
  | 0, a :: b :: r, hs, hl => by simp at hl
  | n + 1, a :: b :: r, hs, hl => by
    by_cases hb : pas up p b = true
    · rw [shrink_go hb, shrink_par up p n r _ (by simp at hl; omega)]; simp only [List.length_cons]; omega
    · rw [shrink_stop (by simpa using hb)]
/-- the places ahead of the new one, as a move in a direction leaves them -/
def cutU (up : Bool) (a : Int) (r : List Int) : List Int := if up = decide ((r.length + 1) % 2 = 0) then r else a :: r
theorem cutU_par (up : Bool) (a : Int) (r : List Int) : (cutU up a r).length % 2 = if up then 1 else 0 := by
  unfold cutU
  cases up
  · by_cases h : (r.length + 1) % 2 = 0
    · simp [h]
    · simp [h]; omega
  · by_cases h : (r.length + 1) % 2 = 0
    · simp [h]; omega
    · simp [h]; omega
theorem moved_ne_eq {a p : Int} {r : List Int} (h : p ≠ a) : movedR (a :: r) p = (p :: (shrink (decide (a < p)) p (cutU (decide (a < p)) a r) []).1, (shrink (decide (a < p)) p (cutU (decide (a < p)) a r) []).2) := by
  unfold movedR; simp only [if_neg h]; rfl
theorem cutU_of {up : Bool} {x : Int} {f : List Int} (h : f.length % 2 = if up then 1 else 0) : cutU up x f = f := by
  unfold cutU
  cases up
  · simp at h
    rw [if_pos]
    have : ¬ (f.length + 1) % 2 = 0 := by omega
    simp [this]
  · simp at h
    rw [if_pos]
    have : (f.length + 1) % 2 = 0 := by omega
    simp [this]
theorem moved_mid {a x p : Int} {r : List Int} {up : Bool} (h1 : x ≠ a) (h2 : p ≠ x) (e1 : decide (a < x) = up) (e2 : decide (x < p) = up) (e3 : decide (a < p) = up) (h3 : p ≠ a) :
    movedR (movedR (a :: r) x).1 p = ((movedR (a :: r) p).1, (movedR (movedR (a :: r) x).1 p).2) ∧ (movedR (a :: r) p).2 = (movedR (a :: r) x).2 ++ (movedR (movedR (a :: r) x).1 p).2 := by
  have hb : beh up x p := by
    cases up
    · simp at e2; exact e2
    · simp at e2; exact Int.le_of_lt e2
  rw [moved_ne_eq h1, e1, moved_ne_eq h3, e3]
  have hp : (shrink up x (cutU up a r) []).1.length % 2 = if up then 1 else 0 := by rw [shrink_par up x _ _ _ (Nat.le_refl _), cutU_par]
  rw [moved_ne_eq h2, e2, cutU_of hp]
  have hm := shrink_mid hb (cutU up a r).length (cutU up a r) [] (Nat.le_refl _)
  have ha := shrink_acc up p (shrink up x (cutU up a r) []).1.length (shrink up x (cutU up a r) []).1 (shrink up x (cutU up a r) []).2 (Nat.le_refl _)
  rw [hm, ha]
  exact ⟨rfl, rfl⟩
/-! ### the way of an end -/
/-- how far an end goes in a swing: the sum of the steps' sizes -/
structure Way (a : Arms) (f : Int → Int) (P : Int) : Prop where
  z : f 0 = 0
  c0 : curveA a 0 = 0
  st : ∀ h : Int, 0 ≤ h → f (h + 1) - f h = iabs (curveA a (h + 1) - curveA a h)
  p : P = iabs (pullA a)
theorem UL.way {a : Arms} {f : Int → Int} {P : Int} (w : Way a f P) {rs : List Int} {o : List Int × List Int} (u : UL rs o) : swT f P o.1 + 2 * lsum f o.2 = swT f P rs + iabs (eR a o.1 - eR a rs) := by
  rcases u with ⟨h, sg, h0, hs, k1, k2⟩ | ⟨k1, k2⟩
  · rw [k1 f P w.z, k2 a w.c0, w.st h h0]
    rcases hs with rfl | rfl
    · rw [show eR a rs + 1 * (curveA a (h + 1) - curveA a h) - eR a rs = curveA a (h + 1) - curveA a h by omega]
    · rw [show eR a rs + -1 * (curveA a (h + 1) - curveA a h) - eR a rs = -(curveA a (h + 1) - curveA a h) by omega]
      congr 1; unfold iabs; split <;> split <;> omega
  · rw [k1, k2, w.p]
    congr 1
    unfold iabs; split <;> split <;> omega
end Mt

namespace Mt
open Rg (Arms Sw eB goS lastS pl wayS wayN farW farB)
/-! ### how far an end goes in a swing -/
def wyG : Arms → Int → Int → Int → Int
  | [], b, t, h => iabs t * (h - b)
  | (s, w) :: r, b, t, h => if s < h then iabs t * (s - b) + wyG r s (t + w) h else wyG r b t h
def wyA (a : Arms) (h : Int) : Int := wyG a 0 0 h
/-- arms by rising slacks -/
def Asc : Int → Arms → Prop
  | _, [] => True
  | lo, (s, _) :: r => lo ≤ s ∧ Asc (s + 1) r
theorem Asc.mono {x y : Int} (h : x ≤ y) : ∀ {a : Arms}, Asc y a → Asc x a
  | [], _ => trivial
  | (_, _) :: _, q => ⟨by have := q.1; omega, q.2⟩
/-! ### swings as a list -/
def swL : List Int → List Int
  | a :: b :: r => iabs (b - a) :: swL (b :: r)
  | _ => []
theorem swL_len : ∀ ps : List Int, (swL ps).length = ps.length - 1
  | [] => rfl
  | [_] => rfl
  | a :: b :: r => by simp [swL, swL_len (b :: r)]
/-- how far an end goes in a row -/
def trav (a : Arms) (row : List Int) : Int := iabs (pullA a) * iabs ((memR row).reverse.getD 0 0) + lsum (wyA a) (swL (memR row).reverse) + 2 * lsum (wyA a) (followR [0] row).2
end Mt

namespace Mt
open Rg (Arms Sw eB goS lastS endsB eB_arms go_rod Canon)
/-! ### states that go alike; a row played again -/
def SE (S S' : Sw) : Prop := ∀ s : Int, 0 ≤ s → eB [(s, 1)] S = eB [(s, 1)] S'
theorem SE.refl (S : Sw) : SE S S := fun _ _ => rfl
theorem SE.symm {S S' : Sw} (h : SE S S') : SE S' S := fun s hs => (h s hs).symm
theorem SE.trans {S S' S'' : Sw} (h : SE S S') (h' : SE S' S'') : SE S S'' := fun s hs => (h s hs).trans (h' s hs)
theorem SE.en {S S' : Sw} (h : SE S S') {a : Arms} (hc : Canon a) : eB a S = eB a S' := by
  rw [eB_arms, eB_arms a S']
  congr 1
  exact List.map_congr_left fun p hp => by rw [h p.1 (hc.2 p hp).1]
theorem SE.go {S S' : Sw} (h : SE S S') (p : Int) : SE (goS S p) (goS S' p) := fun s hs => by rw [go_rod hs, go_rod hs, h s hs]
theorem SE.last : ∀ {row : List Int} {S S' : Sw}, SE S S' → SE (lastS S row) (lastS S' row)
  | [], _, _, h => h
  | p :: row, S, S', h => SE.last (row := row) (h.go p)
theorem SE.ends {a : Arms} (hc : Canon a) : ∀ {row : List Int} {S S' : Sw}, SE S S' → endsB a S row = endsB a S' row
  | [], _, _, _ => rfl
  | p :: row, S, S', h => by
    show eB a (goS S p) :: endsB a (goS S p) row = eB a (goS S' p) :: endsB a (goS S' p) row
    rw [(h.go p).en hc, SE.ends hc (h.go p)]
theorem last_clamp {s : Int} (hs : 0 ≤ s) : ∀ (row : List Int) (lo hi : Int), lo ≤ hi → ∃ lo' hi', lo' ≤ hi' ∧ ∀ (x : Int) (S : Sw), eB [(s, 1)] S = min (max x lo) hi → eB [(s, 1)] (lastS S row) = min (max x lo') hi'
  | [], lo, hi, h => ⟨lo, hi, h, fun x S e => e⟩
  | p :: row, lo, hi, h => by
    obtain ⟨lo', hi', h', k⟩ := last_clamp hs row (min (max lo (p - s)) p) (min (max hi (p - s)) p) (by omega)
    refine ⟨lo', hi', h', fun x S e => k x (goS S p) ?_⟩
    rw [go_rod hs, e]; omega
theorem SE.again (row : List Int) (S : Sw) : SE (lastS (lastS S row) row) (lastS S row) := fun s hs => by
  cases row with
  | nil => rfl
  | cons p row =>
    obtain ⟨lo, hi, h, k⟩ := last_clamp hs row (p - s) p (by omega)
    have e : ∀ S, eB [(s, 1)] (lastS S (p :: row)) = min (max (eB [(s, 1)] S) lo) hi := fun S => k _ (goS S p) (go_rod hs S p)
    rw [e (lastS S (p :: row)), e S]; omega
end Mt

namespace Nb
/-! ### memories by their numbers: plain maths -/
def rng (i : Int) (n : Nat) : List Int := (List.range n).map fun k : Nat => i + (k : Int)
theorem rng_cons (i : Int) (n : Nat) : rng i (n + 1) = i :: rng (i + 1) n := by
  simp only [rng, List.range_succ_eq_map, List.map_cons, List.map_map]
  congr 1
  · simp
  · apply List.map_congr_left; intro k _; simp only [Function.comp]; omega
theorem rng_snoc (i : Int) (n : Nat) : rng i (n + 1) = rng i n ++ [i + (n : Int)] := by
  simp [rng, List.range_succ]
def kids (a b : Int) : List Int := rng (min a b + 1) (max a b - (min a b + 1)).toNat
def wt (b q : Int) : Int := 2 ^ ((q - b).natAbs - 1)
def SA (f : Int → Int) : List Int → Int
  | [] => 0
  | q :: t => f q + SA f t
def SB (f : Int → Int) (p : Int) : List Int → Int
  | [] => 0
  | q :: t => (if q < p then f q else 0) + SB f p t
theorem SA_app (f : Int → Int) : ∀ x y, SA f (x ++ y) = SA f x + SA f y
  | [], y => by simp [SA]
  | q :: t, y => by simp only [List.cons_append, SA, SA_app f t y]; omega
theorem tot_dn (b : Int) : ∀ (n : Nat) (i : Int), i + (n : Int) = b → SA (wt b) (rng i n) + 1 = 2 ^ n
  | 0, i, _ => by simp [rng, SA]
  | n + 1, i, h => by
    rw [rng_cons, SA]
    have ih := tot_dn b n (i + 1) (by omega)
    have e : wt b i = 2 ^ n := by
      unfold wt
      rw [show (i - b).natAbs - 1 = n by omega]
    rw [e, Int.pow_succ]; omega
theorem tot_up (b : Int) : ∀ (n : Nat), SA (wt b) (rng (b + 1) n) + 1 = 2 ^ n
  | 0 => by simp [rng, SA]
  | n + 1 => by
    rw [rng_snoc, SA_app]
    have ih := tot_up b n
    have e : wt b (b + 1 + (n : Int)) = 2 ^ n := by
      unfold wt
      rw [show (b + 1 + (n : Int) - b).natAbs - 1 = n by omega]
    simp only [SA, e, Int.pow_succ]; omega
theorem tot {a b : Int} (h : a ≠ b) : SA (wt b) (kids a b) + 1 = wt b a := by
  unfold kids
  rcases Int.lt_or_gt_of_ne h with h | h
  · rw [tot_dn b (max a b - (min a b + 1)).toNat _ (by omega), wt]
    congr 1; omega
  · rw [show min a b + 1 = b + 1 by omega, tot_up b, wt]
    congr 1; omega
/-- the number of a row of places that follow b, with a before b -/
def rk : Int → Int → List Int → Int
  | _, _, [] => 0
  | a, b, p :: r => 1 + SB (wt b) p (kids a b) + rk b p r
def top (B : Int) : List Int := B :: if 1 < B then [B - 1] else []
end Nb

namespace Mt
/-! ### the loops that a row closes, step by step -/
/-- what a walk by steps notes: by the lengths of the memories before and after -/
def unitH (rs os : List Int) : List Int := (if os.length + 2 = rs.length then [iabs (rs.getD 1 0 - rs.getD 2 0)] else []) ++ (if os.length + 1 = rs.length then [1] else [])
theorem unitH_same {rs os : List Int} (h : rs.length ≤ os.length) : unitH rs os = [] := by
  unfold unitH; rw [if_neg (by omega), if_neg (by omega)]; rfl
theorem unitH_1 {rs os : List Int} (h : os.length + 1 = rs.length) : unitH rs os = [1] := by
  unfold unitH; rw [if_neg (by omega), if_pos h]; rfl
theorem unitH_2 {rs os : List Int} (h : os.length + 2 = rs.length) : unitH rs os = [iabs (rs.getD 1 0 - rs.getD 2 0)] := by
  unfold unitH; rw [if_pos h, if_neg (by omega)]; rfl
theorem unit_up {a : Int} {r : List Int} (m : MemV (a :: r)) : (movedR (a :: r) (a + 1)).2 = unitH (a :: r) (movedR (a :: r) (a + 1)).1 := by
  obtain ⟨_, n1, m1⟩ := m
  have hne : ¬ a + 1 = a := by omega
  have hup : decide (a < a + 1) = true := decide_eq_true (by omega)
  unfold movedR
  simp only [if_neg hne, hup]
  by_cases hp : (r.length + 1) % 2 = 0
  · rw [if_pos (by simp [hp])]
    match r, n1, m1, hp with
    | [b], n1, m1, hp => rw [unitH_same (by simp [shrink])]; rfl
    | [b, c], n1, m1, hp => simp at hp
    | b :: c :: d :: r, n1, m1, hp =>
      obtain ⟨_, n2, m2⟩ := m1
      obtain ⟨_, n3, m3⟩ := m2
      have g1 := next2 n1
      have g2 := next2 n2
      by_cases hc : c ≤ a + 1
      · rw [shrink_go (by simp [pas_u, hc]), shrink_no (by
          rintro e t rfl
          have g3 := next2 n3
          rw [pas_u, decide_eq_false_iff_not]
          have hal : b < c := by
            have := (memV_alt (r := d :: e :: t) (a := c) (b := b) ⟨by assumption, n2, by assumption, n3, m3⟩).2 (by simp at hp ⊢; omega)
            exact this
          omega)]
        rw [unitH_2 (by simp)]; rfl
      · rw [shrink_stop (by simp [pas_u]; omega)]
        rw [unitH_same (by simp)]
  · rw [if_neg (by simp [hp])]
    match r, n1, m1, hp with
    | [], n1, m1, hp => rw [unitH_same (by simp [shrink])]; rfl
    | [b], n1, m1, hp => simp at hp
    | b :: c :: r, n1, m1, hp =>
      obtain ⟨_, n2, m2⟩ := m1
      have g1 := next2 n1
      have hal : a < b := by
        have := (memV_alt (r := c :: r) (a := b) (b := a) ⟨⟨by omega, by omega⟩, n1, by assumption, n2, m2⟩).2 (by simp at hp ⊢; omega)
        exact this
      by_cases hb : b ≤ a + 1
      · have eb : b = a + 1 := by omega
        rw [shrink_go (by simp [pas_u, hb]), shrink_no (by
          rintro e t rfl
          have g3 := next2 n2
          rw [pas_u, decide_eq_false_iff_not]; omega)]
        rw [unitH_1 (by simp)]
        subst eb
        simp [iabs]; omega
      · rw [shrink_stop (by simp [pas_u]; omega)]
        rw [unitH_same (by simp)]
theorem unit_dn {a : Int} {r : List Int} (m : MemV (a :: r)) : (movedR (a :: r) (a - 1)).2 = unitH (a :: r) (movedR (a :: r) (a - 1)).1 := by
  obtain ⟨b0, n1, m1⟩ := m
  have hne : ¬ a - 1 = a := by omega
  have hup : decide (a < a - 1) = false := by rw [decide_eq_false_iff_not]; omega
  unfold movedR
  simp only [if_neg hne, hup]
  by_cases hp : (r.length + 1) % 2 = 0
  · rw [if_neg (by simp [hp])]
    match r, n1, m1, hp with
    | b :: r, n1, m1, hp =>
      have hal : b < a := (memV_alt (r := r) (a := b) (b := a) ⟨b0, n1, m1⟩).1 (by simp at hp; omega)
      obtain ⟨_, n2, m2⟩ := m1
      by_cases hb : a - 1 ≤ b
      · have eb : b = a - 1 := by omega
        rw [shrink_go (by simp [pas_d, hb]), shrink_no2 (by
          rintro d e t rfl
          have g3 := next2 n2
          have := (memV_alt (r := t) (a := e) (b := d) m2).1 (by simp at hp; omega)
          rw [pas_d, decide_eq_false_iff_not]; omega)]
        rw [unitH_1 (by simp)]
        subst eb
        simp [iabs]; omega
      · rw [shrink_stop (by simp [pas_d]; omega)]
        rw [unitH_same (by simp)]
  · rw [if_pos (by simp [hp])]
    match r, n1, m1, hp with
    | [], n1, m1, hp => rw [unitH_same (by simp [shrink])]; rfl
    | [b], n1, m1, hp => simp at hp
    | b :: c :: r, n1, m1, hp =>
      have hal : a < b := (memV_alt (r := c :: r) (a := b) (b := a) ⟨b0, n1, m1⟩).2 (by simp at hp ⊢; omega)
      obtain ⟨_, n2, m2⟩ := m1
      obtain ⟨_, n3, m3⟩ := m2
      have g1 := next2 n1
      have hcb : c < a := by omega
      by_cases hc : a - 1 ≤ c
      · rw [shrink_go (by simp [pas_d, hc]), shrink_no2 (by
          rintro d e t rfl
          have g3 := next2 n3
          have := (memV_alt (r := t) (a := e) (b := d) m3).1 (by simp at hp; omega)
          rw [pas_d, decide_eq_false_iff_not]; omega)]
        rw [unitH_2 (by simp)]; rfl
      · rw [shrink_stop (by simp [pas_d]; omega)]
        rw [unitH_same (by simp)]
def loopsU : List Int → List Int → List Int
  | _, [] => []
  | rs, p :: ps => unitH rs (movedR rs p).1 ++ loopsU (movedR rs p).1 ps
theorem loopsU_snoc : ∀ (ps rs : List Int) (p : Int), loopsU rs (ps ++ [p]) = loopsU rs ps ++ unitH (followR rs ps).1 (movedR (followR rs ps).1 p).1
  | [], rs, p => by simp [loopsU, followR]
  | q :: ps, rs, p => by
    simp only [List.cons_append, loopsU, followR]
    rw [loopsU_snoc ps, List.append_assoc]
theorem units_up {a : Int} {r : List Int} (m : MemV (a :: r)) : ∀ n : Nat, a + n ≤ 1000000 → loopsU (a :: r) ((List.range n).map fun i : Nat => a + (i : Int) + 1) = (movedR (a :: r) (a + n)).2 ∧ (followR (a :: r) ((List.range n).map fun i : Nat => a + (i : Int) + 1)).1 = (movedR (a :: r) (a + n)).1
  | 0, _ => by simp [movedR, loopsU, followR]
  | n + 1, hn => by
    obtain ⟨i1, i2⟩ := units_up m n (by omega)
    have hb := m.1
    have hm := memV_moved (rs := a :: r) (p := a + n) m (by simp) (by omega)
    obtain ⟨t, ht⟩ := moved_head (a :: r) (a + n)
    have u := unit_up (a := a + n) (r := t) (by rw [← ht]; exact hm)
    rw [← ht, show a + (n : Int) + 1 = a + ((n + 1 : Nat) : Int) by omega] at u
    have mid : movedR (movedR (a :: r) (a + n)).1 (a + ((n + 1 : Nat) : Int)) = ((movedR (a :: r) (a + ((n + 1 : Nat) : Int))).1, (movedR (movedR (a :: r) (a + n)).1 (a + ((n + 1 : Nat) : Int))).2) ∧ (movedR (a :: r) (a + ((n + 1 : Nat) : Int))).2 = (movedR (a :: r) (a + n)).2 ++ (movedR (movedR (a :: r) (a + n)).1 (a + ((n + 1 : Nat) : Int))).2 := by
      by_cases h0 : n = 0
      · subst h0
        have e : movedR (a :: r) (a + ((0 : Nat) : Int)) = (a :: r, []) := by simp [movedR]
        rw [e]; simp
      · exact moved_mid (up := true) (by omega) (by omega) (decide_eq_true (by omega)) (decide_eq_true (by omega)) (decide_eq_true (by omega)) (by omega)
    rw [List.range_succ, List.map_append]
    simp only [List.map_cons, List.map_nil]
    rw [loopsU_snoc, follow_snoc, i1, i2, mid.2, show a + (n : Int) + 1 = a + ((n + 1 : Nat) : Int) by omega, ← u]
    exact ⟨rfl, by rw [mid.1]⟩
theorem units_dn {a : Int} {r : List Int} (m : MemV (a :: r)) : ∀ n : Nat, -1000000 ≤ a - n → loopsU (a :: r) ((List.range n).map fun i : Nat => a - (i : Int) - 1) = (movedR (a :: r) (a - n)).2 ∧ (followR (a :: r) ((List.range n).map fun i : Nat => a - (i : Int) - 1)).1 = (movedR (a :: r) (a - n)).1
  | 0, _ => by simp [movedR, loopsU, followR]
  | n + 1, hn => by
    obtain ⟨i1, i2⟩ := units_dn m n (by omega)
    have hb := m.1
    have hm := memV_moved (rs := a :: r) (p := a - n) m (by simp) (by omega)
    obtain ⟨t, ht⟩ := moved_head (a :: r) (a - n)
    have u := unit_dn (a := a - n) (r := t) (by rw [← ht]; exact hm)
    rw [← ht, show a - (n : Int) - 1 = a - ((n + 1 : Nat) : Int) by omega] at u
    have mid : movedR (movedR (a :: r) (a - n)).1 (a - ((n + 1 : Nat) : Int)) = ((movedR (a :: r) (a - ((n + 1 : Nat) : Int))).1, (movedR (movedR (a :: r) (a - n)).1 (a - ((n + 1 : Nat) : Int))).2) ∧ (movedR (a :: r) (a - ((n + 1 : Nat) : Int))).2 = (movedR (a :: r) (a - n)).2 ++ (movedR (movedR (a :: r) (a - n)).1 (a - ((n + 1 : Nat) : Int))).2 := by
      by_cases h0 : n = 0
      · subst h0
        have e : movedR (a :: r) (a - ((0 : Nat) : Int)) = (a :: r, []) := by simp [movedR]
        rw [e]; simp
      · exact moved_mid (up := false) (by omega) (by omega) (decide_eq_false (by omega)) (decide_eq_false (by omega)) (decide_eq_false (by omega)) (by omega)
    rw [List.range_succ, List.map_append]
    simp only [List.map_cons, List.map_nil]
    rw [loopsU_snoc, follow_snoc, i1, i2, mid.2, show a - (n : Int) - 1 = a - ((n + 1 : Nat) : Int) by omega, ← u]
    exact ⟨rfl, by rw [mid.1]⟩
end Mt

namespace Pv
open PySem PySem.Spec PyProof.Rows L2 Sr
/-! ### pure data -/
/-- a lambda of the law: its number, its text, the ints that are its parameters' defaults -/
structure LamT where
  id : Nat
  /-- the names of the law's slots; the slots that are captured -/
  N : List Str
  cs : List Nat
  params : Arguments
  body : Expr
  scope : Scope
  dv : List Int
def lamQ : Str := "law.<locals>.<lambda>"
inductive D where
  | non | bl (b : Bool) | int (i : Int) | str (x : Str)
  | tup (xs : List D) | lst (xs : List D)
  /-- a tuple whose object is known (the arms of a rig) -/
  | arm (xs : List D)
  | ins (c : Str) (fs : List (Str × D))
  | dic (kvs : List (Key × D)) | dit (kvs : List (List Key × D))
  | loc (n : Nat) | ty (n : String) | cls (c : Str)
  /-- a lambda of the law, made where the law's cells are cl -/
  | lam (l : LamT) (cl : List (Str × Addr))
  /-- the table of the law's lambdas; a0: where the source of numbers stands -/
  | tab (a0 : Addr)
  /-- a lambda of the law, with what it captures -/
  | clo (l : LamT) (ρ : List (Option D)) (a0 : Addr)
  /-- the exception that a suite holds: its object, its dict, its attributes -/
  | exo (a : Addr) (dd : Option Addr) (fs : List (Str × D))
def D.isLoc : D → Bool
  | .loc _ => true
  | .exo _ _ _ => true
  | _ => false
abbrev PEnv := List (Option D)
abbrev Rs := List D
/-- the object of a lambda -/
def LamO (l : LamT) (cl : List (Str × Addr)) (c : Addr) (dV : Value) (f : Addr) : HO := .ext fun h => ∃ doc pm ctv : Value, h.get? f = some (PySem.W.kdv_obj "<lambda>" lamQ l.params (.expr l.body) l.scope (cloFrom cl l.scope.names []) dV doc pm c ctv)
def DvOk (F : Hp) (l : LamT) (dV : Value) : Prop := (l.dv = [] ∧ dV = .none) ∨ (l.dv ≠ [] ∧ ∃ t, dV = .ref t ∧ F t = some (.tup (l.dv.map V.int)))
def TabOk (F : Hp) (ps : Array Value) : Prop := TriplesOk ps.toList ∧ ∀ (pos : Pos) (cv : Value), codeAmong pos ps.toList = some cv → ∃ c, cv = .ref c ∧ F c = some (LamX.CodeO c lamQ)
/-- a cell that a lambda captures; the values of the slots that are captured stand in such cells -/
def CellO (b : Addr) (o : Obj) : HO := .ext fun h => h.get? b = some o
def CapOk (F : Hp) (N : List Str) (cl : List (Str × Addr)) (sc : Scope) (σ : List (Option V)) : Prop := σ.length = N.length ∧ (∀ y ∈ sc.names, y.2 = .free → ∃ b, cl.lookup y.1 = some b) ∧ (∀ x y b, cl.lookup x = some b → cl.lookup y = some b → x = y) ∧ (∀ y b, cl.lookup y = some b → ∃ o u, F b = some (CellO b o) ∧ o.data = .cell u) ∧
  ∀ (i : Nat) (y : Str) (v : V), N[i]? = some y → σ[i]? = some (some v) → sc.names.lookup y = some NameKind.free → ∃ b o u, cl.lookup y = some b ∧ F b = some (CellO b o) ∧ o.data = .cell (some u) ∧ RelV v u
mutual
/-- v stands for the data; its cells lie in F, its mutable cells are numbered by S -/
inductive Rep (K : PySem.W.Frag) (F : Hp) : V → D → Prop
  | non : Rep K F .non .non
  | bl (b : Bool) : Rep K F (.bl b) (.bl b)
  | int (i : Int) : Rep K F (.int i) (.int i)
  | str (x : Str) : Rep K F (.str x) (.str x)
  | tup {a : Addr} {vs : List V} {ds : List D} : F a = some (.tup vs) → Reps K F vs ds → Rep K F (.ref a) (.tup ds)
  | lst {a : Addr} {vs : List V} {ds : List D} : F a = some (.lst vs) → Reps K F vs ds → Rep K F (.ref a) (.lst ds)
  | arm {a : Addr} {o : Obj} {vs : List V} {ds : List D} : F a = some (.frz o (.tup vs)) → o.dict = none → Reps K F vs ds → Rep K F (.ref a) (.arm ds)
  | ins {a dx : Addr} {c : Str} {fs : List (Str × V)} {gs : List (Str × D)} : F a = some (.ins (He.ga K c) dx fs) → fs.map (·.1) = gs.map (·.1) → Reps K F (fs.map (·.2)) (gs.map (·.2)) → Rep K F (.ref a) (.ins c gs)
  | dic {a : Addr} {fs : List (Key × V)} {gs : List (Key × D)} : Rd F a (.dK fs) → fs.map (·.1) = gs.map (·.1) → Reps K F (fs.map (·.2)) (gs.map (·.2)) → Rep K F (.ref a) (.dic gs)
  | dit {a : Addr} {fs : List (List Key × V)} {gs : List (List Key × D)} : Rd F a (.dT fs) → fs.map (·.1) = gs.map (·.1) → Reps K F (fs.map (·.2)) (gs.map (·.2)) → Rep K F (.ref a) (.dit gs)
  | ty (n : String) : Rep K F (.ty n) (.ty n)
  | cls (c : Str) : Rep K F (.ref (He.ga K c)) (.cls c)
  | lam {f c : Addr} {l : LamT} {cl : List (Str × Addr)} {dV : Value} : F f = some (LamO l cl c dV f) → F c = some (LamX.CodeO c lamQ) → DvOk F l dV → Rep K F (.ref f) (.lam l cl)
  | tab {a : Addr} {ps : Array Value} {a0 : Addr} : F a = some (.tbl ps) → Rep K F (.ref a) (.tab a0)
  | clo {f c : Addr} {l : LamT} {cl : List (Str × Addr)} {dV : Value} {σ : List (Option V)} {ρ : List (Option D)} {a0 : Addr} : F f = some (LamO l cl c dV f) → F c = some (LamX.CodeO c lamQ) → DvOk F l dV → CapOk F l.N cl l.scope σ → RepE K F a0 σ ρ → Rep K F (.ref f) (.clo l ρ a0)
/-- what is captured -/
inductive RepE (K : PySem.W.Frag) (F : Hp) : Addr → List (Option V) → List (Option D) → Prop
  | nil {as : Addr} : RepE K F as [] []
  | none {as : Addr} {v : Option V} {σ : List (Option V)} {ρ : List (Option D)} : RepE K F as σ ρ → RepE K F as (v :: σ) (none :: ρ)
  | some {as : Addr} {v : V} {d : D} {σ : List (Option V)} {ρ : List (Option D)} : Rep K F v d → RepE K F as σ ρ → RepE K F as (some v :: σ) (some d :: ρ)
  | loc {as : Addr} {σ : List (Option V)} {ρ : List (Option D)} : RepE K F as σ ρ → RepE K F as (some (.ref as) :: σ) (some (.loc 0) :: ρ)
inductive Reps (K : PySem.W.Frag) (F : Hp) : List V → List D → Prop
  | nil : Reps K F [] []
  | cons {v : V} {d : D} {vs : List V} {ds : List D} : Rep K F v d → Reps K F vs ds → Reps K F (v :: vs) (d :: ds)
end
/-- a cell's contents stand for the data -/
inductive RepO (K : PySem.W.Frag) (F : Hp) : HO → D → Prop
  | lst {vs : List V} {ds : List D} : Reps K F vs ds → RepO K F (.lst vs) (.lst ds)
  | ins {dx : Addr} {c : Str} {fs : List (Str × V)} {gs : List (Str × D)} : fs.map (·.1) = gs.map (·.1) → Reps K F (fs.map (·.2)) (gs.map (·.2)) → RepO K F (.ins (He.ga K c) dx fs) (.ins c gs)
  | dic {fs : List (Key × V)} {gs : List (Key × D)} : fs.map (·.1) = gs.map (·.1) → Reps K F (fs.map (·.2)) (gs.map (·.2)) → RepO K F (.dK fs) (.dic gs)
  | dit {fs : List (List Key × V)} {gs : List (List Key × D)} : fs.map (·.1) = gs.map (·.1) → Reps K F (fs.map (·.2)) (gs.map (·.2)) → RepO K F (.dT fs) (.dit gs)
  | tab {ps : Array Value} {a0 : Addr} : TabOk F ps → RepO K F (.tbl ps) (.tab a0)
section
variable {K : PySem.W.Frag} {F F' : Hp}
theorem DvOk.mono {F F' : Hp} (hf : Same F F') {l : LamT} {dV : Value} (h : DvOk F l dV) : DvOk F' l dV := by
  rcases h with h | ⟨h, t, e, ht⟩
  · exact .inl h
  · exact .inr ⟨h, t, e, hf _ _ ht⟩
theorem CapOk.mono {F F' : Hp} {N : List Str} {cl : List (Str × Addr)} {sc : Scope} {σ : List (Option V)} (hf : Same F F') (h : CapOk F N cl sc σ) : CapOk F' N cl sc σ := by
  obtain ⟨h1, h2, h3, h4, h5⟩ := h
  refine ⟨h1, h2, h3, fun y b e => ?_, fun i y v e1 e2 e3 => ?_⟩
  · obtain ⟨o, u, z1, z2⟩ := h4 y b e
    exact ⟨o, u, hf _ _ z1, z2⟩
  · obtain ⟨b, o, u, z1, z2, z3⟩ := h5 i y v e1 e2 e3
    exact ⟨b, o, u, z1, hf _ _ z2, z3⟩
theorem TabOk.mono {F F' : Hp} {ps : Array Value} (hf : ∀ c, F c = some (LamX.CodeO c lamQ) → F' c = some (LamX.CodeO c lamQ)) (h : TabOk F ps) : TabOk F' ps := ⟨h.1, fun pos cv e => by
  obtain ⟨c, e1, e2⟩ := h.2 pos cv e
  exact ⟨c, e1, hf _ e2⟩⟩
theorem rd_mono {F F' : Hp} (hf : Same F F') {a : Addr} {u : HO} (h : Rd F a u) : Rd F' a u := by
  rcases h with h | ⟨o, h⟩
  · exact .inl (hf _ _ h)
  · exact .inr ⟨o, hf _ _ h⟩
theorem pre_get {S S' : List Addr} (h : S <+: S') {n : Nat} {a : Addr} (e : S[n]? = some a) : S'[n]? = some a := by
  obtain ⟨t, rfl⟩ := h
  rw [List.getElem?_append_left (List.getElem?_eq_some_iff.mp e).1]; exact e
mutual
theorem Rep.mono (hf : Same F F') : ∀ {v : V} {d : D}, Rep K F v d → Rep K F' v d
  | _, _, .non => .non
  | _, _, .bl b => .bl b
  | _, _, .int i => .int i
  | _, _, .str x => .str x
  | _, _, .tup h r => .tup (hf _ _ h) (Reps.mono hf r)
  | _, _, .lst h r => .lst (hf _ _ h) (Reps.mono hf r)
  | _, _, .arm h e r => .arm (hf _ _ h) e (Reps.mono hf r)
  | _, _, .ins h e r => .ins (hf _ _ h) e (Reps.mono hf r)
  | _, _, .dic h e r => .dic (rd_mono hf h) e (Reps.mono hf r)
  | _, _, .dit h e r => .dit (rd_mono hf h) e (Reps.mono hf r)
  | _, _, .ty n => .ty n
  | _, _, .cls c => .cls c
  | _, _, .lam h1 h2 h3 => .lam (hf _ _ h1) (hf _ _ h2) (h3.mono hf)
  | _, _, .tab h => .tab (hf _ _ h)
  | _, _, .clo h1 h2 h3 h4 h5 => .clo (hf _ _ h1) (hf _ _ h2) (h3.mono hf) (h4.mono hf) (RepE.mono hf h5)
theorem RepE.mono (hf : Same F F') : ∀ {as : Addr} {σ : List (Option V)} {ρ : List (Option D)}, RepE K F as σ ρ → RepE K F' as σ ρ
  | _, _, _, .nil => .nil
  | _, _, _, .none r => .none (RepE.mono hf r)
  | _, _, _, .some h r => .some (Rep.mono hf h) (RepE.mono hf r)
  | _, _, _, .loc r => .loc (RepE.mono hf r)
theorem Reps.mono (hf : Same F F') : ∀ {vs : List V} {ds : List D}, Reps K F vs ds → Reps K F' vs ds
  | _, _, .nil => .nil
  | _, _, .cons h r => .cons (Rep.mono hf h) (Reps.mono hf r)
end
theorem RepO.mono (hf : Same F F') {o : HO} {d : D} (h : RepO K F o d) : RepO K F' o d := by
  cases h with
  | lst r => exact .lst (r.mono hf)
  | ins e r => exact .ins e (r.mono hf)
  | dic e r => exact .dic e (r.mono hf)
  | dit e r => exact .dit e (r.mono hf)
  | tab h => exact .tab (h.mono fun c e => hf _ _ e)
theorem Reps.length : ∀ {vs : List V} {ds : List D}, Reps K F vs ds → vs.length = ds.length
  | _, _, .nil => rfl
  | _, _, .cons _ r => by simp [Reps.length r]
theorem Reps.append : ∀ {vs ws : List V} {ds es : List D}, Reps K F vs ds → Reps K F ws es → Reps K F (vs ++ ws) (ds ++ es)
  | _, _, _, _, .nil, h => h
  | _, _, _, _, .cons h r, q => .cons h (Reps.append r q)
theorem Reps.take : ∀ {vs : List V} {ds : List D} (n : Nat), Reps K F vs ds → Reps K F (vs.take n) (ds.take n)
  | _, _, 0, _ => .nil
  | _, _, _ + 1, .nil => .nil
  | _, _, n + 1, .cons h r => .cons h (Reps.take n r)
theorem Reps.drop : ∀ {vs : List V} {ds : List D} (n : Nat), Reps K F vs ds → Reps K F (vs.drop n) (ds.drop n)
  | _, _, 0, r => r
  | _, _, _ + 1, .nil => .nil
  | _, _, n + 1, .cons h r => Reps.drop n r
theorem Reps.get : ∀ {vs : List V} {ds : List D} {i : Nat} {d : D}, Reps K F vs ds → ds[i]? = some d → ∃ v, vs[i]? = some v ∧ Rep K F v d
  | _, _, _, _, .nil, e => by simp at e
  | _, _, 0, _, .cons h _, e => by simp at e; subst e; exact ⟨_, rfl, h⟩
  | _, _, i + 1, d, .cons _ r, e => by
    obtain ⟨v, h1, h2⟩ := Reps.get (i := i) (d := d) r (by simpa using e)
    exact ⟨v, by simpa using h1, h2⟩
theorem Reps.getV : ∀ {vs : List V} {ds : List D} {i : Nat} {v : V}, Reps K F vs ds → vs[i]? = some v → ∃ d, ds[i]? = some d ∧ Rep K F v d
  | _, _, _, _, .nil, e => by simp at e
  | _, _, 0, _, .cons h _, e => by simp at e; subst e; exact ⟨_, rfl, h⟩
  | _, _, i + 1, d, .cons _ r, e => by
    obtain ⟨v, h1, h2⟩ := Reps.getV (i := i) (v := d) r (by simpa using e)
    exact ⟨v, by simpa using h1, h2⟩
theorem Reps.set {v : V} {d : D} (h : Rep K F v d) : ∀ {vs : List V} {ds : List D} (i : Nat), Reps K F vs ds → Reps K F (vs.set i v) (ds.set i d)
  | _, _, _, .nil => .nil
  | _, _, 0, .cons _ r => .cons h r
  | _, _, i + 1, .cons q r => .cons q (Reps.set h i r)
theorem Reps.ints : ∀ ns : List Int, Reps K F (ns.map V.int) (ns.map D.int)
  | [] => .nil
  | n :: r => .cons (.int n) (Reps.ints r)
theorem Reps.of_ints : ∀ {vs : List V} {ns : List Int}, Reps K F vs (ns.map D.int) → vs = ns.map V.int
  | _, [], .nil => rfl
  | _, n :: r, .cons h q => by
    cases h
    rw [Reps.of_ints q]; rfl
end
/-- a slot's exception -/
inductive LkV (K : PySem.W.Frag) (F : Hp) : V → D → Prop
  | x {a : Addr} {dd : Option Addr} {gs : List (Str × D)} : ((dd = none ∧ gs = []) ∨ ∃ (d : Addr) (fs : List (Str × V)), dd = some d ∧ F d = some (.xd fs) ∧ fs.map (·.1) = gs.map (·.1) ∧ Reps K F (fs.map (·.2)) (gs.map (·.2))) → LkV K F (.ref a) (.exo a dd gs)
theorem LkV.mono {K : PySem.W.Frag} {F F' : Hp} (hf : Same F F') {v : V} {d : D} (h : LkV K F v d) : LkV K F' v d := by
  cases h with
  | x h => exact .x (h.imp id fun ⟨d, fs, e, h1, h2, h3⟩ => ⟨d, fs, e, hf _ _ h1, h2, h3.mono hf⟩)
def RepV (K : PySem.W.Frag) (S : List Addr) (F : Hp) (v : V) (d : D) : Prop := Rep K F v d ∨ (∃ n a, d = .loc n ∧ v = .ref a ∧ S[n]? = some a) ∨ LkV K F v d
theorem RepV.rep {K : PySem.W.Frag} {S : List Addr} {F : Hp} {v : V} {d : D} (h : RepV K S F v d) (hl : d.isLoc = false) : Rep K F v d := by
  rcases h with h | ⟨n, a, rfl, _⟩ | h
  · exact h
  · cases hl
  · cases h <;> cases hl
theorem RepV.mono {K : PySem.W.Frag} {S S' : List Addr} {F F' : Hp} (hs : S <+: S') (hf : Same F F') {v : V} {d : D} (h : RepV K S F v d) : RepV K S' F' v d := by
  rcases h with h | ⟨n, a, e1, e2, e3⟩ | h
  · exact .inl (h.mono hf)
  · exact .inr (.inl ⟨n, a, e1, e2, pre_get hs e3⟩)
  · exact .inr (.inr (h.mono hf))
/-! ### outcomes -/
inductive Res (α : Type) where
  | ok (a : α) (R : Rs)
  | exc (c : Str) (fs : List (Str × D)) (R : Rs)
  | bad
def Res.bind {α β : Type} (r : Res α) (k : α → Rs → Res β) : Res β := match r with
  | .ok a R => k a R
  | .exc c fs R => .exc c fs R
  | .bad => .bad
@[simp] theorem Res.bind_ok {α β : Type} (a : α) (R : Rs) (k : α → Rs → Res β) : (Res.ok a R).bind k = k a R := rfl
@[simp] theorem Res.bind_exc {α β : Type} (c : Str) (fs : List (Str × D)) (R : Rs) (k : α → Rs → Res β) : (Res.exc c fs R : Res α).bind k = .exc c fs R := rfl
@[simp] theorem Res.bind_bad {α β : Type} (k : α → Rs → Res β) : (Res.bad : Res α).bind k = .bad := rfl
/-- where the table of the law's lambdas stands -/
def tabP (K : PySem.W.Frag) : Addr := (He.cT K ("law", none)).2
/-- the mutable cells hold R -/
structure Cells (K : PySem.W.Frag) (S : List Addr) (F H : Hp) (R : Rs) : Prop where
  len : S.length = R.length
  at_ : ∀ (i : Nat) (a : Addr) (d : D), S[i]? = some a → R[i]? = some d → F a = none ∧ ∃ o, H a = some o ∧ RepO K F o d
  nd : S.Nodup
  tb : ∀ (i : Nat) (a0 : Addr), R[i]? = some (.tab a0) → i = 1 ∧ S[0]? = some a0 ∧ S[1]? = some (tabP K)
/-- the state goes on: S and F grow, what is not a mutable cell stays, what was not frozen is not -/
structure Ext (S : List Addr) (F H : Hp) (S' : List Addr) (F' H' : Hp) : Prop where
  s : S <+: S'
  f : Same F F'
  fh : Same F' H'
  fr : ∀ b u, H b = some u → b ∉ S → H' b = some u
  th : ∀ b u, H b = some u → ∃ u', H' b = some u'
  nw : ∀ b u, H b = some u → F b = none → F' b = none
  sn : ∀ b ∈ S', b ∉ S → H b = none
section
variable {K : PySem.W.Frag} {S S1 S2 : List Addr} {F F1 F2 H H1 H2 : Hp} {R : Rs}
theorem Ext.refl (h : Same F H) : Ext S F H S F H := ⟨List.prefix_refl _, .refl F, h, fun _ _ h _ => h, fun b u h => ⟨u, h⟩, fun _ _ _ h => h, fun b h1 h2 => absurd h1 h2⟩
theorem Ext.trans (a : Ext S F H S1 F1 H1) (b : Ext S1 F1 H1 S2 F2 H2) : Ext S F H S2 F2 H2 where
  s := a.s.trans b.s
  f := a.f.trans b.f
  fh := b.fh
  fr := fun c u h hc => b.fr c u (a.fr c u h hc) fun z => by rw [a.sn c z hc] at h; cases h
  th := fun c u h => by
    obtain ⟨u', h'⟩ := a.th c u h
    exact b.th c u' h'
  nw := fun c u h n => by
    obtain ⟨u', h'⟩ := a.th c u h
    exact b.nw c u' h' (a.nw c u h n)
  sn := fun c h1 h2 => by
    by_cases hc : c ∈ S1
    · exact a.sn c hc h2
    · have := b.sn c h1 hc
      cases q : H c with
      | none => rfl
      | some u =>
        obtain ⟨u', h'⟩ := a.th c u q
        rw [this] at h'; cases h'
theorem Ext.rep (e : Ext S F H S1 F1 H1) {v : V} {d : D} (h : Rep K F v d) : Rep K F1 v d := h.mono e.f
theorem Ext.reps (e : Ext S F H S1 F1 H1) {v : List V} {d : List D} (h : Reps K F v d) : Reps K F1 v d := h.mono e.f
/-- a new frozen cell -/
theorem Ext.new (hs : Same F H) {p : Addr} {o : HO} (hp : H p = none) : Ext S F H S (upd F p o) (upd H p o) := by
  have fp : F p = none := hs.free hp
  refine ⟨List.prefix_refl _, same_upd fp, fun b u e => ?_, fun b u h _ => by rw [upd_ne (ne_of_none h hp)]; exact h, fun b u h => ⟨u, by rw [upd_ne (ne_of_none h hp)]; exact h⟩, fun b u h n => by rw [upd_ne (ne_of_none h hp)]; exact n, fun b h1 h2 => absurd h1 h2⟩
  by_cases hb : b = p
  · subst hb; rw [upd_same] at e ⊢; exact e
  · rw [upd_ne hb] at e ⊢; exact hs b u e
/-- a new cell that is not frozen -/
theorem Ext.newO (hs : Same F H) {p : Addr} {o : HO} (hp : H p = none) : Ext S F H S F (upd H p o) :=
  ⟨List.prefix_refl _, .refl F, hs.new hp, fun b u h _ => by rw [upd_ne (ne_of_none h hp)]; exact h, fun b u h => ⟨u, by rw [upd_ne (ne_of_none h hp)]; exact h⟩, fun b u h n => n, fun b h1 h2 => absurd h1 h2⟩
/-- a cell outside is changed or laid -/
theorem Cells.upd (c : Cells K S F H R) {p : Addr} {o : HO} (hp : p ∉ S) : Cells K S F (upd H p o) R :=
  ⟨c.len, fun i a d h1 h2 => by
    obtain ⟨n, u, h3, h4⟩ := c.at_ i a d h1 h2
    have hne : a ≠ p := fun z => hp (by rw [← z]; exact List.mem_of_getElem? h1)
    exact ⟨n, u, by rw [upd_ne hne]; exact h3, h4⟩, c.nd, c.tb⟩
theorem Cells.has (c : Cells K S F H R) {b : Addr} (hb : b ∈ S) : F b = none ∧ ∃ o, H b = some o := by
  obtain ⟨i, hi, rfl⟩ := List.mem_iff_getElem.mp hb
  have h2 : i < R.length := by rw [← c.len]; exact hi
  obtain ⟨n, o, h3, _⟩ := c.at_ i S[i] R[i] (List.getElem?_eq_getElem hi) (List.getElem?_eq_getElem h2)
  exact ⟨n, o, h3⟩
theorem Cells.fresh (c : Cells K S F H R) {p : Addr} (hp : H p = none) : p ∉ S := fun z => by
  obtain ⟨_, o, h⟩ := c.has z
  rw [hp] at h; cases h
/-- the frozen part grows by what is no cell -/
theorem Cells.froz (c : Cells K S F H R) (hf : Same F F1) (hn : ∀ b ∈ S, F1 b = none) : Cells K S F1 H R :=
  ⟨c.len, fun i a d h1 h2 => by
    obtain ⟨n, u, h3, h4⟩ := c.at_ i a d h1 h2
    exact ⟨hn a (List.mem_of_getElem? h1), u, h3, h4.mono hf⟩, c.nd, c.tb⟩
theorem Cells.new (c : Cells K S F H R) (hs : Same F H) {p : Addr} {o : HO} (hp : H p = none) : Cells K S (L2.upd F p o) (L2.upd H p o) R :=
  (c.upd (c.fresh hp)).froz (same_upd (hs.free hp)) fun b hb => by
    obtain ⟨n, u, h⟩ := c.has hb
    rw [upd_ne (ne_of_none h hp)]; exact n
end
/-! ### readings -/
/-- the slots, by pure data; F is frozen, S are the mutable cells -/
structure View (K : PySem.W.Frag) (S : List Addr) (F H : Hp) (ρ : PEnv) (R : Rs) (σ : L2.St) : Prop where
  fh : Same F H
  env : ∀ (i : Nat) (d : D), ρ[i]? = some (some d) → ∃ v, σ[i]? = some (some v) ∧ RepV K S F v d
  cells : Cells K S F H R
  len : ρ.length = σ.length
/-- an exception with these attributes -/
inductive ExcAt (K : PySem.W.Frag) (S : List Addr) (F H : Hp) : List (Str × D) → Option Addr → Prop
  | no : ExcAt K S F H [] none
  | at_ {a : Addr} {fs : List (Str × V)} {gs : List (Str × D)} : F a = some (.xd fs) → fs.map (·.1) = gs.map (·.1) → Reps K F (fs.map (·.2)) (gs.map (·.2)) → ExcAt K S F H gs (some a)
/-- what is wanted of an outcome -/
def Wp {α β : Type} (K : PySem.W.Frag) (E : XK) (rep : List Addr → Hp → β → α → Prop) (S : List Addr) (F H : Hp) (r : Res α) (Q : β → Hp → Prop) : Prop := match r with
  | .ok a R' => ∀ b S' F' H', Ext S F H S' F' H' → Cells K S' F' H' R' → rep S' F' b a → Q b H'
  | .exc c fs R' => ∀ d S' F' H', Ext S F H S' F' H' → Cells K S' F' H' R' → ExcAt K S' F' H' fs d → E (.ref (He.ga K c)) d H'
  | .bad => False
section
variable {α β γ δ : Type} {K : PySem.W.Frag} {E : XK} {rep : List Addr → Hp → β → α → Prop} {rep' : List Addr → Hp → δ → γ → Prop} {S S1 : List Addr} {F H F1 H1 : Hp} {R : Rs} {ρ : PEnv} {σ : L2.St}
theorem Wp.ext {r : Res α} {Q : β → Hp → Prop} (h : Wp K E rep S F H r Q) (e : Ext S F H S1 F1 H1) : Wp K E rep S1 F1 H1 r Q := by
  cases r with
  | ok a R' => exact fun b S' F' H' e' c r => h b S' F' H' (e.trans e') c r
  | exc c fs R' => exact fun d S' F' H' e' c r => h d S' F' H' (e.trans e') c r
  | bad => exact h
theorem Wp.imp {r : Res α} {Q Q' : β → Hp → Prop} (h : Wp K E rep S F H r Q) (k : ∀ b H', Q b H' → Q' b H') : Wp K E rep S F H r Q' := by
  cases r with
  | ok a R' => exact fun b S' F' H' e' c r => k _ _ (h b S' F' H' e' c r)
  | exc c fs R' => exact h
  | bad => exact h
/-- one after another -/
theorem Wp.bind {r : Res α} {k : α → Rs → Res γ} {Q : δ → Hp → Prop} {Q1 : β → Hp → Prop} (h : Wp K E rep' S F H (r.bind k) Q)
    (hq : ∀ b S1 F1 H1 a R1, Ext S F H S1 F1 H1 → Cells K S1 F1 H1 R1 → rep S1 F1 b a → Wp K E rep' S1 F1 H1 (k a R1) Q → Q1 b H1) : Wp K E rep S F H r Q1 := by
  cases r with
  | ok a R' => exact fun b S' F' H' e' c r => hq b S' F' H' a R' e' c r (Wp.ext h e')
  | exc c fs R' => exact h
  | bad => exact h
theorem Wp.now {a : α} {b : β} {Q : β → Hp → Prop} (h : Wp K E rep S F H (.ok a R) Q) (hs : Same F H) (c : Cells K S F H R) (r : rep S F b a) : Q b H := h b S F H (.refl hs) c r
theorem View.ext (v : View K S F H ρ R σ) {R1 : Rs} (e : Ext S F H S1 F1 H1) (c : Cells K S1 F1 H1 R1) : View K S1 F1 H1 ρ R1 σ :=
  ⟨e.fh, fun i d h => by
    obtain ⟨u, h1, h2⟩ := v.env i d h
    exact ⟨u, h1, h2.mono e.s e.f⟩, c, v.len⟩
end
/-- an expression's reading by a function of the slots' data -/
def tG {α β : Type} (K : PySem.W.Frag) (E : XK) (rep : List Addr → Hp → β → α → Prop) (g : PEnv → Rs → Res α) : L2.St → Hp → (β → Hp → Prop) → Prop := fun σ H Q =>
  ∃ S F ρ R, View K S F H ρ R σ ∧ Wp K E rep S F H (g ρ R) Q
abbrev tP (K : PySem.W.Frag) (E : XK) (g : PEnv → Rs → Res D) : TE := tG K E (fun _ F v d => Rep K F v d) g
abbrev tPA (K : PySem.W.Frag) (E : XK) (g : PEnv → Rs → Res (List D)) : TA := tG K E (fun _ F v d => Reps K F v d) g
abbrev tPT (K : PySem.W.Frag) (E : XK) (g : PEnv → Rs → Res Bool) : TT := tG K E (fun _ _ (v : Bool) d => v = d) g
abbrev Ev (X : Cx) (E : XK) (e : Expr) (g : PEnv → Rs → Res D) : Prop := PE X e (tP X.K E g)
abbrev EvA (X : Cx) (E : XK) (es : List Expr) (g : PEnv → Rs → Res (List D)) : Prop := PA X es (tPA X.K E g)
abbrev EvT (X : Cx) (E : XK) (e : Expr) (g : PEnv → Rs → Res Bool) : Prop := PT X e (tPT X.K E g)
abbrev EvW (X : Cx) (E : XK) (e : Expr) (g : PEnv → Rs → Res Bool) : Prop := PW X e (tPT X.K E g)
theorem pe_imp {X : Cx} {e : Expr} {t t' : TE} (h : PE X e t) (k : ∀ σ H Q, t' σ H Q → t σ H Q) : PE X e t' := ⟨fun pins s σ H Q I q => h.run pins s σ H Q I (k σ H Q q)⟩
theorem pa_imp {X : Cx} {e : List Expr} {t t' : TA} (h : PA X e t) (k : ∀ σ H Q, t' σ H Q → t σ H Q) : PA X e t' := ⟨fun pos pins s σ H Q I q => h.run pos pins s σ H Q I (k σ H Q q)⟩
theorem pt_imp {X : Cx} {e : Expr} {t t' : TT} (h : PT X e t) (k : ∀ σ H Q, t' σ H Q → t σ H Q) : PT X e t' := ⟨fun pins s σ H Q I q => h.run pins s σ H Q I (k σ H Q q)⟩
theorem pw_imp {X : Cx} {e : Expr} {t t' : TT} (h : PW X e t) (k : ∀ σ H Q, t' σ H Q → t σ H Q) : PW X e t' := ⟨fun w pins s σ H Q I q => h.run w pins s σ H Q I (k σ H Q q)⟩
theorem ps_imp {X : Cx} {e : Stmt} {t t' : TS} (h : PS X e t) (k : ∀ D σ H, t' D σ H → t D σ H) : PS X e t' := ⟨fun pins s σ H D I q => h.run pins s σ H D I (k D σ H q)⟩
theorem pss_imp {X : Cx} {e : List Stmt} {t t' : TS} (h : PSs X e t) (k : ∀ D σ H, t' D σ H → t D σ H) : PSs X e t' := ⟨fun pins s σ H D I q => h.run pins s σ H D I (k D σ H q)⟩
theorem pi_imp {X : Cx} {tg e : Expr} {t t' : TI} (h : PI X tg e t) (k : ∀ σ H R, t' σ H R → t σ H R) : PI X tg e t' := ⟨fun pins s σ H R I q => h.run pins s σ H R I (k σ H R q)⟩
end Pv

namespace Pv
open PySem PySem.Spec PyProof.Rows L2 Sr
abbrev G := PEnv → Rs → Res D
abbrev GA := PEnv → Rs → Res (List D)
abbrev GT := PEnv → Rs → Res Bool
/-! ### names, constants -/
def gVar (i : Nat) : G := fun ρ R => match ρ[i]? with
  | some (some d) => if d.isLoc then .bad else .ok d R
  | _ => .bad
def gC (d : D) : G := fun _ R => .ok d R
section
variable {X : Cx} {E : XK} {a b c e : Expr} {es : List Expr} {ga gb gc g : G} {gs : GA} {pos : Pos}
theorem ev_var {i : Nat} (h : PE X e (tVar i)) : Ev X E e (gVar i) := pe_imp h fun σ H Q ⟨S, F, ρ, R, v, h⟩ => by
  unfold gVar at h
  split at h
  · rename_i d hd
    obtain ⟨u, h1, h2⟩ := v.env i d hd
    split at h
    · exact h.elim
    · rename_i hl
      exact ⟨u, h1, h.now v.fh v.cells (h2.rep (by simpa using hl))⟩
  · exact h.elim
theorem ev_cst {v : V} {d : D} (h : PE X e (tC v)) (r : ∀ F, Rep X.K F v d) : Ev X E e (gC d) := pe_imp h fun σ H Q ⟨S, F, ρ, R, v, h⟩ => h.now v.fh v.cells (r F)
theorem ev_int {i : Int} (h : PE X e (tC (.int i))) : Ev X E e (gC (.int i)) := ev_cst h fun _ => .int i
theorem ev_bl {i : Bool} (h : PE X e (tC (.bl i))) : Ev X E e (gC (.bl i)) := ev_cst h fun _ => .bl i
theorem ev_non (h : PE X e (tC .non)) : Ev X E e (gC .non) := ev_cst h fun _ => .non
/-! ### operators of two values -/
def OpD (K : PySem.W.Frag) (E : XK) (r : R2) (f : D → D → Rs → Res D) : Prop :=
  ∀ (S : List Addr) (F H : Hp) (R : Rs) (x y : V) (dx dy : D) (Q : VK), Same F H → Cells K S F H R → Rep K F x dx → Rep K F y dy → Wp K E (fun _ F v d => Rep K F v d) S F H (f dx dy R) Q → r x y H Q
def gOp (f : D → D → Rs → Res D) (ga gb : G) : G := fun ρ R => (ga ρ R).bind fun x R1 => (gb ρ R1).bind fun y R2 => f x y R2
theorem tOp_of {K : PySem.W.Frag} {r : R2} {f : D → D → Rs → Res D} (hd : OpD K E r f) {σ : L2.St} {H : Hp} {Q : VK} (h : tP K E (gOp f ga gb) σ H Q) : tOp r (tP K E ga) (tP K E gb) σ H Q := by
  obtain ⟨S, F, ρ, R, v, h⟩ := h
  refine ⟨S, F, ρ, R, v, Wp.bind h fun x S1 F1 H1 dx R1 e1 c1 rx h1 => ?_⟩
  refine ⟨S1, F1, ρ, R1, v.ext e1 c1, Wp.bind h1 fun y S2 F2 H2 dy R2 e2 c2 ry h2 => ?_⟩
  exact hd S2 F2 H2 R2 x y dx dy Q e2.fh c2 (e2.rep rx) ry h2
theorem ev_op {op : Operator} {r : R2} {f : D → D → Rs → Res D} (ho : OpR X (binaryOp op) r ∧ OpD X.K E r f) (ha : Ev X E a ga) (hb : Ev X E b gb) : Ev X E (.BinOp a op b pos) (gOp f ga gb) := pe_imp (pe_op ho.1 ha hb) fun _ _ _ => tOp_of ho.2
theorem ev_cmp {op : CmpOp} {r : R2} {f : D → D → Rs → Res D} (ho : OpR X (compareOp op) r ∧ OpD X.K E r f) (ha : Ev X E a ga) (hb : Ev X E b gb) (hm : behindInMarks op b = false) : Ev X E (.Compare a [op] [b] pos) (gOp f ga gb) := pe_imp (pe_cmpR ho.1 ha hb hm) fun _ _ _ => tOp_of ho.2
theorem ev_ix {r : R2} {f : D → D → Rs → Res D} (ho : IxR X r ∧ OpD X.K E r f) (ha : Ev X E a ga) (hb : Ev X E b gb) (hs : PlainIx b) : Ev X E (.Subscript a b pos) (gOp f ga gb) := pe_imp (pe_ix ho.1 ha hb hs) fun _ _ _ => tOp_of ho.2
/-- operators of ints -/
def iop (C : Int → Int → Prop) [∀ i j, Decidable (C i j)] (g : Int → Int → D) : D → D → Rs → Res D := fun x y R => match x, y with
  | .int i, .int j => if C i j then .ok (g i j) R else .bad
  | _, _ => .bad
def iop0 (g : Int → Int → D) : D → D → Rs → Res D := fun x y R => match x, y with
  | .int i, .int j => .ok (g i j) R
  | _, _ => .bad
theorem opd_i {K : PySem.W.Frag} {C : Int → Int → Prop} [∀ i j, Decidable (C i j)] {g : Int → Int → D} {g' : Int → Int → V} (hg : ∀ F i j, Rep K F (g' i j) (g i j)) : OpD K E (rI C g') (iop C g) := by
  intro S F H R x y dx dy Q hs c rx ry h
  unfold iop at h
  split at h
  · split at h
    · cases rx; cases ry
      rename_i i j hc
      exact ⟨i, j, rfl, rfl, hc, h.now hs c (hg F i j)⟩
    · exact h.elim
  · exact h.elim
theorem opd_i0 {K : PySem.W.Frag} {g : Int → Int → D} {g' : Int → Int → V} (hg : ∀ F i j, Rep K F (g' i j) (g i j)) : OpD K E (rI0 g') (iop0 g) := by
  intro S F H R x y dx dy Q hs c rx ry h
  unfold iop0 at h
  split at h
  · cases rx; cases ry
    rename_i i j
    exact ⟨i, j, rfl, rfl, h.now hs c (hg F i j)⟩
  · exact h.elim
/-- decided by a comparison of two numbers that the kernel never counts down -/
def smB : Int → Bool
  | .ofNat k => Nat.ble k 18446744073709551615
  | .negSucc k => Nat.ble k 18446744073709551614
theorem smB_iff (i : Int) : smB i = true ↔ -(2 ^ 64) < i ∧ i < 2 ^ 64 := by
  cases i with
  | ofNat k => show Nat.ble k _ = true ↔ _; rw [Nat.ble_eq, Int.ofNat_eq_natCast]; omega
  | negSucc k => show Nat.ble k _ = true ↔ _; rw [Nat.ble_eq, Int.negSucc_eq]; omega
def bdB : Int → Nat → Bool
  | .ofNat k, n => Nat.ble k n
  | .negSucc k, n => Nat.ble k n
theorem bdB_iff (i : Int) (n : Nat) : bdB i n = true ↔ -((n : Int) + 1) ≤ i ∧ i ≤ n := by
  cases i with
  | ofNat k => show Nat.ble k _ = true ↔ _; rw [Nat.ble_eq, Int.ofNat_eq_natCast]; omega
  | negSucc k => show Nat.ble k _ = true ↔ _; rw [Nat.ble_eq, Int.negSucc_eq]; omega
instance (i j : Int) : Decidable (CMul i j) := decidable_of_iff ((smB i || smB j) = true) (by rw [Bool.or_eq_true, smB_iff, smB_iff]; exact Iff.rfl)
instance (i j : Int) : Decidable (CMulW i j) := by unfold CMulW; infer_instance
instance (i j : Int) : Decidable (CDiv i j) := by unfold CDiv; infer_instance
instance (i j : Int) : Decidable (CDivW i j) := by unfold CDivW; infer_instance
instance (i j : Int) : Decidable (CPow i j) := by unfold CPow; infer_instance
def dAdd := iop0 fun i j => .int (i + j)
def dSub := iop0 fun i j => .int (i - j)
def dMul := iop CMul fun i j => .int (i * j)
def dFdiv := iop CDiv fun i j => .int (i / j)
def dMod := iop (fun _ j => 0 < j) fun i j => .int (i % j)
def dLt := iop0 fun i j => .bl (decide (i < j))
def dLe := iop0 fun i j => .bl (decide (i ≤ j))
def dGt := iop0 fun i j => .bl (decide (j < i))
def dGe := iop0 fun i j => .bl (decide (j ≤ i))
theorem o_add : OpR X (binaryOp .Add) (rI0 fun i j => .int (i + j)) ∧ OpD X.K E (rI0 fun i j => .int (i + j)) dAdd := ⟨op_add, opd_i0 fun _ _ _ => .int _⟩
theorem o_sub : OpR X (binaryOp .Sub) (rI0 fun i j => .int (i - j)) ∧ OpD X.K E (rI0 fun i j => .int (i - j)) dSub := ⟨op_sub, opd_i0 fun _ _ _ => .int _⟩
theorem o_mod : OpR X (binaryOp .Mod) (rI (fun _ j => 0 < j) fun i j => .int (i % j)) ∧ OpD X.K E (rI (fun _ j => 0 < j) fun i j => .int (i % j)) dMod := ⟨op_mod, opd_i fun _ _ _ => .int _⟩
theorem o_lt : OpR X (compareOp .Lt) (rI0 fun i j => .bl (decide (i < j))) ∧ OpD X.K E (rI0 fun i j => .bl (decide (i < j))) dLt := ⟨op_lt, opd_i0 fun _ _ _ => .bl _⟩
theorem o_le : OpR X (compareOp .LtE) (rI0 fun i j => .bl (decide (i ≤ j))) ∧ OpD X.K E (rI0 fun i j => .bl (decide (i ≤ j))) dLe := ⟨op_le, opd_i0 fun _ _ _ => .bl _⟩
theorem o_gt : OpR X (compareOp .Gt) (rI0 fun i j => .bl (decide (j < i))) ∧ OpD X.K E (rI0 fun i j => .bl (decide (j < i))) dGt := ⟨op_gt, opd_i0 fun _ _ _ => .bl _⟩
theorem o_ge : OpR X (compareOp .GtE) (rI0 fun i j => .bl (decide (j ≤ i))) ∧ OpD X.K E (rI0 fun i j => .bl (decide (j ≤ i))) dGe := ⟨op_ge, opd_i0 fun _ _ _ => .bl _⟩
/-- == of scalars of one kind -/
def dEqS (neg : Bool) : D → D → Rs → Res D := fun x y R => match x, y with
  | .int i, .int j => .ok (.bl (neg ^^ decide (i = j))) R
  | .bl i, .bl j => .ok (.bl (neg ^^ decide (i = j))) R
  | .str i, .str j => .ok (.bl (neg ^^ decide (i = j))) R
  | .non, .non => .ok (.bl (neg ^^ true)) R
  | _, _ => .bad
theorem opd_eqS {K : PySem.W.Frag} : OpD K E rEq (dEqS false) := by
  intro S F H R x y dx dy Q hs c rx ry h
  unfold dEqS at h
  split at h
  · cases rx; cases ry; exact ⟨rfl, by simpa using h.now hs c (.bl _)⟩
  · cases rx; cases ry; exact ⟨rfl, by simpa using h.now hs c (.bl _)⟩
  · cases rx; cases ry; exact ⟨rfl, by simpa using h.now hs c (.bl _)⟩
  · cases rx; cases ry; exact ⟨rfl, by simpa using h.now hs c (.bl _)⟩
  · exact h.elim
theorem opd_neS {K : PySem.W.Frag} : OpD K E rNe (dEqS true) := by
  intro S F H R x y dx dy Q hs c rx ry h
  unfold dEqS at h
  split at h
  · cases rx; cases ry; exact ⟨rfl, by simpa using h.now hs c (.bl _)⟩
  · cases rx; cases ry; exact ⟨rfl, by simpa using h.now hs c (.bl _)⟩
  · cases rx; cases ry; exact ⟨rfl, by simpa using h.now hs c (.bl _)⟩
  · cases rx; cases ry; exact ⟨rfl, by simpa using h.now hs c (.bl _)⟩
  · exact h.elim
theorem o_eqS : OpR X (compareOp .Eq) rEq ∧ OpD X.K E rEq (dEqS false) := ⟨op_eq, opd_eqS⟩
theorem o_neS : OpR X (compareOp .NotEq) rNe ∧ OpD X.K E rNe (dEqS true) := ⟨op_ne, opd_neS⟩
/-! ### one value -/
def UnD (K : PySem.W.Frag) (E : XK) (r : V → Hp → VK → Prop) (f : D → Rs → Res D) : Prop :=
  ∀ (S : List Addr) (F H : Hp) (R : Rs) (x : V) (dx : D) (Q : VK), Same F H → Cells K S F H R → Rep K F x dx → Wp K E (fun _ F v d => Rep K F v d) S F H (f dx R) Q → r x H Q
def gUn (f : D → Rs → Res D) (ga : G) : G := fun ρ R => (ga ρ R).bind f
theorem ev_un {op : UnaryOp} {r : V → Hp → VK → Prop} {f : D → Rs → Res D} (ho : UnR X (unaryOp op) r ∧ UnD X.K E r f) (ha : Ev X E a ga) : Ev X E (.UnaryOp op a pos) (gUn f ga) := pe_imp (pe_un ho.1 ha) fun σ H Q ⟨S, F, ρ, R, v, h⟩ =>
  ⟨S, F, ρ, R, v, Wp.bind h fun x S1 F1 H1 dx R1 e1 c1 rx h1 => ho.2 S1 F1 H1 R1 x dx Q e1.fh c1 rx h1⟩
def dNeg : D → Rs → Res D := fun x R => match x with
  | .int i => .ok (.int (-i)) R
  | _ => .bad
def dNot : D → Rs → Res D := fun x R => match x with
  | .bl b => .ok (.bl (!b)) R
  | _ => .bad
theorem ev_not (ha : Ev X E a ga) : Ev X E (.UnaryOp .Not a pos) (gUn dNot ga) := pe_imp (pe_not ha) fun σ H Q ⟨S, F, ρ, R, v, h⟩ => by
  refine ⟨S, F, ρ, R, v, Wp.bind h fun x S1 F1 H1 dx R1 e1 c1 rx h1 => ?_⟩
  unfold dNot at h1
  split at h1
  · cases rx
    exact ⟨_, rfl, h1.now e1.fh c1 (.bl _)⟩
  · exact h1.elim
def dIsN (neg : Bool) : D → Rs → Res D := fun x R => match x with
  | .non => .ok (.bl (!neg)) R
  | _ => .ok (.bl neg) R
theorem isN_of {K : PySem.W.Frag} {F : Hp} {x : V} {d : D} (h : Rep K F x d) : decide (x = .non) = (match d with | .non => true | _ => false) := by
  cases h <;> simp
theorem ev_isN {j : Nat} {pos' : Pos} (ha : Ev X E a ga) : Ev X E (.Compare a [.Is] [.Constant .none j pos'] pos) (gUn (dIsN false) ga) := pe_imp (pe_cmp (pc_isN ha) rfl) fun σ H Q ⟨S, F, ρ, R, v, h⟩ => by
  refine ⟨S, F, ρ, R, v, Wp.bind h fun x S1 F1 H1 dx R1 e1 c1 rx h1 => ?_⟩
  have e := isN_of rx
  show Q (.bl (decide (x = .non))) H1
  rw [e]
  cases dx <;> exact h1.now e1.fh c1 (.bl _)
end
end Pv

namespace Pv
open PySem PySem.Spec PyProof.Rows L2 Sr
theorem Res.assoc {α β γ : Type} (r : Res α) (k : α → Rs → Res β) (l : β → Rs → Res γ) : (r.bind k).bind l = r.bind fun a R => (k a R).bind l := by cases r <;> rfl
def bOf : D → Rs → Res Bool := fun d R => match d with
  | .bl b => .ok b R
  | _ => .bad
def gB (ga : G) : GT := fun ρ R => (ga ρ R).bind bOf
def gAnd (t u : GT) : GT := fun ρ R => (t ρ R).bind fun b R => match b with
  | true => u ρ R
  | false => .ok false R
def gOr (t u : GT) : GT := fun ρ R => (t ρ R).bind fun b R => match b with
  | true => .ok true R
  | false => u ρ R
def gNot (t : GT) : GT := fun ρ R => (t ρ R).bind fun b R => .ok (!b) R
def gIf {α : Type} (t : GT) (ga gb : PEnv → Rs → Res α) : PEnv → Rs → Res α := fun ρ R => (t ρ R).bind fun b R => match b with
  | true => ga ρ R
  | false => gb ρ R
def gAndV (ga gb : G) : G := fun ρ R => (ga ρ R).bind fun x R => match x with
  | .bl true => gb ρ R
  | .bl false => .ok (.bl false) R
  | _ => .bad
def gOrV (ga gb : G) : G := fun ρ R => (ga ρ R).bind fun x R => match x with
  | .bl true => .ok (.bl true) R
  | .bl false => gb ρ R
  | _ => .bad
section
variable {X : Cx} {E : XK} {a b c e : Expr} {es rest : List Expr} {ga gb gc g : G} {gs : GA} {t u w : GT} {pos : Pos}
theorem ev_neg (ha : Ev X E a ga) : Ev X E (.UnaryOp .USub a pos) (gUn dNeg ga) := ev_un ⟨un_neg, fun S F H R x dx Q hs c rx h => by
  unfold dNeg at h
  split at h
  · cases rx; exact ⟨_, rfl, h.now hs c (.int _)⟩
  · exact h.elim⟩ ha
theorem tB_of {K : PySem.W.Frag} {σ : L2.St} {H : Hp} {Q : Bool → Hp → Prop} (h : tPT K E (gB ga) σ H Q) : tP K E ga σ H fun x H1 => ∃ c, x = .bl c ∧ Q c H1 := by
  obtain ⟨S, F, ρ, R, v, h⟩ := h
  refine ⟨S, F, ρ, R, v, Wp.bind h fun x S1 F1 H1 dx R1 e1 c1 rx h1 => ?_⟩
  unfold bOf at h1
  split at h1
  · cases rx; exact ⟨_, rfl, h1.now e1.fh c1 rfl⟩
  · exact h1.elim
theorem evt_val (h : Ev X E e g) (he : ∀ whole, isTrue e X.env whole = (do let v ← whole; standAt e.pos; holding [v] (truthy v)) := by intro _; rfl) : EvT X E e (gB g) := pt_imp (pt_val h he) fun _ _ _ => tB_of
theorem evt_cmp {op : CmpOp} {r : R2} {f : D → D → Rs → Res D} (ho : OpR X (compareOp op) r ∧ OpD X.K E r f) (ha : Ev X E a ga) (hb : Ev X E b gb) (hm : behindInMarks op b = false) : EvT X E (.Compare a [op] [b] pos) (gB (gOp f ga gb)) := pt_imp (pt_cmpR ho.1 ha hb hm) fun σ H Q h => by
  obtain ⟨S, F, ρ, R, v, h⟩ := h
  have e0 : gB (gOp f ga gb) ρ R = (ga ρ R).bind fun x R1 => (gb ρ R1).bind fun y R2 => (f x y R2).bind bOf := by
    unfold gB gOp
    rw [Res.assoc]
    congr 1; funext x R1
    rw [Res.assoc]
  rw [e0] at h
  refine ⟨S, F, ρ, R, v, Wp.bind h fun x S1 F1 H1 dx R1 e1 c1 rx h1 => ?_⟩
  refine ⟨S1, F1, ρ, R1, v.ext e1 c1, Wp.bind h1 fun y S2 F2 H2 dy R2 e2 c2 ry h2 => ?_⟩
  refine ho.2 S2 F2 H2 R2 x y dx dy _ e2.fh c2 (e2.rep rx) ry (Wp.bind h2 fun z S3 F3 H3 dz R3 e3 c3 rz h3 => ?_)
  unfold bOf at h3
  split at h3
  · cases rz; exact ⟨_, rfl, h3.now e3.fh c3 rfl⟩
  · exact h3.elim
theorem evt_isN {j : Nat} {pos' : Pos} (ha : Ev X E a ga) : EvT X E (.Compare a [.Is] [.Constant .none j pos'] pos) (gB (gUn (dIsN false) ga)) := pt_imp (pt_cmp (pc_isN ha) rfl) fun σ H Q ⟨S, F, ρ, R, v, h⟩ => by
  have e0 : gB (gUn (dIsN false) ga) ρ R = (ga ρ R).bind fun x R => (dIsN false x R).bind bOf := by unfold gB gUn; cases ga ρ R <;> rfl
  rw [e0] at h
  refine ⟨S, F, ρ, R, v, Wp.bind h fun x S1 F1 H1 dx R1 e1 c1 rx h1 => ?_⟩
  refine ⟨_, rfl, ?_⟩
  rw [isN_of rx]
  cases dx <;> exact h1.now e1.fh c1 rfl
theorem tAnd_of {K : PySem.W.Frag} {σ : L2.St} {H : Hp} {Q : Bool → Hp → Prop} (h : tPT K E (gAnd t u) σ H Q) : tAnd (tPT K E t) (tPT K E u) σ H Q := by
  obtain ⟨S, F, ρ, R, v, h⟩ := h
  refine ⟨S, F, ρ, R, v, Wp.bind h fun x S1 F1 H1 dx R1 e1 c1 rx h1 => ?_⟩
  subst rx
  cases x with
  | true => exact ⟨S1, F1, ρ, R1, v.ext e1 c1, h1⟩
  | false => exact h1.now e1.fh c1 rfl
theorem tOr_of {K : PySem.W.Frag} {σ : L2.St} {H : Hp} {Q : Bool → Hp → Prop} (h : tPT K E (gOr t u) σ H Q) : tOr (tPT K E t) (tPT K E u) σ H Q := by
  obtain ⟨S, F, ρ, R, v, h⟩ := h
  refine ⟨S, F, ρ, R, v, Wp.bind h fun x S1 F1 H1 dx R1 e1 c1 rx h1 => ?_⟩
  subst rx
  cases x with
  | false => exact ⟨S1, F1, ρ, R1, v.ext e1 c1, h1⟩
  | true => exact h1.now e1.fh c1 rfl
theorem evt_not (h : EvT X E e t) : EvT X E (.UnaryOp .Not e pos) (gNot t) := pt_imp (pt_not h) fun σ H Q ⟨S, F, ρ, R, v, h⟩ => by
  refine ⟨S, F, ρ, R, v, Wp.bind h fun x S1 F1 H1 dx R1 e1 c1 rx h1 => ?_⟩
  subst rx
  exact h1.now e1.fh c1 rfl
theorem evw_and1 (h : EvT X E a t) : EvW X E (.BoolOp .And [a] pos) t := pw_and1 h
theorem evw_or1 (h : EvT X E a t) : EvW X E (.BoolOp .Or [a] pos) t := pw_or1 h
theorem evw_and (h : EvT X E a t) (q : EvW X E (.BoolOp .And (b :: rest) pos) u) : EvW X E (.BoolOp .And (a :: b :: rest) pos) (gAnd t u) := pw_imp (pw_and h q) fun _ _ _ => tAnd_of
theorem evw_or (h : EvT X E a t) (q : EvW X E (.BoolOp .Or (b :: rest) pos) u) : EvW X E (.BoolOp .Or (a :: b :: rest) pos) (gOr t u) := pw_imp (pw_or h q) fun _ _ _ => tOr_of
theorem evt_w (h : EvW X E e t) : EvT X E e t := h.pt
theorem ev_one {op : BoolOp} (h : Ev X E a ga) : Ev X E (.BoolOp op [a] pos) ga := pe_one h
theorem ev_and (h : Ev X E a ga) (q : Ev X E (.BoolOp .And (b :: rest) pos) gb) : Ev X E (.BoolOp .And (a :: b :: rest) pos) (gAndV ga gb) := pe_imp (pe_and h q) fun σ H Q ⟨S, F, ρ, R, v, h⟩ => by
  refine ⟨S, F, ρ, R, v, Wp.bind h fun x S1 F1 H1 dx R1 e1 c1 rx h1 => ?_⟩
  split at h1
  · cases rx; exact ⟨_, rfl, ⟨S1, F1, ρ, R1, v.ext e1 c1, h1⟩⟩
  · cases rx; exact ⟨_, rfl, h1.now e1.fh c1 (.bl _)⟩
  · exact h1.elim
theorem ev_if (hc : EvT X E c t) (h : Ev X E a ga) (q : Ev X E b gb) : Ev X E (.IfExp c a b pos) (gIf t ga gb) := pe_imp (pe_ifExp hc h q) fun σ H Q ⟨S, F, ρ, R, v, h⟩ => by
  refine ⟨S, F, ρ, R, v, Wp.bind h fun x S1 F1 H1 dx R1 e1 c1 rx h1 => ?_⟩
  subst rx
  cases x with
  | true => exact ⟨S1, F1, ρ, R1, v.ext e1 c1, h1⟩
  | false => exact ⟨S1, F1, ρ, R1, v.ext e1 c1, h1⟩
theorem evt_if (hc : EvT X E c t) (h : EvT X E a u) (q : EvT X E b w) : EvT X E (.IfExp c a b pos) (gIf t u w) := pt_imp (Sr.pt_ifExp hc h q) fun σ H Q ⟨S, F, ρ, R, v, h⟩ => by
  refine ⟨S, F, ρ, R, v, Wp.bind h fun x S1 F1 H1 dx R1 e1 c1 rx h1 => ?_⟩
  subst rx
  cases x with
  | true => exact ⟨S1, F1, ρ, R1, v.ext e1 c1, h1⟩
  | false => exact ⟨S1, F1, ρ, R1, v.ext e1 c1, h1⟩
/-- a op b op' c -/
def gCh (f f' : D → D → Rs → Res D) (ga gb gc : G) : G := fun ρ R => (ga ρ R).bind fun x R1 => (gb ρ R1).bind fun y R2 => (f x y R2).bind fun z R3 => match z with
  | .bl true => (gc ρ R3).bind fun w R4 => f' y w R4
  | .bl false => .ok (.bl false) R3
  | _ => .bad
theorem ev_chain {op op' : CmpOp} {r r' : R2} {f f' : D → D → Rs → Res D} (ho : OpR X (compareOp op) r ∧ OpD X.K E r f) (ho' : OpR X (compareOp op') r' ∧ OpD X.K E r' f') (ha : Ev X E a ga) (hb : Ev X E b gb) (hc : Ev X E c gc)
    (hm : lastMarks [op, op'] [b, c] = false := by with_unfolding_all rfl) : Ev X E (.Compare a [op, op'] [b, c] pos) (gCh f f' ga gb gc) := pe_imp (pe_chain ho.1 ho'.1 ha hb hc hm) fun σ H Q ⟨S, F, ρ, R, v, h⟩ => by
  refine ⟨S, F, ρ, R, v, Wp.bind h fun x S1 F1 H1 dx R1 e1 c1 rx h1 => ?_⟩
  refine ⟨S1, F1, ρ, R1, v.ext e1 c1, Wp.bind h1 fun y S2 F2 H2 dy R2 e2 c2 ry h2 => ?_⟩
  refine ho.2 S2 F2 H2 R2 x y dx dy _ e2.fh c2 (e2.rep rx) ry (Wp.bind h2 fun z S3 F3 H3 dz R3 e3 c3 rz h3 => ?_)
  split at h3
  · cases rz
    refine ⟨_, rfl, ⟨S3, F3, ρ, R3, ((v.ext e1 c1).ext e2 c2).ext e3 c3, Wp.bind h3 fun w S4 F4 H4 dw R4 e4 c4 rw h4 => ?_⟩⟩
    exact ho'.2 S4 F4 H4 R4 y w dy dw Q e4.fh c4 (e4.rep (e3.rep ry)) rw h4
  · cases rz; exact ⟨_, rfl, h3.now e3.fh c3 (.bl _)⟩
  · exact h3.elim
/-! ### argument lists, displays -/
def gNil : GA := fun _ R => .ok [] R
def gCons (ga : G) (gs : GA) : GA := fun ρ R => (ga ρ R).bind fun x R1 => (gs ρ R1).bind fun xs R2 => .ok (x :: xs) R2
def itemsOf : D → Rs → Res (List D) := fun x R => match x with
  | .tup xs => .ok xs R
  | .lst xs => .ok xs R
  | .arm xs => .ok xs R
  | _ => .bad
def gStar (ga : G) (gs : GA) : GA := fun ρ R => (ga ρ R).bind fun x R1 => (itemsOf x R1).bind fun xs R1 => (gs ρ R1).bind fun ys R2 => .ok (xs ++ ys) R2
theorem eva_nil : EvA X E [] gNil := pa_imp pa_nil fun σ H Q ⟨S, F, ρ, R, v, h⟩ => h.now v.fh v.cells .nil
theorem eva_cons (h : Ev X E e g) (hs : EvA X E es gs) (h0 : starEach (e :: es) X.env = (false, eval e X.env) :: starEach es X.env := by rfl) : EvA X E (e :: es) (gCons g gs) := pa_imp (pa_cons h hs h0) fun σ H Q ⟨S, F, ρ, R, v, h⟩ => by
  refine ⟨S, F, ρ, R, v, Wp.bind h fun x S1 F1 H1 dx R1 e1 c1 rx h1 => ?_⟩
  refine ⟨S1, F1, ρ, R1, v.ext e1 c1, Wp.bind h1 fun y S2 F2 H2 dy R2 e2 c2 ry h2 => ?_⟩
  exact h2.now e2.fh c2 (.cons (e2.rep rx) ry)
theorem eva_star {p : Pos} (h : Ev X E e g) (hs : EvA X E es gs) (h0 : starEach (.Starred e p :: es) X.env = (true, eval e X.env) :: starEach es X.env := by rfl) : EvA X E (.Starred e p :: es) (gStar g gs) := pa_imp (StX.pa_star h hs h0) fun σ H Q ⟨S, F, ρ, R, v, h⟩ => by
  refine ⟨S, F, ρ, R, v, Wp.bind h fun x S1 F1 H1 dx R1 e1 c1 rx h1 => ?_⟩
  unfold itemsOf at h1
  split at h1
  · cases rx with
    | tup hf rs =>
    refine ⟨_, _, rfl, .inl (SqT.of (e1.fh _ _ hf)), ⟨S1, F1, ρ, R1, v.ext e1 c1, Wp.bind h1 fun y S2 F2 H2 dy R2 e2 c2 ry h2 => ?_⟩⟩
    exact h2.now e2.fh c2 ((e2.reps rs).append ry)
  · cases rx with
    | lst hf rs =>
    refine ⟨_, _, rfl, .inr (SqL.of (e1.fh _ _ hf)), ⟨S1, F1, ρ, R1, v.ext e1 c1, Wp.bind h1 fun y S2 F2 H2 dy R2 e2 c2 ry h2 => ?_⟩⟩
    exact h2.now e2.fh c2 ((e2.reps rs).append ry)
  · cases rx with
    | arm hf _ rs =>
    refine ⟨_, _, rfl, .inl (.inl (.inr ⟨_, e1.fh _ _ hf⟩)), ⟨S1, F1, ρ, R1, v.ext e1 c1, Wp.bind h1 fun y S2 F2 H2 dy R2 e2 c2 ry h2 => ?_⟩⟩
    exact h2.now e2.fh c2 ((e2.reps rs).append ry)
  · exact h1.elim
/-- a new tuple, a new list -/
def dTup : List D → Rs → Res D := fun xs R => if xs.length ≤ sizeLine then .ok (.tup xs) R else .bad
def dLst : List D → Rs → Res D := fun xs R => if xs.length ≤ sizeLine then .ok (.lst xs) R else .bad
def gTup (gs : GA) : G := fun ρ R => (gs ρ R).bind dTup
def gLst (gs : GA) : G := fun ρ R => (gs ρ R).bind dLst
theorem wp_tup {K : PySem.W.Frag} {S : List Addr} {F H : Hp} {R : Rs} {xs : List D} {vs : List V} {Q : VK} (hs : Same F H) (c : Cells K S F H R) (r : Reps K F vs xs) (h : Wp K E (fun _ F v d => Rep K F v d) S F H (.ok (.tup xs) R) Q) {p : Addr} (hp : H p = none) : Q (.ref p) (upd H p (.tup vs)) :=
  h _ S _ _ (.new hs hp) (c.new hs hp) (.tup upd_same (r.mono (same_upd (hs.free hp))))
theorem wp_lst {K : PySem.W.Frag} {S : List Addr} {F H : Hp} {R : Rs} {xs : List D} {vs : List V} {Q : VK} (hs : Same F H) (c : Cells K S F H R) (r : Reps K F vs xs) (h : Wp K E (fun _ F v d => Rep K F v d) S F H (.ok (.lst xs) R) Q) {p : Addr} (hp : H p = none) : Q (.ref p) (upd H p (.lst vs)) :=
  h _ S _ _ (.new hs hp) (c.new hs hp) (.lst upd_same (r.mono (same_upd (hs.free hp))))
theorem ev_tup {x1} (hs : EvA X E es gs) : Ev X E (.Tuple es x1 pos) (gTup gs) := pe_imp (pe_tup hs) fun σ H Q ⟨S, F, ρ, R, v, h⟩ => by
  refine ⟨S, F, ρ, R, v, Wp.bind h fun x S1 F1 H1 dx R1 e1 c1 rx h1 => ?_⟩
  unfold dTup at h1
  split at h1
  · rename_i hl
    exact ⟨by rw [rx.length]; exact hl, fun p hp => wp_tup e1.fh c1 rx h1 hp⟩
  · exact h1.elim
end
end Pv

namespace Pv
open PySem PySem.Spec PyProof.Rows L2 Sr
def intsOf : List D → Option (List Int)
  | [] => some []
  | .int i :: r => (intsOf r).map (i :: ·)
  | _ :: _ => none
def blsOf : List D → Option (List Bool)
  | [] => some []
  | .bl i :: r => (blsOf r).map (i :: ·)
  | _ :: _ => none
@[simp] theorem intsOf_map : ∀ ns : List Int, intsOf (ns.map D.int) = some ns
  | [] => rfl
  | n :: r => by simp [intsOf, intsOf_map r]
@[simp] theorem blsOf_map : ∀ ns : List Bool, blsOf (ns.map D.bl) = some ns
  | [] => rfl
  | n :: r => by simp [blsOf, blsOf_map r]
theorem intsOf_eq : ∀ {ds : List D} {ns : List Int}, intsOf ds = some ns → ds = ns.map D.int
  | [], ns, h => by cases h; rfl
  | d :: r, ns, h => by
    cases d with
    | int i =>
      simp only [intsOf] at h
      cases q : intsOf r with
      | none => rw [q] at h; cases h
      | some ms =>
        rw [q] at h
        cases h
        rw [intsOf_eq q]; rfl
    | _ => cases h
theorem blsOf_eq : ∀ {ds : List D} {ns : List Bool}, blsOf ds = some ns → ds = ns.map D.bl
  | [], ns, h => by cases h; rfl
  | d :: r, ns, h => by
    cases d with
    | bl i =>
      simp only [blsOf] at h
      cases q : blsOf r with
      | none => rw [q] at h; cases h
      | some ms =>
        rw [q] at h
        cases h
        rw [blsOf_eq q]; rfl
    | _ => cases h
theorem Reps.of_bls {K : PySem.W.Frag} {F : Hp} : ∀ {vs : List V} {ns : List Bool}, Reps K F vs (ns.map D.bl) → vs = ns.map V.bl
  | _, [], .nil => rfl
  | _, n :: r, .cons h q => by
    cases h
    rw [Reps.of_bls q]; rfl
/-! ### indexing, slices -/
theorem atI_rep {K : PySem.W.Frag} {F : Hp} {vs : List V} {ds : List D} {i : Int} {d : D} (r : Reps K F vs ds) (h : atI ds i = some d) : ∃ v, atI vs i = some v ∧ Rep K F v d := by
  unfold atI at h ⊢
  rw [r.length]
  cases q : ixN ds.length i with
  | none => rw [q] at h; cases h
  | some j =>
    rw [q] at h
    exact r.get h
def dIx : D → D → Rs → Res D := fun x y R => match x, y with
  | .lst ds, .int i => match atI ds i with
    | some d => .ok d R
    | none => .bad
  | .tup ds, .int i => match atI ds i with
    | some d => .ok d R
    | none => .bad
  | .arm ds, .int i => match atI ds i with
    | some d => .ok d R
    | none => .bad
  | _, _ => .bad
/-- x[i], x a list or a tuple -/
def rIxV (K : PySem.W.Frag) : R2 := fun x y H Q => ∃ p xs i v, x = .ref p ∧ y = .int i ∧ (SqL K H p xs ∨ SqT K H p xs) ∧ atI xs i = some v ∧ Q v H
theorem ix_v {X : Cx} : IxR X (rIxV X.K) := by
  intro value slice pins s σ H x y v u Q I rx ry h hs
  obtain ⟨p, xs, i, z, rfl, rfl, hq | hq, he, q⟩ := h
  · exact ix_list value slice pins s σ H _ _ v u Q I rx ry ⟨p, xs, i, z, rfl, rfl, hq, he, q⟩ hs
  · exact ix_tup value slice pins s σ H _ _ v u Q I rx ry ⟨p, xs, i, z, rfl, rfl, hq, he, q⟩ hs
def rLenV (K : PySem.W.Frag) : List V → Hp → VK → Prop := fun vs H Q => ∃ p ys, vs = [.ref p] ∧ (SqL K H p ys ∨ SqT K H p ys) ∧ Q (.int ys.length) H
theorem call_len_v {X : Cx} : CallR X (.builtin "len") (rLenV X.K) := by
  intro pins s σ H xs us Q I r h
  obtain ⟨p, ys, rfl, hq, q⟩ := h
  exact call_len_seq pins s σ H _ us Q I r ⟨p, ys, rfl, hq, q⟩
def cutD {α : Type} (xs : List α) (lo hi : Option Int) : List α := (xs.drop (HT.sIx xs.length 0 lo)).take (HT.sIx xs.length xs.length hi - HT.sIx xs.length 0 lo)
theorem cut_rep {K : PySem.W.Frag} {F : Hp} {vs : List V} {ds : List D} {lo hi : Option Int} (r : Reps K F vs ds) : Reps K F (cutV vs lo hi) (cutD ds lo hi) := by
  unfold cutV cutD
  rw [r.length]
  exact (r.drop _).take _
abbrev GO := PEnv → Rs → Res (Option Int)
def gNoPart : GO := fun _ R => .ok none R
def gPart (g : G) : GO := fun ρ R => (g ρ R).bind fun d R => match d with
  | .int i => .ok (some i) R
  | _ => .bad
def dSl : D → Option Int → Option Int → Rs → Res D := fun x lo hi R => match x with
  | .lst ds => .ok (.lst (cutD ds lo hi)) R
  | .tup ds => .ok (.tup (cutD ds lo hi)) R
  | _ => .bad
def gSl (g : G) (l h : GO) : G := fun ρ R => (g ρ R).bind fun x R1 => (l ρ R1).bind fun a R2 => (h ρ R2).bind fun b R3 => dSl x a b R3
section
variable {X : Cx} {E : XK} {a b c e : Expr} {es rest : List Expr} {ga gb gc g : G} {gs : GA} {pos : Pos}
theorem o_ix : IxR X (rIxV X.K) ∧ OpD X.K E (rIxV X.K) dIx := ⟨ix_v, fun S F H R x y dx dy Q hs c rx ry h => by
  unfold dIx at h
  split at h
  · cases rx with
    | lst hf rs =>
    cases ry
    split at h
    · rename_i d hd
      obtain ⟨v, h1, h2⟩ := atI_rep rs hd
      exact ⟨_, _, _, v, rfl, rfl, .inl (.of (hs _ _ hf)), h1, h.now hs c h2⟩
    · exact h.elim
  · cases rx with
    | tup hf rs =>
    cases ry
    split at h
    · rename_i d hd
      obtain ⟨v, h1, h2⟩ := atI_rep rs hd
      exact ⟨_, _, _, v, rfl, rfl, .inr (.of (hs _ _ hf)), h1, h.now hs c h2⟩
    · exact h.elim
  · cases rx with
    | arm hf _ rs =>
    cases ry
    split at h
    · rename_i d hd
      obtain ⟨v, h1, h2⟩ := atI_rep rs hd
      exact ⟨_, _, _, v, rfl, rfl, .inr (.inl (.inr ⟨_, hs _ _ hf⟩)), h1, h.now hs c h2⟩
    · exact h.elim
  · exact h.elim⟩
abbrev EvO (X : Cx) (E : XK) (e : Option Expr) (g : GO) : Prop := PO X e (tG X.K E (fun _ _ (v : Option Int) d => v = d) g)
theorem po_imp {e : Option Expr} {t t' : TO} (h : PO X e t) (k : ∀ σ H Q, t' σ H Q → t σ H Q) : PO X e t' := ⟨fun pins s σ H Q I q => h.run pins s σ H Q I (k σ H Q q)⟩
theorem evo_none : EvO X E none gNoPart := po_imp po_none fun σ H Q ⟨S, F, ρ, R, v, h⟩ => h.now v.fh v.cells rfl
theorem evo_some (h : Ev X E e g) : EvO X E (some e) (gPart g) := po_imp (po_some h) fun σ H Q ⟨S, F, ρ, R, v, h⟩ => by
  refine ⟨S, F, ρ, R, v, Wp.bind h fun x S1 F1 H1 dx R1 e1 c1 rx h1 => ?_⟩
  split at h1
  · cases rx; exact ⟨_, rfl, h1.now e1.fh c1 rfl⟩
  · exact h1.elim
/-- a slice of a list or a tuple -/
def rSlU (K : PySem.W.Frag) : V → Option Int → Option Int → Hp → VK → Prop := fun x lo hi H Q => rSlLU x lo hi H Q ∨ rSlA K x lo hi H Q
theorem sl_u : SlR X (rSlU X.K) := by
  intro pins s σ H x v vl vu lo hi sl Q I rx hs pl pu h
  rcases h with h | h
  · exact sl_lu pins s σ H x v vl vu lo hi sl Q I rx hs pl pu h
  · exact sl_tupA pins s σ H x v vl vu lo hi sl Q I rx hs pl pu h
theorem ev_sl {lo hi : Option Expr} {l u : GO} {p2 : Pos} (h : Ev X E e g) (hl : EvO X E lo l) (hu : EvO X E hi u) : Ev X E (.Subscript e (.Slice lo hi none p2) pos) (gSl g l u) := pe_imp (pe_slice sl_u h hl hu) fun σ H Q ⟨S, F, ρ, R, v, h⟩ => by
  refine ⟨S, F, ρ, R, v, Wp.bind h fun x S1 F1 H1 dx R1 e1 c1 rx h1 => ?_⟩
  refine ⟨S1, F1, ρ, R1, v.ext e1 c1, Wp.bind h1 fun y S2 F2 H2 dy R2 e2 c2 ry h2 => ?_⟩
  refine ⟨S2, F2, ρ, R2, (v.ext e1 c1).ext e2 c2, Wp.bind h2 fun z S3 F3 H3 dz R3 e3 c3 rz h3 => ?_⟩
  subst ry rz
  replace rx := e3.rep (e2.rep rx)
  unfold dSl at h3
  split at h3
  · cases rx with
    | lst hf rs => exact .inl ⟨_, _, rfl, e3.fh _ _ hf, fun p hp => wp_lst e3.fh c3 (cut_rep rs) h3 hp⟩
  · cases rx with
    | tup hf rs =>
      refine .inr ⟨_, _, rfl, SqT.of (e3.fh _ _ hf), fun hw => ?_, fun _ p hp => wp_tup e3.fh c3 (cut_rep rs) h3 hp⟩
      refine h3.now e3.fh c3 (.tup hf ?_)
      have := cut_rep (lo := y) (hi := z) rs
      rw [cutV_whole hw.1 hw.2] at this
      exact this
  · exact h3.elim
/-! ### + of lists, of tuples -/
def dCatL : D → D → Rs → Res D := fun x y R => match x, y with
  | .lst a, .lst b => if a.length + b.length ≤ sizeLine then .ok (.lst (a ++ b)) R else .bad
  | _, _ => .bad
theorem o_cat : OpR X (binaryOp .Add) rCat ∧ OpD X.K E rCat dCatL := ⟨op_cat, fun S F H R x y dx dy Q hs c rx ry h => by
  unfold dCatL at h
  split at h
  · cases rx with
    | lst hf rs =>
    cases ry with
    | lst hg rt =>
    split at h
    · rename_i hl
      exact ⟨_, _, _, _, rfl, rfl, hs _ _ hf, hs _ _ hg, by rw [rs.length, rt.length]; exact hl, fun p hp => wp_lst hs c (rs.append rt) h hp⟩
    · exact h.elim
  · exact h.elim⟩
/-! ### builtins -/
def CallD (K : PySem.W.Frag) (E : XK) (r : List V → Hp → VK → Prop) (f : List D → Rs → Res D) : Prop :=
  ∀ (S : List Addr) (F H : Hp) (R : Rs) (vs : List V) (ds : List D) (Q : VK), Same F H → Cells K S F H R → Reps K F vs ds → Wp K E (fun _ F v d => Rep K F v d) S F H (f ds R) Q → r vs H Q
def gCB (f : List D → Rs → Res D) (gs : GA) : G := fun ρ R => (gs ρ R).bind f
theorem tCB_of {K : PySem.W.Frag} {r : List V → Hp → VK → Prop} {f : List D → Rs → Res D} (hd : CallD K E r f) {σ : L2.St} {H : Hp} {Q : VK} (h : tP K E (gCB f gs) σ H Q) : tCB r (tPA K E gs) σ H Q := by
  obtain ⟨S, F, ρ, R, v, h⟩ := h
  exact ⟨S, F, ρ, R, v, Wp.bind h fun x S1 F1 H1 dx R1 e1 c1 rx h1 => hd S1 F1 H1 R1 x dx Q e1.fh c1 rx h1⟩
theorem ev_b {id : String} {x : Str} {p : Pos} {r : List V → Hp → VK → Prop} {f : List D → Rs → Res D} (hc : CallR X (.builtin id) r ∧ CallD X.K E r f) (hg : Gl X x) (hm : X.mg x = none) (hv : bootBuiltins x = some (.builtin id)) (ha : EvA X E (e :: es) gs) (hn : x ≠ "__name__" := by decide) (hdb : (x == ("__debug__" : Str)) = false := by decide)
    (he : starEach (e :: es) X.env = (false, eval e X.env) :: starEach es X.env := by rfl) (hpl : (backTo pos (starEach es X.env)).any (·.1) = false := by rfl) :
    Ev X E (.Call (.Name x p) (e :: es) [] pos) (gCB f gs) := pe_imp (pe_callB hc.1 hg hm hv ha hn hdb he hpl) fun _ _ _ => tCB_of hc.2
theorem ev_ty {id : String} {x : Str} {p : Pos} {r : List V → Hp → VK → Prop} {f : List D → Rs → Res D} (hc : CallR X (.type id) r ∧ CallD X.K E r f) (hg : Gl X x) (hm : X.mg x = none) (hv : bootBuiltins x = some (.type id)) (ha : EvA X E (e :: es) gs) (hn : x ≠ "__name__" := by decide) (hdb : (x == ("__debug__" : Str)) = false := by decide)
    (he : starEach (e :: es) X.env = (false, eval e X.env) :: starEach es X.env := by rfl) (hpl : (backTo pos (starEach es X.env)).any (·.1) = false := by rfl) :
    Ev X E (.Call (.Name x p) (e :: es) [] pos) (gCB f gs) := pe_imp (pe_callTy hc.1 hg hm hv ha hn hdb he hpl) fun _ _ _ => tCB_of hc.2
def dLen : List D → Rs → Res D := fun ds R => match ds with
  | [.lst xs] => .ok (.int xs.length) R
  | [.tup xs] => .ok (.int xs.length) R
  | [.arm xs] => .ok (.int xs.length) R
  | _ => .bad
theorem c_len : CallR X (.builtin "len") (rLenV X.K) ∧ CallD X.K E (rLenV X.K) dLen := ⟨call_len_v, fun S F H R vs ds Q hs c r h => by
  unfold dLen at h
  split at h
  · cases r with
    | cons r rn =>
    cases rn
    cases r with
    | lst hf rs =>
    refine ⟨_, _, rfl, .inl (.of (hs _ _ hf)), ?_⟩
    rw [rs.length]
    exact h.now hs c (.int _)
  · cases r with
    | cons r rn =>
    cases rn
    cases r with
    | tup hf rs =>
    refine ⟨_, _, rfl, .inr (.of (hs _ _ hf)), ?_⟩
    rw [rs.length]
    exact h.now hs c (.int _)
  · cases r with
    | cons r rn =>
    cases rn
    cases r with
    | arm hf _ rs =>
    refine ⟨_, _, rfl, .inr (.inl (.inr ⟨_, hs _ _ hf⟩)), ?_⟩
    rw [rs.length]
    exact h.now hs c (.int _)
  · exact h.elim⟩
def dAbs : List D → Rs → Res D := fun ds R => match ds with
  | [.int i] => .ok (.int (if i < 0 then -i else i)) R
  | _ => .bad
theorem c_abs : CallR X (.builtin "abs") (fun xs H Q => ∃ i, xs = [.int i] ∧ Q (.int (if i < 0 then -i else i)) H) ∧ CallD X.K E (fun xs H Q => ∃ i, xs = [.int i] ∧ Q (.int (if i < 0 then -i else i)) H) dAbs := ⟨call_abs, fun S F H R vs ds Q hs c r h => by
  unfold dAbs at h
  split at h
  · cases r with
    | cons r rn => cases rn; cases r; exact ⟨_, rfl, h.now hs c (.int _)⟩
  · exact h.elim⟩
def dMax2 : List D → Rs → Res D := fun ds R => match ds with
  | [.int i, .int j] => .ok (.int (if j > i then j else i)) R
  | _ => .bad
def dMin2 : List D → Rs → Res D := fun ds R => match ds with
  | [.int i, .int j] => .ok (.int (if j < i then j else i)) R
  | _ => .bad
def dInt1 : List D → Rs → Res D := fun ds R => match ds with
  | [.int i] => .ok (.int i) R
  | [.bl k] => .ok (.int (if k then 1 else 0)) R
  | _ => .bad
theorem c_int1 : CallR X (.type "int") (fun xs H Q => (∃ i, xs = [.int i] ∧ Q (.int i) H) ∨ ∃ k, xs = [.bl k] ∧ Q (.int (if k then 1 else 0)) H) ∧ CallD X.K E (fun xs H Q => (∃ i, xs = [.int i] ∧ Q (.int i) H) ∨ ∃ k, xs = [.bl k] ∧ Q (.int (if k then 1 else 0)) H) dInt1 := ⟨call_int1, fun S F H R vs ds Q hs c r h => by
  unfold dInt1 at h
  split at h
  · cases r with
    | cons r rn => cases rn; cases r; exact .inl ⟨_, rfl, h.now hs c (.int _)⟩
  · cases r with
    | cons r rn => cases rn; cases r; exact .inr ⟨_, rfl, h.now hs c (.int _)⟩
  · exact h.elim⟩
def dSum : List D → Rs → Res D := fun ds R => match ds with
  | [.lst xs] => match intsOf xs with
    | some ns => .ok (.int ns.sum) R
    | none => .bad
  | _ => .bad
def dAny : List D → Rs → Res D := fun ds R => match ds with
  | [.lst xs] => match blsOf xs with
    | some ns => .ok (.bl (ns.any id)) R
    | none => .bad
  | _ => .bad
def dAll : List D → Rs → Res D := fun ds R => match ds with
  | [.lst xs] => match blsOf xs with
    | some ns => .ok (.bl (ns.all id)) R
    | none => .bad
  | _ => .bad
theorem c_all (hc : X.calm = true) : CallR X (.builtin "all") (rAll X.K) ∧ CallD X.K E (rAll X.K) dAll := ⟨cr_all hc, fun S F H R vs ds Q hs c r h => by
  unfold dAll at h
  split at h
  · split at h
    · rename_i ns hn
      cases r with
      | cons r rn =>
      cases rn
      cases r with
      | lst hf rs =>
      rw [blsOf_eq hn] at rs
      rw [Reps.of_bls rs] at hf
      exact ⟨_, ns, rfl, SqL.of (hs _ _ hf), h.now hs c (.bl _)⟩
    · exact h.elim
  · exact h.elim⟩
def dList : List D → Rs → Res D := fun ds R => match ds with
  | [.lst xs] => .ok (.lst xs) R
  | [.tup xs] => .ok (.lst xs) R
  | _ => .bad
theorem c_list : CallR X (.type "list") rListU ∧ CallD X.K E rListU dList := ⟨call_list_u, fun S F H R vs ds Q hs c r h => by
  unfold dList at h
  split at h
  · cases r with
    | cons r rn =>
    cases rn
    cases r with
    | lst hf rs => exact ⟨_, _, rfl, .inl (hs _ _ hf), fun p hp => wp_lst hs c rs h hp⟩
  · cases r with
    | cons r rn =>
    cases rn
    cases r with
    | tup hf rs => exact ⟨_, _, rfl, .inr (hs _ _ hf), fun p hp => wp_lst hs c rs h hp⟩
  · exact h.elim⟩
def dTupl : List D → Rs → Res D := fun ds R => match ds with
  | [.lst xs] => .ok (.tup xs) R
  | _ => .bad
theorem c_tup : CallR X (.type "tuple") rTupU ∧ CallD X.K E rTupU dTupl := ⟨call_tup_u, fun S F H R vs ds Q hs c r h => by
  unfold dTupl at h
  split at h
  · cases r with
    | cons r rn =>
    cases rn
    cases r with
    | lst hf rs => exact ⟨_, _, rfl, hs _ _ hf, fun p hp => wp_tup hs c rs h hp⟩
  · exact h.elim⟩
/-- isinstance(x, T), T a built-in kind -/
def kOf : D → Option Kd
  | .int _ => some .int
  | .bl _ => some .bl
  | .str _ => some .str
  | .non => some .non
  | .lst _ => some .lst
  | .tup _ => some .tup
  | .arm _ => some .tup
  | .dic _ => some .dct
  | _ => none
theorem kOf_rep {K : PySem.W.Frag} {F H : Hp} {v : V} {d : D} {k : Kd} (hs : Same F H) (r : Rep K F v d) (h : kOf d = some k) : TyX K H v (.type k.name) := by
  have key : kdOf v H = some k ∨ TyX K H v (.type k.name) := by
    cases r with
    | arm hf _ rs => cases h; exact .inr (.fTuple (hs _ _ hf))
    | tup hf rs => cases h; unfold kdOf; simp only [hs _ _ hf]; exact .inl trivial
    | lst hf rs => cases h; unfold kdOf; simp only [hs _ _ hf]; exact .inl trivial
    | dic hf e rs =>
      cases h
      rcases hf with hf | ⟨o, hf⟩
      · unfold kdOf; simp only [hs _ _ hf]; exact .inl trivial
      · exact .inr (.fDict (hs _ _ hf))
    | non => exact .inl h
    | bl b => exact .inl h
    | int i => exact .inl h
    | str x => exact .inl h
    | _ => cases h
  rcases key with h | h
  · exact kdOf_ok h
  · exact h
def dIsK (T : Kd) : List D → Rs → Res D := fun ds R => match ds with
  | [x, .ty n] => if n = T.name then match kOf x with
    | some k => .ok (.bl (isK k T)) R
    | none => .bad
    else .bad
  | _ => .bad
def rIsV (K : PySem.W.Frag) (T : Kd) : List V → Hp → VK → Prop := fun xs H Q => ∃ (x : V) (k : Kd), xs = [x, .ty T.name] ∧ TyX K H x (.type k.name) ∧ Q (.bl (isK k T)) H
theorem call_isV (T : Kd) (hT : T ≠ .non) : CallR X (.builtin "isinstance") (rIsV X.K T) := by
  intro pins s σ H xs us Q I r h
  obtain ⟨x, k, rfl, hk, q⟩ := h
  exact call_isi pins s σ H _ us Q I r ⟨x, _, _, _, _, rfl, .ty _, hk, kit_ty (kitB_isK k T hT), q⟩
theorem c_isK (T : Kd) (hT : T ≠ .non) : CallR X (.builtin "isinstance") (rIsV X.K T) ∧ CallD X.K E (rIsV X.K T) (dIsK T) := ⟨call_isV T hT, fun S F H R vs ds Q hs c r h => by
  unfold dIsK at h
  split at h
  · split at h
    · rename_i hn
      split at h
      · rename_i k hk
        cases r with
        | cons r rn =>
        cases rn with
        | cons r2 rn =>
        cases rn
        cases r2
        subst hn
        exact ⟨_, k, rfl, kOf_rep hs r hk, h.now hs c (.bl _)⟩
      · exact h.elim
    · exact h.elim
  · exact h.elim⟩
/-- isinstance(x, C), C an own class -/
def dIsC (C : Str) : List D → Rs → Res D := fun ds R => match ds with
  | [.ins c _, .cls C'] => if c = C ∧ C' = C then .ok (.bl true) R else .bad
  | [x, .cls C'] => if C' = C then match kOf x with
    | some k => if k = .dct then .bad else .ok (.bl false) R
    | none => .bad
    else .bad
  | _ => .bad
end
end Pv

namespace Pv
open PySem PySem.Spec PyProof.Rows L2 Sr
/-! ### a def's promise -/
def spP (K : PySem.W.Frag) (n : Nat) (f : List D → Rs → Res D) : Sp := fun vs H Q E => ∃ S F R ds, Same F H ∧ Cells K S F H R ∧ Reps K F vs ds ∧ ds.length = n ∧ Wp K E (fun _ F v d => Rep K F v d) S F H (f ds R) Q
theorem spP_len {K : PySem.W.Frag} {n : Nat} {f : List D → Rs → Res D} (vs : List V) (H : Hp) (Q : VK) (E : XK) (h : spP K n f vs H Q E) : vs.length = n := by
  obtain ⟨S, F, R, ds, _, _, r, hl, _⟩ := h
  rw [r.length]; exact hl
def gCall (n : Nat) (f : List D → Rs → Res D) (gs : GA) : G := fun ρ R => (gs ρ R).bind fun ds R => if ds.length = n then f ds R else .bad
abbrev XF : XK := fun _ _ _ => False
theorem pass_no {X : Cx} : Passes (L2.CX X.prog X.w) X XF := fun _ _ _ _ _ _ _ h => by
  obtain ⟨_, _, _, _, _, _, _, _, _, _, _, _, h⟩ := h
  exact h.elim
section
variable {X : Cx} {E : XK} {a b c e : Expr} {es rest : List Expr} {ga gb gc g : G} {gs : GA} {pos p : Pos} {n k : Nat} {f : List D → Rs → Res D} {x : Str} {ps : List Str} {CX : CXT}
theorem tCall_of {K : PySem.W.Frag} {σ : L2.St} {H : Hp} {Q : VK} (h : tP K E (gCall n f gs) σ H Q) : tCall (spP K n f) [] E (tPA K E gs) σ H Q := by
  obtain ⟨S, F, ρ, R, v, h⟩ := h
  refine ⟨S, F, ρ, R, v, Wp.bind h fun xs S1 F1 H1 ds R1 e1 c1 rx h1 => ?_⟩
  rw [List.append_nil]
  split at h1
  · rename_i hl
    exact ⟨S1, F1, R1, ds, e1.fh, c1, rx, hl, h1⟩
  · exact h1.elim
theorem ev_fn (F : Fn X.prog X.w X.K X.mg X.base CX k x ps (spP X.K n f)) (hr : Room k X.A) (hx : Passes CX X E) (ha : EvA X E (e :: es) gs) (hg : Gl X x := by rfl) (hdb : (x == ("__debug__" : Str)) = false := by decide)
    (he : starEach (e :: es) X.env = (false, eval e X.env) :: starEach es X.env := by rfl) (hpl : (backTo pos (starEach es X.env)).any (·.1) = false := by rfl) :
    Ev X E (.Call (.Name x p) (e :: es) [] pos) (gCall n f gs) := pe_imp (pe_fn F hr hx ha hg hdb he hpl) fun _ _ _ => tCall_of
end
/-! ### states -/
def hide (own : List Nat) (ρ : PEnv) : PEnv := own.foldl (fun ρ i => ρ.set i none) ρ
theorem hide_get : ∀ (own : List Nat) (ρ : PEnv) (i : Nat) (d : D), (hide own ρ)[i]? = some (some d) → ρ[i]? = some (some d) ∧ i ∉ own
  | [], ρ, i, d, h => ⟨h, by simp⟩
  | j :: r, ρ, i, d, h => by
    obtain ⟨h1, h2⟩ := hide_get r (ρ.set j none) i d h
    by_cases e : i = j
    · subst e
      rw [List.getElem?_set] at h1
      simp at h1
    · rw [List.getElem?_set_ne (Ne.symm e)] at h1
      exact ⟨h1, by simp [e, h2]⟩
theorem hide_len : ∀ (own : List Nat) (ρ : PEnv), (hide own ρ).length = ρ.length
  | [], ρ => rfl
  | j :: r, ρ => by
    show (hide r (ρ.set j none)).length = _
    rw [hide_len r]; simp
/-- an owned slot's cell -/
def OwnAt (K : PySem.W.Frag) (S : List Addr) (F H0 H : Hp) (d : D) (v : V) : Prop := ∃ a o, v = .ref a ∧ H a = some o ∧ RepO K F o d ∧ F a = none ∧ a ∉ S ∧ H0 a = none
structure SIn (K : PySem.W.Frag) (S0 : List Addr) (F0 H0 : Hp) (own : List Nat) (ρ : PEnv) (R : Rs) (σ : L2.St) (S : List Addr) (F H : Hp) : Prop where
  ext : Ext S0 F0 H0 S F H
  cells : Cells K S F H R
  sh : ∀ (i : Nat) (d : D), ρ[i]? = some (some d) → i ∉ own → ∃ v, σ[i]? = some (some v) ∧ RepV K S F v d
  ow : ∀ i ∈ own, ∀ d, ρ[i]? = some (some d) → ∃ v, σ[i]? = some (some v) ∧ OwnAt K S F H0 H d v
  ap : ∀ i ∈ own, ∀ j ∈ own, ∀ d d' v, ρ[i]? = some (some d) → ρ[j]? = some (some d') → σ[i]? = some (some v) → σ[j]? = some (some v) → i = j
  len : ρ.length = σ.length
def SRel (K : PySem.W.Frag) (S0 : List Addr) (F0 H0 : Hp) (own : List Nat) (ρ : PEnv) (R : Rs) (σ : L2.St) (H : Hp) : Prop := ∃ S F, SIn K S0 F0 H0 own ρ R σ S F H
inductive Out where
  | nx (ρ : PEnv) (R : Rs) | rt (d : D) (R : Rs) | bk (ρ : PEnv) (R : Rs) | ct (ρ : PEnv) (R : Rs) | exc (c : Str) (fs : List (Str × D)) (R : Rs) | bad
  /-- a new cell is returned -/
  | rf (d : D) (R : Rs)
abbrev GS := PEnv → Rs → Out
def WpS (K : PySem.W.Frag) (E : XK) (S0 : List Addr) (F0 H0 : Hp) (own ol : List Nat) (out : Out) (Dn : Ends) : Prop := match out with
  | .nx ρ R => ∀ σ H, SRel K S0 F0 H0 own ρ R σ H → Dn.nx σ H
  | .bk ρ R => ∀ σ H, SRel K S0 F0 H0 ol ρ R σ H → Dn.bk σ H
  | .ct ρ R => ∀ σ H, SRel K S0 F0 H0 ol ρ R σ H → Dn.ct σ H
  | .rt d R => ∀ v S F H, Ext S0 F0 H0 S F H → Cells K S F H R → Rep K F v d → Dn.rt v H
  | .exc c fs R => ∀ d S F H, Ext S0 F0 H0 S F H → Cells K S F H R → ExcAt K S F H fs d → E (.ref (He.ga K c)) d H
  | .bad => False
  | .rf d R => ∀ a o S F H, Ext S0 F0 H0 S F H → Cells K S F H R → H a = some o → RepO K F o d → F a = none → a ∉ S → H0 a = none → Dn.rt (.ref a) H
def tS (K : PySem.W.Frag) (E : XK) (own own' ol : List Nat) (g : GS) : TS := fun Dn σ H => ∃ S0 F0 H0 ρ R, SRel K S0 F0 H0 own ρ R σ H ∧ WpS K E S0 F0 H0 own' ol (g ρ R) Dn
abbrev Sts (X : Cx) (E : XK) (own own' ol : List Nat) (sts : List Stmt) (g : GS) : Prop := PSs X sts (tS X.K E own own' ol g)
abbrev Stm (X : Cx) (E : XK) (own own' ol : List Nat) (st : Stmt) (g : GS) : Prop := PS X st (tS X.K E own own' ol g)
section
variable {K : PySem.W.Frag} {S0 S S' : List Addr} {F0 H0 F H F' H' : Hp} {own : List Nat} {ρ : PEnv} {R R' : Rs} {σ : L2.St} {E : XK}
theorem SIn.same (s : SIn K S0 F0 H0 own ρ R σ S F H) : Same F H := s.ext.fh
/-- the view without the owned slots -/
theorem SIn.view (s : SIn K S0 F0 H0 own ρ R σ S F H) : View K S F H (hide own ρ) R σ := ⟨s.same, fun i d h => by
  obtain ⟨h1, h2⟩ := hide_get own ρ i d h
  exact s.sh i d h1 h2, s.cells, by rw [hide_len]; exact s.len⟩
/-- the state goes on in an expression -/
theorem SIn.on (s : SIn K S0 F0 H0 own ρ R σ S F H) (e : Ext S F H S' F' H') (c : Cells K S' F' H' R') : SIn K S0 F0 H0 own ρ R' σ S' F' H' where
  ext := s.ext.trans e
  cells := c
  sh := fun i d h1 h2 => by
    obtain ⟨v, h3, h4⟩ := s.sh i d h1 h2
    exact ⟨v, h3, h4.mono e.s e.f⟩
  ow := fun i hi d h => by
    obtain ⟨v, h1, a, o, h2, h3, h4, h5, h6, h7⟩ := s.ow i hi d h
    refine ⟨v, h1, a, o, h2, e.fr a o h3 h6, h4.mono e.f, e.nw a o h3 h5, fun z => ?_, h7⟩
    have := e.sn a z h6
    rw [h3] at this; cases this
  ap := s.ap
  len := s.len
/-- a shared slot is set -/
theorem SIn.set (s : SIn K S0 F0 H0 own ρ R σ S F H) {i : Nat} {v : V} {d : D} (hi : i ∉ own) (r : RepV K S F v d) : SIn K S0 F0 H0 own (ρ.set i (some d)) R (σ.set i (some v)) S F H where
  ext := s.ext
  cells := s.cells
  sh := fun j d' h1 h2 => by
    by_cases e : i = j
    · subst e
      rw [List.getElem?_set] at h1 ⊢
      rw [s.len] at h1
      split at h1
      · split at h1
        · rename_i h3
          rw [if_pos h3]
          cases h1
          exact ⟨v, by simp, r⟩
        · cases h1
      · rename_i z; exact absurd rfl z
    · rw [List.getElem?_set_ne e] at h1 ⊢
      exact s.sh j d' h1 h2
  ow := fun j hj d' h => by
    have e : i ≠ j := fun z => hi (z ▸ hj)
    rw [List.getElem?_set_ne e] at h ⊢
    exact s.ow j hj d' h
  ap := fun j hj l hl d1 d2 u h1 h2 h3 h4 => by
    have e : i ≠ j := fun z => hi (z ▸ hj)
    have e' : i ≠ l := fun z => hi (z ▸ hl)
    rw [List.getElem?_set_ne e] at h1 h3
    rw [List.getElem?_set_ne e'] at h2 h4
    exact s.ap j hj l hl d1 d2 u h1 h2 h3 h4
  len := by simpa using s.len
/-- an owned slot gets a new cell -/
theorem SIn.setO (s : SIn K S0 F0 H0 own ρ R σ S F H) {i : Nat} {a : Addr} {o : HO} {d : D} (hi : i ∈ own) (ha : H a = some o) (r : RepO K F o d) (hF : F a = none) (hS : a ∉ S) (h0 : H0 a = none)
    (hn : ∀ j ∈ own, ∀ d, ρ[j]? = some (some d) → j ≠ i → σ[j]? ≠ some (some (.ref a))) : SIn K S0 F0 H0 own (ρ.set i (some d)) R (σ.set i (some (.ref a))) S F H where
  ext := s.ext
  cells := s.cells
  sh := fun j d' h1 h2 => by
    have e : i ≠ j := fun z => h2 (z ▸ hi)
    rw [List.getElem?_set_ne e] at h1 ⊢
    exact s.sh j d' h1 h2
  ow := fun j hj d' h => by
    by_cases e : i = j
    · subst e
      rw [List.getElem?_set] at h ⊢
      rw [s.len] at h
      split at h
      · split at h
        · rename_i h3
          rw [if_pos h3]
          cases h
          exact ⟨_, by simp, a, o, rfl, ha, r, hF, hS, h0⟩
        · cases h
      · rename_i z; exact absurd rfl z
    · rw [List.getElem?_set_ne e] at h ⊢
      exact s.ow j hj d' h
  ap := fun j hj l hl d1 d2 u h1 h2 h3 h4 => by
    have key : ∀ m, m ∈ own → m ≠ i → ∀ d, ρ[m]? = some (some d) → σ[m]? = some (some u) → (σ.set i (some (.ref a)))[i]? = some (some u) → False := fun m hm hne d q1 q2 q3 => by
      rw [List.getElem?_set] at q3
      simp only [if_true] at q3
      split at q3
      · cases q3
        exact hn m hm d q1 hne q2
      · cases q3
    by_cases e : i = j
    · subst e
      by_cases e' : i = l
      · exact e'
      · rw [List.getElem?_set_ne e'] at h2 h4
        exact (key l hl (Ne.symm e') d2 h2 h4 h3).elim
    · rw [List.getElem?_set_ne e] at h1 h3
      by_cases e' : i = l
      · subst e'
        exact (key j hj (Ne.symm e) d1 h1 h3 h4).elim
      · rw [List.getElem?_set_ne e'] at h2 h4
        exact s.ap j hj l hl d1 d2 u h1 h2 h3 h4
  len := by simpa using s.len
/-- an owned slot's cell is changed -/
theorem SIn.put (s : SIn K S0 F0 H0 own ρ R σ S F H) {i : Nat} {a : Addr} {o : HO} {d d0 : D} (hi : i ∈ own) (hd : ρ[i]? = some (some d0)) (hv : σ[i]? = some (some (.ref a))) (r : RepO K F o d) : SIn K S0 F0 H0 own (ρ.set i (some d)) R σ S F (upd H a o) := by
  obtain ⟨v, h1, a', o', rfl, h3, h4, h5, h6, h7⟩ := s.ow i hi d0 hd
  rw [hv] at h1
  cases h1
  have neF : ∀ b u, F b = some u → b ≠ a := fun b u e z => by rw [z, h5] at e; cases e
  have neH : ∀ b u, H0 b = some u → b ≠ a := fun b u e z => by rw [z, h7] at e; cases e
  refine ⟨⟨s.ext.s, s.ext.f, fun b u e => by rw [upd_ne (neF b u e)]; exact s.ext.fh b u e, fun b u e hb => by rw [upd_ne (neH b u e)]; exact s.ext.fr b u e hb, fun b u e => by rw [upd_ne (neH b u e)]; exact s.ext.th b u e, s.ext.nw, s.ext.sn⟩, s.cells.upd h6, fun j d' q1 q2 => ?_, fun j hj d' q => ?_, fun j hj l hl d1 d2 u q1 q2 q3 q4 => ?_, by simpa using s.len⟩
  · have e : i ≠ j := fun z => q2 (z ▸ hi)
    rw [List.getElem?_set_ne e] at q1
    exact s.sh j d' q1 q2
  · by_cases e : i = j
    · subst e
      rw [List.getElem?_set] at q
      simp only [if_true] at q
      split at q
      · cases q
        exact ⟨_, hv, a, o, rfl, upd_same, r, h5, h6, h7⟩
      · cases q
    · rw [List.getElem?_set_ne e] at q
      obtain ⟨v, g1, b, o2, rfl, g3, g4, g5, g6, g7⟩ := s.ow j hj d' q
      have hne : b ≠ a := fun z => by
        rw [z] at g1
        exact e (s.ap i hi j hj d0 d' _ hd q hv g1)
      exact ⟨_, g1, b, o2, rfl, by rw [upd_ne hne]; exact g3, g4, g5, g6, g7⟩
  · have un : ∀ (m : Nat) (d' : D), (ρ.set i (some d))[m]? = some (some d') → ∃ d'', ρ[m]? = some (some d'') := fun m d' q => by
      by_cases e : i = m
      · subst e; exact ⟨d0, hd⟩
      · rw [List.getElem?_set_ne e] at q; exact ⟨d', q⟩
    obtain ⟨e1, q1⟩ := un j d1 q1
    obtain ⟨e2, q2⟩ := un l d2 q2
    exact s.ap j hj l hl e1 e2 u q1 q2 q3 q4
end
end Pv

namespace Pv
open PySem PySem.Spec PyProof.Rows L2 Sr
/-! ### data without cells that may change -/
def isMut : HO → Prop
  | .lst _ => True
  | .dK _ => True
  | .dT _ => True
  | .ins _ _ _ => True
  | .tbl _ => True
  | _ => False
mutual
def D.imm : D → Bool
  | .non => true
  | .bl _ => true
  | .int _ => true
  | .str _ => true
  | .tup xs => immL xs
  | .arm xs => immL xs
  | .ty _ => true
  | .cls _ => true
  | .lam _ _ => true
  | _ => false
def immL : List D → Bool
  | [] => true
  | d :: r => d.imm && immL r
end
def immO : D → Bool
  | .tab _ => true
  | .lst xs => immL xs
  | .dic kvs => immL (kvs.map (·.2))
  | .dit kvs => immL (kvs.map (·.2))
  | d => d.imm
@[simp] theorem immL_ints : ∀ ns : List Int, immL (ns.map D.int) = true
  | [] => rfl
  | n :: r => by simp [immL, D.imm, immL_ints r]
section
variable {K : PySem.W.Frag} {F G : Hp}
mutual
theorem Rep.imm (hG : ∀ a o, F a = some o → (∀ z, o = z → ¬ isMut z) → G a = some o) : ∀ {v : V} {d : D}, Rep K F v d → d.imm = true → Rep K G v d
  | _, _, .non, _ => .non
  | _, _, .bl b, _ => .bl b
  | _, _, .int i, _ => .int i
  | _, _, .str x, _ => .str x
  | _, _, .arm h e r, hi => .arm (hG _ _ h (by rintro _ rfl; exact id)) e (Reps.imm hG r (by simpa [D.imm] using hi))
  | _, _, .tup h r, hi => .tup (hG _ _ h (by rintro _ rfl; exact id)) (Reps.imm hG r (by simpa [D.imm] using hi))
  | _, _, .ty n, _ => .ty n
  | _, _, .cls c, _ => .cls c
  | _, _, .lam h1 h2 h3, _ => .lam (hG _ _ h1 (by rintro _ rfl; exact id)) (hG _ _ h2 (by rintro _ rfl; exact id)) (h3.imp id fun ⟨h4, t, e, ht⟩ => ⟨h4, t, e, hG _ _ ht (by rintro _ rfl; exact id)⟩)
  | _, _, .tab _, hi => by simp [D.imm] at hi
  | _, _, .clo _ _ _ _ _, hi => by simp [D.imm] at hi
  | _, _, .lst _ _, hi => by simp [D.imm] at hi
  | _, _, .ins _ _ _, hi => by simp [D.imm] at hi
  | _, _, .dic _ _ _, hi => by simp [D.imm] at hi
  | _, _, .dit _ _ _, hi => by simp [D.imm] at hi
theorem Reps.imm (hG : ∀ a o, F a = some o → (∀ z, o = z → ¬ isMut z) → G a = some o) : ∀ {vs : List V} {ds : List D}, Reps K F vs ds → immL ds = true → Reps K G vs ds
  | _, _, .nil, _ => .nil
  | _, _, .cons h r, hi => .cons (Rep.imm hG h (by simp [immL] at hi; exact hi.1)) (Reps.imm hG r (by simp [immL] at hi; exact hi.2))
end
theorem RepO.imm (hG : ∀ a o, F a = some o → (∀ z, o = z → ¬ isMut z) → G a = some o) {o : HO} {d : D} (h : RepO K F o d) (hi : immO d = true) : RepO K G o d := by
  cases h with
  | lst r => exact .lst (r.imm hG hi)
  | ins e r => simp [immO, D.imm] at hi
  | dic e r => exact .dic e (r.imm hG hi)
  | dit e r => exact .dit e (r.imm hG hi)
  | tab h => exact .tab (h.mono fun c e => hG _ _ e (by rintro _ rfl; exact id))
end
/-- the addresses of the owned slots -/
def OwnA (own : List Nat) (ρ : PEnv) (σ : L2.St) (b : Addr) : Prop := ∃ i ∈ own, ∃ d, ρ[i]? = some (some d) ∧ σ[i]? = some (some (.ref b))
open Classical in
/-- what is frozen, and the owned cells -/
noncomputable def allF (own : List Nat) (ρ : PEnv) (σ : L2.St) (F H : Hp) : Hp := fun b => if OwnA own ρ σ b then H b else F b
open Classical in
noncomputable def cutF (own : List Nat) (ρ : PEnv) (σ : L2.St) (F : Hp) : Hp := fun b => if OwnA own ρ σ b then none else F b
theorem RepO.mut {K : PySem.W.Frag} {F : Hp} {o : HO} {d : D} (h : RepO K F o d) : isMut o := by cases h <;> trivial
theorem RepO.rep {K : PySem.W.Frag} {F : Hp} {a : Addr} {o : HO} {d : D} (h : RepO K F o d) (ha : F a = some o) : Rep K F (.ref a) d := by
  cases h with
  | lst r => exact .lst ha r
  | ins e r => exact .ins ha e r
  | dic e r => exact .dic (.inl ha) e r
  | dit e r => exact .dit (.inl ha) e r
  | tab h => exact .tab ha
section
variable {K : PySem.W.Frag} {S0 S S' : List Addr} {F0 H0 F H F' H' : Hp} {own : List Nat} {ρ : PEnv} {R R' : Rs} {σ : L2.St} {E : XK}
theorem SIn.own_none (s : SIn K S0 F0 H0 own ρ R σ S F H) {b : Addr} (h : OwnA own ρ σ b) : F b = none ∧ b ∉ S ∧ H0 b = none ∧ ∃ o, H b = some o ∧ isMut o := by
  obtain ⟨i, hi, d, h1, h2⟩ := h
  obtain ⟨v, h3, a, o, rfl, h5, h6, h7, h8, h9⟩ := s.ow i hi d h1
  rw [h2] at h3
  cases h3
  exact ⟨h7, h8, h9, o, h5, h6.mut⟩
theorem SIn.f_allF (s : SIn K S0 F0 H0 own ρ R σ S F H) : Same F (allF own ρ σ F H) := fun b u e => by
  unfold allF
  split
  · rename_i h
    rw [(s.own_none h).1] at e; cases e
  · exact e
theorem SIn.allF_h (s : SIn K S0 F0 H0 own ρ R σ S F H) : Same (allF own ρ σ F H) H := fun b u e => by
  unfold allF at e
  split at e
  · exact e
  · exact s.same b u e
/-- the view with all slots -/
theorem SIn.full (s : SIn K S0 F0 H0 own ρ R σ S F H) : View K S (allF own ρ σ F H) H ρ R σ := by
  refine ⟨s.allF_h, fun i d h => ?_, s.cells.froz s.f_allF fun b hb => ?_, s.len⟩
  · by_cases hi : i ∈ own
    · obtain ⟨v, h1, a, o, rfl, h3, h4, h5, h6, h7⟩ := s.ow i hi d h
      refine ⟨_, h1, .inl ((h4.mono s.f_allF).rep ?_)⟩
      unfold allF
      rw [if_pos ⟨i, hi, d, h, h1⟩]; exact h3
    · obtain ⟨v, h1, h2⟩ := s.sh i d h hi
      exact ⟨v, h1, h2.mono (List.prefix_refl _) s.f_allF⟩
  · unfold allF
    rw [if_neg fun z => (s.own_none z).2.1 hb]
    exact (s.cells.has hb).1
/-- behind an expression that saw all slots -/
theorem SIn.onG (s : SIn K S0 F0 H0 own ρ R σ S F H) (e : Ext S (allF own ρ σ F H) H S' F' H') (c : Cells K S' F' H' R') (hR : R'.all immO = true) : SIn K S0 F0 H0 own ρ R' σ S' (cutF own ρ σ F') H' ∧ ∀ a o, F' a = some o → (∀ z, o = z → ¬ isMut z) → cutF own ρ σ F' a = some o := by
  have hT : ∀ a o, F' a = some o → (∀ z, o = z → ¬ isMut z) → cutF own ρ σ F' a = some o := fun a u h hm => by
    unfold cutF
    split
    · rename_i ho
      obtain ⟨h1, h2, h3, o, h4, h5⟩ := s.own_none ho
      have := e.fr a o h4 h2
      rw [e.fh a _ h] at this
      cases this
      exact (hm _ rfl h5).elim
    · exact h
  have hF : Same F (cutF own ρ σ F') := fun b u h => by
    unfold cutF
    split
    · rename_i ho
      rw [(s.own_none ho).1] at h; cases h
    · exact e.f b u (s.f_allF b u h)
  have hcF : Same (cutF own ρ σ F') H' := fun b u h => by
    unfold cutF at h
    split at h
    · cases h
    · exact e.fh b u h
  have hle : ∀ b, F' b = none → cutF own ρ σ F' b = none := fun b h => by
    unfold cutF; split
    · rfl
    · exact h
  refine ⟨⟨⟨s.ext.s.trans e.s, s.ext.f.trans hF, hcF, fun b u h hb => ?_, fun b u h => ?_, fun b u h hb => ?_, fun b h1 h2 => ?_⟩, ⟨c.len, fun i a d h1 h2 => ?_, c.nd, c.tb⟩, fun i d h1 h2 => ?_, fun i hi d h => ?_, s.ap, s.len⟩, hT⟩
  · have h3 := s.ext.fr b u h hb
    refine e.fr b u h3 fun z => ?_
    have := s.ext.sn b z hb
    rw [h] at this; cases this
  · obtain ⟨u1, h3⟩ := s.ext.th b u h
    exact e.th b u1 h3
  · obtain ⟨u1, h3⟩ := s.ext.th b u h
    have h4 := s.ext.nw b u h hb
    by_cases ho : OwnA own ρ σ b
    · unfold cutF; rw [if_pos ho]
    · refine hle b (e.nw b u1 h3 ?_)
      unfold allF; rw [if_neg ho]; exact h4
  · by_cases hb : b ∈ S
    · exact s.ext.sn b hb h2
    · have := e.sn b h1 hb
      cases q : H0 b with
      | none => rfl
      | some u =>
        obtain ⟨u1, h3⟩ := s.ext.th b u q
        rw [this] at h3; cases h3
  · obtain ⟨n, o, h3, h4⟩ := c.at_ i a d h1 h2
    have hd : immO d = true := List.all_eq_true.mp hR d (List.mem_of_getElem? h2)
    exact ⟨hle a n, o, h3, h4.imm hT hd⟩
  · obtain ⟨v, h3, h4⟩ := s.sh i d h1 h2
    exact ⟨v, h3, h4.mono e.s hF⟩
  · obtain ⟨v, h1, a, o, rfl, h3, h4, h5, h6, h7⟩ := s.ow i hi d h
    refine ⟨_, h1, a, o, rfl, e.fr a o h3 h6, h4.mono hF, ?_, fun z => ?_, h7⟩
    · unfold cutF; rw [if_pos ⟨i, hi, d, h, h1⟩]
    · have := e.sn a z h6
      rw [h3] at this; cases this
end
/-! ### statements -/
def gNext : GS := fun ρ R => .nx ρ R
def gSeq (g1 g2 : GS) : GS := fun ρ R => match g1 ρ R with
  | .nx ρ1 R1 => g2 ρ1 R1
  | o => o
/-- how an expression is seen: .f without the owned slots, .g with all of them (then its value must hold no cells that may change) -/
inductive Md where | f | g
def see (m : Md) (own : List Nat) (ρ : PEnv) : PEnv := match m with
  | .f => hide own ρ
  | .g => ρ
def okM (m : Md) (d : D) (R : Rs) : Bool := match m with
  | .f => true
  | .g => d.imm && R.all immO
def okR (m : Md) (R : Rs) : Bool := match m with
  | .f => true
  | .g => R.all immO
def Res.out {α : Type} (r : Res α) (k : α → Rs → Out) : Out := match r with
  | .ok a R => k a R
  | .exc c fs R => .exc c fs R
  | .bad => .bad
@[simp] theorem Res.out_ok {α : Type} (a : α) (R : Rs) (k : α → Rs → Out) : (Res.ok a R).out k = k a R := rfl
@[simp] theorem Res.out_exc {α : Type} (c : Str) (fs : List (Str × D)) (R : Rs) (k : α → Rs → Out) : (Res.exc c fs R : Res α).out k = .exc c fs R := rfl
@[simp] theorem Res.out_bad {α : Type} (k : α → Rs → Out) : (Res.bad : Res α).out k = .bad := rfl
section
variable {X : Cx} {E : XK} {own own' own'' ol : List Nat} {st : Stmt} {sts rest : List Stmt} {g1 g2 : GS} {g : G} {t : GT} {gs : GA} {e : Expr} {pos : Pos} {K : PySem.W.Frag} {S0 S S' : List Addr} {F0 H0 F H F' H' : Hp} {ρ : PEnv} {R R' : Rs} {σ : L2.St}
theorem sts_nil : Sts X E own own ol [] gNext := pss_imp pss_nil fun Dn σ H ⟨S0, F0, H0, ρ, R, s, h⟩ => h σ H s
theorem WpS.seq {Dn : Ends} (h : WpS K E S0 F0 H0 own'' ol (gSeq g1 g2 ρ R) Dn) : WpS K E S0 F0 H0 own' ol (g1 ρ R) { Dn with nx := tS K E own' own'' ol g2 Dn } := by
  unfold gSeq at h
  cases q : g1 ρ R with
  | nx ρ1 R1 => rw [q] at h; exact fun σ H s => ⟨S0, F0, H0, ρ1, R1, s, h⟩
  | _ => rw [q] at h; exact h
theorem sts_cons (h1 : Stm X E own own' ol st g1) (h2 : Sts X E own' own'' ol rest g2) : Sts X E own own'' ol (st :: rest) (gSeq g1 g2) := pss_imp (pss_cons h1 h2) fun Dn σ H ⟨S0, F0, H0, ρ, R, s, h⟩ => ⟨S0, F0, H0, ρ, R, s, h.seq⟩
theorem sts_one (h1 : Stm X E own own' ol st g1) : Sts X E own own' ol [st] g1 := pss_one h1
/-- an expression within a statement -/
theorem see_wp {α β : Type} {rep : List Addr → Hp → β → α → Prop} {m : Md} {r : PEnv → Rs → Res α} {k : α → Rs → Out} {Dn : Ends} {Q : β → Hp → Prop} (hX : K = X.K) (s : SRel X.K S0 F0 H0 own ρ R σ H) (h : WpS X.K E S0 F0 H0 own' ol ((r (see m own ρ) R).out k) Dn)
    (hq : ∀ b a R1 S F S1 F1 H1, SIn X.K S0 F0 H0 own ρ R σ S F H → (m = .f → Ext S F H S1 F1 H1) → (m = .g → Ext S (allF own ρ σ F H) H S1 F1 H1) → Cells X.K S1 F1 H1 R1 → rep S1 F1 b a → Ext S0 F0 H0 S1 F1 H1 → WpS X.K E S0 F0 H0 own' ol (k a R1) Dn → Q b H1) : tG X.K E rep r σ H Q := by
  obtain ⟨S, F, s⟩ := s
  have extG : Ext S0 F0 H0 S (allF own ρ σ F H) H := ⟨s.ext.s, s.ext.f.trans s.f_allF, s.allF_h, s.ext.fr, s.ext.th, fun b u h1 h2 => by
    have h3 := s.ext.nw b u h1 h2
    unfold allF
    split
    · rename_i ho
      have := (s.own_none ho).2.2.1
      rw [h1] at this; cases this
    · exact h3, s.ext.sn⟩
  cases m with
  | f =>
    refine ⟨S, F, hide own ρ, R, s.view, ?_⟩
    cases q : r (hide own ρ) R with
    | ok a R1 =>
      simp only [see, q] at h
      exact fun b S1 F1 H1 e1 c1 rb => hq b a R1 S F S1 F1 H1 s (fun _ => e1) (fun z => nomatch z) c1 rb (s.ext.trans e1) h
    | exc c fs R1 =>
      simp only [see, q] at h
      exact fun d S1 F1 H1 e1 c1 rb => h d S1 F1 H1 (s.ext.trans e1) c1 rb
    | bad => simp only [see, q] at h; exact h
  | g =>
    refine ⟨S, _, ρ, R, s.full, ?_⟩
    cases q : r ρ R with
    | ok a R1 =>
      simp only [see, q] at h
      exact fun b S1 F1 H1 e1 c1 rb => hq b a R1 S F S1 F1 H1 s (fun z => nomatch z) (fun _ => e1) c1 rb (extG.trans e1) h
    | exc c fs R1 =>
      simp only [see, q] at h
      exact fun d S1 F1 H1 e1 c1 rb => h d S1 F1 H1 (extG.trans e1) c1 rb
    | bad => simp only [see, q] at h; exact h
/-- .. where a value came, the state goes on with it -/
theorem SIn.seen {m : Md} {v : V} {d : D} {R1 : Rs} {S1 : List Addr} {F1 H1 : Hp} (s : SIn K S0 F0 H0 own ρ R σ S F H) (ef : m = .f → Ext S F H S1 F1 H1) (eg : m = .g → Ext S (allF own ρ σ F H) H S1 F1 H1) (c : Cells K S1 F1 H1 R1) (r : Rep K F1 v d) (hm : okM m d R1 = true) :
    ∃ F2, SIn K S0 F0 H0 own ρ R1 σ S1 F2 H1 ∧ Rep K F2 v d := by
  cases m with
  | f => exact ⟨F1, s.on (ef rfl) c, r⟩
  | g =>
    have hm2 : d.imm = true ∧ R1.all immO = true := by simpa [okM] using hm
    obtain ⟨h1, h2⟩ := s.onG (eg rfl) c hm2.2
    exact ⟨_, h1, r.imm h2 hm2.1⟩
theorem SIn.seenR {m : Md} {R1 : Rs} {S1 : List Addr} {F1 H1 : Hp} (s : SIn K S0 F0 H0 own ρ R σ S F H) (ef : m = .f → Ext S F H S1 F1 H1) (eg : m = .g → Ext S (allF own ρ σ F H) H S1 F1 H1) (c : Cells K S1 F1 H1 R1) (hm : okR m R1 = true) :
    ∃ F2, SIn K S0 F0 H0 own ρ R1 σ S1 F2 H1 ∧ (∀ a o, F1 a = some o → (∀ z, o = z → ¬ isMut z) → F2 a = some o) := by
  cases m with
  | f => exact ⟨F1, s.on (ef rfl) c, fun _ _ h _ => h⟩
  | g =>
    obtain ⟨h1, h2⟩ := s.onG (eg rfl) c (by simpa [okR] using hm)
    exact ⟨_, h1, h2⟩
/-- x = e -/
def gSet (m : Md) (own : List Nat) (i : Nat) (g : G) : GS := fun ρ R => (g (see m own ρ) R).out fun d R1 => if okM m d R1 && !own.contains i then .nx (ρ.set i (some d)) R1 else .bad
theorem tSet_of {m : Md} {i : Nat} {Dn : Ends} (h : tS X.K E own own ol (gSet m own i g) Dn σ H) : tAsg (tP X.K E g) (gName i) Dn σ H := by
  obtain ⟨S0, F0, H0, ρ, R, s, h⟩ := h
  refine see_wp rfl s h fun v d R1 S F S1 F1 H1 s ef eg c r _ h1 => ?_
  split at h1
  · rename_i hc
    simp only [Bool.and_eq_true, Bool.not_eq_true', List.contains_eq_mem, decide_eq_false_iff_not] at hc
    obtain ⟨F2, s2, r2⟩ := s.seen ef eg c r hc.1
    exact h1 _ _ ⟨_, _, s2.set hc.2 (.inl r2)⟩
  · exact h1.elim
theorem st_set (m : Md) {i : Nat} {x : Str} {pos' : Pos} (hN : X.N.Nodup) (hi : X.N[i]? = some x) (hx : Loc X.env.scope x) (he : Ev X E e g) (hs : swapsWith e (some (.Name x pos')) pos.line X.env = pure false := by rfl) (hf : X.fn x = true ∨ X.env.scope.names.lookup x = some .local := by first | exact .inl rfl | exact .inr rfl | assumption) :
    Stm X E own own ol (.Assign [.Name x pos'] e pos) (gSet m own i g) := ps_imp (ps_set hN hi hx he hs hf) fun _ _ _ => tSet_of
/-- an expression whose value is dropped -/
def gDrop (m : Md) (own : List Nat) (g : G) : GS := fun ρ R => (g (see m own ρ) R).out fun d R1 => if okR m R1 then .nx ρ R1 else .bad
theorem st_expr (m : Md) (he : Ev X E e g) (hs : swapsWith e none pos.line X.env = pure false := by rfl) : Stm X E own own ol (.Expr e pos) (gDrop m own g) := ps_imp (ps_expr he hs) fun Dn σ H ⟨S0, F0, H0, ρ, R, s, h⟩ => by
  refine see_wp rfl s h fun v d R1 S F S1 F1 H1 s ef eg c r _ h1 => ?_
  split at h1
  · rename_i hc
    obtain ⟨F2, s2, _⟩ := s.seenR ef eg c hc
    exact h1 _ _ ⟨_, _, s2⟩
  · exact h1.elim
/-- return e -/
def gRet (g : G) : GS := fun ρ R => (g ρ R).out fun d R1 => .rt d R1
theorem st_ret (he : Ev X E e g) : Stm X E own own' ol (.Return (some e) pos) (gRet g) := ps_imp (ps_ret he) fun Dn σ H ⟨S0, F0, H0, ρ, R, s, h⟩ => by
  exact see_wp (m := .g) rfl s h fun v d R1 S F S1 F1 H1 s ef eg c r e h1 => h1 v S1 F1 H1 e c r
def gRetN : GS := fun ρ R => .rt .non R
def gBrk : GS := fun ρ R => .bk ρ R
def gCnt : GS := fun ρ R => .ct ρ R
def gNever : GS := fun _ _ => .bad
/-- if -/
def gIfS (m : Md) (own : List Nat) (t : GT) (g1 g2 : GS) : GS := fun ρ R => (t (see m own ρ) R).out fun b R1 => if okR m R1 then match b with
  | true => g1 ρ R1
  | false => g2 ρ R1
  else .bad
theorem st_if (m : Md) {c : Expr} {a b : List Stmt} (hc : EvT X E c t) (ha : Sts X E own own' ol a g1) (hb : Sts X E own own' ol b g2) : Stm X E own own' ol (.If c a b pos) (gIfS m own t g1 g2) := ps_imp (ps_if hc ha hb) fun Dn σ H ⟨S0, F0, H0, ρ, R, s, h⟩ => by
  refine see_wp rfl s h fun v d R1 S F S1 F1 H1 s ef eg c r _ h1 => ?_
  subst r
  split at h1
  · rename_i hc
    obtain ⟨F2, s2, _⟩ := s.seenR ef eg c hc
    cases v with
    | true => exact ⟨S0, F0, H0, ρ, R1, ⟨_, _, s2⟩, h1⟩
    | false => exact ⟨S0, F0, H0, ρ, R1, ⟨_, _, s2⟩, h1⟩
  · exact h1.elim
/-- x += e, ints -/
def gAug (m : Md) (own : List Nat) (i : Nat) (f : D → D → Rs → Res D) (g : G) : GS := fun ρ R => match (hide own ρ)[i]? with
  | some (some (.int x)) => (g (see m own ρ) R).out fun d R1 => if okR m R1 && !own.contains i then (f (.int x) d R1).out fun z R2 => match z with
    | .int w => .nx (ρ.set i (some (.int w))) R2
    | _ => .bad
    else .bad
  | _ => .bad
end
end Pv

namespace Pv
open PySem PySem.Spec PyProof.Rows L2 Sr
/-! ### targets -/
inductive Upds (K : PySem.W.Frag) (F : Hp) (vs : List Nat) (ρ : PEnv) (σ : L2.St) : PEnv → L2.St → Prop
  | refl : Upds K F vs ρ σ ρ σ
  | step {ρ' : PEnv} {σ' : L2.St} {i : Nat} {v : V} {d : D} : Upds K F vs ρ σ ρ' σ' → i ∈ vs → Rep K F v d → Upds K F vs ρ σ (ρ'.set i (some d)) (σ'.set i (some v))
abbrev TD := D → PEnv → Option PEnv
abbrev TDs := List D → PEnv → Option PEnv
def TgD (K : PySem.W.Frag) (t : TG) (T : TD) (vs : List Nat) : Prop := ∀ (F H : Hp) (v : V) (d : D) (ρ0 : PEnv) (σ0 : L2.St) (σ : L2.St) (ρ ρ' : PEnv) (Q : L2.St → Hp → Prop), Same F H → Rep K F v d → T d ρ = some ρ' → Upds K F vs ρ0 σ0 ρ σ → (∀ σ', Upds K F vs ρ0 σ0 ρ' σ' → Q σ' H) → t v σ H Q
def TgsD (K : PySem.W.Frag) (t : TGs) (T : TDs) (vs : List Nat) : Prop := ∀ (F H : Hp) (v : List V) (d : List D) (ρ0 : PEnv) (σ0 : L2.St) (σ : L2.St) (ρ ρ' : PEnv) (Q : L2.St → Hp → Prop), Same F H → Reps K F v d → T d ρ = some ρ' → Upds K F vs ρ0 σ0 ρ σ → (∀ σ', Upds K F vs ρ0 σ0 ρ' σ' → Q σ' H) → t v σ H Q
def dName (i : Nat) : TD := fun d ρ => some (ρ.set i (some d))
def dGNil : TDs := fun ds ρ => match ds with
  | [] => some ρ
  | _ => none
def dGCons (T : TD) (U : TDs) : TDs := fun ds ρ => match ds with
  | d :: r => (T d ρ).bind fun ρ1 => U r ρ1
  | [] => none
def dGTup (n : Nat) (U : TDs) : TD := fun d ρ => match d with
  | .tup ds => if ds.length = n then U ds ρ else none
  | _ => none
def dGLst (n : Nat) (U : TDs) : TD := fun d ρ => match d with
  | .lst ds => if ds.length = n then U ds ρ else none
  | _ => none
section
variable {K : PySem.W.Frag} {vs : List Nat}
theorem tg_name {i : Nat} (hi : i ∈ vs) : TgD K (gName i) (dName i) vs := fun F H v d ρ0 σ0 σ ρ ρ' Q hs r h u k => by
  cases h
  exact k _ (.step u hi r)
theorem tgs_nil : TgsD K L2.gNil dGNil vs := fun F H v d ρ0 σ0 σ ρ ρ' Q hs r h u k => by
  unfold dGNil at h
  split at h
  · cases h; cases r; exact ⟨rfl, k _ u⟩
  · cases h
theorem tgs_cons {t : TG} {ts : TGs} {T : TD} {U : TDs} (h1 : TgD K t T vs) (h2 : TgsD K ts U vs) : TgsD K (L2.gCons t ts) (dGCons T U) vs := fun F H v d ρ0 σ0 σ ρ ρ' Q hs r h u k => by
  cases r with
  | nil => cases h
  | @cons v0 d0 vs0 rest r rr =>
    have h : (T d0 ρ).bind (fun ρ1 => U rest ρ1) = some ρ' := h
    cases q : T d0 ρ with
    | none => rw [q] at h; cases h
    | some ρ2 =>
      rw [q] at h
      exact ⟨_, _, rfl, h1 F H _ _ ρ0 σ0 σ _ _ _ hs r q u fun σ' u' => h2 F H _ _ ρ0 σ0 σ' _ _ _ hs rr h u' k⟩
theorem tg_tup {n : Nat} {ts : TGs} {U : TDs} (h2 : TgsD K ts U vs) : TgD K (L2.gTup K n ts) (dGTup n U) vs := fun F H v d ρ0 σ0 σ ρ ρ' Q hs r h u k => by
  unfold dGTup at h
  split at h
  · split at h
    · rename_i hl
      cases r with
      | tup hf rs => exact ⟨_, _, rfl, SqT.of (hs _ _ hf), by rw [rs.length]; exact hl, h2 F H _ _ ρ0 σ0 σ _ _ _ hs rs h u k⟩
    · cases h
  · cases h
/-! ### what the updates keep -/
theorem Upds.len {F : Hp} {ρ ρ' : PEnv} {σ σ' : L2.St} (u : Upds K F vs ρ σ ρ' σ') : ρ'.length = ρ.length ∧ σ'.length = σ.length := by
  induction u with
  | refl => exact ⟨rfl, rfl⟩
  | step _ _ _ ih => simpa using ih
theorem Upds.sin {S0 S : List Addr} {F0 H0 F H : Hp} {own : List Nat} {ρ ρ' : PEnv} {R : Rs} {σ σ' : L2.St} (u : Upds K F vs ρ σ ρ' σ') (hv : ∀ i ∈ vs, i ∉ own) (s : SIn K S0 F0 H0 own ρ R σ S F H) : SIn K S0 F0 H0 own ρ' R σ' S F H := by
  induction u with
  | refl => exact s
  | step _ hi r ih => exact ih.set (hv _ hi) (.inl r)
theorem Upds.view {S : List Addr} {F H : Hp} {ρ ρ' : PEnv} {R : Rs} {σ σ' : L2.St} (u : Upds K F vs ρ σ ρ' σ') (s : View K S F H ρ R σ) : View K S F H ρ' R σ' := by
  induction u with
  | refl => exact s
  | step u hi r ih =>
    rename_i ρ1 σ1 i v d
    refine ⟨s.fh, fun j d' h => ?_, s.cells, by simpa using ih.len⟩
    by_cases e : i = j
    · subst e
      have hll : ρ1.length = σ1.length := ih.len
      rw [List.getElem?_set] at h ⊢
      simp only [if_true] at h ⊢
      rw [hll] at h
      split at h
      · rename_i h3
        cases h
        exact ⟨v, by rw [if_pos h3], .inl r⟩
      · cases h
    · rw [List.getElem?_set_ne e] at h ⊢
      exact ih.env j d' h
theorem wipe_set {σ : L2.St} {i : Nat} {v : Option V} : ∀ {vs : List Nat}, i ∈ vs → wipe (σ.set i v) vs = wipe σ vs
  | [], h => by simp at h
  | w :: ws, h => by
    by_cases hw : i ∈ ws
    · show (wipe (σ.set i v) ws).set w none = (wipe σ ws).set w none
      rw [wipe_set hw]
    · have e : w = i := by
        rcases List.mem_cons.mp h with z | z
        · exact z.symm
        · exact absurd z hw
      subst e
      have gen : ∀ us : List Nat, w ∉ us → wipe (σ.set w v) us = (wipe σ us).set w v := by
        intro us
        induction us with
        | nil => intro _; rfl
        | cons u us ih =>
          intro hu
          show (wipe (σ.set w v) us).set u none = ((wipe σ us).set u none).set w v
          rw [ih (fun z => hu (List.mem_cons_of_mem _ z)), List.set_comm]
          exact fun z => hu (by simp [z])
      show (wipe (σ.set w v) ws).set w none = (wipe σ ws).set w none
      rw [gen ws hw, List.set_set]
theorem Upds.wipe {F : Hp} {ρ ρ' : PEnv} {σ σ' : L2.St} (u : Upds K F vs ρ σ ρ' σ') : L2.wipe σ' vs = L2.wipe σ vs := by
  induction u with
  | refl => rfl
  | step _ hi _ ih => rw [wipe_set hi]; exact ih
end
/-! ### what is walked -/
def WalkD (K : PySem.W.Frag) (F : Hp) (J : It) (ds : List D) : Prop := ∃ Y : Nat → Hp → V → Hp → Prop, Walk J ds.length (fun H => Same F H) Y ∧
  ∀ i d H x H2 F1, ds[i]? = some d → Same F F1 → Same F1 H → Y i H x H2 → Same H H2 ∧ ∃ F2, (∀ S, Ext S F1 H S F2 H2) ∧ Rep K F2 x d
abbrev GI := PEnv → Rs → Res (List D)
abbrev EvI (X : Cx) (E : XK) (tg iter : Expr) (g : GI) : Prop := PI X tg iter (tG X.K E (fun _ F J ds => WalkD X.K F J ds) g)
/-- .. whatever is frozen -/
abbrev EvIA (X : Cx) (E : XK) (tg iter : Expr) (g : GI) : Prop := PI X tg iter (tG X.K E (fun _ _ J ds => ∀ F, WalkD X.K F J ds) g)
theorem Cells.pure {K : PySem.W.Frag} {S : List Addr} {F H F1 H1 : Hp} {R : Rs} (c : Cells K S F H R) (e : Ext S F H S F1 H1) (hs : Same H H1) : Cells K S F1 H1 R :=
  ⟨c.len, fun i a d h1 h2 => by
    obtain ⟨n, o, h3, h4⟩ := c.at_ i a d h1 h2
    exact ⟨e.nw a o h3 n, o, hs _ _ h3, h4.mono e.f⟩, c.nd, c.tb⟩
section
variable {X : Cx} {E : XK} {tg e : Expr} {g : G} {gs : GA} {K : PySem.W.Frag}
theorem walkD_at {F : Hp} {J : It} {xs : List V} {ds : List D} (r : Reps K F xs ds) (w : Walk J xs.length (fun H => Same F H) (YAt xs)) : WalkD K F J ds := by
  refine ⟨YAt xs, by rw [← r.length]; exact w, fun i d H x H2 F1 hd h1 h2 y => ?_⟩
  obtain ⟨rfl, hx⟩ := y
  obtain ⟨d', h3, h4⟩ := r.getV hx
  rw [hd] at h3
  cases h3
  exact ⟨.refl _, F1, fun S => .refl h2, h4.mono h1⟩
def lstOf : D → Rs → Res (List D) := fun d R => match d with
  | .lst ds => .ok ds R
  | _ => .bad
def tupOf : D → Rs → Res (List D) := fun d R => match d with
  | .tup ds => .ok ds R
  | .arm ds => .ok ds R
  | _ => .bad
def gIt (f : D → Rs → Res (List D)) (g : G) : GI := fun ρ R => (g ρ R).bind f
theorem evi_list (h : Ev X E e g) : EvI X E tg e (gIt lstOf g) := pi_imp (pi_list h) fun σ H Q ⟨S, F, ρ, R, v, h⟩ => by
  refine ⟨S, F, ρ, R, v, Wp.bind h fun x S1 F1 H1 dx R1 e1 c1 rx h1 => ?_⟩
  unfold lstOf at h1
  split at h1
  · cases rx with
    | lst hf rs =>
    refine ⟨_, rfl, ⟨_, SqL.of (e1.fh _ _ hf)⟩, h1.now e1.fh c1 (walkD_at rs (walk_list.mono (fun H h => SqL.of (h _ _ hf)) fun _ _ _ _ _ _ y => y))⟩
  · exact h1.elim
def rngD (lo : Int) (n : Nat) : List D := (List.range n).map fun k => .int (lo + (k : Nat))
theorem rngD_len (lo : Int) (n : Nat) : (rngD lo n).length = n := by simp [rngD]
theorem walkD_rng (lo : Int) (n : Nat) (F : Hp) : WalkD K F (Itr lo n) (rngD lo n) := by
  refine ⟨_, by rw [rngD_len]; exact walk_range.mono (fun H _ => trivial) fun _ _ _ _ _ _ y => y, fun i d H x H2 F1 hd h1 h2 y => ?_⟩
  obtain ⟨rfl, rfl⟩ := y
  have hi : i < n := by rw [← rngD_len lo n]; exact (List.getElem?_eq_some_iff.mp hd).1
  have e : d = .int (lo + (i : Nat)) := by
    unfold rngD at hd
    rw [List.getElem?_map, List.getElem?_range hi] at hd
    cases hd; rfl
  subst e
  exact ⟨.refl _, F1, fun S => .refl h2, .int _⟩
def inB (i : Int) : Bool := bdB i 4611686018427387903
theorem inB_iff {i : Int} : inB i = true ↔ -4611686018427387904 ≤ i ∧ i < 4611686018427387904 := by
  unfold inB; rw [bdB_iff]; omega
def rng1 : List D → Rs → Res (List D) := fun ds R => match ds with
  | [.int j] => if inB j then .ok (rngD 0 j.toNat) R else .bad
  | _ => .bad
def rng2 : List D → Rs → Res (List D) := fun ds R => match ds with
  | [.int i, .int j] => if inB i && inB j then .ok (rngD i (j - i).toNat) R else .bad
  | _ => .bad
def gItA (f : List D → Rs → Res (List D)) (gs : GA) : GI := fun ρ R => (gs ρ R).bind f
theorem evi_rng1 {a : Expr} {p pos : Pos} (hg : Gl X "range") (hm : X.mg "range" = none) (ha : EvA X E [a] gs) (hs : starEach [a] X.env = [(false, eval a X.env)] := by rfl) : EvIA X E tg (.Call (.Name "range" p) [a] [] pos) (gItA rng1 gs) := pi_imp (pi_range1 hg hm ha hs) fun σ H Q ⟨S, F, ρ, R, v, h⟩ => by
  refine ⟨S, F, ρ, R, v, Wp.bind h fun x S1 F1 H1 dx R1 e1 c1 rx h1 => ?_⟩
  unfold rng1 at h1
  split at h1
  · split at h1
    · rename_i hb
      simp only [inB_iff, Bool.and_eq_true] at hb
      cases rx with
      | cons r rr =>
      cases rr
      cases r
      exact ⟨_, rfl, hb.1, hb.2, h1.now e1.fh c1 (walkD_rng _ _)⟩
    · exact h1.elim
  · exact h1.elim
theorem evi_of {g : GI} (h : EvIA X E tg e g) : EvI X E tg e g := pi_imp h fun σ H Q ⟨S, F, ρ, R, v, h⟩ => by
  refine ⟨S, F, ρ, R, v, ?_⟩
  cases q : g ρ R with
  | ok a R1 => rw [q] at h; exact fun b S1 F1 H1 e1 c1 r => h b S1 F1 H1 e1 c1 (r F1)
  | exc c fs R1 => rw [q] at h; exact h
  | bad => rw [q] at h; exact h
end
end Pv

namespace Pv
open PySem PySem.Spec PyProof.Rows L2 Sr
/-! ### for -/
def loopG (T : TD) (b : GS) : List D → PEnv → Rs → Out
  | [], ρ, R => .nx ρ R
  | d :: ds, ρ, R => match T d ρ with
    | none => .bad
    | some ρ1 => match b ρ1 R with
      | .nx ρ2 R2 => loopG T b ds ρ2 R2
      | .ct ρ2 R2 => loopG T b ds ρ2 R2
      | .bk ρ2 R2 => .nx ρ2 R2
      | o => o
def gFor (m : Md) (own vs : List Nat) (it : GI) (T : TD) (b : GS) : GS := fun ρ R => (it (see m own ρ) R).out fun ds R1 => if okR m R1 && vs.all (fun i => !own.contains i) then loopG T b ds ρ R1 else .bad
section
variable {X : Cx} {E : XK} {own own' ol vs : List Nat} {tg iter : Expr} {body : List Stmt} {it : GI} {T : TD} {b : GS} {t : TG} {pos : Pos} {K : PySem.W.Frag} {S0 S S' : List Addr} {F0 H0 F H F' H' : Hp} {ρ : PEnv} {R R' : Rs} {σ : L2.St}
theorem SIn.low {F1 : Hp} (s : SIn K S0 F0 H0 own ρ R σ S F H) (h01 : Same F0 F1) (h1 : Same F1 F) : SIn K S0 F1 H0 own ρ R σ S F H :=
  ⟨⟨s.ext.s, h1, s.ext.fh, s.ext.fr, s.ext.th, fun b u h n => s.ext.nw b u h (h01.free n), s.ext.sn⟩, s.cells, s.sh, s.ow, s.ap, s.len⟩
theorem Ext.up {F1 : Hp} (s : Ext S0 F1 H0 S F H) (h01 : Same F0 F1) (hn : ∀ b u, H0 b = some u → F0 b = none → F1 b = none) : Ext S0 F0 H0 S F H :=
  ⟨s.s, h01.trans s.f, s.fh, s.fr, s.th, fun b u h n => s.nw b u h (hn b u h n), s.sn⟩
theorem SIn.up {F1 : Hp} (s : SIn K S0 F1 H0 own ρ R σ S F H) (h01 : Same F0 F1) (hn : ∀ b u, H0 b = some u → F0 b = none → F1 b = none) : SIn K S0 F0 H0 own ρ R σ S F H :=
  ⟨s.ext.up h01 hn, s.cells, s.sh, s.ow, s.ap, s.len⟩
/-- the loop, from a state whose frozen part holds F1 -/
theorem for_core {Dn : Ends} {J : It} {ds : List D} {F1 : Hp} (hv : ∀ i ∈ vs, i ∉ own) (w : WalkD X.K F1 J ds) (hT : TgD X.K t T vs) (s : SIn X.K S0 F0 H0 own ρ R σ S F1 H) (h : WpS X.K E S0 F0 H0 own ol (loopG T b ds ρ R) Dn) :
    ∃ W : Nat → Nat → L2.St → Hp → Prop, (∃ m, W 0 m σ H) ∧ ∀ i m σ H, W i m σ H →
      (J.stop i H ∧ Dn.nx σ H) ∨ (J.go i H ∧ ∃ N : L2.St → Hp → Prop, (∀ σ' H', N σ' H' → ∃ m', m' < m ∧ W (i + 1) m' σ' H') ∧ ∀ x H', J.yld i H x H' → t x σ H' fun σ2 H2 => tS X.K E own own own b { Dn with nx := N, ct := N, bk := Dn.nx } σ2 H2) := by
  obtain ⟨Y, w, hy⟩ := w
  have s0 := s
  refine for_it w (fun i σ H => ∃ ρ R S F, SIn X.K S0 F0 H0 own ρ R σ S F H ∧ Same F1 F ∧ WpS X.K E S0 F0 H0 own ol (loopG T b (ds.drop i) ρ R) Dn) ⟨ρ, R, S, F1, s, .refl _, by rw [List.drop_zero]; exact h⟩
    (fun i σ H hi ⟨ρ, R, S, F, s, hf, _⟩ => hf.trans s.same) ?_ ?_
  · rintro i x σ H H2 hi ⟨ρ, R, S, F, s, hf, h⟩ y
    have hd : ds[i]? = some ds[i] := List.getElem?_eq_getElem hi
    obtain ⟨hH, F2, e2, r2⟩ := hy i ds[i] H x H2 F hd hf s.same y
    have s2 : SIn X.K S0 F0 H0 own ρ R σ S F2 H2 := s.on (e2 S) (s.cells.pure (e2 S) hH)
    rw [List.drop_eq_getElem_cons hi] at h
    unfold loopG at h
    cases q : T ds[i] ρ with
    | none => rw [q] at h; exact h.elim
    | some ρ1 =>
      rw [q] at h
      refine hT F2 H2 x ds[i] ρ σ σ ρ ρ1 _ s2.same r2 q .refl fun σ' u => ?_
      have h01 : Same F0 F1 := s0.ext.f
      have hn := s0.ext.nw
      refine ⟨S0, F1, H0, ρ1, R, ⟨S, F2, (u.sin hv s2).low h01 (hf.trans (e2 S).f)⟩, ?_⟩
      dsimp only at h
      have next : ∀ ρ2 R2, WpS X.K E S0 F0 H0 own ol (loopG T b (ds.drop (i + 1)) ρ2 R2) Dn → ∀ σ H, SRel X.K S0 F1 H0 own ρ2 R2 σ H → ∃ ρ R S F, SIn X.K S0 F0 H0 own ρ R σ S F H ∧ Same F1 F ∧ WpS X.K E S0 F0 H0 own ol (loopG T b (ds.drop (i + 1)) ρ R) Dn :=
        fun ρ2 R2 h σ H ⟨S, F, s⟩ => ⟨ρ2, R2, S, F, s.up h01 hn, s.ext.f, h⟩
      cases q2 : b ρ1 R with
      | nx ρ2 R2 => rw [q2] at h; exact next ρ2 R2 h
      | ct ρ2 R2 => rw [q2] at h; exact next ρ2 R2 h
      | bk ρ2 R2 => rw [q2] at h; exact fun σ H ⟨S, F, s⟩ => h σ H ⟨S, F, s.up h01 hn⟩
      | rt d R2 => rw [q2] at h; exact fun v S F H e c r => h v S F H (e.up h01 hn) c r
      | rf d R2 => rw [q2] at h; exact fun a o S F H e c => h a o S F H (e.up h01 hn) c
      | exc c fs R2 => rw [q2] at h; exact fun v S F H e c r => h v S F H (e.up h01 hn) c r
      | bad => rw [q2] at h; exact h
  · rintro σ H ⟨ρ, R, S, F, s, hf, h⟩
    rw [List.drop_length] at h
    exact h σ H ⟨S, F, s⟩
/-- for over a list, a tuple, .. that is frozen -/
theorem st_for (hp : PassesOwn (model X.prog X.w) X.A X.env X.xe) (hc : X.calm = true) (hi : EvI X E tg iter it) (hg : PG X tg t ∧ TgD X.K t T vs) (hb : Sts X E own own own body b)
    (hs : ∀ x, foldedSetIterable iter X.env x = pure x := by intro _; rfl) : Stm X E own own ol (.For tg iter body [] pos) (gFor .f own vs it T b) := ps_imp (ps_for hp hc hi hg.1 hb hs) fun Dn σ H ⟨S0, F0, H0, ρ, R, s, h⟩ => by
  refine see_wp rfl s h fun J ds R1 S F S1 F1 H1 s ef eg c r _ h1 => ?_
  split at h1
  · rename_i hc
    have hv : ∀ i ∈ vs, i ∉ own := by simpa using (Bool.and_eq_true_iff.mp hc).2
    exact for_core hv r hg.2 (s.on (ef rfl) c) h1
  · exact h1.elim
/-- for over a range -/
theorem st_forR (m : Md) (hp : PassesOwn (model X.prog X.w) X.A X.env X.xe) (hc : X.calm = true) (hi : EvIA X E tg iter it) (hg : PG X tg t ∧ TgD X.K t T vs) (hb : Sts X E own own own body b)
    (hs : ∀ x, foldedSetIterable iter X.env x = pure x := by intro _; rfl) : Stm X E own own ol (.For tg iter body [] pos) (gFor m own vs it T b) := ps_imp (ps_for hp hc hi hg.1 hb hs) fun Dn σ H ⟨S0, F0, H0, ρ, R, s, h⟩ => by
  refine see_wp rfl s h fun J ds R1 S F S1 F1 H1 s ef eg c r _ h1 => ?_
  split at h1
  · rename_i hc
    have hv : ∀ i ∈ vs, i ∉ own := by simpa using (Bool.and_eq_true_iff.mp hc).2
    obtain ⟨F2, s2, _⟩ := s.seenR ef eg c (Bool.and_eq_true_iff.mp hc).1
    exact for_core hv (r F2) hg.2 s2 h1
  · exact h1.elim
/-! ### while -/
def whlG (m : Md) (own : List Nat) (t : GT) (b : GS) : Nat → PEnv → Rs → Out
  | 0, _, _ => .bad
  | n + 1, ρ, R => (t (see m own ρ) R).out fun c R1 => if okR m R1 then match c with
    | false => .nx ρ R1
    | true => match b ρ R1 with
      | .nx ρ2 R2 => whlG m own t b n ρ2 R2
      | .ct ρ2 R2 => whlG m own t b n ρ2 R2
      | .bk ρ2 R2 => .nx ρ2 R2
      | o => o
    else .bad
def gWhl (fuel : PEnv → Rs → Nat) (m : Md) (own : List Nat) (t : GT) (b : GS) : GS := fun ρ R => whlG m own t b (fuel ρ R) ρ R
theorem st_while (fuel : PEnv → Rs → Nat) (m : Md) {c : Expr} {tc : GT} (hp : PassesOwn (model X.prog X.w) X.A X.env X.xe) (hc : EvT X E c tc) (hb : Sts X E own own own body b) : Stm X E own own ol (.While c body [] pos) (gWhl fuel m own tc b) := ps_imp (ps_while hp hc hb) fun Dn σ H ⟨S0, F0, H0, ρ, R, s, h⟩ => by
  refine ⟨fun n σ H => ∃ ρ R, SRel X.K S0 F0 H0 own ρ R σ H ∧ WpS X.K E S0 F0 H0 own ol (whlG m own tc b n ρ R) Dn, ⟨fuel ρ R, ρ, R, s, h⟩, ?_⟩
  rintro n σ H ⟨ρ, R, s, h⟩
  cases n with
  | zero => exact h.elim
  | succ n =>
    unfold whlG at h
    refine see_wp rfl s h fun v d R1 S F S1 F1 H1 s ef eg c r _ h1 => ?_
    subst r
    split at h1
    · rename_i hc
      obtain ⟨F2, s2, _⟩ := s.seenR ef eg c hc
      cases v with
      | false => exact h1 _ _ ⟨_, _, s2⟩
      | true =>
        refine ⟨fun σ H => ∃ ρ R, SRel X.K S0 F0 H0 own ρ R σ H ∧ WpS X.K E S0 F0 H0 own ol (whlG m own tc b n ρ R) Dn, fun σ H z => ⟨n, Nat.lt_succ_self n, z⟩, S0, F0, H0, ρ, R1, ⟨_, _, s2⟩, ?_⟩
        dsimp only at h1
        cases q2 : b ρ R1 with
        | nx ρ2 R2 => rw [q2] at h1; exact fun σ H s => ⟨ρ2, R2, s, h1⟩
        | ct ρ2 R2 => rw [q2] at h1; exact fun σ H s => ⟨ρ2, R2, s, h1⟩
        | bk ρ2 R2 => rw [q2] at h1; exact h1
        | rt d R2 => rw [q2] at h1; exact h1
        | rf d R2 => rw [q2] at h1; exact h1
        | exc c fs R2 => rw [q2] at h1; exact h1
        | bad => rw [q2] at h1; exact h1
    · exact h1.elim
end
end Pv

namespace Pv
open PySem PySem.Spec PyProof.Rows L2 Sr
/-! ### new cells -/
/-- the value is a new cell that nothing else holds -/
def Wf (K : PySem.W.Frag) (E : XK) (S : List Addr) (F H : Hp) (r : Res D) (Q : VK) : Prop := match r with
  | .ok d R' => ∀ p o S' F' H', Ext S F H S' F' H' → Cells K S' F' H' R' → H' p = some o → RepO K F' o d → F' p = none → H p = none → p ∉ S' → Q (.ref p) H'
  | .exc c fs R' => ∀ d S' F' H', Ext S F H S' F' H' → Cells K S' F' H' R' → ExcAt K S' F' H' fs d → E (.ref (He.ga K c)) d H'
  | .bad => False
def tF (K : PySem.W.Frag) (E : XK) (g : G) : TE := fun σ H Q => ∃ S F ρ R, View K S F H ρ R σ ∧ Wf K E S F H (g ρ R) Q
abbrev EvF (X : Cx) (E : XK) (e : Expr) (g : G) : Prop := PE X e (tF X.K E g)
section
variable {K : PySem.W.Frag} {E : XK} {S S1 : List Addr} {F H F1 H1 : Hp} {R : Rs} {ρ : PEnv} {σ : L2.St}
theorem Wf.ext {r : Res D} {Q : VK} (h : Wf K E S F H r Q) (e : Ext S F H S1 F1 H1) : Wf K E S1 F1 H1 r Q := by
  cases r with
  | ok a R' => exact fun p o S' F' H' e' c h1 h2 h3 h4 h5 => h p o S' F' H' (e.trans e') c h1 h2 h3 (by
      cases q : H p with
      | none => rfl
      | some u => obtain ⟨u', q'⟩ := e.th p u q; rw [h4] at q'; cases q') h5
  | exc c fs R' => exact fun d S' F' H' e' c r => h d S' F' H' (e.trans e') c r
  | bad => exact h
/-- frozen at once, it is plain data -/
theorem Ext.freeze (e : Ext S F H S1 F1 H1) {p : Addr} {o : HO} (hp : H1 p = some o) (hF : F1 p = none) (hn : H p = none) : Ext S F H S1 (upd F1 p o) H1 where
  s := e.s
  f := fun b u h => by rw [upd_ne (ne_of_none (e.f b u h) hF)]; exact e.f b u h
  fh := fun b u h => by
    by_cases hb : b = p
    · subst hb; rw [upd_same] at h; cases h; exact hp
    · rw [upd_ne hb] at h; exact e.fh b u h
  fr := e.fr
  th := e.th
  nw := fun b u h n => by rw [upd_ne (ne_of_none h hn)]; exact e.nw b u h n
  sn := e.sn
theorem Cells.freeze (c : Cells K S F H R) {p : Addr} {o : HO} (hF : F p = none) (hS : p ∉ S) : Cells K S (L2.upd F p o) H R :=
  c.froz (same_upd hF) fun b hb => by
    have hne : b ≠ p := fun z => hS (by rw [← z]; exact hb)
    rw [upd_ne hne]; exact (c.has hb).1
theorem Wp.toF {r : Res D} {Q : VK} (h : Wp K E (fun _ F v d => Rep K F v d) S F H r Q) : Wf K E S F H r Q := by
  cases r with
  | ok a R' => exact fun p o S' F' H' e c h1 h2 h3 h4 h5 => h _ S' _ H' (e.freeze h1 h3 h4) (c.freeze h3 h5) ((h2.mono (same_upd h3)).rep upd_same)
  | exc c fs R' => exact h
  | bad => exact h
theorem Wf.bind {α β : Type} {rep : List Addr → Hp → β → α → Prop} {r : Res α} {k : α → Rs → Res D} {Q : VK} {Q1 : β → Hp → Prop} (h : Wf K E S F H (r.bind k) Q)
    (hq : ∀ b S1 F1 H1 a R1, Ext S F H S1 F1 H1 → Cells K S1 F1 H1 R1 → rep S1 F1 b a → Wf K E S1 F1 H1 (k a R1) Q → Q1 b H1) : Wp K E rep S F H r Q1 := by
  cases r with
  | ok a R' => exact fun b S' F' H' e' c r => hq b S' F' H' a R' e' c r (Wf.ext h e')
  | exc c fs R' => exact h
  | bad => exact h
/-- a cell laid now -/
theorem Wf.new {d : D} {o : HO} {Q : VK} (h : Wf K E S F H (.ok d R) Q) (hs : Same F H) (c : Cells K S F H R) (r : RepO K F o d) {p : Addr} (hp : H p = none) : Q (.ref p) (upd H p o) :=
  h p o S F _ (.newO hs hp) (c.upd (c.fresh hp)) upd_same r (hs.free hp) hp (c.fresh hp)
end
section
variable {X : Cx} {E : XK} {a b c e : Expr} {es rest : List Expr} {ga gb gc g : G} {gs : GA} {pos : Pos}
theorem EvF.ev (h : EvF X E e g) : Ev X E e g := pe_imp h fun σ H Q ⟨S, F, ρ, R, v, h⟩ => ⟨S, F, ρ, R, v, h.toF⟩
theorem evf_lst (hs : EvA X E es gs) : EvF X E (.List es pos) (gLst gs) := pe_imp (pe_lst hs) fun σ H Q ⟨S, F, ρ, R, v, h⟩ => by
  refine ⟨S, F, ρ, R, v, Wf.bind h fun x S1 F1 H1 dx R1 e1 c1 rx h1 => ?_⟩
  unfold dLst at h1
  split at h1
  · rename_i hl
    exact ⟨by rw [rx.length]; exact hl, fun p hp => h1.new e1.fh c1 (.lst rx) hp⟩
  · exact h1.elim
/-- built-ins that lay a new cell -/
def CallF (K : PySem.W.Frag) (E : XK) (r : List V → Hp → VK → Prop) (f : List D → Rs → Res D) : Prop :=
  ∀ (S : List Addr) (F H : Hp) (R : Rs) (vs : List V) (ds : List D) (Q : VK), Same F H → Cells K S F H R → Reps K F vs ds → Wf K E S F H (f ds R) Q → r vs H Q
theorem tCB_ofF {K : PySem.W.Frag} {r : List V → Hp → VK → Prop} {f : List D → Rs → Res D} (hd : CallF K E r f) {σ : L2.St} {H : Hp} {Q : VK} (h : tF K E (gCB f gs) σ H Q) : tCB r (tPA K E gs) σ H Q := by
  obtain ⟨S, F, ρ, R, v, h⟩ := h
  exact ⟨S, F, ρ, R, v, Wf.bind h fun x S1 F1 H1 dx R1 e1 c1 rx h1 => hd S1 F1 H1 R1 x dx Q e1.fh c1 rx h1⟩
theorem evf_ty {id : String} {x : Str} {p : Pos} {r : List V → Hp → VK → Prop} {f : List D → Rs → Res D} (hc : CallR X (.type id) r ∧ CallF X.K E r f) (hg : Gl X x) (hm : X.mg x = none) (hv : bootBuiltins x = some (.type id)) (ha : EvA X E (e :: es) gs) (hn : x ≠ "__name__" := by decide) (hdb : (x == ("__debug__" : Str)) = false := by decide)
    (he : starEach (e :: es) X.env = (false, eval e X.env) :: starEach es X.env := by rfl) (hpl : (backTo pos (starEach es X.env)).any (·.1) = false := by rfl) :
    EvF X E (.Call (.Name x p) (e :: es) [] pos) (gCB f gs) := pe_imp (pe_callTy hc.1 hg hm hv ha hn hdb he hpl) fun _ _ _ => tCB_ofF hc.2
theorem cf_list : CallR X (.type "list") rListU ∧ CallF X.K E rListU dList := ⟨call_list_u, fun S F H R vs ds Q hs c r h => by
  unfold dList at h
  split at h
  · cases r with
    | cons r rn =>
    cases rn
    cases r with
    | lst hf rs => exact ⟨_, _, rfl, .inl (hs _ _ hf), fun p hp => h.new hs c (.lst rs) hp⟩
  · cases r with
    | cons r rn =>
    cases rn
    cases r with
    | tup hf rs => exact ⟨_, _, rfl, .inr (hs _ _ hf), fun p hp => h.new hs c (.lst rs) hp⟩
  · exact h.elim⟩
def dSlL : D → Option Int → Option Int → Rs → Res D := fun x lo hi R => match x with
  | .lst ds => .ok (.lst (cutD ds lo hi)) R
  | _ => .bad
def gSlL (g : G) (l h : GO) : G := fun ρ R => (g ρ R).bind fun x R1 => (l ρ R1).bind fun a R2 => (h ρ R2).bind fun b R3 => dSlL x a b R3
theorem evf_sl {lo hi : Option Expr} {l u : GO} {p2 : Pos} (h : Ev X E e g) (hl : EvO X E lo l) (hu : EvO X E hi u) : EvF X E (.Subscript e (.Slice lo hi none p2) pos) (gSlL g l u) := pe_imp (pe_slice sl_lu h hl hu) fun σ H Q ⟨S, F, ρ, R, v, h⟩ => by
  refine ⟨S, F, ρ, R, v, Wf.bind h fun x S1 F1 H1 dx R1 e1 c1 rx h1 => ?_⟩
  refine ⟨S1, F1, ρ, R1, v.ext e1 c1, Wf.bind h1 fun y S2 F2 H2 dy R2 e2 c2 ry h2 => ?_⟩
  refine ⟨S2, F2, ρ, R2, (v.ext e1 c1).ext e2 c2, Wf.bind h2 fun z S3 F3 H3 dz R3 e3 c3 rz h3 => ?_⟩
  subst ry rz
  replace rx := e3.rep (e2.rep rx)
  unfold dSlL at h3
  split at h3
  · cases rx with
    | lst hf rs => exact ⟨_, _, rfl, e3.fh _ _ hf, fun p hp => h3.new e3.fh c3 (.lst (cut_rep rs)) hp⟩
  · exact h3.elim
end
/-! ### [e for x in xs if t] -/
def lcG (T : TD) (tt : GT) (ge : G) : List D → PEnv → Rs → Res (List D)
  | [], _, R => .ok [] R
  | d :: ds, ρ, R => match T d ρ with
    | none => .bad
    | some ρ1 => (tt ρ1 R).bind fun b R1 => match b with
      | true => (ge ρ1 R1).bind fun y R2 => (lcG T tt ge ds ρ R2).bind fun ys R3 => .ok (y :: ys) R3
      | false => lcG T tt ge ds ρ R1
def Res.calm {α : Type} (r : Res α) : Res α := match r with
  | .exc _ _ _ => .bad
  | r => r
@[simp] theorem Res.calm_ok {α : Type} (a : α) (R : Rs) : (Res.ok a R).calm = .ok a R := rfl
@[simp] theorem Res.calm_bad {α : Type} : (Res.bad : Res α).calm = .bad := rfl
def wipeD (ρ : PEnv) : List Nat → PEnv
  | [] => ρ
  | v :: vs => (wipeD ρ vs).set v none
def gLc (vs : List Nat) (it : GI) (T : TD) (tt : GT) (ge : G) : G := fun ρ R => (it ρ R).bind fun ds R1 => ((lcG T tt ge ds (wipeD ρ vs) R1).calm).bind dLst
def gYes : GT := fun _ R => .ok true R
theorem wipe_view {K : PySem.W.Frag} {S : List Addr} {F H : Hp} {ρ : PEnv} {R : Rs} {σ : L2.St} (v : View K S F H ρ R σ) : ∀ vs : List Nat, View K S F H (wipeD ρ vs) R (wipe σ vs)
  | [] => v
  | w :: vs => by
    have ih := wipe_view v vs
    refine ⟨ih.fh, fun i d h => ?_, ih.cells, by show ((wipeD ρ vs).set w none).length = ((wipe σ vs).set w none).length; simpa using ih.len⟩
    have h : ((wipeD ρ vs).set w none)[i]? = some (some d) := h
    show ∃ u, ((wipe σ vs).set w none)[i]? = some (some u) ∧ _
    by_cases e : w = i
    · subst e
      rw [List.getElem?_set] at h
      simp at h
    · rw [List.getElem?_set_ne e] at h ⊢
      exact ih.env i d h
theorem wipe_in {σ : L2.St} {i : Nat} : ∀ {vs : List Nat}, i ∈ vs → (wipe σ vs)[i]? = if i < σ.length then some none else none
  | [], h => by simp at h
  | w :: ws, h => by
    show ((wipe σ ws).set w none)[i]? = _
    by_cases e : w = i
    · subst e
      rw [List.getElem?_set, wipe_length]
      simp
    · rw [List.getElem?_set_ne e]
      exact wipe_in (by
        rcases List.mem_cons.mp h with z | z
        · exact absurd z.symm e
        · exact z)
theorem wipe_wipe (σ : L2.St) (vs : List Nat) : wipe (wipe σ vs) vs = wipe σ vs := by
  apply List.ext_getElem?
  intro i
  by_cases h : i ∈ vs
  · rw [wipe_in h, wipe_in h, wipe_length]
  · rw [wipe_out h]
/-- the block of a comprehension, turn by turn, when what is walked is known -/
theorem tLc_core {K : PySem.W.Frag} {E : XK} {vs : List Nat} {T : TD} {t : TG} {tt : GT} {ge : G} {σ : L2.St} {H1 : Hp} {Q : VK} {S1 : List Addr} {F1 : Hp} {ρ : PEnv} {R1 : Rs} {J : It} {ds : List D} (hT : TgD K t T vs) (v1 : View K S1 F1 H1 ρ R1 σ) (rJ : WalkD K F1 J ds) (h1 : Wf K E S1 F1 H1 (((lcG T tt ge ds (wipeD ρ vs) R1).calm).bind dLst) Q) :
    tLc (fun _ H R => R J H) t (tPT K XF tt) (tP K XF ge) vs σ H1 Q := by
  intro p hp
  obtain ⟨Y, w, hy⟩ := rJ
  have c1 := v1.cells
  have e1 : Ext S1 F1 H1 S1 F1 H1 := .refl v1.fh
  have hF1p : F1 p = none := v1.fh.free hp
  refine lc_it w (fun i H => ∃ S F R acc dacc, Ext S1 F1 H1 S F H ∧ Cells K S F H R ∧ H p = some (.lst acc) ∧ Reps K F acc dacc ∧ F p = none ∧ p ∉ S ∧
    ∃ ys R', lcG T tt ge (ds.drop i) (wipeD ρ vs) R = .ok ys R' ∧ (dacc ++ ys).length ≤ sizeLine ∧ Wf K E S1 F1 H1 (.ok (.lst (dacc ++ ys)) R') Q) ?_ ?_ ?_ ?_
  · refine ⟨S1, F1, R1, [], [], .newO e1.fh hp, c1.upd (c1.fresh hp), upd_same, .nil, hF1p, c1.fresh hp, ?_⟩
    rw [List.drop_zero]
    cases q : lcG T tt ge ds (wipeD ρ vs) R1 with
    | ok ys R' =>
      rw [q] at h1
      simp only [Res.calm_ok, Res.bind_ok] at h1
      unfold dLst at h1
      split at h1
      · rename_i hl
        exact ⟨ys, R', rfl, hl, h1⟩
      · exact h1.elim
    | exc c fs R' => rw [q] at h1; exact h1.elim
    | bad => rw [q] at h1; exact h1.elim
  · rintro i H hi ⟨S, F, R, acc, dacc, e, c, _⟩
    exact e.f.trans e.fh
  · rintro i x H H2 hi ⟨S, F, R, acc, dacc, e, c, hD, ra, hFp, hSp, ys, R', hg, hlen, hw⟩ y
    have hd : ds[i]? = some ds[i] := List.getElem?_eq_getElem hi
    obtain ⟨hH, F2, e2, r2⟩ := hy i ds[i] H x H2 F hd e.f e.fh y
    have c2 := c.pure (e2 S) hH
    have v2 : View K S F2 H2 (wipeD ρ vs) R (wipe σ vs) := wipe_view (v1.ext (e.trans (e2 S)) c2) vs
    have hD2 := hH _ _ hD
    have hF2 := (e2 S).nw p _ hD hFp
    rw [List.drop_eq_getElem_cons hi] at hg
    unfold lcG at hg
    cases q : T ds[i] (wipeD ρ vs) with
    | none => rw [q] at hg; cases hg
    | some ρ1 =>
      rw [q] at hg
      refine hT F2 H2 x ds[i] (wipeD ρ vs) (wipe σ vs) (wipe σ vs) (wipeD ρ vs) ρ1 _ (e2 S).fh r2 q .refl fun σ' u => ⟨?_, ?_⟩
      · rw [u.wipe, wipe_wipe]
      · dsimp only at hg
        have v3 := u.view v2
        refine ⟨S, F2, ρ1, R, v3, ?_⟩
        cases qt : tt ρ1 R with
        | ok b R3 =>
          rw [qt] at hg
          simp only [Res.bind_ok] at hg
          intro b' S3 F3 H3 e3 c3 hb
          subst hb
          have hD3 := e3.fr p _ hD2 hSp
          have hF3 := e3.nw p _ hD2 hF2
          have hS3 : p ∉ S3 := fun z => by have := e3.sn p z hSp; rw [hD2] at this; cases this
          cases b' with
          | true =>
            simp only [if_true]
            refine ⟨S3, F3, ρ1, R3, v3.ext e3 c3, ?_⟩
            dsimp only at hg
            cases qe : ge ρ1 R3 with
            | ok y R4 =>
              rw [qe] at hg
              simp only [Res.bind_ok] at hg
              intro yv S4 F4 H4 e4 c4 ry
              have hD4 := e4.fr p _ hD3 hS3
              have hF4 := e4.nw p _ hD3 hF3
              have hS4 : p ∉ S4 := fun z => by have := e4.sn p z hS3; rw [hD3] at this; cases this
              cases ql : lcG T tt ge (ds.drop (i + 1)) (wipeD ρ vs) R4 with
              | ok zs R5 =>
                rw [ql] at hg
                simp only [Res.bind_ok, Res.ok.injEq] at hg
                obtain ⟨rfl, rfl⟩ := hg
                have eAll := ((e.trans (e2 S)).trans e3).trans e4
                have hal : acc.length = dacc.length := ra.length
                refine ⟨acc, hD4, by rw [hal]; simp at hlen; omega, S4, F4, R4, acc ++ [yv], dacc ++ [y], ?_, c4.upd hS4, upd_same, ?_, hF4, hS4, zs, R5, ql, ?_, ?_⟩
                · exact ⟨eAll.s, eAll.f, fun b u h => by rw [upd_ne (ne_of_none h hF4)]; exact eAll.fh b u h, fun b u h hb => by rw [upd_ne (ne_of_none h hp)]; exact eAll.fr b u h hb, fun b u h => by rw [upd_ne (ne_of_none h hp)]; exact eAll.th b u h, eAll.nw, eAll.sn⟩
                · exact (ra.mono (((e2 S).f.trans e3.f).trans e4.f)).append (.cons ry .nil)
                · simpa using hlen
                · simpa using hw
              | exc c fs R5 => rw [ql] at hg; cases hg
              | bad => rw [ql] at hg; cases hg
            | exc c fs R4 => rw [qe] at hg; cases hg
            | bad => rw [qe] at hg; cases hg
          | false =>
            rw [if_neg (by decide)]
            exact ⟨S3, F3, R3, acc, dacc, (e.trans (e2 S)).trans e3, c3, hD3, ra.mono ((e2 S).f.trans e3.f), hF3, hS3, ys, R', hg, hlen, hw⟩
        | exc c fs R3 => rw [qt] at hg; cases hg
        | bad => rw [qt] at hg; cases hg
  · rintro H ⟨S, F, R, acc, dacc, e, c, hD, ra, hFp, hSp, ys, R', hg, hlen, hw⟩
    rw [List.drop_length] at hg
    cases hg
    rw [List.append_nil] at hw
    exact hw p _ S F H e c hD (.lst ra) hFp hp hSp
/-- .. what is walked is an expression's value -/
theorem tLc_of {K : PySem.W.Frag} {E : XK} {vs : List Nat} {it : GI} {T : TD} {t : TG} {tt : GT} {ge : G} {σ : L2.St} {H : Hp} {Q : VK} (hT : TgD K t T vs) (h : tF K E (gLc vs it T tt ge) σ H Q) :
    tLc (tG K E (fun _ F J ds => WalkD K F J ds) it) t (tPT K XF tt) (tP K XF ge) vs σ H Q := by
  obtain ⟨S, F, ρ, R, v, h⟩ := h
  exact ⟨S, F, ρ, R, v, Wf.bind h fun J S1 F1 H1 ds R1 e1 c1 rJ h1 => tLc_core hT (v.ext e1 c1) rJ h1⟩
section
variable {X : Cx} {E : XK} {vs : List Nat} {it : GI} {T : TD} {t : TG} {tt : GT} {ge : G} {elt tg iter : Expr} {ifs : List Expr} {scope : Scope} {own : List (Str × Nat)} {pos : Pos}
theorem evf_lc (hv : own.map (·.2) = vs) (hc : X.calm = true) (hN : X.N.Nodup) (hi : EvI X E tg iter it) (ok : BlkOk X.N X.env.scope scope own)
    (hg : ∀ (s : Shared) (H : Hp) (C : Addr) (cl : List (Str × Addr)) (fp : List Addr), PG (X.blk s H scope (compEnvC scope cl C X.env) fp) tg t) (hT : TgD X.K t T vs) (ht : ∀ (s : Shared) (H : Hp) (C : Addr) (cl : List (Str × Addr)) (fp : List Addr), PTs (X.blk s H scope (compEnvC scope cl C X.env) fp) ifs (tPT X.K XF tt))
    (he : ∀ (s : Shared) (H : Hp) (C : Addr) (cl : List (Str × Addr)) (fp : List Addr), PE (X.blk s H scope (compEnvC scope cl C X.env) fp) elt (tP X.K XF ge)) (hs : ∀ x, foldedSetIterable iter X.env x = pure x := by intro _; rfl) :
    EvF X E (.ListComp elt [⟨tg, iter, ifs, 0⟩] scope pos) (gLc vs it T tt ge) := by
  subst hv
  exact pe_imp (pe_lc hc hN hi ok hg ht he hs) fun _ _ _ => tLc_of hT
theorem pts_of {X : Cx} {c : Expr} {E : XK} {t : GT} (h : EvT X E c t) : PTs X [c] (tPT X.K E t) := pts_one h
theorem pts_yes {X : Cx} {E : XK} {K : PySem.W.Frag} : PTs X [] (tPT K E gYes) := ⟨fun pins s σ H Q I ⟨S, F, ρ, R, v, h⟩ => pts_nil.run pins s σ H Q I (h.now v.fh v.cells rfl)⟩
end
end Pv

namespace Pv
open PySem PySem.Spec PyProof.Rows L2 Sr
/-! ### owned slots -/
def okO (m : Md) (d : D) (R : Rs) : Bool := match m with
  | .f => true
  | .g => immO d && R.all immO
section
variable {X : Cx} {E : XK} {own own' ol vs : List Nat} {e : Expr} {es : List Expr} {g : G} {gs : GA} {pos : Pos} {K : PySem.W.Frag} {S0 S S' : List Addr} {F0 H0 F H F' H' : Hp} {ρ : PEnv} {R R' : Rs} {σ : L2.St}
theorem SIn.extG (s : SIn K S0 F0 H0 own ρ R σ S F H) : Ext S0 F0 H0 S (allF own ρ σ F H) H := ⟨s.ext.s, s.ext.f.trans s.f_allF, s.allF_h, s.ext.fr, s.ext.th, fun b u h1 h2 => by
    have h3 := s.ext.nw b u h1 h2
    unfold allF
    split
    · rename_i ho
      have := (s.own_none ho).2.2.1
      rw [h1] at this; cases this
    · exact h3, s.ext.sn⟩
theorem see_wf {m : Md} {k : D → Rs → Out} {Dn : Ends} {Q : VK} (s : SRel X.K S0 F0 H0 own ρ R σ H) (h : WpS X.K E S0 F0 H0 own' ol ((g (see m own ρ) R).out k) Dn)
    (hq : ∀ p o d R1 S F S1 F1 H1, SIn X.K S0 F0 H0 own ρ R σ S F H → (m = .f → Ext S F H S1 F1 H1) → (m = .g → Ext S (allF own ρ σ F H) H S1 F1 H1) → Cells X.K S1 F1 H1 R1 → H1 p = some o → RepO X.K F1 o d → F1 p = none → H p = none → p ∉ S1 → WpS X.K E S0 F0 H0 own' ol (k d R1) Dn → Q (.ref p) H1) : tF X.K E g σ H Q := by
  obtain ⟨S, F, s⟩ := s
  cases m with
  | f =>
    refine ⟨S, F, hide own ρ, R, s.view, ?_⟩
    cases q : g (hide own ρ) R with
    | ok a R1 =>
      simp only [see, q] at h
      exact fun p o S1 F1 H1 e1 c1 h1 h2 h3 h4 h5 => hq p o a R1 S F S1 F1 H1 s (fun _ => e1) (fun z => nomatch z) c1 h1 h2 h3 h4 h5 h
    | exc c fs R1 =>
      simp only [see, q] at h
      exact fun d S1 F1 H1 e1 c1 rb => h d S1 F1 H1 (s.ext.trans e1) c1 rb
    | bad => simp only [see, q] at h; exact h
  | g =>
    refine ⟨S, _, ρ, R, s.full, ?_⟩
    cases q : g ρ R with
    | ok a R1 =>
      simp only [see, q] at h
      exact fun p o S1 F1 H1 e1 c1 h1 h2 h3 h4 h5 => hq p o a R1 S F S1 F1 H1 s (fun z => nomatch z) (fun _ => e1) c1 h1 h2 h3 h4 h5 h
    | exc c fs R1 =>
      simp only [see, q] at h
      exact fun d S1 F1 H1 e1 c1 rb => h d S1 F1 H1 (s.extG.trans e1) c1 rb
    | bad => simp only [see, q] at h; exact h
/-- x = a new cell, x owned -/
def gSetO (m : Md) (own : List Nat) (i : Nat) (g : G) : GS := fun ρ R => (g (see m own ρ) R).out fun d R1 => if okO m d R1 && own.contains i then .nx (ρ.set i (some d)) R1 else .bad
theorem SIn.newO {i : Nat} {p : Addr} {o : HO} {d : D} (s : SIn K S0 F0 H0 own ρ R σ S F H) (hb : ∀ u, H0 p ≠ some u) (hi : i ∈ own) (hp : H p = some o) (r : RepO K F o d) (hF : F p = none) (hS : p ∉ S) (hn : ∀ j ∈ own, ∀ d, ρ[j]? = some (some d) → σ[j]? ≠ some (some (.ref p))) :
    SIn K S0 F0 H0 own (ρ.set i (some d)) R (σ.set i (some (.ref p))) S F H :=
  s.setO hi hp r hF hS (by cases q : H0 p with | none => rfl | some u => exact absurd q (hb u)) fun j hj d h _ => hn j hj d h
theorem tSetO_of {m : Md} {i : Nat} {Dn : Ends} (h : tS X.K E own own ol (gSetO m own i g) Dn σ H) : tAsg (tF X.K E g) (gName i) Dn σ H := by
  obtain ⟨S0, F0, H0, ρ, R, s, h⟩ := h
  refine see_wf s h fun p o d R1 S F S1 F1 H1 s ef eg c hp r hF hn hS h1 => ?_
  have hb : ∀ u, H0 p ≠ some u := fun u q => by
    obtain ⟨u', q'⟩ := s.ext.th p u q
    rw [hn] at q'; cases q'
  have hno : ∀ j ∈ own, ∀ d, ρ[j]? = some (some d) → σ[j]? ≠ some (some (.ref p)) := fun j hj d h1 h2 => by
    obtain ⟨_, _, _, o, h3, _⟩ := s.own_none ⟨j, hj, d, h1, h2⟩
    rw [hn] at h3; cases h3
  split at h1
  · rename_i hc
    simp only [Bool.and_eq_true, List.contains_eq_mem, decide_eq_true_eq] at hc
    cases m with
    | f =>
      have s2 := s.on (ef rfl) c
      exact h1 _ _ ⟨_, _, s2.newO hb hc.2 hp r hF hS hno⟩
    | g =>
      have hm2 : immO d = true ∧ R1.all immO = true := by simpa [okO] using hc.1
      obtain ⟨s2, h2⟩ := s.onG (eg rfl) c hm2.2
      refine h1 _ _ ⟨_, _, s2.newO hb hc.2 hp (r.imm h2 hm2.1) ?_ hS hno⟩
      unfold cutF; split
      · rfl
      · exact hF
  · exact h1.elim
theorem st_setO (m : Md) {i : Nat} {x : Str} {pos' : Pos} (hN : X.N.Nodup) (hi : X.N[i]? = some x) (hx : Loc X.env.scope x) (he : EvF X E e g) (hs : swapsWith e (some (.Name x pos')) pos.line X.env = pure false := by rfl) (hf : X.fn x = true ∨ X.env.scope.names.lookup x = some .local := by first | exact .inl rfl | exact .inr rfl | assumption) :
    Stm X E own own ol (.Assign [.Name x pos'] e pos) (gSetO m own i g) := ps_imp (ps_set hN hi hx he hs hf) fun _ _ _ => tSetO_of
/-- x = [..], a comprehension -/
theorem st_setLc (m : Md) {it : GI} {T : TD} {t : TG} {tt : GT} {ge : G} {elt tg iter : Expr} {ifs : List Expr} {scope : Scope} {ow : List (Str × Nat)} {spos : Pos} {i : Nat} {y : Str} {py : Pos} (hv : ow.map (·.2) = vs) (hc : X.calm = true) (hN : X.N.Nodup) (hy : X.N[i]? = some y) (hyl : X.env.scope.names.lookup y = some .local)
    (hsw : swapsWith (.ListComp elt [⟨tg, iter, ifs, 0⟩] scope pos) (some (.Name y py)) spos.line X.env = pure true) (hi : EvI X E tg iter it) (ok : BlkOk X.N X.env.scope scope ow)
    (hg : ∀ (s : Shared) (H : Hp) (C : Addr) (cl : List (Str × Addr)) (fp : List Addr), PG (X.blk s H scope (compEnvC scope cl C X.env) fp) tg t) (hT : TgD X.K t T vs) (ht : ∀ (s : Shared) (H : Hp) (C : Addr) (cl : List (Str × Addr)) (fp : List Addr), PTs (X.blk s H scope (compEnvC scope cl C X.env) fp) ifs (tPT X.K XF tt))
    (he : ∀ (s : Shared) (H : Hp) (C : Addr) (cl : List (Str × Addr)) (fp : List Addr), PE (X.blk s H scope (compEnvC scope cl C X.env) fp) elt (tP X.K XF ge)) (hs : ∀ x, foldedSetIterable iter X.env x = pure x := by intro _; rfl) :
    Stm X E own own ol (.Assign [.Name y py] (.ListComp elt [⟨tg, iter, ifs, 0⟩] scope pos) spos) (gSet m own i (gLc vs it T tt ge)) ∧ Stm X E own own ol (.Assign [.Name y py] (.ListComp elt [⟨tg, iter, ifs, 0⟩] scope pos) spos) (gSetO m own i (gLc vs it T tt ge)) := by
  subst hv
  have q := ps_setLc (spos := spos) (i := i) (py := py) (pos := pos) hc hN hy hyl hsw hi ok hg ht he hs
  refine ⟨ps_imp q fun Dn σ H h => ?_, ps_imp q fun Dn σ H h => ?_⟩
  · have h2 := tSet_of h
    obtain ⟨S, F, ρ, R, v, h3⟩ := h2
    exact tLc_of hT ⟨S, F, ρ, R, v, h3.toF⟩
  · exact tLc_of hT (tSetO_of h)
/-- x.append(e), x owned -/
def gApp (m : Md) (own : List Nat) (i : Nat) (g : G) : GS := fun ρ R => match ρ[i]? with
  | some (some (.lst ds)) => (g (see m own ρ) R).out fun d R1 => if okM m d R1 && own.contains i && decide (ds.length < sizeLine) then .nx (ρ.set i (some (.lst (ds ++ [d])))) R1 else .bad
  | _ => .bad
theorem SRel.lstAt {i : Nat} {ds : List D} (s : SRel K S0 F0 H0 own ρ R σ H) (hi : i ∈ own) (h : ρ[i]? = some (some (.lst ds))) : ∃ a xs, σ[i]? = some (some (.ref a)) ∧ H a = some (.lst xs) ∧ xs.length = ds.length := by
  obtain ⟨S, F, s⟩ := s
  obtain ⟨v, h1, a, o, rfl, h3, h4, h5, h6, h7⟩ := s.ow i hi _ h
  cases h4 with
  | lst r => exact ⟨a, _, h1, h3, r.length⟩
theorem SIn.lstAt {i : Nat} {ds : List D} (s : SIn K S0 F0 H0 own ρ R σ S F H) (hi : i ∈ own) (h : ρ[i]? = some (some (.lst ds))) : ∃ a xs, σ[i]? = some (some (.ref a)) ∧ H a = some (.lst xs) ∧ Reps K F xs ds ∧ a ∉ S := by
  obtain ⟨v, h1, a, o, rfl, h3, h4, h5, h6, h7⟩ := s.ow i hi _ h
  cases h4 with
  | lst r => exact ⟨a, _, h1, h3, r, h6⟩
theorem st_app (m : Md) {i : Nat} (hio : i ∈ own) {o : Expr} {apos cpos : Pos} (ho : PE X o (tVar i)) (he : EvA X E [e] (gCons g gNil))
    (hbase : attributeBase o "append" X.env (eval o X.env) = eval o X.env := by rfl)
    (hfew : ((backTo cpos (starEach [e] X.env)).all (fun x => !x.1) && (backToKw cpos (keywordEach [] X.env)).all (fun x => x.1.isSome)
      && decide (([e] : List Expr).length + ([] : List Keyword).length + (if ([] : List Keyword).isEmpty then 0 else 1) < 30)) = true := by rfl)
    (hline : (apos.endLine == cpos.line) = true := by rfl) (hs : starEach [e] X.env = (false, eval e X.env) :: starEach [] X.env := by rfl) (hplain : (backTo cpos (starEach [] X.env)).any (·.1) = false := by rfl)
    (hsw : swapsWith (.Call (.Attribute o "append" apos) [e] [] cpos) none pos.line X.env = pure false := by rfl) :
    Stm X E own own ol (.Expr (.Call (.Attribute o "append" apos) [e] [] cpos) pos) (gApp m own i g) := ps_imp (ps_expr (pe_bmL PySem.F.slot_list_append PySem.F.type_list_append mt_append ho he hbase hfew hline hs hplain) hsw) fun Dn σ H ⟨S0, F0, H0, ρ, R, s, h⟩ => by
  unfold gApp at h
  split at h
  · rename_i ds hds
    obtain ⟨a, xs, hσ, hH, hl⟩ := s.lstAt hio hds
    refine ⟨_, hσ, ⟨a, xs, rfl, hH⟩, ?_⟩
    have h' : WpS X.K E S0 F0 H0 own ol (((gCons g gNil) (see m own ρ) R).out fun ds' R1 => match ds' with
        | [d] => if okM m d R1 && own.contains i && decide (ds.length < sizeLine) then .nx (ρ.set i (some (.lst (ds ++ [d])))) R1 else .bad
        | _ => .bad) Dn := by
      unfold gCons gNil
      cases q : g (see m own ρ) R with
      | ok d R1 => rw [q] at h; exact h
      | exc c fs R1 => rw [q] at h; exact h
      | bad => rw [q] at h; exact h
    refine see_wp rfl s h' fun us ds' R1 S F S1 F1 H1 s ef eg c r _ h1 => ?_
    split at h1
    · cases r with
      | cons r rr =>
      cases rr
      split at h1
      · rename_i hc
        simp only [Bool.and_eq_true, decide_eq_true_eq] at hc
        obtain ⟨F2, s2, r2⟩ := s.seen ef eg c r hc.1.1
        obtain ⟨b, ys, g1, g2, g3, g4⟩ := s2.lstAt hio hds
        have e1 := hσ.symm.trans g1
        cases e1
        refine ⟨_, ys, _, rfl, rfl, g2, by rw [g3.length]; exact hc.2, ?_⟩
        exact h1 _ _ ⟨_, _, s2.put hio hds g1 (.lst (g3.append (.cons r2 .nil)))⟩
      · exact h1.elim
    · exact h1.elim
  · exact h.elim
/-- x.extend(e), x owned, e a list -/
def gExt (m : Md) (own : List Nat) (i : Nat) (g : G) : GS := fun ρ R => match ρ[i]? with
  | some (some (.lst ds)) => (g (see m own ρ) R).out fun d R1 => match d with
    | .lst es => if okO m (.lst es) R1 && own.contains i && decide (ds.length + es.length ≤ sizeLine) then .nx (ρ.set i (some (.lst (ds ++ es)))) R1 else .bad
    | _ => .bad
  | _ => .bad
theorem st_ext (m : Md) {i : Nat} (hio : i ∈ own) {o : Expr} {apos cpos : Pos} (ho : PE X o (tVar i)) (he : EvA X E [e] (gCons g gNil))
    (hbase : attributeBase o "extend" X.env (eval o X.env) = eval o X.env := by rfl)
    (hfew : ((backTo cpos (starEach [e] X.env)).all (fun x => !x.1) && (backToKw cpos (keywordEach [] X.env)).all (fun x => x.1.isSome)
      && decide (([e] : List Expr).length + ([] : List Keyword).length + (if ([] : List Keyword).isEmpty then 0 else 1) < 30)) = true := by rfl)
    (hline : (apos.endLine == cpos.line) = true := by rfl) (hs : starEach [e] X.env = (false, eval e X.env) :: starEach [] X.env := by rfl) (hplain : (backTo cpos (starEach [] X.env)).any (·.1) = false := by rfl)
    (hsw : swapsWith (.Call (.Attribute o "extend" apos) [e] [] cpos) none pos.line X.env = pure false := by rfl) :
    Stm X E own own ol (.Expr (.Call (.Attribute o "extend" apos) [e] [] cpos) pos) (gExt m own i g) := ps_imp (ps_expr (pe_bmL PySem.F.slot_list_extend PySem.F.type_list_extend mt_extend ho he hbase hfew hline hs hplain) hsw) fun Dn σ H ⟨S0, F0, H0, ρ, R, s, h⟩ => by
  unfold gExt at h
  split at h
  · rename_i ds hds
    obtain ⟨a, xs, hσ, hH, hl⟩ := s.lstAt hio hds
    refine ⟨_, hσ, ⟨a, xs, rfl, hH⟩, ?_⟩
    have h' : WpS X.K E S0 F0 H0 own ol (((gCons g gNil) (see m own ρ) R).out fun ds' R1 => match ds' with
        | [.lst es] => if okO m (.lst es) R1 && own.contains i && decide (ds.length + es.length ≤ sizeLine) then .nx (ρ.set i (some (.lst (ds ++ es)))) R1 else .bad
        | _ => .bad) Dn := by
      unfold gCons gNil
      cases q : g (see m own ρ) R with
      | ok d R1 =>
        rw [q] at h
        cases d with
        | lst es => exact h
        | _ => exact h.elim
      | exc c fs R1 => rw [q] at h; exact h
      | bad => rw [q] at h; exact h
    refine see_wp rfl s h' fun us ds' R1 S F S1 F1 H1 s ef eg c r _ h1 => ?_
    split at h1
    · rename_i es0
      cases r with
      | cons r rr =>
      cases rr
      split at h1
      · rename_i hc
        simp only [Bool.and_eq_true, decide_eq_true_eq] at hc
        cases r with
        | @lst b0 vs0 _ hf rs =>
        have key : ∃ F2, SIn X.K S0 F0 H0 own ρ R1 σ S1 F2 H1 ∧ Reps X.K F2 vs0 es0 := by
          cases m with
          | f => exact ⟨F1, s.on (ef rfl) c, rs⟩
          | g =>
            have hm2 : immL es0 = true ∧ R1.all immO = true := by simpa [okO, immO] using hc.1.1
            obtain ⟨q1, q2⟩ := s.onG (eg rfl) c hm2.2
            exact ⟨_, q1, rs.imm q2 hm2.1⟩
        have hH1 : H1 b0 = some (.lst vs0) := (by
          cases m with
          | f => exact (ef rfl).fh _ _ hf
          | g => exact (eg rfl).fh _ _ hf)
        obtain ⟨F2, s2, r2⟩ := key
        obtain ⟨b, ys, g1, g2, g3, g4⟩ := s2.lstAt hio hds
        have e1 := hσ.symm.trans g1
        cases e1
        refine ⟨_, _, ys, _, rfl, rfl, g2, hH1, by rw [g3.length, rs.length]; exact hc.2, ?_⟩
        exact h1 _ _ ⟨_, _, s2.put hio hds g1 (.lst (g3.append r2))⟩
      · exact h1.elim
    · exact h1.elim
  · exact h.elim
/-- x.pop(), x owned -/
def gPop (own : List Nat) (i : Nat) : GS := fun ρ R => match ρ[i]? with
  | some (some (.lst (d :: ds))) => .nx (ρ.set i (some (.lst (d :: ds).dropLast))) R
  | _ => .bad
theorem Reps.dropLast : ∀ {vs : List V} {ds : List D}, Reps K F vs ds → Reps K F vs.dropLast ds.dropLast := fun {vs ds} r => by
  rw [List.dropLast_eq_take, List.dropLast_eq_take, r.length]
  exact r.take _
theorem st_pop {i : Nat} (hio : i ∈ own) {o : Expr} {apos cpos : Pos} (ho : PE X o (tVar i))
    (hbase : attributeBase o "pop" X.env (eval o X.env) = eval o X.env := by rfl) (hline : (apos.endLine == cpos.line) = true := by rfl)
    (hsw : swapsWith (.Call (.Attribute o "pop" apos) [] [] cpos) none pos.line X.env = pure false := by rfl) :
    Stm X E own own ol (.Expr (.Call (.Attribute o "pop" apos) [] [] cpos) pos) (gPop own i) := ps_imp (ps_expr (pe_bmL0 PySem.F.slot_list_pop PySem.F.type_list_pop mt_popG ho hbase hline) hsw) fun Dn σ H ⟨S0, F0, H0, ρ, R, s, h⟩ => by
  unfold gPop at h
  split at h
  · rename_i d ds hds
    obtain ⟨S, F, s⟩ := s
    obtain ⟨a, xs, hσ, hH, hr, hS⟩ := s.lstAt hio hds
    have hne : xs ≠ [] := fun z => by rw [z] at hr; cases hr
    refine ⟨_, hσ, ⟨a, xs, rfl, hH⟩, a, xs, xs.getLast hne, rfl, rfl, hH, List.getLast?_eq_some_getLast hne, ?_⟩
    exact h _ _ ⟨_, _, s.put hio hds hσ (.lst hr.dropLast)⟩
  · exact h.elim
/-! ### freezing -/
theorem sts_frz {own2 : List Nat} {sts : List Stmt} {g : GS} (hsub : ∀ i ∈ own2, i ∈ own) (h : Sts X E own2 own' ol sts g) : Sts X E own own' ol sts g := pss_imp h fun Dn σ H ⟨S0, F0, H0, ρ, R, ⟨S, F, s⟩, h⟩ => by
  refine ⟨S0, F0, H0, ρ, R, ?_, h⟩
  let fr := own.filter fun i => !own2.contains i
  have hfr : ∀ i, i ∈ fr ↔ i ∈ own ∧ i ∉ own2 := fun i => by simp [fr]
  have sub : ∀ b, OwnA fr ρ σ b → OwnA own ρ σ b := fun b ⟨i, hi, d, h1, h2⟩ => ⟨i, ((hfr i).mp hi).1, d, h1, h2⟩
  have hF : Same F (allF fr ρ σ F H) := fun b u e => by
    unfold allF
    split
    · rename_i h
      rw [(s.own_none (sub b h)).1] at e; cases e
    · exact e
  have hH : Same (allF fr ρ σ F H) H := fun b u e => by
    unfold allF at e
    split at e
    · exact e
    · exact s.same b u e
  refine ⟨S, allF fr ρ σ F H, ⟨s.ext.s, s.ext.f.trans hF, hH, s.ext.fr, s.ext.th, fun b u h1 h2 => ?_, s.ext.sn⟩, s.cells.froz hF fun b hb => ?_, fun i d h1 h2 => ?_, fun i hi d h1 => ?_, fun i hi j hj => s.ap i (hsub i hi) j (hsub j hj), s.len⟩
  · have h3 := s.ext.nw b u h1 h2
    unfold allF
    split
    · rename_i ho
      have := (s.own_none (sub b ho)).2.2.1
      rw [h1] at this; cases this
    · exact h3
  · unfold allF
    rw [if_neg fun z => (s.own_none (sub b z)).2.1 hb]
    exact (s.cells.has hb).1
  · by_cases hi : i ∈ own
    · obtain ⟨v, h3, a, o, rfl, h4, h5, h6, h7, h8⟩ := s.ow i hi d h1
      refine ⟨_, h3, .inl ((h5.mono hF).rep ?_)⟩
      unfold allF
      rw [if_pos ⟨i, (hfr i).mpr ⟨hi, h2⟩, d, h1, h3⟩]; exact h4
    · obtain ⟨v, h3, h4⟩ := s.sh i d h1 hi
      exact ⟨v, h3, h4.mono (List.prefix_refl _) hF⟩
  · obtain ⟨v, h3, a, o, rfl, h4, h5, h6, h7, h8⟩ := s.ow i (hsub i hi) d h1
    refine ⟨_, h3, a, o, rfl, h4, h5.mono hF, ?_, h7, h8⟩
    unfold allF
    rw [if_neg]
    · exact h6
    · rintro ⟨j, hj, d', q1, q2⟩
      have := s.ap i (hsub i hi) j ((hfr j).mp hj).1 d d' _ h1 q1 h3 q2
      subst this
      exact ((hfr i).mp hj).2 hi
end
end Pv

namespace Pv
open PySem PySem.Spec PyProof.Rows L2 Sr
/-! ### a, b = x, y -/
/-- values, those flagged being new cells -/
inductive Mix (K : PySem.W.Frag) (H : Hp) (S' : List Addr) (F' H' : Hp) : List Bool → List V → List D → Prop
  | nil : Mix K H S' F' H' [] [] []
  | old {fl : List Bool} {v : V} {d : D} {vs : List V} {ds : List D} : Rep K F' v d → Mix K H S' F' H' fl vs ds → Mix K H S' F' H' (false :: fl) (v :: vs) (d :: ds)
  | new {fl : List Bool} {p : Addr} {o : HO} {d : D} {vs : List V} {ds : List D} : H' p = some o → RepO K F' o d → F' p = none → H p = none → p ∉ S' → (∀ k : Nat, fl[k]? = some true → vs[k]? ≠ some (.ref p)) → Mix K H S' F' H' fl vs ds → Mix K H S' F' H' (true :: fl) (.ref p :: vs) (d :: ds)
def Wm (K : PySem.W.Frag) (E : XK) (fl : List Bool) (S : List Addr) (F H : Hp) (r : Res (List D)) (Q : List V → Hp → Prop) : Prop := match r with
  | .ok ds R' => ∀ vs S' F' H', Ext S F H S' F' H' → Cells K S' F' H' R' → Mix K H S' F' H' fl vs ds → Q vs H'
  | .exc c fs R' => ∀ d S' F' H', Ext S F H S' F' H' → Cells K S' F' H' R' → ExcAt K S' F' H' fs d → E (.ref (He.ga K c)) d H'
  | .bad => False
def tM (K : PySem.W.Frag) (E : XK) (fl : List Bool) (g : GA) : TA := fun σ H Q => ∃ S F ρ R, View K S F H ρ R σ ∧ Wm K E fl S F H (g ρ R) Q
abbrev EvM (X : Cx) (E : XK) (fl : List Bool) (es : List Expr) (g : GA) : Prop := PA X es (tM X.K E fl g)
section
variable {X : Cx} {E : XK} {fl : List Bool} {e : Expr} {es : List Expr} {g : G} {gs : GA} {K : PySem.W.Frag} {S S1 : List Addr} {F H F1 H1 : Hp} {σ : L2.St} {R : Rs}
theorem Mix.older {H0 : Hp} (h0 : ∀ p, H p = none → H0 p = none) : ∀ {fl : List Bool} {vs : List V} {ds : List D}, Mix K H S F1 H1 fl vs ds → Mix K H0 S F1 H1 fl vs ds
  | _, _, _, .nil => .nil
  | _, _, _, .old r m => .old r (Mix.older h0 m)
  | _, _, _, .new a b c d e f m => .new a b c (h0 _ d) e f (Mix.older h0 m)
theorem Ext.back (e : Ext S F H S1 F1 H1) {p : Addr} (h : H1 p = none) : H p = none := by
  cases q : H p with
  | none => rfl
  | some u => obtain ⟨u', h'⟩ := e.th p u q; rw [h] at h'; cases h'
theorem Wm.ext {r : Res (List D)} {Q : List V → Hp → Prop} (h : Wm K E fl S F H r Q) (e : Ext S F H S1 F1 H1) : Wm K E fl S1 F1 H1 r Q := by
  cases r with
  | ok a R' => exact fun b S' F' H' e' c r => h b S' F' H' (e.trans e') c (r.older fun p hp => e.back hp)
  | exc c fs R' => exact fun d S' F' H' e' c r => h d S' F' H' (e.trans e') c r
  | bad => exact h
theorem evm_nil : EvM X E [] [] gNil := pa_imp pa_nil fun σ H Q ⟨S, F, ρ, R, v, h⟩ => h [] S F H (.refl v.fh) v.cells .nil
theorem evm_old (h : Ev X E e g) (hs : EvM X E fl es gs) (h0 : starEach (e :: es) X.env = (false, eval e X.env) :: starEach es X.env := by rfl) : EvM X E (false :: fl) (e :: es) (gCons g gs) := pa_imp (pa_cons h hs h0) fun σ H Q ⟨S, F, ρ, R, v, h⟩ => by
  refine ⟨S, F, ρ, R, v, ?_⟩
  unfold gCons at h
  cases q : g ρ R with
  | ok d R1 =>
    rw [q] at h
    intro x S1 F1 H1 e1 c1 rx
    refine ⟨S1, F1, ρ, R1, v.ext e1 c1, ?_⟩
    have h : Wm X.K E (false :: fl) S F H ((gs ρ R1).bind fun xs R2 => .ok (d :: xs) R2) Q := h
    cases q2 : gs ρ R1 with
    | ok ds R2 =>
      rw [q2] at h
      exact fun vs S2 F2 H2 e2 c2 m => h (x :: vs) S2 F2 H2 (e1.trans e2) c2 (.old (e2.rep rx) (m.older fun p hp => e1.back hp))
    | exc c fs R2 => rw [q2] at h; exact fun d S' F' H' e' c r => h d S' F' H' (e1.trans e') c r
    | bad => rw [q2] at h; exact h
  | exc c fs R1 => rw [q] at h; exact h
  | bad => rw [q] at h; exact h
theorem Mix.neq {p : Addr} {o : HO} (hp : H p = some o) : ∀ {fl : List Bool} {vs : List V} {ds : List D}, Mix K H S F1 H1 fl vs ds → ∀ k : Nat, fl[k]? = some true → vs[k]? ≠ some (.ref p)
  | _, _, _, .nil, k, h => by simp at h
  | _, _, _, .old r m, 0, h => by simp at h
  | _, _, _, .old r m, k + 1, h => by simpa using Mix.neq hp m k (by simpa using h)
  | _, _, _, .new a b c d e f m, 0, h => by
    intro z
    simp at z
    rw [z, hp] at d; cases d
  | _, _, _, .new a b c d e f m, k + 1, h => by simpa using Mix.neq hp m k (by simpa using h)
theorem evm_new (h : EvF X E e g) (hs : EvM X E fl es gs) (h0 : starEach (e :: es) X.env = (false, eval e X.env) :: starEach es X.env := by rfl) : EvM X E (true :: fl) (e :: es) (gCons g gs) := pa_imp (pa_cons h hs h0) fun σ H Q ⟨S, F, ρ, R, v, h⟩ => by
  refine ⟨S, F, ρ, R, v, ?_⟩
  unfold gCons at h
  cases q : g ρ R with
  | ok d R1 =>
    rw [q] at h
    intro p o S1 F1 H1 e1 c1 h1 h2 h3 h4 h5
    refine ⟨S1, F1, ρ, R1, v.ext e1 c1, ?_⟩
    have h : Wm X.K E (true :: fl) S F H ((gs ρ R1).bind fun xs R2 => .ok (d :: xs) R2) Q := h
    cases q2 : gs ρ R1 with
    | ok ds R2 =>
      rw [q2] at h
      intro vs S2 F2 H2 e2 c2 m
      have hS2 : p ∉ S2 := fun z => by have := e2.sn p z h5; rw [h1] at this; cases this
      exact h (.ref p :: vs) S2 F2 H2 (e1.trans e2) c2 (.new (e2.fr p o h1 h5) (h2.mono e2.f) (e2.nw p o h1 h3) h4 hS2 (m.neq h1) (m.older fun p hp => e1.back hp))
    | exc c fs R2 => rw [q2] at h; exact fun d S' F' H' e' c r => h d S' F' H' (e1.trans e') c r
    | bad => rw [q2] at h; exact h
  | exc c fs R1 => rw [q] at h; exact h
  | bad => rw [q] at h; exact h
end
/-- the slots get the values; owned slots get the new cells -/
def setAll : List Nat → List D → PEnv → PEnv
  | i :: is, d :: ds, ρ => setAll is ds (ρ.set i (some d))
  | _, _, ρ => ρ
def setAllV : List Nat → List V → L2.St → L2.St
  | i :: is, d :: ds, σ => setAllV is ds (σ.set i (some d))
  | _, _, σ => σ
/-- the flags of slots: owned ones get new cells -/
def flOk (own : List Nat) : List Nat → List Bool → Bool
  | [], [] => true
  | i :: is, b :: fl => (b == own.contains i) && flOk own is fl
  | _, _ => false
def gPar (own is : List Nat) (fl : List Bool) (gs : GA) : GS := fun ρ R => (gs (hide own ρ) R).out fun ds R1 => if flOk own is fl && decide (is.Nodup) && decide (ds.length = is.length) then .nx (setAll is ds ρ) R1 else .bad
section
variable {X : Cx} {E : XK} {own own' ol : List Nat} {fl : List Bool} {e : Expr} {es : List Expr} {gs : GA} {K : PySem.W.Frag} {S0 S S1 : List Addr} {F0 H0 F H F1 H1 : Hp} {ρ : PEnv} {σ : L2.St} {R : Rs} {pos : Pos}
theorem SIn.setAll {Hb : Hp} (hb : ∀ p, Hb p = none → H0 p = none) : ∀ {is : List Nat} {fl : List Bool} {vs : List V} {ds : List D} {ρ : PEnv} {σ : L2.St}, flOk own is fl = true → is.Nodup → ds.length = is.length → Mix K Hb S F H fl vs ds →
    (∀ (j : Nat), j ∈ own → ∀ d, ρ[j]? = some (some d) → ∀ p, σ[j]? = some (some (.ref p)) → ∀ k : Nat, fl[k]? = some true → vs[k]? ≠ some (.ref p)) → SIn K S0 F0 H0 own ρ R σ S F H → SIn K S0 F0 H0 own (Pv.setAll is ds ρ) R (setAllV is vs σ) S F H
  | [], _, _, _, _, _, hf, hn, hl, m, hd, s => by
    cases m with
    | nil => exact s
    | _ => simp at hl
  | i :: is, _, _, _, ρ, σ, hf, hn, hl, m, hd, s => by
    obtain ⟨hn1, hn2⟩ := List.nodup_cons.mp hn
    cases m with
    | nil => simp at hl
    | old r m =>
      simp only [flOk, Bool.and_eq_true, beq_iff_eq] at hf
      have hi : i ∉ own := by have := hf.1; simpa using this.symm
      refine SIn.setAll (is := is) hb hf.2 hn2 (by simpa using hl) m (fun j hj d h p hp k hk => ?_) (s.set hi (.inl r))
      have hij : i ≠ j := fun z => hi (z ▸ hj)
      rw [List.getElem?_set_ne hij] at h hp
      have := hd j hj d h p hp (k + 1) (by simpa using hk)
      simpa using this
    | @new fl' p o d vs' ds' a1 a2 a3 a4 a5 a6 m =>
      simp only [flOk, Bool.and_eq_true, beq_iff_eq] at hf
      have hi : i ∈ own := by have := hf.1; simpa using this.symm
      have s2 := s.setO hi a1 a2 a3 a5 (hb p a4) fun j hj d' h hji hσ => by
        have := hd j hj d' h p hσ 0 (by simp)
        simp at this
      refine SIn.setAll (is := is) hb hf.2 hn2 (by simpa using hl) m (fun j hj d' h q hq k hk => ?_) s2
      by_cases hij : i = j
      · subst hij
        rw [List.getElem?_set] at hq
        simp only [if_true] at hq
        split at hq
        · cases hq
          exact a6 k hk
        · cases hq
      · rw [List.getElem?_set_ne hij] at h hq
        have := hd j hj d' h q hq (k + 1) (by simpa using hk)
        simpa using this
theorem par_core {is : List Nat} {Dn : Ends} {Q : List V → Hp → Prop} (h : tS X.K E own own ol (gPar own is fl gs) Dn σ H) (hq : ∀ vs H1, vs.length = is.length → Dn.nx (setAllV is vs σ) H1 → Q vs H1) : tM X.K E fl gs σ H Q := by
  obtain ⟨S0, F0, H0, ρ, R, ⟨S, F, s⟩, h⟩ := h
  refine ⟨S, F, hide own ρ, R, s.view, ?_⟩
  unfold gPar at h
  cases q : gs (hide own ρ) R with
  | ok ds R1 =>
    rw [q] at h
    simp only [Res.out_ok] at h
    split at h
    · rename_i hc
      simp only [Bool.and_eq_true, decide_eq_true_eq] at hc
      intro vs S1 F1 H1 e1 c1 m
      have s1 := s.on e1 c1
      have hlen : ∀ {fl : List Bool} {vs : List V} {ds : List D}, Mix X.K H S1 F1 H1 fl vs ds → vs.length = ds.length := by
        intro fl vs ds m
        induction m with
        | nil => rfl
        | old _ _ ih => simp [ih]
        | new _ _ _ _ _ _ _ ih => simp [ih]
      refine hq vs H1 ((hlen m).trans hc.2) (h _ _ ⟨_, _, SIn.setAll (Hb := H) (fun p hp => s.ext.back hp) hc.1.1 hc.1.2 hc.2 m (fun j hj d h1 p hp k hk => ?_) s1⟩)
      obtain ⟨_, _, _, o, h3, _⟩ := s.own_none ⟨j, hj, d, h1, hp⟩
      exact m.neq h3 k hk
    · exact h.elim
  | exc c fs R1 => rw [q] at h; exact fun d S1 F1 H1 e1 c1 rb => h d S1 F1 H1 (s.ext.trans e1) c1 rb
  | bad => rw [q] at h; exact h
theorem st_par {i j : Nat} {x y : Str} {a b : Expr} {px py pt : Pos} {kt k2 pt2} (hc : X.calm = true) (hN : X.N.Nodup) (hi : X.N[i]? = some x) (hj : X.N[j]? = some y) (hij : i ≠ j)
    (hx : X.env.scope.names.lookup x = some .local) (hy : X.env.scope.names.lookup y = some .local) (ha : EvM X E fl [a, b] gs)
    (hw : swappedStores [.Tuple [.Name x px, .Name y py] kt pt] (.Tuple [a, b] k2 pt2) X.env = pure (some [x, y]))
    (hs : swapsWithSole [.Tuple [.Name x px, .Name y py] kt pt] (.Tuple [a, b] k2 pt2) pos.line X.env = pure false := by rfl) :
    Stm X E own own ol (.Assign [.Tuple [.Name x px, .Name y py] kt pt] (.Tuple [a, b] k2 pt2) pos) (gPar own [i, j] fl gs) := ps_imp (ps_par hc hN hi hj hij hx hy ha hw hs) fun Dn σ H h =>
  par_core h fun vs H1 hl hn => match vs, hl, hn with
    | [v, w], _, hn => ⟨v, w, rfl, hn⟩
theorem st_par3 {i j l : Nat} {x y z : Str} {a b c : Expr} {px py pz pt : Pos} {kt k2 pt2} (hc : X.calm = true) (hN : X.N.Nodup) (hi : X.N[i]? = some x) (hj : X.N[j]? = some y) (hl : X.N[l]? = some z) (hij : i ≠ j) (hil : i ≠ l) (hjl : j ≠ l)
    (hx : X.env.scope.names.lookup x = some .local) (hy : X.env.scope.names.lookup y = some .local) (hz : X.env.scope.names.lookup z = some .local) (ha : EvM X E fl [a, b, c] gs)
    (hw : swappedStores [.Tuple [.Name x px, .Name y py, .Name z pz] kt pt] (.Tuple [a, b, c] k2 pt2) X.env = pure (some [x, y, z]))
    (hs : swapsWithSole [.Tuple [.Name x px, .Name y py, .Name z pz] kt pt] (.Tuple [a, b, c] k2 pt2) pos.line X.env = pure false := by rfl) :
    Stm X E own own ol (.Assign [.Tuple [.Name x px, .Name y py, .Name z pz] kt pt] (.Tuple [a, b, c] k2 pt2) pos) (gPar own [i, j, l] fl gs) := ps_imp (ps_par3 hc hN hi hj hl hij hil hjl hx hy hz ha hw hs) fun Dn σ H h =>
  par_core h fun vs H1 hl hn => match vs, hl, hn with
    | [v, w, u], _, hn => ⟨v, w, u, rfl, hn⟩
/-- targets = e, by a tuple or a list that is made first -/
def gAsg (m : Md) (own vs : List Nat) (T : TD) (g : G) : GS := fun ρ R => (g (see m own ρ) R).out fun d R1 => if okM m d R1 && vs.all (fun i => !own.contains i) then match T d ρ with
  | some ρ1 => .nx ρ1 R1
  | none => .bad
  else .bad
theorem st_asg (m : Md) {tg : Expr} {g : G} {t : TG} {T : TD} {vs : List Nat} (he : Ev X E e g) (hg : PG X tg t ∧ TgD X.K t T vs) (hs : swapsWithSole [tg] e pos.line X.env = pure false := by rfl) (hw : swappedStores [tg] e X.env = pure none := by rfl) (h1 : (assignEach [tg] X.env).map (·.2) = [assign tg X.env] := by rfl) : Stm X E own own ol (.Assign [tg] e pos) (gAsg m own vs T g) := ps_imp (ps_asg he hg.1 hs hw h1) fun Dn σ H ⟨S0, F0, H0, ρ, R, s, h⟩ => by
  refine see_wp rfl s h fun v d R1 S F S1 F1 H1 s ef eg c r _ h1 => ?_
  split at h1
  · rename_i hc
    have hv : ∀ i ∈ vs, i ∉ own := by simpa using (Bool.and_eq_true_iff.mp hc).2
    obtain ⟨F2, s2, r2⟩ := s.seen ef eg c r (Bool.and_eq_true_iff.mp hc).1
    split at h1
    · rename_i ρ1 q
      exact hg.2 F2 H1 v d ρ σ σ ρ ρ1 _ s2.same r2 q .refl fun σ' u => h1 _ _ ⟨_, _, u.sin hv s2⟩
    · exact h1.elim
  · exact h1.elim
end
end Pv

namespace Pv
open PySem PySem.Spec PyProof.Rows L2 Sr
/-! ### x += e -/
section
variable {X : Cx} {E : XK} {own ol : List Nat} {e : Expr} {g : G} {pos pos' : Pos}
theorem pass_x (hs : X.stack = X.env :: X.outer) (hf : X.env.frame = some X.env.locals) (hex : X.ex = []) {E1 : Value → Shared → Prop}
    (hx : X.xe = fun e s' => wpAny (model X.prog X.w) X.A (leaving X.env e) (fun _ s'' => L2.CX X.prog X.w X.outer X.H_0 X.s_0 E e s'') E1 s') : Passes (L2.CX X.prog X.w) X E := passes_call (takes_of hs hf hex hx) fun _ _ _ _ h => h
end
/-! ### defs -/
def out1 : Out → Res D
  | .nx _ R => .ok .non R
  | .rt d R => .ok d R
  | .rf d R => .ok d R
  | .exc c fs R => .exc c fs R
  | _ => .bad
def startD (n : Nat) (ds : List D) : PEnv := ds.map some ++ List.replicate (n - ds.length) none
/-- a def's meaning -/
def runB (n : Nat) (g : GS) : List D → Rs → Res D := fun ds R => out1 (g (startD n ds) R)
section
variable {K : PySem.W.Frag} {S : List Addr} {F H : Hp} {R : Rs} {E : XK} {Q : VK}
theorem startD_get {n : Nat} {ds : List D} {vs : List V} {N : List Str} (hN : N.length = n) (r : Reps K F vs ds) {i : Nat} {d : D} (h : (startD n ds)[i]? = some (some d)) : i < ds.length ∧ ∃ v, (L2.start N vs)[i]? = some (some v) ∧ Rep K F v d := by
  unfold startD at h
  unfold L2.start
  by_cases hi : i < ds.length
  · rw [List.getElem?_append_left (by simpa using hi), List.getElem?_map] at h
    cases q : ds[i]? with
    | none => rw [q] at h; cases h
    | some d' =>
      rw [q] at h
      cases h
      obtain ⟨v, h1, h2⟩ := r.get q
      exact ⟨hi, v, by rw [List.getElem?_append_left (by simpa [r.length] using hi), List.getElem?_map, h1]; rfl, h2⟩
  · rw [List.getElem?_append_right (by simpa using hi)] at h
    have := List.mem_of_getElem? h
    simp at this
theorem sin_start {n : Nat} {ds : List D} {vs : List V} {N : List Str} {own : List Nat} (hN : N.length = n) (ho : ∀ i ∈ own, ds.length ≤ i) (hs : Same F H) (c : Cells K S F H R) (r : Reps K F vs ds) : SIn K S F H own (startD n ds) R (L2.start N vs) S F H :=
  ⟨.refl hs, c, fun i d h _ => by
    obtain ⟨_, v, h1, h2⟩ := startD_get hN r h
    exact ⟨v, h1, .inl h2⟩, fun i hi d h => by
    have := (startD_get hN r h).1
    have := ho i hi
    omega, fun i hi j hj d d' v h1 => by
    have := (startD_get hN r h1).1
    have := ho i hi
    omega, by unfold startD L2.start; simp [r.length, hN]⟩
theorem body_wp {g : GS} {own' ol : List Nat} {ρ : PEnv} (h : Wp K E (fun _ F v d => Rep K F v d) S F H (out1 (g ρ R)) Q) : WpS K E S F H own' ol (g ρ R) { nx := fun _ H' => Q .non H', rt := Q } := by
  cases q : g ρ R with
  | nx ρ' R' => rw [q] at h; exact fun σ H ⟨S1, F1, s⟩ => h _ S1 F1 H s.ext s.cells .non
  | rt d R' => rw [q] at h; exact h
  | rf d R' =>
    rw [q] at h
    exact fun a o S1 F1 H1 e c ha r hF hS h0 => h (.ref a) S1 (upd F1 a o) H1 (e.freeze ha hF h0) (c.freeze hF hS) ((r.mono (same_upd hF)).rep upd_same)
  | exc c fs R' => rw [q] at h; exact h
  | bk ρ' R' => rw [q] at h; exact h.elim
  | ct ρ' R' => rw [q] at h; exact h.elim
  | bad => rw [q] at h; exact h.elim
end
section
variable {fa : List He.Fa} {fn : List He.DefD} {gt : List PropD} {ex : PySem.W.Frag → Bool} {K : PySem.W.Frag} {mg : Str → Option Value} {P : Program} {w : World} {base : Heap}
/-- the body of a def, read in its context -/
def BodyP (P : Program) (w : World) (K : PySem.W.Frag) (mg : Str → Option Value) (base : Heap) (k : Nat) (N : List Str) (q : Str) (st : Stmt) (own own' : List Nat) (g : GS) : Prop :=
  ∀ (f : Addr) (cdv : Value) (A : Around) (outer : List Env) (s : Shared) (H : Hp) (E : XK), Room k (A.deeper (envOfC q (defScope st) s.heap.objs.size f cdv)) → Sts (cxOf (L2.CX P w) P w K mg base N q (defScope st) f cdv A outer s H E) E own own' [] (defBody st) g
theorem BodyP.ok {k n : Nat} {N ps : List Str} {q : Str} {st : Stmt} {own own' : List Nat} {g : GS} (B : BodyP P w K mg base k N q st own own' g) (hn : N.length = n) (ho : ∀ i ∈ own, ps.length ≤ i) {f : Addr} {cdv : Value} {A : Around} {outer : List Env} {s : Shared} {H : Hp} {vs : List V} {Q : VK} {E : XK}
    (hr : Room k (A.deeper (envOfC q (defScope st) s.heap.objs.size f cdv))) (h : spP K ps.length (runB n g) vs H Q E) :
    ∃ t, PSs (cxOf (L2.CX P w) P w K mg base N q (defScope st) f cdv A outer s H E) (defBody st) t ∧ t { nx := fun _ H' => Q .non H', rt := Q } (L2.start N vs) H := by
  obtain ⟨S, F, R, ds, hs, c, r, hl, h⟩ := h
  exact ⟨_, B f cdv A outer s H E hr, S, F, H, _, R, ⟨S, F, sin_start hn (fun i hi => by rw [hl]; exact ho i hi) hs c r⟩, body_wp h⟩
theorem fnP {N ps : List Str} {k n : Nat} {x : Str} {own own' : List Nat} {g : GS} (st : Stmt) (S : Say fa fn gt ex K mg) (i j : Nat) (hd : fn[i]? = some ⟨(x, none), x, x, defArgs st, defBody st, defScope st, [], []⟩) (hg : fa[j]? = some (.glo x)) (SC : FnScope N ps (defScope st))
    (hb : ∀ (kV doc pm : Value) (an : Option Addr) (cdv ct : Value) (us : List Value), us.length = ps.length → bindArgs (PySem.W.fnOf x x (defArgs st) (defBody st) (defScope st) .none kV doc pm an cdv ct) ⟨us, []⟩ = pure (ps.zip us))
    (hn : N.length = n) (ho : ∀ i ∈ own, ps.length ≤ i) (B : BodyP P w K mg base k N x st own own' g) : Fn P w K mg base (L2.CX P w) (k + 1) x ps (spP K ps.length (runB n g)) := by
  obtain ⟨fd, F⟩ := S.c.def_ i hd
  exact ⟨_, fd, S.glo j hg, F.kp, F.bindsN hb, F.ok SC spP_len fun cdv A outer s H vs Q E hr h => B.ok hn ho hr h, F.at_⟩
theorem prP {N ps : List Str} {k n : Nat} {c f q : Str} {own own' : List Nat} {g : GS} (st : Stmt) (S : Say fa fn gt ex K mg) (i : Nat) (hd : gt[i]? = some ⟨c, f, q, defArgs st, defBody st, defScope st⟩) (SC : FnScope N ps (defScope st))
    (hb : ∀ (kV doc pm : Value) (an : Option Addr) (cdv ct : Value) (us : List Value), us.length = ps.length → bindArgs (PySem.W.fnOf f q (defArgs st) (defBody st) (defScope st) .none kV doc pm an cdv ct) ⟨us, []⟩ = pure (ps.zip us))
    (hn : N.length = n) (ho : ∀ i ∈ own, ps.length ≤ i) (B : BodyP P w K mg base k N q st own own' g) : PrB P w K mg base (L2.CX P w) (k + 1) (He.ga K c) f ps (spP K ps.length (runB n g)) := by
  obtain ⟨h1, fd, F⟩ := S.prop i hd
  exact ⟨_, _, fd, h1, F.bindsN hb, F.ok SC spP_len fun cdv A outer s H vs Q E hr h => B.ok hn ho hr h⟩
/-! a promise by an equal function -/
theorem spP_eq {n : Nat} {f f' : List D → Rs → Res D} (h : ∀ ds R, ds.length = n → f' ds R ≠ .bad → f' ds R = f ds R) (vs : List V) (H : Hp) (Q : VK) (E : XK) (q : spP K n f' vs H Q E) : spP K n f vs H Q E := by
  obtain ⟨S, F, R, ds, hs, c, r, hl, q⟩ := q
  refine ⟨S, F, R, ds, hs, c, r, hl, ?_⟩
  by_cases hb : f' ds R = .bad
  · rw [hb] at q; exact q.elim
  · rw [← h ds R hl hb]; exact q
theorem _root_.Sr.Fn.to {x : Str} {ps : List Str} {k n : Nat} {CX : CXT} {f f' : List D → Rs → Res D} (F : Fn P w K mg base CX k x ps (spP K n f)) (h : ∀ ds R, ds.length = n → f' ds R ≠ .bad → f' ds R = f ds R) : Fn P w K mg base CX k x ps (spP K n f') := F.imp (spP_eq h)
theorem _root_.Sr.MeB.imp {C : Addr} {m : Str} {ps : List Str} {k : Nat} {CX : CXT} {sp sp' : Sp} (F : MeB P w K mg base CX k C m ps sp) (h : ∀ vs H Q E, sp' vs H Q E → sp vs H Q E) : MeB P w K mg base CX k C m ps sp' := by
  obtain ⟨f, fd, a, b, c, d, e⟩ := F.ex
  exact ⟨f, fd, a, b, c, d, e.imp h⟩
theorem _root_.Sr.MeB.to {C : Addr} {m : Str} {ps : List Str} {k n : Nat} {CX : CXT} {f f' : List D → Rs → Res D} (F : MeB P w K mg base CX k C m ps (spP K n f)) (h : ∀ ds R, ds.length = n → f' ds R ≠ .bad → f' ds R = f ds R) : MeB P w K mg base CX k C m ps (spP K n f') := F.imp (spP_eq h)
theorem _root_.Sr.PrB.to {C : Addr} {m : Str} {ps : List Str} {k n : Nat} {CX : CXT} {f f' : List D → Rs → Res D} (F : PrB P w K mg base CX k C m ps (spP K n f)) (h : ∀ ds R, ds.length = n → f' ds R ≠ .bad → f' ds R = f ds R) : PrB P w K mg base CX k C m ps (spP K n f') := by
  obtain ⟨p, g, fd, a, b, c⟩ := F.ex
  exact ⟨p, g, fd, a, b, c.imp (spP_eq h)⟩
theorem _root_.Sr.Fn.cx0 {x : Str} {ps : List Str} {k : Nat} {CX : CXT} {sp : Sp} (F : Fn P w K mg base CX0 k x ps sp) : Fn P w K mg base CX k x ps sp := by
  obtain ⟨f, fd, a, b, c, d, e⟩ := F.ex
  refine ⟨f, fd, a, b, c, ⟨d.len, fun A outer s H args us vs Q E hr he hb hv hs => codeAny_mono (d.run A outer s H args us vs Q E hr he hb hv hs) fun r s' h => ?_⟩, e⟩
  cases r with
  | error e => exact h.elim
  | ok fl => cases fl <;> exact h
end
end Pv

namespace Pv
open PySem PySem.Spec PyProof.Rows L2 Sr
/-! ### instances -/
def gFld (c f : Str) (g : G) : G := fun ρ R => (g ρ R).bind fun d R1 => match d with
  | .ins c' fs => if c' = c then match fs.lookup f with
    | some v => .ok v R1
    | none => .bad
    else .bad
  | _ => .bad
theorem lookup_rep {K : PySem.W.Frag} {F : Hp} {f : Str} {v : D} : ∀ {fs : List (Str × V)} {gs : List (Str × D)}, fs.map (·.1) = gs.map (·.1) → Reps K F (fs.map (·.2)) (gs.map (·.2)) → gs.lookup f = some v → ∃ u, fs.lookup f = some u ∧ Rep K F u v
  | [], [], _, _, h => by cases h
  | [], _ :: _, e, _, _ => by cases e
  | _ :: _, [], e, _, _ => by cases e
  | (a, x) :: fs, (b, y) :: gs, e, r, h => by
    simp only [List.map_cons, List.cons.injEq] at e
    obtain ⟨rfl, e⟩ := e
    cases r with
    | cons r rr =>
    by_cases hf : f = a
    · subst hf
      simp at h
      subst h
      exact ⟨x, by simp, r⟩
    · have hb : (f == a) = false := by simpa using hf
      simp only [List.lookup, hb] at h ⊢
      exact lookup_rep e rr h
theorem Wp.noexc {α β : Type} {K : PySem.W.Frag} {E E' : XK} {rep : List Addr → Hp → β → α → Prop} {S : List Addr} {F H : Hp} {r : Res α} {Q : β → Hp → Prop} (h : Wp K E rep S F H r Q) (hn : ∀ c fs R, r ≠ .exc c fs R) : Wp K E' rep S F H r Q := by
  cases r with
  | ok a R => exact h
  | exc c fs R => exact absurd rfl (hn c fs R)
  | bad => exact h
/-- a method's, a property's call -/
def gProp (c : Str) (f : List D → Rs → Res D) (g : G) : G := fun ρ R => (g ρ R).bind fun d R1 => match d with
  | .ins c' fs => if c' = c then f [.ins c' fs] R1 else .bad
  | _ => .bad
def gMeth (c m : Str) (n : Nat) (f : List D → Rs → Res D) (g : G) (gs : GA) : G := fun ρ R => (g ρ R).bind fun d R1 => match d with
  | .ins c' fs => if c' = c ∧ fs.lookup m = none then (gs ρ R1).bind fun ds R2 => if ds.length + 1 = n then f (.ins c' fs :: ds) R2 else .bad
    else .bad
  | _ => .bad
section
variable {X : Cx} {E : XK} {a b e o : Expr} {es : List Expr} {ga gb g : G} {gs : GA} {pos apos p : Pos} {n k : Nat} {f : List D → Rs → Res D} {c m fl : Str} {ps : List Str} {CX : CXT}
theorem ev_fld (cl : Cls X.K (He.ga X.K c)) (hn : NoAttr X.K (He.ga X.K c) fl) (he : Ev X E e g) (hb : attributeBase e fl X.env (eval e X.env) = eval e X.env := by rfl) : Ev X E (.Attribute e fl pos) (gFld c fl g) := pe_imp (pe_fld he hb) fun σ H Q ⟨S, F, ρ, R, v, h⟩ => by
  refine ⟨S, F, ρ, R, v, Wp.bind h fun x S1 F1 H1 dx R1 e1 c1 rx h1 => ?_⟩
  split at h1
  · split at h1
    · rename_i hc
      subst hc
      split at h1
      · rename_i u hu
        cases rx with
        | ins hf e rs =>
        obtain ⟨v, h2, h3⟩ := lookup_rep e rs hu
        exact ⟨_, _, _, _, v, rfl, e1.fh _ _ hf, cl, hn, h2, h1.now e1.fh c1 h3⟩
      · exact h1.elim
    · exact h1.elim
  · exact h1.elim
theorem ev_pr (M : PrB X.prog X.w X.K X.mg X.base CX k (He.ga X.K c) fl ps (spP X.K 1 f)) (cl : Cls X.K (He.ga X.K c)) (hr : Room (k + 1) X.A) (hx : Passes CX X.nox XF) (he : PE X e (tP X.K E g)) (hE : ∀ ds R c' fs R', f ds R ≠ .exc c' fs R')
    (hab : attributeBase e fl X.env (eval e X.env) = eval e X.env := by rfl) : Ev X E (.Attribute e fl pos) (gProp c f g) := pe_imp (pe_pr M cl hr hx he hab) fun σ H Q ⟨S, F, ρ, R, v, h⟩ => by
  refine ⟨S, F, ρ, R, v, Wp.bind h fun x S1 F1 H1 dx R1 e1 c1 rx h1 => ?_⟩
  split at h1
  · split at h1
    · rename_i hc
      subst hc
      cases rx with
      | ins hf e rs =>
      exact ⟨_, _, _, rfl, e1.fh _ _ hf, S1, F1, R1, [_], e1.fh, c1, .cons (.ins hf e rs) .nil, rfl, h1.noexc fun _ _ _ => hE _ _ _ _ _⟩
    · exact h1.elim
  · exact h1.elim
/-- x(..), x an instance -/
def gCallI (c : Str) (n : Nat) (f : List D → Rs → Res D) (g : G) (gs : GA) : G := fun ρ R => (g ρ R).bind fun d R1 => match d with
  | .ins c' fs => if c' = c then (gs ρ R1).bind fun ds R2 => if ds.length + 1 = n then f (.ins c' fs :: ds) R2 else .bad
    else .bad
  | _ => .bad
/-! ### == and != of instances of one class -/
def dEqI (c : Str) (neg : Bool) (f : List D → Rs → Res D) : D → D → Rs → Res D := fun x y R => match x, y with
  | .ins c1 fs, .ins c2 gs => if c1 = c ∧ c2 = c then (f [.ins c1 fs, .ins c2 gs] R).bind fun d R => match d with
    | .bl b => .ok (.bl (neg ^^ b)) R
    | _ => .bad
    else .bad
  | _, _ => .bad
/-! ### operators of instances -/
def dOwnB (c : Str) (f : List D → Rs → Res D) : D → D → Rs → Res D := fun x y R => match x, y with
  | .ins c1 fs, .ins c2 gs => if c1 = c ∧ c2 = c then f [.ins c1 fs, .ins c2 gs] R else .bad
  | _, _ => .bad
def dOwnT (c : Str) (f : List D → Rs → Res D) : D → D → Rs → Res D := fun x y R => match x, y with
  | .ins c1 fs, .int i => if c1 = c then f [.ins c1 fs, .int i] R else .bad
  | _, _ => .bad
def dOwnN (c : Str) (f : List D → Rs → Res D) : D → Rs → Res D := fun x R => match x with
  | .ins c1 fs => if c1 = c then f [.ins c1 fs] R else .bad
  | _ => .bad
end
end Pv

namespace Pv
open PySem PySem.Spec PyProof.Rows L2 Sr
/-! ### dicts -/
section
variable {κ : Type} [DecidableEq κ] {K : PySem.W.Frag} {F : Hp}
def valD (kvs : List (κ × D)) (k : κ) : Option D := (kvs.find? fun kv => decide (kv.1 = k)).map (·.2)
def putD (kvs : List (κ × D)) (k : κ) (v : D) : List (κ × D) :=
  if (kvs.any fun kv => decide (kv.1 = k)) = true then kvs.map (fun kv => if kv.1 = k then (kv.1, v) else kv) else kvs ++ [(k, v)]
/-- the same keys, values that stand for the data -/
def RepK (K : PySem.W.Frag) (F : Hp) (fs : List (κ × V)) (gs : List (κ × D)) : Prop := fs.map (·.1) = gs.map (·.1) ∧ Reps K F (fs.map (·.2)) (gs.map (·.2))
theorem RepK.nil : RepK K F ([] : List (κ × V)) [] := ⟨rfl, .nil⟩
theorem RepK.cons_iff {p : κ × V} {q : κ × D} {fs : List (κ × V)} {gs : List (κ × D)} : RepK K F (p :: fs) (q :: gs) ↔ (p.1 = q.1 ∧ Rep K F p.2 q.2) ∧ RepK K F fs gs := by
  constructor
  · rintro ⟨h1, h2⟩
    simp only [List.map_cons, List.cons.injEq] at h1
    cases h2 with
    | cons a b => exact ⟨⟨h1.1, a⟩, h1.2, b⟩
  · rintro ⟨⟨h1, h2⟩, h3, h4⟩
    exact ⟨by simp [h1, h3], .cons h2 h4⟩
theorem RepK.len {fs : List (κ × V)} {gs : List (κ × D)} (r : RepK K F fs gs) : fs.length = gs.length := by simpa using congrArg List.length r.1
theorem RepK.val {k : κ} : ∀ {fs : List (κ × V)} {gs : List (κ × D)}, RepK K F fs gs → (∀ d, valD gs k = some d → ∃ v, valV fs k = some v ∧ Rep K F v d) ∧ (valD gs k = none → valV fs k = none)
  | [], [], _ => ⟨fun d h => by simp [valD] at h, fun _ => rfl⟩
  | [], _ :: _, r => by have := r.len; simp at this
  | _ :: _, [], r => by have := r.len; simp at this
  | p :: fs, q :: gs, r => by
    obtain ⟨⟨h1, h2⟩, h3⟩ := RepK.cons_iff.mp r
    have ih := RepK.val (k := k) h3
    by_cases e : q.1 = k
    · have e' : p.1 = k := h1.trans e
      simp only [valD, valV, List.find?_cons, e, e', decide_true, Option.map_some]
      exact ⟨fun d h => by cases h; exact ⟨_, rfl, h2⟩, fun h => by cases h⟩
    · have e' : ¬ p.1 = k := fun z => e (h1.symm.trans z)
      simp only [valD, valV, List.find?_cons, e, e', decide_false] at ih ⊢
      exact ih
theorem RepK.any {k : κ} : ∀ {fs : List (κ × V)} {gs : List (κ × D)}, RepK K F fs gs → (fs.any fun kv => decide (kv.1 = k)) = (gs.any fun kv => decide (kv.1 = k))
  | [], [], _ => rfl
  | [], _ :: _, r => by have := r.len; simp at this
  | _ :: _, [], r => by have := r.len; simp at this
  | p :: fs, q :: gs, r => by
    obtain ⟨⟨h1, h2⟩, h3⟩ := RepK.cons_iff.mp r
    simp only [List.any_cons, h1, RepK.any h3]
theorem RepK.mapSet {k : κ} {v : V} {d : D} (hv : Rep K F v d) : ∀ {fs : List (κ × V)} {gs : List (κ × D)}, RepK K F fs gs → RepK K F (fs.map (fun kv => if kv.1 = k then (kv.1, v) else kv)) (gs.map (fun kv => if kv.1 = k then (kv.1, d) else kv))
  | [], [], _ => .nil
  | [], _ :: _, r => by have := r.len; simp at this
  | _ :: _, [], r => by have := r.len; simp at this
  | p :: fs, q :: gs, r => by
    obtain ⟨⟨h1, h2⟩, h3⟩ := RepK.cons_iff.mp r
    rw [List.map_cons, List.map_cons]
    refine RepK.cons_iff.mpr ⟨?_, RepK.mapSet hv h3⟩
    by_cases e : q.1 = k
    · have e' : p.1 = k := h1.trans e
      simp [e, e', hv]
    · have e' : ¬ p.1 = k := fun z => e (h1.symm.trans z)
      simp only [e, e', if_false]
      exact ⟨h1, h2⟩
theorem RepK.put {k : κ} {v : V} {d : D} (hv : Rep K F v d) {fs : List (κ × V)} {gs : List (κ × D)} (r : RepK K F fs gs) : RepK K F (putK fs k v) (putD gs k d) := by
  unfold putK putD
  rw [r.any]
  split
  · exact r.mapSet hv
  · refine ⟨by simp [r.1], ?_⟩
    rw [List.map_append, List.map_append]
    exact r.2.append (.cons hv .nil)
end
def keyOf : D → Option Key
  | .int i => some (.inl i)
  | .str x => some (.inr x)
  | _ => none
theorem keyOf_rep {K : PySem.W.Frag} {F : Hp} {v : V} {d : D} {k : Key} (r : Rep K F v d) (h : keyOf d = some k) : v = kV k := by
  cases r with
  | int i => cases h; rfl
  | str x => cases h; rfl
  | _ => cases h
def dDGet : D → D → Rs → Res D := fun x y R => match x with
  | .dic kvs => match keyOf y with
    | some k => match valD kvs k with
      | some d => .ok d R
      | none => .bad
    | none => .bad
  | _ => .bad
/-- d.get(k, x) -/
def gGet2 (gd gk gx : G) : G := fun ρ R => (gd ρ R).bind fun x R1 => match x with
  | .dic kvs => (gk ρ R1).bind fun y R2 => (gx ρ R2).bind fun z R3 => match keyOf y with
    | some k => .ok ((valD kvs k).getD z) R3
    | none => .bad
  | _ => .bad
section
variable {X : Cx} {E : XK} {o i a e f : Expr} {gd gk gx g : G} {gs : GA} {pos apos cpos : Pos} {own ol : List Nat}
theorem ev_dget (hu : X.A.units + 1 < cLine) (ho : Ev X E o gd) (hi : Ev X E i gk) (hs : NoSl i) : Ev X E (.Subscript o i pos) (gOp dDGet gd gk) := pe_imp (pe_dget hu ho hi hs) fun σ H Q ⟨S, F, ρ, R, v, h⟩ => by
  refine ⟨S, F, ρ, R, v, Wp.bind h fun x S1 F1 H1 dx R1 e1 c1 rx h1 => ?_⟩
  refine ⟨S1, F1, ρ, R1, v.ext e1 c1, Wp.bind h1 fun y S2 F2 H2 dy R2 e2 c2 ry h2 => ?_⟩
  unfold dDGet at h2
  split at h2
  · split at h2
    · rename_i k hk
      split at h2
      · rename_i d hd
        cases rx with
        | dic hf e rs =>
        obtain ⟨u, g1, g2⟩ := (RepK.val (k := k) ⟨e, rs⟩).1 d hd
        exact ⟨_, u, rfl, .inl ⟨_, k, rd_mono e2.fh (rd_mono e2.f hf), keyOf_rep ry hk, g1.symm⟩, h2.now e2.fh c2 (e2.rep g2)⟩
      · exact h2.elim
    · exact h2.elim
  · exact h2.elim
def gDNew : G := fun _ R => .ok (.dic []) R
theorem evf_dnew : EvF X E (.Dict [] [] pos) gDNew := pe_imp pe_dnewK fun σ H Q ⟨S, F, ρ, R, v, h⟩ => fun p hp => h.new v.fh v.cells (.dic rfl .nil) hp
/-- x[k] = e, x an owned dict -/
def gDSet (m : Md) (own : List Nat) (i : Nat) (gk g : G) : GS := fun ρ R => (g (see m own ρ) R).out fun d R1 => if okM m d R1 && own.contains i then match ρ[i]? with
  | some (some (.dic kvs)) => (gk (see m own ρ) R1).out fun y R2 => match keyOf y with
    | some k => if okR m R2 && decide (kvs.length < sizeLine) then .nx (ρ.set i (some (.dic (putD kvs k d)))) R2 else .bad
    | none => .bad
  | _ => .bad
  else .bad
theorem SIn.dicAt {K : PySem.W.Frag} {S0 S : List Addr} {F0 H0 F H : Hp} {ρ : PEnv} {R : Rs} {σ : L2.St} {i : Nat} {ds : List (Key × D)} (s : SIn K S0 F0 H0 own ρ R σ S F H) (hi : i ∈ own) (h : ρ[i]? = some (some (.dic ds))) : ∃ a xs, σ[i]? = some (some (.ref a)) ∧ H a = some (.dK xs) ∧ RepK K F xs ds := by
  obtain ⟨v, h1, a, o, rfl, h3, h4, h5, h6, h7⟩ := s.ow i hi _ h
  cases h4 with
  | dic e r => exact ⟨a, _, h1, h3, e, r⟩
theorem WpS.low {K : PySem.W.Frag} {S0 : List Addr} {F0 F1 H0 : Hp} {out : Out} {Dn : Ends} (h : WpS K E S0 F0 H0 own ol out Dn) (h01 : Same F0 F1) (hn : ∀ b u, H0 b = some u → F0 b = none → F1 b = none) : WpS K E S0 F1 H0 own ol out Dn := by
  cases out with
  | nx ρ R => exact fun σ H ⟨S, F, s⟩ => h σ H ⟨S, F, s.up h01 hn⟩
  | bk ρ R => exact fun σ H ⟨S, F, s⟩ => h σ H ⟨S, F, s.up h01 hn⟩
  | ct ρ R => exact fun σ H ⟨S, F, s⟩ => h σ H ⟨S, F, s.up h01 hn⟩
  | rt d R => exact fun v S F H e c r => h v S F H (e.up h01 hn) c r
  | rf d R => exact fun a o S F H e c => h a o S F H (e.up h01 hn) c
  | exc c fs R => exact fun v S F H e c r => h v S F H (e.up h01 hn) c r
  | bad => exact h
theorem st_dset (m : Md) {j : Nat} (hu : X.A.units + 1 < cLine) (ho : PE X o (tVar j)) (hi : Ev X E i gk) (he : Ev X E e g) {ppos : Pos}
    (hg : ∀ {t : TSet}, PSet X t → PG X (.Subscript o i ppos) (L2.gSub (tVar j) (tP X.K E gk) t))
    (hs : swapsWithSole [.Subscript o i ppos] e pos.line X.env = pure false := by rfl) (hw : swappedStores [.Subscript o i ppos] e X.env = pure none := by rfl) (h1 : (assignEach [.Subscript o i ppos] X.env).map (·.2) = [assign (.Subscript o i ppos) X.env] := by rfl) :
    Stm X E own own ol (.Assign [.Subscript o i ppos] e pos) (gDSet m own j gk g) := ps_imp (ps_asg he (hg (set_dict hu)) hs hw h1) fun Dn σ H ⟨S0, F0, H0, ρ, R, s, h⟩ => by
  refine see_wp rfl s h fun v d R1 S F S1 F1 H1 s ef eg c r _ h1 => ?_
  split at h1
  · rename_i hc
    simp only [Bool.and_eq_true, List.contains_eq_mem, decide_eq_true_eq] at hc
    obtain ⟨F2, s2, r2⟩ := s.seen ef eg c r hc.1
    split at h1
    · rename_i kvs hkvs
      obtain ⟨a, xs, g1, g2, g3⟩ := s2.dicAt hc.2 hkvs
      refine ⟨_, g1, see_wp rfl ⟨_, _, s2.low s2.ext.f (.refl F2)⟩ (h1.low s2.ext.f s2.ext.nw) fun y dy R2 S3 F3 S4 F4 H4 s3 ef3 eg3 c3 ry _ h2 => ?_⟩
      split at h2
      · rename_i k hk
        split at h2
        · rename_i hc2
          simp only [Bool.and_eq_true, decide_eq_true_eq] at hc2
          obtain ⟨F5, s5, hF5⟩ := s3.seenR ef3 eg3 c3 hc2.1
          obtain ⟨b, ys, q1, q2, q3⟩ := s5.dicAt hc.2 hkvs
          have e1 := g1.symm.trans q1
          cases e1
          exact ⟨_, _, rfl, .inl ⟨ys, k, q2, keyOf_rep ry hk, by rw [q3.len]; exact hc2.2, rfl⟩, h2 _ _ ⟨_, _, s5.put hc.2 hkvs q1 (let z := RepK.put (k := k) (r2.mono s5.ext.f) q3; .dic z.1 z.2)⟩⟩
        · exact h2.elim
      · exact h2.elim
    · exact h1.elim
  · exact h1.elim
end
end Pv

namespace Pv
open PySem PySem.Spec PyProof.Rows L2 Sr
/-! ### known tuples -/
def dArm : List D → Rs → Res D := fun xs R => if xs.length ≤ sizeLine then .ok (.arm xs) R else .bad
def gArm (gs : GA) : G := fun ρ R => (gs ρ R).bind dArm
section
variable {X : Cx} {E : XK} {a b e : Expr} {es : List Expr} {ga gb g : G} {gs : GA} {pos : Pos} {own ol : List Nat}
def dTupA : List D → Rs → Res D := fun ds R => match ds with
  | [.lst xs] => .ok (.arm xs) R
  | _ => .bad
/-! ### == of data -/
mutual
def D.pd : D → Option PyData
  | .non => some .none
  | .bl b => some (.bool b)
  | .int i => some (.int i)
  | .str x => some (.str x)
  | .tup xs => (pdL xs).map .tuple
  | .arm xs => (pdL xs).map .tuple
  | .lst xs => (pdL xs).map .list
  | _ => none
def pdL : List D → Option (List PyData)
  | [] => some []
  | d :: r => match d.pd, pdL r with
    | some a, some as => some (a :: as)
    | _, _ => none
end
mutual
theorem pd_rep {K : PySem.W.Frag} {F H : Hp} (hs : Same F H) : ∀ {v : V} {d : D} {p : PyData}, Rep K F v d → d.pd = some p → Dp K H v p
  | _, _, _, .non, h => by cases h; exact .non
  | _, _, _, .bl b, h => by cases h; exact .bl b
  | _, _, _, .int i, h => by cases h; exact .int i
  | _, _, _, .str x, h => by cases h; exact .str x
  | _, _, _, .tup (ds := ds) hf r, h => by
    simp only [D.pd] at h
    obtain ⟨ps, h1, rfl⟩ := Option.map_eq_some_iff.mp h
    exact .tup (.of (hs _ _ hf)) (pdL_rep hs r h1)
  | _, _, _, .arm (ds := ds) hf _ r, h => by
    simp only [D.pd] at h
    obtain ⟨ps, h1, rfl⟩ := Option.map_eq_some_iff.mp h
    exact .tup (.inl (.inr ⟨_, hs _ _ hf⟩)) (pdL_rep hs r h1)
  | _, _, _, .lst (ds := ds) hf r, h => by
    simp only [D.pd] at h
    obtain ⟨ps, h1, rfl⟩ := Option.map_eq_some_iff.mp h
    exact .lst (.of (hs _ _ hf)) (pdL_rep hs r h1)
  | _, _, _, .ins _ _ _, h => by simp [D.pd] at h
  | _, _, _, .dic _ _ _, h => by simp [D.pd] at h
  | _, _, _, .dit _ _ _, h => by simp [D.pd] at h
  | _, _, _, .ty _, h => by simp [D.pd] at h
  | _, _, _, .cls _, h => by simp [D.pd] at h
theorem pdL_rep {K : PySem.W.Frag} {F H : Hp} (hs : Same F H) : ∀ {vs : List V} {ds : List D} {ps : List PyData}, Reps K F vs ds → pdL ds = some ps → DpAll K H vs ps
  | _, _, _, .nil, h => by simp [pdL] at h; subst h; exact .nil
  | _, _, ps, .cons r rr, h => by
    simp only [pdL] at h
    split at h
    · rename_i a as h1 h2
      cases h
      exact .cons (pd_rep hs r h1) (pdL_rep hs rr h2)
    · cases h
end
def dEqD (neg : Bool) : D → D → Rs → Res D := fun x y R => match x.pd, y.pd with
  | some a, some b => if SeqAt.shaped a && SeqAt.shaped b then .ok (.bl (neg ^^ PyData.eqv a b)) R else .bad
  | _, _ => .bad
theorem o_eqD (hu : X.A.units + 64 < cLine) : OpR X (compareOp .Eq) (rEqD X.K) ∧ OpD X.K E (rEqD X.K) (dEqD false) := ⟨op_eqD hu, fun S F H R x y dx dy Q hs c rx ry h => by
  unfold dEqD at h
  split at h
  · rename_i p q h1 h2
    split at h
    · rename_i hh
      simp only [Bool.and_eq_true] at hh
      exact ⟨p, q, pd_rep hs rx h1, pd_rep hs ry h2, hh.1, hh.2, by simpa using h.now hs c (.bl _)⟩
    · exact h.elim
  · exact h.elim⟩
end
end Pv

namespace Pv
open PySem PySem.Spec PyProof.Rows L2 Sr
/-! ### defs whose first argument is a mutable cell -/
def spL (K : PySem.W.Frag) (n : Nat) (f : Nat → List D → Rs → Res D) : Sp := fun vs H Q E => ∃ S F R l a us ds, vs = V.ref a :: us ∧ S[l]? = some a ∧ Same F H ∧ Cells K S F H R ∧ Reps K F us ds ∧ ds.length + 1 = n ∧ Wp K E (fun _ F v d => Rep K F v d) S F H (f l ds R) Q
theorem spL_len {K : PySem.W.Frag} {n : Nat} {f : Nat → List D → Rs → Res D} (vs : List V) (H : Hp) (Q : VK) (E : XK) (h : spL K n f vs H Q E) : vs.length = n := by
  obtain ⟨S, F, R, l, a, us, ds, rfl, _, _, _, r, hl, _⟩ := h
  rw [List.length_cons, r.length]; exact hl
def startL (n l : Nat) (ds : List D) : PEnv := some (.loc l) :: startD (n - 1) ds
def runL (n : Nat) (g : GS) : Nat → List D → Rs → Res D := fun l ds R => out1 (g (startL n l ds) R)
section
variable {K : PySem.W.Frag} {S : List Addr} {F H : Hp} {R : Rs} {E : XK} {Q : VK}
theorem sin_startL {n l : Nat} {a : Addr} {ds : List D} {vs : List V} {N : List Str} {own : List Nat} (hN : N.length = n) (hn : 0 < n) (ho : ∀ i ∈ own, ds.length + 1 ≤ i) (hs : Same F H) (c : Cells K S F H R) (hl : S[l]? = some a) (r : Reps K F vs ds) : SIn K S F H own (startL n l ds) R (L2.start N (.ref a :: vs)) S F H := by
  have hst : ∀ x, L2.start N (x :: vs) = some x :: L2.start (N.drop 1) vs := fun x => by
    unfold L2.start
    simp only [List.map_cons, List.cons_append, List.length_cons, List.length_drop]
    congr 3
    omega
  have hN1 : (N.drop 1).length = n - 1 := by simp [hN]
  have key : ∀ (i : Nat) (d : D), (startL n l ds)[i]? = some (some d) → i < ds.length + 1 ∧ ∃ v, (L2.start N (.ref a :: vs))[i]? = some (some v) ∧ RepV K S F v d := fun i d h => by
    rw [hst]
    cases i with
    | zero =>
      cases h
      exact ⟨by omega, _, rfl, .inr (.inl ⟨l, a, rfl, rfl, hl⟩)⟩
    | succ i =>
      have h : (startD (n - 1) ds)[i]? = some (some d) := h
      obtain ⟨h0, v, h1, h2⟩ := startD_get hN1 r h
      exact ⟨by omega, v, by simpa using h1, .inl h2⟩
  refine ⟨.refl hs, c, fun i d h _ => (key i d h).2, fun i hi d h => ?_, fun i hi j hj d d' v h1 => ?_, ?_⟩
  · have := (key i d h).1
    have := ho i hi
    omega
  · have := (key i d h1).1
    have := ho i hi
    omega
  · rw [hst]
    unfold startL startD L2.start
    simp [r.length, hN]
end
section
variable {fa : List He.Fa} {fn : List He.DefD} {gt : List PropD} {ex : PySem.W.Frag → Bool} {K : PySem.W.Frag} {mg : Str → Option Value} {P : Program} {w : World} {base : Heap}
theorem BodyP.okL {k n : Nat} {N ps : List Str} {q : Str} {st : Stmt} {own own' : List Nat} {g : GS} (B : BodyP P w K mg base k N q st own own' g) (hn : N.length = n) (hp : 0 < n) (ho : ∀ i ∈ own, ps.length ≤ i) {f : Addr} {cdv : Value} {A : Around} {outer : List Env} {s : Shared} {H : Hp} {vs : List V} {Q : VK} {E : XK}
    (hr : Room k (A.deeper (envOfC q (defScope st) s.heap.objs.size f cdv))) (h : spL K ps.length (runL n g) vs H Q E) :
    ∃ t, PSs (cxOf (L2.CX P w) P w K mg base N q (defScope st) f cdv A outer s H E) (defBody st) t ∧ t { nx := fun _ H' => Q .non H', rt := Q } (L2.start N vs) H := by
  obtain ⟨S, F, R, l, a, us, ds, rfl, e1, hs, c, r, hl, h⟩ := h
  exact ⟨_, B f cdv A outer s H E hr, S, F, H, _, R, ⟨S, F, sin_startL hn hp (fun i hi => by rw [hl]; exact ho i hi) hs c e1 r⟩, body_wp h⟩
theorem fnL {N ps : List Str} {k n : Nat} {x : Str} {own own' : List Nat} {g : GS} (st : Stmt) (S : Say fa fn gt ex K mg) (i j : Nat) (hd : fn[i]? = some ⟨(x, none), x, x, defArgs st, defBody st, defScope st, [], []⟩) (hg : fa[j]? = some (.glo x)) (SC : FnScope N ps (defScope st))
    (hb : ∀ (kV doc pm : Value) (an : Option Addr) (cdv ct : Value) (us : List Value), us.length = ps.length → bindArgs (PySem.W.fnOf x x (defArgs st) (defBody st) (defScope st) .none kV doc pm an cdv ct) ⟨us, []⟩ = pure (ps.zip us))
    (hn : N.length = n) (hp : 0 < n) (ho : ∀ i ∈ own, ps.length ≤ i) (B : BodyP P w K mg base k N x st own own' g) : Fn P w K mg base (L2.CX P w) (k + 1) x ps (spL K ps.length (runL n g)) := by
  obtain ⟨fd, F⟩ := S.c.def_ i hd
  exact ⟨_, fd, S.glo j hg, F.kp, F.bindsN hb, F.ok SC spL_len fun cdv A outer s H vs Q E hr h => B.okL hn hp ho hr h, F.at_⟩
theorem meL {N ps : List Str} {k n : Nat} {c m q : Str} {own own' : List Nat} {g : GS} (st : Stmt) (S : Say fa fn gt ex K mg) (i j : Nat) (hd : fn[i]? = some ⟨(c, some m), m, q, defArgs st, defBody st, defScope st, [], []⟩) (hg : fa[j]? = some (.meth c m)) (SC : FnScope N ps (defScope st))
    (hb : ∀ (kV doc pm : Value) (an : Option Addr) (cdv ct : Value) (us : List Value), us.length = ps.length → bindArgs (PySem.W.fnOf m q (defArgs st) (defBody st) (defScope st) .none kV doc pm an cdv ct) ⟨us, []⟩ = pure (ps.zip us))
    (hn : N.length = n) (hp : 0 < n) (ho : ∀ i ∈ own, ps.length ≤ i) (B : BodyP P w K mg base k N q st own own' g) : MeB P w K mg base (L2.CX P w) (k + 1) (He.ga K c) m ps (spL K ps.length (runL n g)) := by
  obtain ⟨fd, F⟩ := S.c.def_ i hd
  have M := He.meth_ok (S.c.fact j hg)
  exact ⟨_, fd, M.at_, M.fn, M.kp, F.bindsN hb, F.ok SC spL_len fun cdv A outer s H vs Q E hr h => B.okL hn hp ho hr h⟩
end
/-- f(x, ..), x a slot that holds a mutable cell -/
def gCallL (i n : Nat) (f : Nat → List D → Rs → Res D) (gs : GA) : G := fun ρ R => match ρ[i]? with
  | some (some (.loc l)) => (gs ρ R).bind fun ds R1 => if ds.length + 1 = n then f l ds R1 else .bad
  | _ => .bad
section
variable {X : Cx} {E : XK} {a b e o : Expr} {es : List Expr} {ga gb g : G} {gs : GA} {pos p : Pos} {n k : Nat} {x : Str} {ps : List Str} {CX : CXT} {own ol : List Nat}
theorem loc_get {K : PySem.W.Frag} {S : List Addr} {F H : Hp} {ρ : PEnv} {R : Rs} {σ : L2.St} {i l : Nat} (v : View K S F H ρ R σ) (h : ρ[i]? = some (some (.loc l))) : ∃ a, σ[i]? = some (some (.ref a)) ∧ S[l]? = some a := by
  obtain ⟨u, h1, h2⟩ := v.env i _ h
  rcases h2 with h2 | ⟨m, a, e1, e2, e3⟩ | h2
  · cases h2
  · cases e1
    subst e2
    exact ⟨a, h1, e3⟩
  · cases h2
theorem tCallL_of {K : PySem.W.Frag} {i : Nat} {f : Nat → List D → Rs → Res D} {σ : L2.St} {H : Hp} {Q : VK} (h : tP K E (gCallL i n f gs) σ H Q) : tCall (spL K n f) [] E (tCons (tVar i) (tPA K E gs)) σ H Q := by
  obtain ⟨S, F, ρ, R, v, h⟩ := h
  unfold gCallL at h
  split at h
  · rename_i l hl
    obtain ⟨a, h1, h2⟩ := loc_get v hl
    refine ⟨_, h1, S, F, ρ, R, v, Wp.bind h fun xs S1 F1 H1 ds R1 e1 c1 rx h1 => ?_⟩
    show spL K n f ((V.ref a :: xs) ++ []) H1 Q E
    rw [List.append_nil]
    split at h1
    · rename_i hn
      exact ⟨S1, F1, R1, l, a, xs, ds, rfl, pre_get e1.s h2, e1.fh, c1, rx, hn, h1⟩
    · exact h1.elim
  · exact h.elim
theorem ev_fnL {i : Nat} {f : Nat → List D → Rs → Res D} (F : Fn X.prog X.w X.K X.mg X.base CX k x ps (spL X.K n f)) (hr : Room k X.A) (hx : Passes CX X E) (ho : PE X e (tVar i)) (ha : EvA X E es gs) (hg : Gl X x := by rfl) (hdb : (x == ("__debug__" : Str)) = false := by decide)
    (he : starEach (e :: es) X.env = (false, eval e X.env) :: starEach es X.env := by rfl) (hpl : (backTo pos (starEach es X.env)).any (·.1) = false := by rfl) :
    Ev X E (.Call (.Name x p) (e :: es) [] pos) (gCallL i n f gs) := pe_imp (pe_fn F hr hx (pa_cons ho ha he) hg hdb he hpl) fun _ _ _ => tCallL_of
/-! ### C(..): a new instance, frozen behind its __init__ -/
def mkEnd (c : Str) (m : Nat) (r : Res D) : Res D := match r with
  | .ok .non R2 => match R2.getLast? with
    | some (.ins c' fs) => if R2.length = m + 1 ∧ c' = c then .ok (.ins c fs) R2.dropLast else .bad
    | _ => .bad
  | .exc e fs R2 => if R2.length = m + 1 then .exc e fs R2.dropLast else .bad
  | _ => .bad
def gMk (c : Str) (n : Nat) (f : Nat → List D → Rs → Res D) (gs : GA) : G := fun ρ R => (gs ρ R).bind fun ds R1 => if ds.length + 1 = n then mkEnd c R1.length (f R1.length ds (R1 ++ [.ins c []])) else .bad
theorem Cells.snoc {K : PySem.W.Frag} {S : List Addr} {F H : Hp} {R : Rs} (c : Cells K S F H R) {x dx : Addr} {C : Str} (hs : Same F H) (hx : H x = none) (hd : H dx = none) (hne : dx ≠ x) : Cells K (S ++ [x]) F (L2.upd (L2.upd H dx (.own x)) x (.ins (He.ga K C) dx [])) (R ++ [.ins C []]) := by
  refine ⟨by simp [c.len], fun i a d h1 h2 => ?_, ?_, fun i a h2 => ?_⟩
  · by_cases hi : i < S.length
    · rw [List.getElem?_append_left hi] at h1
      rw [List.getElem?_append_left (by rw [← c.len]; exact hi)] at h2
      obtain ⟨n, o, h3, h4⟩ := c.at_ i a d h1 h2
      exact ⟨n, o, by rw [upd_ne (ne_of_none h3 hx), upd_ne (ne_of_none h3 hd)]; exact h3, h4⟩
    · rw [List.getElem?_append_right (by omega)] at h1
      rw [List.getElem?_append_right (by rw [← c.len]; omega)] at h2
      have hi2 : i - S.length = 0 := by
        have := (List.getElem?_eq_some_iff.mp h1).1
        simp at this; omega
      have hi3 : i - R.length = 0 := by rw [← c.len]; exact hi2
      rw [hi2] at h1
      rw [hi3] at h2
      cases h1
      cases h2
      exact ⟨hs.free hx, _, upd_same, .ins rfl .nil⟩
  · refine List.nodup_append.mpr ⟨c.nd, by simp, fun a ha b hb => ?_⟩
    have : b = x := by simpa using hb
    subst this
    obtain ⟨_, o, ho⟩ := c.has ha
    exact fun z => by rw [z, hx] at ho; cases ho
  · by_cases hi : i < R.length
    · rw [List.getElem?_append_left hi] at h2
      obtain ⟨z1, z2, z3⟩ := c.tb i a h2
      exact ⟨z1, by rw [List.getElem?_append_left (List.getElem?_eq_some_iff.mp z2).1]; exact z2, by rw [List.getElem?_append_left (List.getElem?_eq_some_iff.mp z3).1]; exact z3⟩
    · rw [List.getElem?_append_right (by omega)] at h2
      rcases hk : i - R.length with _ | k <;> rw [hk] at h2 <;> simp at h2
theorem ext_snoc {S S2 : List Addr} {F F2 H H2 : Hp} {x dx : Addr} {C : Addr} (hx : H x = none) (hd : H dx = none) (e : Ext (S ++ [x]) F (upd (upd H dx (.own x)) x (.ins C dx [])) S2 F2 H2) : S <+: S2 ∧ Same F F2 ∧ Same F2 H2 ∧ (∀ b u, H b = some u → b ∉ S → H2 b = some u) ∧ (∀ b u, H b = some u → ∃ u', H2 b = some u') ∧ (∀ b u, H b = some u → F b = none → F2 b = none) := by
  have keep : ∀ b u, H b = some u → (upd (upd H dx (.own x)) x (.ins C dx [])) b = some u := fun b u h => by rw [upd_ne (ne_of_none h hx), upd_ne (ne_of_none h hd)]; exact h
  refine ⟨(List.prefix_append _ _).trans e.s, e.f, e.fh, fun b u h hb => e.fr b u (keep b u h) (fun z => ?_), fun b u h => e.th b u (keep b u h), fun b u h n => e.nw b u (keep b u h) n⟩
  rcases List.mem_append.mp z with z | z
  · exact hb z
  · have : b = x := by simpa using z
    rw [this, hx] at h; cases h
theorem prefix_len {S S2 : List Addr} {x : Addr} (h : S ++ [x] <+: S2) (hl : S2.length = S.length + 1) : S2 = S ++ [x] := by
  obtain ⟨t, ht⟩ := h
  have : t = [] := by
    have := congrArg List.length ht
    simp at this
    exact List.eq_nil_of_length_eq_zero (by omega)
  rw [this, List.append_nil] at ht
  exact ht.symm
theorem Cells.drop {K : PySem.W.Frag} {S : List Addr} {F H : Hp} {R : Rs} {x : Addr} (c : Cells K (S ++ [x]) F H R) {F' : Hp} (hF : Same F F') (hn : ∀ b ∈ S, F' b = none) : Cells K S F' H R.dropLast := by
  have hl := c.len
  simp at hl
  have hb : ∀ (i : Nat) (a : Addr), R.dropLast[i]? = some (.tab a) → i = 1 ∧ S[0]? = some a ∧ S[1]? = some (tabP K) := fun i a h2 => by
    have hi : i < S.length := by
      have := (List.getElem?_eq_some_iff.mp h2).1
      simp at this; omega
    rw [List.dropLast_eq_take, List.getElem?_take] at h2
    split at h2
    · obtain ⟨z1, z2, z3⟩ := c.tb i a h2
      subst z1
      exact ⟨rfl, by rw [List.getElem?_append_left (by omega)] at z2; exact z2, by rw [List.getElem?_append_left hi] at z3; exact z3⟩
    · cases h2
  refine ⟨by simp [← hl], fun i a d h1 h2 => ?_, (List.nodup_append.mp c.nd).1, hb⟩
  have hi : i < S.length := (List.getElem?_eq_some_iff.mp h1).1
  have h2' : R[i]? = some d := by
    rw [List.dropLast_eq_take, List.getElem?_take] at h2
    split at h2
    · exact h2
    · cases h2
  obtain ⟨n, o, h3, h4⟩ := c.at_ i a d (by rw [List.getElem?_append_left hi]; exact h1) h2'
  exact ⟨hn a (List.mem_of_getElem? h1), o, h3, h4.mono hF⟩
theorem ev_mk {c : Str} {f : Nat → List D → Rs → Res D} (M : MeB X.prog X.w X.K X.mg X.base CX k (He.ga X.K c) "__init__" ps (spL X.K n f)) (hmk : PySem.W.makesIn X.K (He.ga X.K c) = true) (hkc : PySem.W.keepIn X.K (.ref (He.ga X.K c)) = true) (hm : X.mg x = some (.ref (He.ga X.K c))) (hr : Room (k + 1) X.A) (hx : Passes CX X E) (ha : EvA X E (e :: es) gs)
    (hg : Gl X x := by rfl) (hdb : (x == ("__debug__" : Str)) = false := by decide)
    (he : starEach (e :: es) X.env = (false, eval e X.env) :: starEach es X.env := by rfl) (hpl : (backTo pos (starEach es X.env)).any (·.1) = false := by rfl) :
    Ev X E (.Call (.Name x p) (e :: es) [] pos) (gMk c n f gs) := pe_imp (pe_mk M hmk hkc hm hr hx ha hg hdb he hpl) fun σ H Q ⟨S, F, ρ, R, v, h⟩ => by
  refine ⟨S, F, ρ, R, v, Wp.bind h fun vs S1 F1 H1 ds R1 e1 c1 rx h1 => fun x dx hx hd hne => ?_⟩
  rw [List.append_nil]
  split at h1
  · rename_i hn
    have hlen := c1.len
    refine ⟨S1 ++ [x], F1, R1 ++ [.ins c []], R1.length, x, vs, ds, rfl, by rw [List.getElem?_append_right (by omega)]; simp [hlen], ?_, c1.snoc e1.fh hx hd hne, rx, hn, ?_⟩
    · exact fun b u q => by
        have q' := e1.fh b u q
        rw [upd_ne (ne_of_none q' hx), upd_ne (ne_of_none q' hd)]; exact q'
    cases q : f R1.length ds (R1 ++ [.ins c []]) with
    | bad => rw [q] at h1; exact h1
    | exc ec fs R2 =>
      rw [q] at h1
      simp only [mkEnd] at h1
      split at h1
      · rename_i hl2
        intro d S2 F2 H2 e2 c2 hx2
        obtain ⟨g1, g2, g3, g4, g5, g6⟩ := ext_snoc hx hd e2
        have hS2 := prefix_len e2.s (by rw [c2.len, hl2, hlen])
        subst hS2
        have hS1 : ∀ b ∈ S1, F2 b = none := fun b hb => (c2.has (List.mem_append_left _ hb)).1
        refine h1 d S1 F2 H2 ⟨List.prefix_refl _, g2, g3, g4, g5, g6, fun b z1 z2 => absurd z1 z2⟩ (c2.drop (.refl _) hS1) ?_
        cases hx2 with
        | no => exact .no
        | at_ a1 a2 a3 => exact .at_ a1 a2 a3
      · exact h1.elim
    | ok d R2 =>
      rw [q] at h1
      cases d with
      | non =>
        simp only [mkEnd] at h1
        split at h1
        · rename_i c' fs hlast
          split at h1
          · rename_i hc
            obtain ⟨hl2, rfl⟩ := hc
            intro b S2 F2 H2 e2 c2 rb
            cases rb
            refine ⟨rfl, ?_⟩
            obtain ⟨g1, g2, g3, g4, g5, g6⟩ := ext_snoc hx hd e2
            have hS2 := prefix_len e2.s (by rw [c2.len, hl2, hlen])
            subst hS2
            have hR2 : R2[S1.length]? = some (.ins c' fs) := by
              rw [List.getLast?_eq_getElem?] at hlast
              rw [← hlast, hl2, hlen]; rfl
            obtain ⟨n1, o, n3, n4⟩ := c2.at_ S1.length x (.ins c' fs) (by rw [List.getElem?_append_right (Nat.le_refl _)]; simp) hR2
            have hxS : x ∉ S1 := c1.fresh hx
            have hS1 : ∀ b ∈ S1, (upd F2 x o) b = none := fun b hb => by
              have hbx : b ≠ x := fun z => hxS (by rw [← z]; exact hb)
              rw [upd_ne hbx]; exact (c2.has (List.mem_append_left _ hb)).1
            refine h1 _ S1 (upd F2 x o) H2 ⟨List.prefix_refl _, ?_, ?_, g4, g5, ?_, fun b z1 z2 => absurd z1 z2⟩ (c2.drop (same_upd n1) hS1) ((n4.mono (same_upd n1)).rep upd_same)
            · exact fun b u z => by rw [upd_ne (ne_of_none (g2 b u z) n1)]; exact g2 b u z
            · exact fun b u z => by
                by_cases hb : b = x
                · subst hb; rw [upd_same] at z; cases z; exact n3
                · rw [upd_ne hb] at z; exact g3 b u z
            · exact fun b u z1 z2 => by rw [upd_ne (ne_of_none z1 hx)]; exact g6 b u z1 z2
          · exact h1.elim
        · exact h1.elim
      | _ => exact h1.elim
  · exact h1.elim
/-! ### fields of a mutable instance -/
def putFD (f : Str) (v : D) : List (Str × D) → List (Str × D)
  | [] => [(f, v)]
  | (g, x) :: r => if g = f then (g, v) :: r else (g, x) :: putFD f v r
theorem putF_rep {K : PySem.W.Frag} {F : Hp} {f : Str} {v : V} {d : D} (hv : Rep K F v d) : ∀ {fs : List (Str × V)} {gs : List (Str × D)}, RepK K F fs gs → RepK K F (putF f v fs) (putFD f d gs)
  | [], [], _ => ⟨rfl, .cons hv .nil⟩
  | [], _ :: _, r => by have := r.len; simp at this
  | _ :: _, [], r => by have := r.len; simp at this
  | (a, x) :: fs, (b, y) :: gs, r => by
    obtain ⟨⟨h1, h2⟩, h3⟩ := RepK.cons_iff.mp r
    have h1 : a = b := h1
    subst h1
    unfold putF putFD
    by_cases e : a = f
    · rw [if_pos e, if_pos e]; exact RepK.cons_iff.mpr ⟨⟨rfl, hv⟩, h3⟩
    · rw [if_neg e, if_neg e]; exact RepK.cons_iff.mpr ⟨⟨rfl, h2⟩, putF_rep hv h3⟩
/-- x.f = e, x a slot with a mutable instance of the class c -/
def gStF (m : Md) (own : List Nat) (i : Nat) (c f : Str) (g : G) : GS := fun ρ R => (g (see m own ρ) R).out fun d R1 => if okM m d R1 then match (hide own ρ)[i]? with
  | some (some (.loc l)) => match R1[l]? with
    | some (.ins c' fs) => if c' = c ∧ fs.length < 1000 then .nx ρ (R1.set l (.ins c (putFD f d fs))) else .bad
    | _ => .bad
  | _ => .bad
  else .bad
theorem Cells.set {K : PySem.W.Frag} {S : List Addr} {F H : Hp} {R : Rs} (cc : Cells K S F H R) {l : Nat} {a : Addr} {o : HO} {d : D} (ha : S[l]? = some a) (r : RepO K F o d) (hd : ∀ a0, d = .tab a0 → l = 1 ∧ S[0]? = some a0 ∧ a = tabP K) : Cells K S F (L2.upd H a o) (R.set l d) := by
  refine ⟨by simp [cc.len], fun i b d' h1 h2 => ?_, cc.nd, fun i b h2 => ?_⟩
  rotate_left
  · by_cases e : l = i
    · subst e
      rw [List.getElem?_set] at h2
      simp only [if_true] at h2
      split at h2
      · obtain ⟨z1, z2, z3⟩ := hd b (Option.some.inj h2)
        subst z1
        exact ⟨rfl, z2, by rw [← z3]; exact ha⟩
      · cases h2
    · rw [List.getElem?_set_ne e] at h2
      exact cc.tb i b h2
  by_cases e : l = i
  · subst e
    rw [ha] at h1
    cases h1
    rw [List.getElem?_set] at h2
    simp only [if_true] at h2
    split at h2
    · cases h2
      exact ⟨(cc.has (List.mem_of_getElem? ha)).1, _, upd_same, r⟩
    · cases h2
  · rw [List.getElem?_set_ne e] at h2
    obtain ⟨n, u, h3, h4⟩ := cc.at_ i b d' h1 h2
    have hne : b ≠ a := fun z => by
      obtain ⟨hl1, e1⟩ := List.getElem?_eq_some_iff.mp ha
      obtain ⟨hl2, e2⟩ := List.getElem?_eq_some_iff.mp h1
      exact e ((List.getElem_inj cc.nd).mp (e1.trans (z.symm.trans e2.symm)))
    exact ⟨n, u, by rw [upd_ne hne]; exact h3, h4⟩
theorem SIn.putC {K : PySem.W.Frag} {S0 S : List Addr} {F0 H0 F H : Hp} {ρ : PEnv} {R : Rs} {σ : L2.St} (s : SIn K S0 F0 H0 own ρ R σ S F H) {l : Nat} {a : Addr} {o : HO} {d : D} (ha : S[l]? = some a) (r : RepO K F o d) (hd : ∀ a0, d = .tab a0 → l = 1 ∧ S[0]? = some a0 ∧ a = tabP K := by nofun) : SIn K S0 F0 H0 own ρ (R.set l d) σ S F (upd H a o) := by
  have hF : F a = none := (s.cells.has (List.mem_of_getElem? ha)).1
  have haS := List.mem_of_getElem? ha
  refine ⟨⟨s.ext.s, s.ext.f, fun b u e => by rw [upd_ne (ne_of_none e hF)]; exact s.ext.fh b u e, fun b u e hb => ?_, fun b u e => ?_, s.ext.nw, s.ext.sn⟩, s.cells.set ha r hd, s.sh, fun i hi d' h => ?_, s.ap, s.len⟩
  · have hne : b ≠ a := fun z => by
      have := s.ext.sn a haS (by rw [← z]; exact hb)
      rw [← z, e] at this; cases this
    rw [upd_ne hne]; exact s.ext.fr b u e hb
  · by_cases hb : b = a
    · subst hb; exact ⟨o, upd_same⟩
    · rw [upd_ne hb]; exact s.ext.th b u e
  · obtain ⟨v, h1, b, o2, rfl, h3, h4, h5, h6, h7⟩ := s.ow i hi d' h
    have hne : b ≠ a := fun z => h6 (by rw [z]; exact haS)
    exact ⟨_, h1, b, o2, rfl, by rw [upd_ne hne]; exact h3, h4, h5, h6, h7⟩
theorem st_stF (m : Md) {i : Nat} {c f : Str} {pos' : Pos} (cl : Cls X.K (He.ga X.K c)) (hn : NoAttr X.K (He.ga X.K c) f) (ho : PE X o (tVar i)) (he : Ev X E e g) (hs : swapsWith e (some (.Attribute o f pos')) pos.line X.env = pure false := by rfl) :
    Stm X E own own ol (.Assign [.Attribute o f pos'] e pos) (gStF m own i c f g) := ps_imp (ps_fld ho he hs) fun Dn σ H ⟨S0, F0, H0, ρ, R, s, h⟩ => by
  refine see_wp rfl s h fun v d R1 S F S1 F1 H1 s ef eg c r _ h1 => ?_
  split at h1
  · rename_i hc
    obtain ⟨F2, s2, r2⟩ := s.seen ef eg c r hc
    split at h1
    · rename_i l hl
      obtain ⟨a, q1, q2⟩ := loc_get s2.view hl
      split at h1
      · rename_i c' fs hfs
        split at h1
        · rename_i hc2
          obtain ⟨rfl, hl2⟩ := hc2
          obtain ⟨n1, o, n3, n4⟩ := s2.cells.at_ l a _ q2 hfs
          cases n4 with
          | @ins dx _ fs' _ e1 e2 =>
          have rk : RepK X.K F2 fs' fs := ⟨e1, e2⟩
          have z := putF_rep (f := f) r2 rk
          refine ⟨_, q1, a, _, _, fs', rfl, n3, cl, hn, by rw [rk.len]; exact hl2, h1 _ _ ⟨_, _, s2.putC q2 (.ins z.1 z.2)⟩⟩
        · exact h1.elim
      · exact h1.elim
    · exact h1.elim
  · exact h1.elim
/-- x.f, x a slot with a mutable instance -/
def gFldL (i : Nat) (c f : Str) : G := fun ρ R => match ρ[i]? with
  | some (some (.loc l)) => match R[l]? with
    | some (.ins c' fs) => if c' = c then match fs.lookup f with
      | some v => .ok v R
      | none => .bad
      else .bad
    | _ => .bad
  | _ => .bad
end
end Pv

namespace Sr
open PySem PySem.Spec PyProof.Rows L2
/-! ### list(range(a, b, -1)) -/
def rgD (a : Int) (n : Nat) : List V := (List.range n).map fun i => V.int (a - (i : Nat))
def tLstRg3 (ta : TA) : TE := fun σ H Q => ta σ H fun vs H1 => ∃ i j : Int, vs = [.int i, .int j, .int (-1)] ∧ RgOk i j ∧ RgOk j i ∧ ∀ q, H1 q = none → Q (.ref q) (upd H1 q (.lst (rgD i (i - j).toNat)))
theorem vals_rgD {a : Int} {n : Nat} {acc : Array Value} (h : ItemsOf (fun i v => ∃ t, v = .int (a + i * (-1)) t) acc n) : Vals (rgD a n) acc.toList := by
  have hl : acc.toList.length = n := by rw [Array.length_toList]; exact h.1
  unfold rgD
  rw [← hl]
  refine vals_of_get acc.toList _ fun j u hj => ?_
  obtain ⟨t, rfl⟩ := h.2 j u (by rw [← hj, Array.getElem?_toList])
  exact ⟨t, by congr 1; omega⟩
theorem pe_listRg3 {X : Cx} {a b c : Expr} {ta : TA} {p q pos rpos : Pos} (hc : X.calm = true) (hg : Gl X "list") (hm : X.mg "list" = none) (hg2 : Gl X "range") (hm2 : X.mg "range" = none) (ha : PA X [a, b, c] ta)
    (na : starEach [.Call (.Name "range" q) [a, b, c] [] rpos] X.env = (false, eval (.Call (.Name "range" q) [a, b, c] [] rpos) X.env) :: starEach [] X.env := by rfl)
    (hs : starEach [a, b, c] X.env = (false, eval a X.env) :: starEach [b, c] X.env := by rfl) (hpl : (backTo rpos (starEach [b, c] X.env)).any (·.1) = false := by rfl) :
    PE X (.Call (.Name "list" p) [.Call (.Name "range" q) [a, b, c] [] rpos] [] pos) (tLstRg3 ta) := by
  constructor
  intro pins s σ H Q I h
  refine Call_ (ld_blt I hg hm boot_list (PyProof.Rows.callWith_type1 (args_cons (Call_ (ld_blt I hg2 hm2 boot_range (PyProof.Rows.callWith_type1 (thn (ha.run rpos pins s σ H _ I h) fun us s1 hh => ?_) hs hpl))) na) na))
  obtain ⟨vs, H1, I1, rv, i, j, e, ok, ok2, hk⟩ := hh
  subst e
  cases rv with
  | cons r1 rv =>
  cases rv with
  | cons r2 rv =>
  cases rv with
  | cons r3 rv =>
  cases rv
  obtain ⟨t1, rfl⟩ := r1
  obtain ⟨t2, rfl⟩ := r2
  obtain ⟨t3, rfl⟩ := r3
  obtain ⟨b1, b2, b3, b4, b5⟩ := ok2
  obtain ⟨z0, z1, z2, z3⟩ := RgC.neg (i := i) (j := j) b3 b4 b1 b2
  refine call_range_3 z0 ?_ (.inl (PyProof.noPylong_small z1))
  refine args_nil ?_
  have J : Inv X pins σ H1 { s1 with heap := s1.heap.push { cls := .type "range", data := .fields #[.int i t1, .int j t2, .int (-1) t3] } } := I1.kept (t' := s1.toks) fun b o e => Heap.get?_push_of_some _ e
  refine call_list_range (n := (i - j).toNat) (J.ok.hd hc) (IsRange.new ..) z2 z3 b5 fun h' tk acc c' hkp e' hi => ?_
  refine ⟨.ref (s1.heap.push { cls := .type "range", data := .fields #[.int i t1, .int j t2, .int (-1) t3] }).objs.size, _, J.laid hkp (Nat.le_refl _) (show ObjOk X.prog X.w _ _ _ (.lst (rgD i (i - j).toNat)) from ⟨?_, acc.toList, c', vals_rgD hi, ?_⟩), rfl, hk _ (J.hok.fresh (Nat.le_refl _))⟩
  · unfold rgD; rw [List.length_map, List.length_range, sizeLine_eq]; omega
  · rw [Array.toArray_toList]; exact e'
end Sr
namespace Pv
open PySem PySem.Spec PyProof.Rows L2 Sr
def rgOkB (a b : Int) : Bool := inB a && (inB b && Nat.ble (b - a).toNat 16777216)
theorem rgOkB_iff {a b : Int} : rgOkB a b = true ↔ (-4611686018427387904 ≤ a ∧ a < 4611686018427387904) ∧ (-4611686018427387904 ≤ b ∧ b < 4611686018427387904) ∧ (b - a).toNat ≤ 16777216 := by
  simp only [rgOkB, Bool.and_eq_true, inB_iff, Nat.ble_eq]
theorem rgOkB_ok {a b : Int} (h : rgOkB a b = true) : RgOk a b := by
  rw [rgOkB_iff] at h
  exact ⟨h.1.1, h.1.2, h.2.1.1, h.2.1.2, h.2.2⟩
def dRange : List D → Rs → Res D := fun ds R => match ds with
  | [.int b] => if rgOkB 0 b then .ok (.lst (rngD 0 b.toNat)) R else .bad
  | [.int a, .int b] => if rgOkB a b then .ok (.lst (rngD a (b - a).toNat)) R else .bad
  | _ => .bad
def dRange3 : List D → Rs → Res D := fun ds R => match ds with
  | [.int a, .int b, .int (-1)] => if rgOkB a b && rgOkB b a then .ok (.lst ((List.range (a - b).toNat).map fun i => .int (a - (i : Nat)))) R else .bad
  | _ => .bad
section
variable {X : Cx} {E : XK} {a b c e tg : Expr} {es : List Expr} {ga gb g : G} {gs : GA} {pos p q rpos : Pos}
theorem reps_rng {K : PySem.W.Frag} {F : Hp} (f : Nat → Int) : ∀ l : List Nat, Reps K F (l.map fun i => V.int (f i)) (l.map fun i => D.int (f i))
  | [] => .nil
  | n :: r => .cons (.int _) (reps_rng f r)
theorem evf_rg2 (hc : X.calm = true) (hg : Gl X "list") (hm : X.mg "list" = none) (hg2 : Gl X "range") (hm2 : X.mg "range" = none) (ha : Ev X E a ga) (hb : Ev X E b gb)
    (na : starEach [a, b] X.env = (false, eval a X.env) :: starEach [b] X.env := by rfl) (nb : starEach [b] X.env = (false, eval b X.env) :: starEach [] X.env := by rfl) (hp : (backTo rpos (starEach [b] X.env)).any (·.1) = false := by rfl)
    (nr : starEach [.Call (.Name "range" q) [a, b] [] rpos] X.env = (false, eval (.Call (.Name "range" q) [a, b] [] rpos) X.env) :: starEach [] X.env := by rfl) :
    EvF X E (.Call (.Name "list" p) [.Call (.Name "range" q) [a, b] [] rpos] [] pos) (gCB dRange (gCons ga (gCons gb gNil))) := pe_imp (pe_listRg hc hg hm (prg_2 hg2 hm2 ha hb na nb hp) nr) fun σ H Q ⟨S, F, ρ, R, v, h⟩ => by
  have e0 : gCB dRange (gCons ga (gCons gb gNil)) ρ R = (ga ρ R).bind fun x R1 => (gb ρ R1).bind fun y R2 => dRange [x, y] R2 := by
    unfold gCB gCons gNil
    cases ga ρ R with
    | ok x R1 => simp only [Res.bind_ok]; cases gb ρ R1 <;> rfl
    | exc c fs R => rfl
    | bad => rfl
  rw [e0] at h
  refine ⟨S, F, ρ, R, v, Wf.bind h fun x S1 F1 H1 dx R1 e1 c1 rx h1 => ?_⟩
  refine ⟨S1, F1, ρ, R1, v.ext e1 c1, Wf.bind h1 fun y S2 F2 H2 dy R2 e2 c2 ry h2 => ?_⟩
  unfold dRange at h2
  split at h2
  · rename_i heq; cases heq
  · rename_i i j heq
    cases heq
    cases rx
    cases ry
    split at h2
    · rename_i ok
      exact ⟨i, j, rfl, rfl, rgOkB_ok ok, fun p hp => h2.new e2.fh c2 (.lst (reps_rng (fun k => i + (k : Nat)) _)) hp⟩
    · exact h2.elim
  · exact h2.elim
theorem evf_rg3 (hc : X.calm = true) (hg : Gl X "list") (hm : X.mg "list" = none) (hg2 : Gl X "range") (hm2 : X.mg "range" = none) (ha : EvA X E [a, b, c] gs)
    (na : starEach [.Call (.Name "range" q) [a, b, c] [] rpos] X.env = (false, eval (.Call (.Name "range" q) [a, b, c] [] rpos) X.env) :: starEach [] X.env := by rfl)
    (hs : starEach [a, b, c] X.env = (false, eval a X.env) :: starEach [b, c] X.env := by rfl) (hpl : (backTo rpos (starEach [b, c] X.env)).any (·.1) = false := by rfl) :
    EvF X E (.Call (.Name "list" p) [.Call (.Name "range" q) [a, b, c] [] rpos] [] pos) (gCB dRange3 gs) := pe_imp (pe_listRg3 hc hg hm hg2 hm2 ha na hs hpl) fun σ H Q ⟨S, F, ρ, R, v, h⟩ => by
  refine ⟨S, F, ρ, R, v, ?_⟩
  unfold gCB at h
  cases q : gs ρ R with
  | ok ds R1 =>
    rw [q] at h
    intro vs S1 F1 H1 e1 c1 rx
    have h1 : Wf X.K E S F H (dRange3 ds R1) Q := h
    replace h1 := h1.ext e1
    unfold dRange3 at h1
    split at h1
    · cases rx with
      | cons r1 rx =>
      cases rx with
      | cons r2 rx =>
      cases rx with
      | cons r3 rx =>
      cases rx
      cases r1
      cases r2
      cases r3
      split at h1
      · rename_i i j ok
        simp only [Bool.and_eq_true] at ok
        exact ⟨i, j, rfl, rgOkB_ok ok.1, rgOkB_ok ok.2, fun p hp => h1.new e1.fh c1 (.lst (reps_rng (fun k => i - (k : Nat)) _)) hp⟩
      · exact h1.elim
    · exact h1.elim
  | exc c fs R1 => rw [q] at h; exact h
  | bad => rw [q] at h; exact h
/-! ### targets of lists; enumerate, zip -/
/-- pairs that are made turn by turn -/
theorem walkD_pair {K : PySem.W.Frag} {F : Hp} {J : It} {n : Nat} {fx fy : Nat → Option V} {ds : List D} (hl : ds.length = n) (w : Walk J n (fun H => Same F H) (YPair fx fy))
    (hr : ∀ i d x y, ds[i]? = some d → fx i = some x → fy i = some y → ∃ dx dy, d = .tup [dx, dy] ∧ Rep K F x dx ∧ Rep K F y dy) : WalkD K F J ds := by
  subst hl
  refine ⟨_, w, fun i d H x H2 F1 hd h1 h2 y => ?_⟩
  obtain ⟨T, u, v, rfl, hT, rfl, hx, hy⟩ := y
  obtain ⟨dx, dy, rfl, rx, ry⟩ := hr i d u v hd hx hy
  exact ⟨same_upd hT, upd F1 T (.tup [u, v]), fun S => .new h2 hT, .tup upd_same (.cons ((rx.mono h1).mono (same_upd (h2.free hT))) (.cons ((ry.mono h1).mono (same_upd (h2.free hT))) .nil))⟩
def enD (ds : List D) : List D := (List.range ds.length).zipWith (fun i d => .tup [.int (i : Nat), d]) ds
theorem enD_get (ds : List D) (i : Nat) : (enD ds)[i]? = (ds[i]?).map fun d => .tup [.int (i : Nat), d] := by
  unfold enD
  rw [List.getElem?_zipWith]
  by_cases h : i < ds.length
  · rw [List.getElem?_range h, List.getElem?_eq_getElem h]; rfl
  · rw [List.getElem?_eq_none (by simpa using h), List.getElem?_eq_none (by omega)]; rfl
theorem enD_len (ds : List D) : (enD ds).length = ds.length := by simp [enD]
def enumL : List D → Rs → Res (List D) := fun ds R => match ds with
  | [.lst xs] => .ok (enD xs) R
  | _ => .bad
def enumT : List D → Rs → Res (List D) := fun ds R => match ds with
  | [.tup xs] => .ok (enD xs) R
  | [.arm xs] => .ok (enD xs) R
  | _ => .bad
theorem en_rep {K : PySem.W.Frag} {F : Hp} {vs : List V} {ds : List D} (r : Reps K F vs ds) : ∀ i d x y, (enD ds)[i]? = some d → some (V.int (i : Nat)) = some x → vs[i]? = some y → ∃ dx dy, d = .tup [dx, dy] ∧ Rep K F x dx ∧ Rep K F y dy := fun i d x y h1 h2 h3 => by
  cases h2
  obtain ⟨d', h4, h5⟩ := r.getV h3
  rw [enD_get, h4] at h1
  cases h1
  exact ⟨_, _, rfl, .int _, h5⟩
theorem evi_enum {elts : List Expr} {kk : Nat} {tpos : Pos} (hg : Gl X "enumerate") (hm : X.mg "enumerate" = none) (ha : EvA X E [e] gs) (hs : starEach [e] X.env = [(false, eval e X.env)] := by rfl) : EvI X E (.Tuple elts kk tpos) (.Call (.Name "enumerate" p) [e] [] pos) (gItA enumL gs) := pi_imp (pi_enum hg hm ha hs) fun σ H Q ⟨S, F, ρ, R, v, h⟩ => by
  refine ⟨S, F, ρ, R, v, Wp.bind h fun x S1 F1 H1 dx R1 e1 c1 rx h1 => ?_⟩
  unfold enumL at h1
  split at h1
  · cases rx with
    | cons r rr =>
    cases rr
    cases r with
    | lst hf rs =>
    refine ⟨_, _, rfl, SqL.of (e1.fh _ _ hf), h1.now e1.fh c1 (walkD_pair (by rw [enD_len]; exact rs.length.symm) (walk_enum.mono (fun H h => SqL.of (h _ _ hf)) fun _ _ _ _ _ _ y => y) (en_rep rs))⟩
  · exact h1.elim
theorem evi_enumT {elts : List Expr} {kk : Nat} {tpos : Pos} (hg : Gl X "enumerate") (hm : X.mg "enumerate" = none) (ha : EvA X E [e] gs) (hs : starEach [e] X.env = [(false, eval e X.env)] := by rfl) : EvI X E (.Tuple elts kk tpos) (.Call (.Name "enumerate" p) [e] [] pos) (gItA enumT gs) := pi_imp (pi_enumT hg hm ha hs) fun σ H Q ⟨S, F, ρ, R, v, h⟩ => by
  refine ⟨S, F, ρ, R, v, Wp.bind h fun x S1 F1 H1 dx R1 e1 c1 rx h1 => ?_⟩
  unfold enumT at h1
  split at h1
  · cases rx with
    | cons r rr =>
    cases rr
    cases r with
    | tup hf rs =>
    refine ⟨_, _, rfl, SqT.of (e1.fh _ _ hf), h1.now e1.fh c1 (walkD_pair (by rw [enD_len]; exact rs.length.symm) (walk_enumT.mono (fun H h => SqT.of (h _ _ hf)) fun _ _ _ _ _ _ y => y) (en_rep rs))⟩
  · cases rx with
    | cons r rr =>
    cases rr
    cases r with
    | arm hf _ rs =>
    refine ⟨_, _, rfl, .inl (.inr ⟨_, e1.fh _ _ hf⟩), h1.now e1.fh c1 (walkD_pair (by rw [enD_len]; exact rs.length.symm) (walk_enumT.mono (fun H h => .inl (.inr ⟨_, h _ _ hf⟩)) fun _ _ _ _ _ _ y => y) (en_rep rs))⟩
  · exact h1.elim
end
end Pv

namespace Pv
open PySem PySem.Spec PyProof.Rows L2 Sr
/-! ### zip -/
def zipD : List D → Rs → Res (List D) := fun ds R => match ds with
  | [.tup xs, .tup ys] => .ok (xs.zipWith (fun a b => .tup [a, b]) ys) R
  | [.lst xs, .lst ys] => .ok (xs.zipWith (fun a b => .tup [a, b]) ys) R
  | _ => .bad
section
variable {X : Cx} {E : XK} {a b c e e2 tg : Expr} {es : List Expr} {ga gb g : G} {gs : GA} {pos p q rpos : Pos}
theorem zip_rep {K : PySem.W.Frag} {F : Hp} {vs ws : List V} {ds es : List D} (r : Reps K F vs ds) (r2 : Reps K F ws es) : ∀ (i : Nat) (d : D) (x y : V), (ds.zipWith (fun a b => D.tup [a, b]) es)[i]? = some d → vs[i]? = some x → ws[i]? = some y → ∃ dx dy, d = D.tup [dx, dy] ∧ Rep K F x dx ∧ Rep K F y dy := fun i d x y h1 h2 h3 => by
  obtain ⟨d1, g1, g2⟩ := r.getV h2
  obtain ⟨d2, g3, g4⟩ := r2.getV h3
  rw [List.getElem?_zipWith, g1, g3] at h1
  cases h1
  exact ⟨_, _, rfl, g2, g4⟩
theorem evi_zip {elts : List Expr} {kk : Nat} {tpos : Pos} (hg : Gl X "zip") (hm : X.mg "zip" = none) (ha : EvA X E [e, e2] gs) (hs : starEach [e, e2] X.env = (false, eval e X.env) :: starEach [e2] X.env := by rfl) (hpl : (backTo pos (starEach [e2] X.env)).any (·.1) = false := by rfl) :
    EvI X E (.Tuple elts kk tpos) (.Call (.Name "zip" p) [e, e2] [] pos) (gItA zipD gs) := pi_imp (RZ.pi_zipA hg hm ha hs hpl) fun σ H Q ⟨S, F, ρ, R, v, h⟩ => by
  refine ⟨S, F, ρ, R, v, Wp.bind h fun x S1 F1 H1 dx R1 e1 c1 rx h1 => ?_⟩
  unfold zipD at h1
  split at h1
  · rename_i xs ys
    cases rx with
    | cons r rr =>
    cases rr with
    | cons r2 rr =>
    cases rr
    cases r with
    | tup hf rs =>
    cases r2 with
    | tup hf2 rs2 =>
    refine ⟨_, _, _, _, rfl, .inr ⟨SqT.of (e1.fh _ _ hf), SqT.of (e1.fh _ _ hf2), h1.now e1.fh c1 (walkD_pair (n := min xs.length ys.length) (by simp) ((walk_zipT (n := min xs.length ys.length) (by rw [rs.length, rs2.length])).mono (fun H h => ⟨SqT.of (h _ _ hf), SqT.of (h _ _ hf2)⟩) fun _ _ _ _ _ _ y => y) (zip_rep rs rs2))⟩⟩
  · rename_i xs ys
    cases rx with
    | cons r rr =>
    cases rr with
    | cons r2 rr =>
    cases rr
    cases r with
    | lst hf rs =>
    cases r2 with
    | lst hf2 rs2 =>
    refine ⟨_, _, _, _, rfl, .inl ⟨SqL.of (e1.fh _ _ hf), SqL.of (e1.fh _ _ hf2), h1.now e1.fh c1 (walkD_pair (n := min xs.length ys.length) (by simp) ((walk_zip (n := min xs.length ys.length) (by rw [rs.length, rs2.length])).mono (fun H h => ⟨SqL.of (h _ _ hf), SqL.of (h _ _ hf2)⟩) fun _ _ _ _ _ _ y => y) (zip_rep rs rs2))⟩⟩
  · exact h1.elim
end
/-! ### the source of numbers -/
def stOk : List Int → Bool
  | a :: b :: r => decide (0 ≤ a) && (decide (0 ≤ b) && r.all fun x => decide (0 ≤ x))
  | _ => false
def midB (b : Int) (r : List Int) : Int × List Int := if b = 0 then (match r with | [] => (b, []) | c :: r' => (c, r')) else (b, r)
def below : List Int → Int → Int × List Int
  | a :: b :: r, n => if 0 < (midB b r).1 then ((midB b r).1 % n, a :: (midB b r).1 / n :: (midB b r).2) else (((a * 48271 + 11) % 2147483647 / 64) % n, (a * 48271 + 11) % 2147483647 :: (midB b r).1 :: (midB b r).2)
  | st, _ => (0, st)
theorem stOk_cons {a b : Int} {r : List Int} : stOk (a :: b :: r) = true ↔ 0 ≤ a ∧ 0 ≤ b ∧ ∀ x ∈ r, 0 ≤ x := by
  simp [stOk]
theorem midB_ok {b : Int} {r : List Int} (hb : 0 ≤ b) (hr : ∀ x ∈ r, 0 ≤ x) : 0 ≤ (midB b r).1 ∧ ∀ x ∈ (midB b r).2, 0 ≤ x := by
  unfold midB
  split
  · cases r with
    | nil => exact ⟨hb, by simp⟩
    | cons c r' => exact ⟨hr c (by simp), fun x hx => hr x (by simp [hx])⟩
  · exact ⟨hb, hr⟩
theorem below_ok {st : List Int} {n : Int} (h : stOk st = true) (hn : 0 < n) : 0 ≤ (below st n).1 ∧ (below st n).1 < n ∧ stOk (below st n).2 = true := by
  match st, h with
  | a :: b :: r, h =>
    obtain ⟨ha, hb, hr⟩ := stOk_cons.mp h
    obtain ⟨h1, h2⟩ := midB_ok hb hr
    have e : below (a :: b :: r) n = if 0 < (midB b r).1 then ((midB b r).1 % n, a :: (midB b r).1 / n :: (midB b r).2) else (((a * 48271 + 11) % 2147483647 / 64) % n, (a * 48271 + 11) % 2147483647 :: (midB b r).1 :: (midB b r).2) := rfl
    rw [e]
    by_cases hp : 0 < (midB b r).1
    · rw [if_pos hp]
      exact ⟨Int.emod_nonneg _ (by omega), Int.emod_lt_of_pos _ hn, stOk_cons.mpr ⟨ha, Int.ediv_nonneg h1 (by omega), h2⟩⟩
    · rw [if_neg hp]
      exact ⟨Int.emod_nonneg _ (by omega), Int.emod_lt_of_pos _ hn, stOk_cons.mpr ⟨Int.emod_nonneg _ (by decide), h1, h2⟩⟩
def spBelowX : Sp := fun vs H Q _ => ∃ (d : Addr) (st : List Int) (n : Int), vs = [.ref d, .int n] ∧ H d = some (.lst (st.map V.int)) ∧ stOk st = true ∧ 0 < n ∧ n.natAbs.log2 < 9000 ∧ Q (.int (below st n).1) (upd H d (.lst ((below st n).2.map V.int)))
def belowF : Nat → List D → Rs → Res D := fun l ds R => match ds with
  | [.int n] => match R[l]? with
    | some (.lst xs) => match intsOf xs with
      | some st => if stOk st = true ∧ 0 < n ∧ n.natAbs.log2 < 9000 then .ok (.int (below st n).1) (R.set l (.lst ((below st n).2.map D.int))) else .bad
      | none => .bad
    | _ => .bad
  | _ => .bad
theorem below_imp {K : PySem.W.Frag} (vs : List V) (H : Hp) (Q : VK) (E : XK) (h : spL K 2 belowF vs H Q E) : spBelowX vs H Q E := by
  obtain ⟨S, F, R, l, a, us, ds, rfl, hl, hs, c, r, hn, h⟩ := h
  unfold belowF at h
  split at h
  · rename_i n
    cases r with
    | cons r rr =>
    cases rr
    cases r
    split at h
    · rename_i xs hx
      split at h
      · rename_i st hst
        split at h
        · rename_i hc
          obtain ⟨n1, o, n3, n4⟩ := c.at_ l a _ hl hx
          cases n4 with
          | lst rs =>
          rw [intsOf_eq hst] at rs
          rw [Reps.of_ints rs] at n3
          refine ⟨a, st, n, rfl, n3, hc.1, hc.2.1, hc.2.2, ?_⟩
          have haS := List.mem_of_getElem? hl
          refine h _ S F _ ⟨List.prefix_refl _, .refl F, fun b u e => by rw [upd_ne (ne_of_none e n1)]; exact hs b u e, fun b u e hb => ?_, fun b u e => ?_, fun _ _ _ z => z, fun b z1 z2 => absurd z1 z2⟩ (c.set hl (.lst (.ints _)) (by nofun)) (.int _)
          · have hne : b ≠ a := fun z => hb (by rw [z]; exact haS)
            rw [upd_ne hne]; exact e
          · by_cases hb : b = a
            · subst hb; exact ⟨_, upd_same⟩
            · exact ⟨u, by rw [upd_ne hb]; exact e⟩
        · exact h.elim
      · exact h.elim
    · exact h.elim
  · exact h.elim
theorem below_lt {n : Int} {b : Nat} (h0 : 0 < n) (h1 : n < 2 ^ b) (hb : 0 < b) (h9 : b ≤ 9000) : n.natAbs.log2 < 9000 := by
  have h2 : n.natAbs < 2 ^ b := by
    have h3 : ((n.natAbs : Nat) : Int) < ((2 ^ b : Nat) : Int) := by
      rw [Int.natCast_pow]
      have : ((n.natAbs : Nat) : Int) = n := by omega
      rw [this]
      exact h1
    exact Int.ofNat_lt.mp h3
  exact Nat.lt_of_lt_of_le (PySem.Flt.log2_lt_of hb h2) h9
theorem belowF_eqW {st : List Int} {n : Int} (h : stOk st = true) (h0 : 0 < n) (h1 : n.natAbs.log2 < 9000) {T : Rs} : belowF 0 [.int n] (.lst (st.map D.int) :: T) = .ok (.int (below st n).1) (.lst ((below st n).2.map D.int) :: T) := by
  simp only [belowF, List.getElem?_cons_zero, intsOf_map]
  rw [if_pos ⟨h, h0, h1⟩]; rfl
@[simp] theorem belowF_eq {st : List Int} {n : Int} (h : stOk st = true) (h0 : 0 < n) (h1 : n < 1073741824) {T : Rs} : belowF 0 [.int n] (.lst (st.map D.int) :: T) = .ok (.int (below st n).1) (.lst ((below st n).2.map D.int) :: T) :=
  belowF_eqW h h0 (below_lt (b := 30) h0 (by omega) (by decide) (by decide))
/-! ### the law's own def -/
def lawStart (n : Nat) : PEnv := none :: some (.loc 0) :: List.replicate (n - 2) none
def spRandomX (K : PySem.W.Frag) : Sp := fun vs H Q _ => ∃ (a : Addr) (ns : List Int) (n : Int), vs = [.ref a, .int n] ∧ SqL K H a (ns.map V.int) ∧ ns.length ≤ 63 ∧ 0 ≤ n ∧
  ∀ p st H', Same H H' → H p = none → H' p = some (.lst (List.map V.int st)) → stOk st = true → Q (.ref p) H'
/-- what is known of the law's own context -/
structure LawX (X : Cx) : Prop where
  code : X.env.code = .ref (He.cT X.K ("law", none)).1
  tab : LamX.TabB X.base X.mg (He.cT X.K ("law", none)).1 (tabP X.K)
  qual : X.env.qual ++ "<lambda>" = lamQ
def spLawT (K : PySem.W.Frag) : Sp := fun vs H Q _ => ∃ (a : Addr) (ns : List Int), vs = [.ref a] ∧ SqL K H a (ns.map V.int) ∧ ns.length ≤ 63 ∧ H (tabP K) = some (.tbl #[]) ∧ ∀ H', Q (.bl true) H'
theorem law_mk {fa : List He.Fa} {fn : List He.DefD} {gt : List PropD} {ex : PySem.W.Frag → Bool} {K : PySem.W.Frag} {mg : Str → Option Value} {P : Program} {w : World} {base : Heap}
    {N : List Str} {k n : Nat} {salt : Int} {own own' : List Nat} {g : List (Str × Addr) → GS} {s0 : Stmt} {rest : List Stmt} (sl : Stmt) (S : Say fa fn gt ex K mg) (i j : Nat) (hd : fn[i]? = some ⟨("law", none), "law", "law", defArgs sl, defBody sl, defScope sl, [], []⟩) (hg : fa[j]? = some (.glo "law")) (SC : FnScope N ["_law_script"] (defScope sl))
    (hb : ∀ (kV doc pm : Value) (an : Option Addr) (cdv ct : Value) (us : List Value), us.length = (["_law_script"] : List Str).length → bindArgs (PySem.W.fnOf "law" "law" (defArgs sl) (defBody sl) (defScope sl) .none kV doc pm an cdv ct) ⟨us, []⟩ = pure ((["_law_script"] : List Str).zip us))
    (hn : N.length = n) (h2 : 2 ≤ n) (ho : ∀ i ∈ own, 2 ≤ i) (hsp : defBody sl = s0 :: rest) (hs : 0 ≤ salt) (TB : LamX.TabB base mg (He.cT K ("law", none)).1 (tabP K))
    (B0 : ∀ (f : Addr) (cdv : Value) (A : Around) (outer : List Env) (s : Shared) (H : Hp) (E : XK), Room k (A.deeper (envOfC "law" (defScope sl) s.heap.objs.size f cdv)) → PS (cxOf CX0 P w K mg base N "law" (defScope sl) f cdv A outer s H E).nox s0 (tAsg (tCall (spRandomX K) [] XF (tCons (tVar 0) (tCons (tC (.int salt)) tNil))) (gName 1)))
    (B1 : ∀ (f : Addr) (cdv : Value) (A : Around) (outer : List Env) (s : Shared) (H : Hp) (E : XK), Room k (A.deeper (envOfC "law" (defScope sl) s.heap.objs.size f cdv)) → LawX (cxOf CX0 P w K mg base N "law" (defScope sl) f cdv A outer s H E).nox → Sts (cxOf CX0 P w K mg base N "law" (defScope sl) f cdv A outer s H E).nox XF own own' [] rest (g (cxOf CX0 P w K mg base N "law" (defScope sl) f cdv A outer s H E).nox.env.cells))
    (hlaw : ∀ cl a0 st, stOk st = true → ∃ R', g cl (lawStart n) [.lst (st.map D.int), .tab a0] = .rt (.bl true) R') : Fn P w K mg base CX0 (k + 1) "law" ["_law_script"] (spLawT K) := by
  obtain ⟨fd, F'⟩ := S.c.def_ i hd
  have F : FunD K "law" "law" (defArgs sl) (defBody sl) (defScope sl) [] [] (He.fAd K ("law", none)) fd := F'
  refine ⟨_, fd, S.glo j hg, F.kp, F.bindsN hb, ?_, F.at_⟩
  have kpF := F.kp
  obtain ⟨oc, od, dV, kV, doc, pm, an, cdv, ct, osl, rfl, lk, hcd, _, _⟩ := F.ex
  obtain ⟨c, rfl⟩ := He.codeIn_ref hcd
  have hco : He.codeOf K ("law", none) = c := He.codeOf_eq lk rfl
  refine fn_of lk hcd SC (fun vs H Q E h => by obtain ⟨_, _, rfl, _⟩ := h; rfl) fun A outer s H vs Q E hr h => ?_
  obtain ⟨a, ns, rfl, ha, hl, hT, hk⟩ := h
  have LX : LawX (cxOf CX0 P w K mg base N "law" (defScope sl) (He.fAd K ("law", none)) (.ref c) A outer s H E).nox := ⟨by rw [← hco] <;> rfl, TB, rfl⟩
  suffices z : ∃ t, PSs (cxOf CX0 P w K mg base N "law" (defScope sl) (He.fAd K ("law", none)) (.ref c) A outer s H E).nox (defBody sl) t ∧ t { nx := fun _ H' => Q .non H', rt := Q } (L2.start N [V.ref a]) H from by
    obtain ⟨t, h1, h2⟩ := z
    exact ⟨t, h1.nox, h2⟩
  rw [hsp]
  refine ⟨_, pss_cons (B0 _ _ A outer s H E hr) (B1 _ _ A outer s H E hr LX), ?_⟩
  refine ⟨.ref a, ?_, a, ns, salt, rfl, ha, hl, hs, fun p st H' e1 hp hp2 hst => ?_⟩
  · unfold L2.start; rfl
  obtain ⟨R', hR⟩ := hlaw (cxOf CX0 P w K mg base N "law" (defScope sl) (He.fAd K ("law", none)) (.ref c) A outer s H E).nox.env.cells p st hst
  have hT2 := e1 _ _ hT
  have hpT : p ≠ tabP K := fun z => by rw [z, hT] at hp; cases hp
  have hst2 : (L2.start N [V.ref a]).set 1 (some (.ref p)) = some (.ref a) :: some (.ref p) :: List.replicate (n - 2) none := by
    unfold L2.start
    obtain ⟨m, rfl⟩ : ∃ m, n = m + 2 := ⟨n - 2, by omega⟩
    simp [hn, List.replicate_succ]
  have get : ∀ (i : Nat) (d : D), (lawStart n)[i]? = some (some d) → i = 1 ∧ d = .loc 0 := fun i d h => by
    unfold lawStart at h
    match i with
    | 0 => cases h
    | 1 => cases h; exact ⟨rfl, rfl⟩
    | i + 2 =>
      have := List.mem_of_getElem? (show (List.replicate (n - 2) (none : Option D))[i]? = some (some d) from h)
      simp at this
  refine ⟨[p, tabP K], fun _ => none, H', lawStart n, [.lst (st.map D.int), .tab p], ⟨[p, tabP K], fun _ => none, ⟨.refl (fun b u z => nomatch z), ⟨rfl, fun i b d h1 h2 => ?_, by simp [hpT], fun i b h2 => ?_⟩, fun i d h _ => ?_, fun i hi d h => ?_, fun i hi j hj d d' v h1 => ?_, ?_⟩⟩, ?_⟩
  · match i with
    | 0 =>
      cases h1
      cases h2
      exact ⟨rfl, _, hp2, .lst (.ints _)⟩
    | 1 =>
      cases h1
      cases h2
      exact ⟨rfl, _, hT2, .tab ⟨trivial, fun pos cv e => by simp [codeAmong] at e⟩⟩
    | i + 2 => simp at h1
  · match i with
    | 0 => cases h2
    | 1 => cases h2; exact ⟨rfl, rfl, rfl⟩
    | i + 2 => simp at h2
  · obtain ⟨rfl, rfl⟩ := get i d h
    rw [hst2]
    exact ⟨_, rfl, .inr (.inl ⟨0, p, rfl, rfl, rfl⟩)⟩
  · obtain ⟨rfl, _⟩ := get i d h
    have := ho 1 hi
    omega
  · obtain ⟨rfl, _⟩ := get i d h1
    have := ho 1 hi
    omega
  · rw [hst2]; unfold lawStart; simp
  · rw [hR]
    intro v S F H e c r
    cases r
    exact hk H
/-- a def whose promise is never asked -/
theorem fn_vac {fa : List He.Fa} {fn : List He.DefD} {gt : List PropD} {ex : PySem.W.Frag → Bool} {K : PySem.W.Frag} {mg : Str → Option Value} {P : Program} {w : World} {base : Heap} {CX : CXT} {N ps : List Str} {sp : Sp} {k : Nat} {x : Str} (st : Stmt) (S : Say fa fn gt ex K mg) (i j : Nat) (hd : fn[i]? = some ⟨(x, none), x, x, defArgs st, defBody st, defScope st, [], []⟩) (hg : fa[j]? = some (.glo x)) (SC : FnScope N ps (defScope st))
    (hb : ∀ (kV doc pm : Value) (an : Option Addr) (cdv ct : Value) (us : List Value), us.length = ps.length → bindArgs (PySem.W.fnOf x x (defArgs st) (defBody st) (defScope st) .none kV doc pm an cdv ct) ⟨us, []⟩ = pure (ps.zip us))
    (hf : ∀ vs H Q E, ¬ sp vs H Q E) : Fn P w K mg base CX (k + 1) x ps sp := by
  obtain ⟨fd, F⟩ := S.c.def_ i hd
  exact ⟨_, fd, S.glo j hg, F.kp, F.bindsN hb, F.ok SC (fun vs H Q E h => absurd h (hf vs H Q E)) fun cdv A outer s H vs Q E hr h => absurd h (hf vs H Q E), F.at_⟩
theorem spP_no {K : PySem.W.Frag} {n : Nat} (vs : List V) (H : Hp) (Q : VK) (E : XK) : ¬ spP K n (fun _ _ => .bad) vs H Q E := fun h => by
  obtain ⟨_, _, _, _, _, _, _, _, h⟩ := h; exact h
/-! ### a def that touches no mutable cell -/
def pureF (f : List D → Rs → Res D) : List D → Rs → Res D := fun ds R => match f ds [] with
  | .ok d [] => .ok d R
  | .exc c fs [] => .exc c fs R
  | _ => .bad
theorem pureF_ok {f : List D → Rs → Res D} {ds : List D} {d : D} {R : Rs} (h : f ds [] = .ok d []) : pureF f ds R = .ok d R := by simp [pureF, h]
theorem cells_none {K : PySem.W.Frag} {F H : Hp} : Cells K [] F H [] := ⟨rfl, fun i a d h => by simp at h, by simp, fun i a h => by simp at h⟩
theorem pure_ext {K : PySem.W.Frag} {S S' : List Addr} {F H F' H' : Hp} {R : Rs} (c : Cells K S F H R) (e : Ext [] F H S' F' H') (c' : Cells K S' F' H' []) : Ext S F H S F' H' ∧ Cells K S F' H' R := by
  have hS : S' = [] := List.eq_nil_of_length_eq_zero (by rw [c'.len]; rfl)
  subst hS
  have hH : ∀ b u, H b = some u → H' b = some u := fun b u h => e.fr b u h (by simp)
  exact ⟨⟨List.prefix_refl _, e.f, e.fh, fun b u h _ => hH b u h, e.th, e.nw, fun b h1 h2 => absurd h1 h2⟩, c.len, fun i a d h1 h2 => by
    obtain ⟨n, o, h3, h4⟩ := c.at_ i a d h1 h2
    exact ⟨e.nw a o h3 n, o, hH a o h3, h4.mono e.f⟩, c.nd, c.tb⟩
theorem pure_imp {K : PySem.W.Frag} {n : Nat} {f : List D → Rs → Res D} (vs : List V) (H : Hp) (Q : VK) (E : XK) (h : spP K n (pureF f) vs H Q E) : spP K n f vs H Q E := by
  obtain ⟨S, F, R, ds, hs, c, r, hl, h⟩ := h
  refine ⟨[], F, [], ds, hs, cells_none, r, hl, ?_⟩
  unfold pureF at h
  split at h
  · rename_i d q
    rw [q]
    intro v S' F' H' e' c' rv
    obtain ⟨e, c2⟩ := pure_ext c e' c'
    exact h v S F' H' e c2 rv
  · rename_i cn fs q
    rw [q]
    intro d S' F' H' e' c' rv
    obtain ⟨e, c2⟩ := pure_ext c e' c'
    refine h d S F' H' e c2 ?_
    cases rv with
    | no => exact .no
    | at_ a1 a2 a3 => exact .at_ a1 a2 a3
  · exact h.elim
theorem _root_.Sr.PrB.imp {P : Program} {w : World} {K : PySem.W.Frag} {mg : Str → Option Value} {base : Heap} {C : Addr} {m : Str} {ps : List Str} {k : Nat} {CX : CXT} {sp sp' : Sp} (F : PrB P w K mg base CX k C m ps sp) (h : ∀ vs H Q E, sp' vs H Q E → sp vs H Q E) : PrB P w K mg base CX k C m ps sp' := by
  obtain ⟨p, g, fd, a, b, c⟩ := F.ex
  exact ⟨p, g, fd, a, b, c.imp h⟩
end Pv

namespace Pv
open PySem PySem.Spec PyProof.Rows L2 Sr Rg
/-! ### comprehensions and loops over typed data -/
theorem lcG_map {α : Type} {T : TD} {ge : G} {ρ : PEnv} {R : Rs} (enc f : α → D) : ∀ {xs : List α}, (∀ x ∈ xs, ∃ ρ1, T (enc x) ρ = some ρ1 ∧ ge ρ1 R = .ok (f x) R) → lcG T gYes ge (xs.map enc) ρ R = .ok (xs.map f) R
  | [], _ => rfl
  | x :: xs, h => by
    obtain ⟨ρ1, h1, h2⟩ := h x (by simp)
    have ih := lcG_map (xs := xs) enc f fun y hy => h y (by simp [hy])
    simp only [List.map_cons, lcG, h1, gYes, Res.bind_ok, h2, ih]
/-! ### arms and rigs as data -/
def prD (p : Int × Int) : D := .tup [.int p.1, .int p.2]
def arD (a : Arms) : D := .arm (a.map prD)
def rigD (a : Arms) : D := .ins "Rig" [("told", arD a)]
end Pv

namespace Pv
open PySem PySem.Spec PyProof.Rows L2 Sr Rg
/-! ### the meanings, applied -/
section
variable {ρ : PEnv} {R : Rs} {i j n : Nat} {d : D} {f f' : D → D → Rs → Res D} {u : D → Rs → Res D} {h : List D → Rs → Res D} {ga gb gc g : G} {gs : GA} {t t' : GT} {own vs : List Nat} {m : Md} {g1 g2 : GS} {it : GI} {T : TD} {x y z : D} {xs ys ds : List D}
theorem var_ap : gVar i ρ R = match ρ[i]? with
  | some (some d) => if d.isLoc then .bad else .ok d R
  | _ => .bad := rfl
theorem c_ap : gC d ρ R = .ok d R := rfl
theorem op_ap : gOp f ga gb ρ R = (ga ρ R).bind fun x R1 => (gb ρ R1).bind fun y R2 => f x y R2 := rfl
theorem un_ap : gUn u ga ρ R = (ga ρ R).bind u := rfl
theorem b_ap : gB ga ρ R = (ga ρ R).bind bOf := rfl
theorem and_ap : gAnd t t' ρ R = (t ρ R).bind fun b R => match b with
  | true => t' ρ R
  | false => .ok false R := rfl
theorem or_ap : gOr t t' ρ R = (t ρ R).bind fun b R => match b with
  | true => .ok true R
  | false => t' ρ R := rfl
theorem not_ap : gNot t ρ R = (t ρ R).bind fun b R => .ok (!b) R := rfl
theorem if_ap {α : Type} {a b : PEnv → Rs → Res α} : gIf t a b ρ R = (t ρ R).bind fun c R => match c with
  | true => a ρ R
  | false => b ρ R := rfl
theorem andV_ap : gAndV ga gb ρ R = (ga ρ R).bind fun x R => match x with
  | .bl true => gb ρ R
  | .bl false => .ok (.bl false) R
  | _ => .bad := rfl
theorem orV_ap : gOrV ga gb ρ R = (ga ρ R).bind fun x R => match x with
  | .bl true => .ok (.bl true) R
  | .bl false => gb ρ R
  | _ => .bad := rfl
theorem ch_ap : gCh f f' ga gb gc ρ R = (ga ρ R).bind fun x R1 => (gb ρ R1).bind fun y R2 => (f x y R2).bind fun z R3 => match z with
  | .bl true => (gc ρ R3).bind fun w R4 => f' y w R4
  | .bl false => .ok (.bl false) R3
  | _ => .bad := rfl
theorem nil_ap : Pv.gNil ρ R = .ok [] R := rfl
theorem cons_ap : Pv.gCons ga gs ρ R = (ga ρ R).bind fun x R1 => (gs ρ R1).bind fun xs R2 => .ok (x :: xs) R2 := rfl
theorem star_ap : gStar ga gs ρ R = (ga ρ R).bind fun x R1 => (itemsOf x R1).bind fun xs R1 => (gs ρ R1).bind fun ys R2 => .ok (xs ++ ys) R2 := rfl
theorem tup_ap : Pv.gTup gs ρ R = (gs ρ R).bind dTup := rfl
theorem lst_ap : Pv.gLst gs ρ R = (gs ρ R).bind dLst := rfl
theorem arm_ap : gArm gs ρ R = (gs ρ R).bind dArm := rfl
theorem cb_ap : gCB h gs ρ R = (gs ρ R).bind h := rfl
theorem noPart_ap : gNoPart ρ R = .ok none R := rfl
theorem part_ap : gPart g ρ R = (g ρ R).bind fun d R => match d with
  | .int i => .ok (some i) R
  | _ => .bad := rfl
theorem sl_ap {l k : GO} : gSl g l k ρ R = (g ρ R).bind fun x R1 => (l ρ R1).bind fun a R2 => (k ρ R2).bind fun b R3 => dSl x a b R3 := rfl
theorem slL_ap {l k : GO} : gSlL g l k ρ R = (g ρ R).bind fun x R1 => (l ρ R1).bind fun a R2 => (k ρ R2).bind fun b R3 => dSlL x a b R3 := rfl
theorem call_ap : gCall n h gs ρ R = (gs ρ R).bind fun ds R => if ds.length = n then h ds R else .bad := rfl
theorem callL_ap {k : Nat → List D → Rs → Res D} : gCallL i n k gs ρ R = match ρ[i]? with
  | some (some (.loc l)) => (gs ρ R).bind fun ds R1 => if ds.length + 1 = n then k l ds R1 else .bad
  | _ => .bad := rfl
theorem mk_ap {c : Str} {k : Nat → List D → Rs → Res D} : gMk c n k gs ρ R = (gs ρ R).bind fun ds R1 => if ds.length + 1 = n then mkEnd c R1.length (k R1.length ds (R1 ++ [.ins c []])) else .bad := rfl
theorem fld_ap {c f : Str} : gFld c f g ρ R = (g ρ R).bind fun d R1 => match d with
  | .ins c' fs => if c' = c then match fs.lookup f with
    | some v => .ok v R1
    | none => .bad
    else .bad
  | _ => .bad := rfl
theorem prop_ap {c : Str} : gProp c h g ρ R = (g ρ R).bind fun d R1 => match d with
  | .ins c' fs => if c' = c then h [.ins c' fs] R1 else .bad
  | _ => .bad := rfl
theorem meth_ap {c k : Str} : gMeth c k n h g gs ρ R = (g ρ R).bind fun d R1 => match d with
  | .ins c' fs => if c' = c ∧ fs.lookup k = none then (gs ρ R1).bind fun ds R2 => if ds.length + 1 = n then h (.ins c' fs :: ds) R2 else .bad
    else .bad
  | _ => .bad := rfl
theorem callI_ap {c : Str} : gCallI c n h g gs ρ R = (g ρ R).bind fun d R1 => match d with
  | .ins c' fs => if c' = c then (gs ρ R1).bind fun ds R2 => if ds.length + 1 = n then h (.ins c' fs :: ds) R2 else .bad
    else .bad
  | _ => .bad := rfl
theorem get2_ap : gGet2 ga gb gc ρ R = (ga ρ R).bind fun x R1 => match x with
  | .dic kvs => (gb ρ R1).bind fun y R2 => (gc ρ R2).bind fun z R3 => match keyOf y with
    | some k => .ok ((valD kvs k).getD z) R3
    | none => .bad
  | _ => .bad := rfl
theorem dnew_ap : gDNew ρ R = .ok (.dic []) R := rfl
theorem it_ap {k : D → Rs → Res (List D)} : gIt k g ρ R = (g ρ R).bind k := rfl
theorem itA_ap {k : List D → Rs → Res (List D)} : gItA k gs ρ R = (gs ρ R).bind k := rfl
theorem lc_ap : gLc vs it T t g ρ R = (it ρ R).bind fun ds R1 => ((lcG T t g ds (wipeD ρ vs) R1).calm).bind dLst := rfl
theorem yes_ap : gYes ρ R = .ok true R := rfl
/-! statements -/
theorem next_ap : gNext ρ R = .nx ρ R := rfl
theorem seq_ap : gSeq g1 g2 ρ R = match g1 ρ R with
  | .nx ρ1 R1 => g2 ρ1 R1
  | o => o := rfl
theorem set_ap : gSet m own i g ρ R = (g (see m own ρ) R).out fun d R1 => if okM m d R1 && !own.contains i then .nx (ρ.set i (some d)) R1 else .bad := rfl
theorem setO_ap : gSetO m own i g ρ R = (g (see m own ρ) R).out fun d R1 => if okO m d R1 && own.contains i then .nx (ρ.set i (some d)) R1 else .bad := rfl
theorem drop_ap : gDrop m own g ρ R = (g (see m own ρ) R).out fun d R1 => if okR m R1 then .nx ρ R1 else .bad := rfl
theorem ret_ap : gRet g ρ R = (g ρ R).out fun d R1 => .rt d R1 := rfl
theorem retN_ap : gRetN ρ R = .rt .non R := rfl
theorem brk_ap : gBrk ρ R = .bk ρ R := rfl
theorem cnt_ap : gCnt ρ R = .ct ρ R := rfl
theorem never_ap : gNever ρ R = .bad := rfl
theorem ifS_ap : gIfS m own t g1 g2 ρ R = (t (see m own ρ) R).out fun b R1 => if okR m R1 then match b with
  | true => g1 ρ R1
  | false => g2 ρ R1
  else .bad := rfl
theorem aug_ap : gAug m own i f g ρ R = match (hide own ρ)[i]? with
  | some (some (.int x)) => (g (see m own ρ) R).out fun d R1 => if okR m R1 && !own.contains i then (f (.int x) d R1).out fun z R2 => match z with
    | .int w => .nx (ρ.set i (some (.int w))) R2
    | _ => .bad
    else .bad
  | _ => .bad := rfl
theorem for_ap : gFor m own vs it T g1 ρ R = (it (see m own ρ) R).out fun ds R1 => if okR m R1 && vs.all (fun i => !own.contains i) then loopG T g1 ds ρ R1 else .bad := rfl
theorem whl_ap {fu : PEnv → Rs → Nat} : gWhl fu m own t g1 ρ R = whlG m own t g1 (fu ρ R) ρ R := rfl
theorem app_ap : gApp m own i g ρ R = match ρ[i]? with
  | some (some (.lst ds)) => (g (see m own ρ) R).out fun d R1 => if okM m d R1 && own.contains i && decide (ds.length < sizeLine) then .nx (ρ.set i (some (.lst (ds ++ [d])))) R1 else .bad
  | _ => .bad := rfl
theorem ext_ap : gExt m own i g ρ R = match ρ[i]? with
  | some (some (.lst ds)) => (g (see m own ρ) R).out fun d R1 => match d with
    | .lst es => if okO m (.lst es) R1 && own.contains i && decide (ds.length + es.length ≤ sizeLine) then .nx (ρ.set i (some (.lst (ds ++ es)))) R1 else .bad
    | _ => .bad
  | _ => .bad := rfl
theorem pop_ap : gPop own i ρ R = match ρ[i]? with
  | some (some (.lst (d :: ds))) => .nx (ρ.set i (some (.lst (d :: ds).dropLast))) R
  | _ => .bad := rfl
theorem par_ap {is : List Nat} {fl : List Bool} : gPar own is fl gs ρ R = (gs (hide own ρ) R).out fun ds R1 => if flOk own is fl && decide (is.Nodup) && decide (ds.length = is.length) then .nx (setAll is ds ρ) R1 else .bad := rfl
theorem asg_ap : gAsg m own vs T g ρ R = (g (see m own ρ) R).out fun d R1 => if okM m d R1 && vs.all (fun i => !own.contains i) then match T d ρ with
  | some ρ1 => .nx ρ1 R1
  | none => .bad
  else .bad := rfl
theorem dset_ap : gDSet m own i ga g ρ R = (g (see m own ρ) R).out fun d R1 => if okM m d R1 && own.contains i then match ρ[i]? with
  | some (some (.dic kvs)) => (ga (see m own ρ) R1).out fun y R2 => match keyOf y with
    | some k => if okR m R2 && decide (kvs.length < sizeLine) then .nx (ρ.set i (some (.dic (putD kvs k d)))) R2 else .bad
    | none => .bad
  | _ => .bad
  else .bad := rfl
theorem stF_ap {c f : Str} : gStF m own i c f g ρ R = (g (see m own ρ) R).out fun d R1 => if okM m d R1 then match (hide own ρ)[i]? with
  | some (some (.loc l)) => match R1[l]? with
    | some (.ins c' fs) => if c' = c ∧ fs.length < 1000 then .nx ρ (R1.set l (.ins c (putFD f d fs))) else .bad
    | _ => .bad
  | _ => .bad
  else .bad := rfl
theorem fldL_ap {c f : Str} : gFldL i c f ρ R = match ρ[i]? with
  | some (some (.loc l)) => match R[l]? with
    | some (.ins c' fs) => if c' = c then match fs.lookup f with
      | some v => .ok v R
      | none => .bad
      else .bad
    | _ => .bad
  | _ => .bad := rfl
theorem see_f : see .f own ρ = hide own ρ := rfl
theorem see_g : see .g own ρ = ρ := rfl
theorem okM_f : okM .f d R = true := rfl
theorem okM_g : okM .g d R = (d.imm && R.all immO) := rfl
theorem okR_f : okR .f R = true := rfl
theorem okR_g : okR .g R = R.all immO := rfl
theorem okO_f : okO .f d R = true := rfl
theorem okO_g : okO .g d R = (immO d && R.all immO) := rfl
theorem hide_nil : hide [] ρ = ρ := rfl
theorem hide_cons : hide (i :: own) ρ = hide own (ρ.set i none) := rfl
theorem setAll_cons {is : List Nat} : setAll (i :: is) (x :: xs) ρ = setAll is xs (ρ.set i (some x)) := rfl
theorem setAll_nil : setAll [] xs ρ = ρ := rfl
theorem wipe_nil : wipeD ρ [] = ρ := rfl
theorem wipe_cons : wipeD ρ (i :: vs) = (wipeD ρ vs).set i none := rfl
theorem runB_ap : runB n g1 ds R = out1 (g1 (startD n ds) R) := rfl
theorem runL_ap {l : Nat} : runL n g1 l ds R = out1 (g1 (startL n l ds) R) := rfl
theorem startL_ap {l : Nat} : startL n l ds = some (.loc l) :: startD (n - 1) ds := rfl
theorem startD_ap : startD n ds = ds.map some ++ List.replicate (n - ds.length) none := rfl
theorem out1_nx : out1 (.nx ρ R) = .ok .non R := rfl
theorem out1_rt : out1 (.rt d R) = .ok d R := rfl
theorem dName_ap : dName i d ρ = some (ρ.set i (some d)) := rfl
theorem dGTup_ap {U : TDs} : dGTup n U (.tup ds) ρ = if ds.length = n then U ds ρ else none := rfl
theorem dGLst_ap {U : TDs} : dGLst n U (.lst ds) ρ = if ds.length = n then U ds ρ else none := rfl
theorem dGCons_ap {U : TDs} : dGCons T U (d :: ds) ρ = (T d ρ).bind fun ρ1 => U ds ρ1 := rfl
theorem dGNil_ap : dGNil [] ρ = some ρ := rfl
/-! values -/
theorem dAdd_ap {i j : Int} : dAdd (.int i) (.int j) R = .ok (.int (i + j)) R := rfl
theorem dSub_ap {i j : Int} : dSub (.int i) (.int j) R = .ok (.int (i - j)) R := rfl
theorem dMul_ap {i j : Int} : dMul (.int i) (.int j) R = if CMul i j then .ok (.int (i * j)) R else .bad := rfl
theorem dFdiv_ap {i j : Int} : dFdiv (.int i) (.int j) R = if CDiv i j then .ok (.int (i / j)) R else .bad := rfl
theorem dMod_ap {i j : Int} : dMod (.int i) (.int j) R = if 0 < j then .ok (.int (i % j)) R else .bad := rfl
theorem dLt_ap {i j : Int} : dLt (.int i) (.int j) R = .ok (.bl (decide (i < j))) R := rfl
theorem dLe_ap {i j : Int} : dLe (.int i) (.int j) R = .ok (.bl (decide (i ≤ j))) R := rfl
theorem dGt_ap {i j : Int} : dGt (.int i) (.int j) R = .ok (.bl (decide (j < i))) R := rfl
theorem dGe_ap {i j : Int} : dGe (.int i) (.int j) R = .ok (.bl (decide (j ≤ i))) R := rfl
theorem bOf_ap {b : Bool} : bOf (.bl b) R = .ok b R := rfl
theorem dNeg_ap {i : Int} : dNeg (.int i) R = .ok (.int (-i)) R := rfl
theorem dNot_ap {b : Bool} : dNot (.bl b) R = .ok (.bl (!b)) R := rfl
theorem eqS_int {b : Bool} {i j : Int} : dEqS b (.int i) (.int j) R = .ok (.bl (b ^^ decide (i = j))) R := rfl
theorem eqS_bl {b i j : Bool} : dEqS b (.bl i) (.bl j) R = .ok (.bl (b ^^ decide (i = j))) R := rfl
theorem eqS_str {b : Bool} {i j : Str} : dEqS b (.str i) (.str j) R = .ok (.bl (b ^^ decide (i = j))) R := rfl
theorem dInt1_ap {i : Int} : dInt1 [.int i] R = .ok (.int i) R := rfl
theorem dInt1_bl {b : Bool} : dInt1 [.bl b] R = .ok (.int (if b then 1 else 0)) R := rfl
theorem dMax2_ap {i j : Int} : dMax2 [.int i, .int j] R = .ok (.int (if j > i then j else i)) R := rfl
theorem dMin2_ap {i j : Int} : dMin2 [.int i, .int j] R = .ok (.int (if j < i then j else i)) R := rfl
theorem dAbs_ap {i : Int} : dAbs [.int i] R = .ok (.int (if i < 0 then -i else i)) R := rfl
theorem dSum_ap : dSum [.lst xs] R = match intsOf xs with
    | some ns => .ok (.int ns.sum) R
    | none => .bad := rfl
theorem dAny_ap : dAny [.lst xs] R = match blsOf xs with
    | some ns => .ok (.bl (ns.any id)) R
    | none => .bad := rfl
theorem dAll_ap : dAll [.lst xs] R = match blsOf xs with
    | some ns => .ok (.bl (ns.all id)) R
    | none => .bad := rfl
theorem dLen_l : dLen [.lst xs] R = .ok (.int xs.length) R := rfl
theorem dLen_t : dLen [.tup xs] R = .ok (.int xs.length) R := rfl
theorem dLen_a : dLen [.arm xs] R = .ok (.int xs.length) R := rfl
theorem dIx_l {i : Int} : dIx (.lst xs) (.int i) R = match atI xs i with
    | some d => .ok d R
    | none => .bad := rfl
theorem dIx_t {i : Int} : dIx (.tup xs) (.int i) R = match atI xs i with
    | some d => .ok d R
    | none => .bad := rfl
theorem dIx_a {i : Int} : dIx (.arm xs) (.int i) R = match atI xs i with
    | some d => .ok d R
    | none => .bad := rfl
theorem dTup_ap : dTup xs R = if xs.length ≤ sizeLine then .ok (.tup xs) R else .bad := rfl
theorem dLst_ap : dLst xs R = if xs.length ≤ sizeLine then .ok (.lst xs) R else .bad := rfl
theorem dArm_ap : dArm xs R = if xs.length ≤ sizeLine then .ok (.arm xs) R else .bad := rfl
theorem dList_l : dList [.lst xs] R = .ok (.lst xs) R := rfl
theorem dList_t : dList [.tup xs] R = .ok (.lst xs) R := rfl
theorem dTupl_ap : dTupl [.lst xs] R = .ok (.tup xs) R := rfl
theorem dTupA_ap : dTupA [.lst xs] R = .ok (.arm xs) R := rfl
theorem lstOf_ap : lstOf (.lst xs) R = .ok xs R := rfl
theorem tupOf_t : tupOf (.tup xs) R = .ok xs R := rfl
theorem tupOf_a : tupOf (.arm xs) R = .ok xs R := rfl
theorem itemsOf_t : itemsOf (.tup xs) R = .ok xs R := rfl
theorem itemsOf_l : itemsOf (.lst xs) R = .ok xs R := rfl
theorem dSl_l {l k : Option Int} : dSl (.lst xs) l k R = .ok (.lst (cutD xs l k)) R := rfl
theorem dSl_t {l k : Option Int} : dSl (.tup xs) l k R = .ok (.tup (cutD xs l k)) R := rfl
theorem dSlL_ap {l k : Option Int} : dSlL (.lst xs) l k R = .ok (.lst (cutD xs l k)) R := rfl
theorem dCatL_ap : dCatL (.lst xs) (.lst ys) R = if xs.length + ys.length ≤ sizeLine then .ok (.lst (xs ++ ys)) R else .bad := rfl
theorem dIsN_ap {b : Bool} : dIsN b x R = match x with
  | .non => .ok (.bl (!b)) R
  | _ => .ok (.bl b) R := rfl
theorem rng1_ap {j : Int} : rng1 [.int j] R = if inB j then .ok (rngD 0 j.toNat) R else .bad := rfl
theorem rng2_ap {i j : Int} : rng2 [.int i, .int j] R = if inB i && inB j then .ok (rngD i (j - i).toNat) R else .bad := rfl
theorem dRange_1 {b : Int} : dRange [.int b] R = if rgOkB 0 b then .ok (.lst (rngD 0 b.toNat)) R else .bad := rfl
theorem dRange_2 {a b : Int} : dRange [.int a, .int b] R = if rgOkB a b then .ok (.lst (rngD a (b - a).toNat)) R else .bad := rfl
theorem dRange3_ap {a b : Int} : dRange3 [.int a, .int b, .int (-1)] R = if rgOkB a b && rgOkB b a then .ok (.lst ((List.range (a - b).toNat).map fun i => .int (a - (i : Nat)))) R else .bad := rfl
theorem ownB_ap {c : Str} {fs gs : List (Str × D)} : dOwnB c h (.ins c fs) (.ins c gs) R = h [.ins c fs, .ins c gs] R := by simp [dOwnB]
theorem ownT_ap {c : Str} {fs : List (Str × D)} {i : Int} : dOwnT c h (.ins c fs) (.int i) R = h [.ins c fs, .int i] R := by simp [dOwnT]
theorem ownN_ap {c : Str} {fs : List (Str × D)} : dOwnN c h (.ins c fs) R = h [.ins c fs] R := by simp [dOwnN]
theorem eqI_ap {c : Str} {b : Bool} {fs gs : List (Str × D)} : dEqI c b h (.ins c fs) (.ins c gs) R = (h [.ins c fs, .ins c gs] R).bind fun d R => match d with
    | .bl k => .ok (.bl (b ^^ k)) R
    | _ => .bad := by simp only [dEqI, and_self, if_true] <;> rfl
theorem isC_y {c : Str} {fs : List (Str × D)} : dIsC c [.ins c fs, .cls c] R = .ok (.bl true) R := by simp [dIsC]
theorem mkEnd_ok {c : Str} {k : Nat} {R0 : Rs} {fs : List (Str × D)} (hk : R0.length = k) : mkEnd c k (.ok .non (R0 ++ [.ins c fs])) = .ok (.ins c fs) R0 := by simp [mkEnd, hk]
theorem il_int {i : Int} : (D.int i).isLoc = false := rfl
theorem il_bl {i : Bool} : (D.bl i).isLoc = false := rfl
theorem il_str {i : Str} : (D.str i).isLoc = false := rfl
theorem il_non : D.non.isLoc = false := rfl
theorem il_tup : (D.tup xs).isLoc = false := rfl
theorem il_lst : (D.lst xs).isLoc = false := rfl
theorem il_armD : (D.arm xs).isLoc = false := rfl
theorem il_ins {c : Str} {fs : List (Str × D)} : (D.ins c fs).isLoc = false := rfl
theorem il_dic {kvs : List (Key × D)} : (D.dic kvs).isLoc = false := rfl
theorem il_ar {a : Arms} : (arD a).isLoc = false := rfl
theorem il_rig {a : Arms} : (rigD a).isLoc = false := rfl
theorem le_line {n : Nat} (h : n ≤ 100000) : (n ≤ sizeLine) = True := eq_true (Nat.le_trans h (by decide))
theorem lt_line {n : Nat} (h : n < 100000) : (n < sizeLine) = True := eq_true (Nat.lt_of_lt_of_le h (by decide))
end
end Pv

namespace Pv
open PySem PySem.Spec PyProof.Rows L2 Sr Rg
/-! ### a, b, c, .. = w, x, y, .. by a tuple -/
def gNames : List Nat → TGs
  | [] => L2.gNil
  | i :: is => L2.gCons (gName i) (gNames is)
theorem gNames_of : ∀ {is : List Nat} {vs : List V} {σ : L2.St} {H : Hp} {Q : L2.St → Hp → Prop}, vs.length = is.length → Q (setAllV is vs σ) H → gNames is vs σ H Q
  | [], [], σ, H, Q, _, q => ⟨rfl, q⟩
  | i :: is, v :: vs, σ, H, Q, hl, q => ⟨v, vs, rfl, gNames_of (is := is) (by simpa using hl) q⟩
  | [], _ :: _, _, _, _, hl, _ => by simp at hl
  | _ :: _, [], _, _, _, hl, _ => by simp at hl
theorem Mix.len {K : PySem.W.Frag} {H : Hp} {S' : List Addr} {F' H' : Hp} : ∀ {fl : List Bool} {vs : List V} {ds : List D}, Mix K H S' F' H' fl vs ds → vs.length = ds.length
  | _, _, _, .nil => rfl
  | _, _, _, .old _ m => by simp [Mix.len m]
  | _, _, _, .new _ _ _ _ _ _ m => by simp [Mix.len m]
section
variable {X : Cx} {E : XK} {own ol : List Nat} {fl : List Bool} {es ts : List Expr} {gs : GA} {pos p1 p2 : Pos} {kt k2 : Nat}
theorem st_parN {is : List Nat} {n : Nat} (hc : X.calm = true) (hg : PGs X ts (gNames is)) (ha : EvM X E fl es gs) (hn : is.length = n) (hsz : n ≤ 1000)
    (h2 : (assignEach ts X.env).length = n := by rfl) (hst : (assignEach ts X.env).findIdx? (·.1) = none := by rfl)
    (hs : swapsWithSole [.Tuple ts kt p1] (.Tuple es k2 p2) pos.line X.env = pure false := by rfl) (hw : swappedStores [.Tuple ts kt p1] (.Tuple es k2 p2) X.env = pure none := by rfl) (h1 : (assignEach [.Tuple ts kt p1] X.env).map (·.2) = [assign (.Tuple ts kt p1) X.env] := by rfl) :
    Stm X E own own ol (.Assign [.Tuple ts kt p1] (.Tuple es k2 p2) pos) (gPar own is fl gs) := ps_imp (ps_asg (pe_tup ha) (pg_tup hc hg h2 hst) hs hw h1) fun Dn σ H ⟨S0, F0, H0, ρ, R, ⟨S, F, s⟩, h⟩ => by
  refine ⟨S, F, hide own ρ, R, s.view, ?_⟩
  unfold gPar at h
  cases q : gs (hide own ρ) R with
  | ok ds R1 =>
    rw [q] at h
    simp only [Res.out_ok] at h
    split at h
    · rename_i hcc
      simp only [Bool.and_eq_true, decide_eq_true_eq] at hcc
      intro vs S1 F1 H1 e1 c1 m
      have hlen : vs.length = is.length := m.len.trans hcc.2
      refine ⟨by rw [hlen, hn]; exact Nat.le_trans hsz (by decide), fun p hp => ?_⟩
      refine ⟨p, vs, rfl, SqT.of upd_same, by rw [hlen]; exact hn, gNames_of hlen ?_⟩
      have e2 : Ext S1 F1 H1 S1 F1 (upd H1 p (.tup vs)) := .newO e1.fh hp
      have c2 : Cells X.K S1 F1 (upd H1 p (.tup vs)) R1 := c1.upd (c1.fresh hp)
      have s1 := (s.on e1 c1).on e2 c2
      have keep : ∀ {fl : List Bool} {vs' : List V} {ds : List D}, Mix X.K H S1 F1 H1 fl vs' ds → Mix X.K H S1 F1 (upd H1 p (.tup vs)) fl vs' ds := by
        intro fl vs' ds m
        induction m with
        | nil => exact .nil
        | old r _ ih => exact .old r ih
        | new a b c d e f _ ih => exact .new (by rw [upd_ne (ne_of_none a hp)]; exact a) b c d e f ih
      refine h _ _ ⟨_, _, SIn.setAll (Hb := H) (fun p hp => s.ext.back hp) hcc.1.1 hcc.1.2 hcc.2 (keep m) (fun j hj d h1 p hp k hk => ?_) s1⟩
      obtain ⟨_, _, _, o, h3, _⟩ := s.own_none ⟨j, hj, d, h1, hp⟩
      exact m.neq h3 k hk
    · exact h.elim
  | exc c fs R1 => rw [q] at h; exact fun d S1 F1 H1 e1 c1 rb => h d S1 F1 H1 (s.ext.trans e1) c1 rb
  | bad => rw [q] at h; exact h
end
end Pv

namespace Pv
open PySem PySem.Spec PyProof.Rows L2 Sr
/-! what never leaves by an exception -/
def calmF (f : List D → Rs → Res D) : List D → Rs → Res D := fun ds R => (f ds R).calm
theorem calmF_ap {f : List D → Rs → Res D} {ds : List D} {R : Rs} : calmF f ds R = (f ds R).calm := rfl
theorem calm_ne {f : List D → Rs → Res D} : ∀ ds R c fs R', calmF f ds R ≠ .exc c fs R' := fun ds R c fs R' h => by
  unfold calmF Res.calm at h
  split at h
  · cases h
  · rename_i hn; exact hn _ _ _ h
theorem calm_imp {K : PySem.W.Frag} {n : Nat} {f : List D → Rs → Res D} (vs : List V) (H : Hp) (Q : VK) (E : XK) (h : spP K n (calmF f) vs H Q E) : spP K n f vs H Q E := by
  obtain ⟨S, F, R, ds, hs, c, r, hl, h⟩ := h
  refine ⟨S, F, R, ds, hs, c, r, hl, ?_⟩
  unfold calmF Res.calm at h
  split at h
  · exact h.elim
  · exact h
end Pv

namespace Pv
open PySem PySem.Spec PyProof.Rows L2 Sr
/-! least and greatest number of a row -/
def loI : List Int → Int
  | [] => 0
  | [a] => a
  | a :: b :: r => min a (loI (b :: r))
def hiI : List Int → Int
  | [] => 0
  | [a] => a
  | a :: b :: r => max a (hiI (b :: r))
theorem loI_le : ∀ {ns : List Int} {a : Int}, a ∈ ns → loI ns ≤ a
  | [b], a, h => by simp at h; subst h; exact Int.le_refl _
  | b :: c :: r, a, h => by
    rcases List.mem_cons.mp h with rfl | h
    · exact Int.min_le_left ..
    · exact Int.le_trans (Int.min_le_right ..) (loI_le h)
theorem le_hiI : ∀ {ns : List Int} {a : Int}, a ∈ ns → a ≤ hiI ns
  | [b], a, h => by simp at h; subst h; exact Int.le_refl _
  | b :: c :: r, a, h => by
    rcases List.mem_cons.mp h with rfl | h
    · exact Int.le_max_left ..
    · exact Int.le_trans (le_hiI h) (Int.le_max_right ..)
theorem loI_mem : ∀ {ns : List Int}, ns ≠ [] → loI ns ∈ ns
  | [b], _ => by simp [loI]
  | b :: c :: r, _ => by
    have := loI_mem (ns := c :: r) (by simp)
    simp only [loI]
    by_cases h : b ≤ loI (c :: r)
    · rw [Int.min_eq_left h]; simp
    · rw [Int.min_eq_right (by omega)]; exact List.mem_cons_of_mem _ this
theorem hiI_mem : ∀ {ns : List Int}, ns ≠ [] → hiI ns ∈ ns
  | [b], _ => by simp [hiI]
  | b :: c :: r, _ => by
    have := hiI_mem (ns := c :: r) (by simp)
    simp only [hiI]
    by_cases h : hiI (c :: r) ≤ b
    · rw [Int.max_eq_left h]; simp
    · rw [Int.max_eq_right (by omega)]; exact List.mem_cons_of_mem _ this
def dMinU : List D → Rs → Res D := fun ds R => match ds with
  | [.lst xs] => match intsOf xs with
    | some (a :: r) => .ok (.int (loI (a :: r))) R
    | _ => .bad
  | [.tup xs] => match intsOf xs with
    | some (a :: r) => .ok (.int (loI (a :: r))) R
    | _ => .bad
  | _ => .bad
def dMaxU : List D → Rs → Res D := fun ds R => match ds with
  | [.lst xs] => match intsOf xs with
    | some (a :: r) => .ok (.int (hiI (a :: r))) R
    | _ => .bad
  | [.tup xs] => match intsOf xs with
    | some (a :: r) => .ok (.int (hiI (a :: r))) R
    | _ => .bad
  | _ => .bad
section
variable {X : Cx} {E : XK}
theorem c_minU (hc : X.calm = true) : CallR X (.builtin "min") rMinU ∧ CallD X.K E rMinU dMinU := ⟨cr_minU hc, fun S F H R vs ds Q hs c r h => by
  have fin : ∀ (a : Int) (l : List Int), Wp X.K E (fun x F v d => Rep X.K F v d) S F H (.ok (.int (loI (a :: l))) R) Q → ∀ m, m ∈ a :: l → (∀ b, b ∈ a :: l → m ≤ b) → Q (.int m) H := fun a l h m h1 h2 => by
    have e : m = loI (a :: l) := Int.le_antisymm (h2 _ (loI_mem (by simp))) (loI_le h1)
    subst e
    exact h.now hs c (.int _)
  unfold dMinU at h
  split at h
  · split at h
    · rename_i a l hn
      cases r with
      | cons r rn =>
      cases rn
      cases r with
      | lst hf rs =>
      rw [intsOf_eq hn] at rs
      rw [Reps.of_ints rs] at hf
      exact ⟨_, a :: l, rfl, .inl (hs _ _ hf), by simp, fin a l h⟩
    · exact h.elim
  · split at h
    · rename_i a l hn
      cases r with
      | cons r rn =>
      cases rn
      cases r with
      | tup hf rs =>
      rw [intsOf_eq hn] at rs
      rw [Reps.of_ints rs] at hf
      exact ⟨_, a :: l, rfl, .inr (hs _ _ hf), by simp, fin a l h⟩
    · exact h.elim
  · exact h.elim⟩
theorem c_maxU (hc : X.calm = true) : CallR X (.builtin "max") rMaxU ∧ CallD X.K E rMaxU dMaxU := ⟨cr_maxU hc, fun S F H R vs ds Q hs c r h => by
  have fin : ∀ (a : Int) (l : List Int), Wp X.K E (fun x F v d => Rep X.K F v d) S F H (.ok (.int (hiI (a :: l))) R) Q → ∀ m, m ∈ a :: l → (∀ b, b ∈ a :: l → b ≤ m) → Q (.int m) H := fun a l h m h1 h2 => by
    have e : m = hiI (a :: l) := Int.le_antisymm (le_hiI h1) (h2 _ (hiI_mem (by simp)))
    subst e
    exact h.now hs c (.int _)
  unfold dMaxU at h
  split at h
  · split at h
    · rename_i a l hn
      cases r with
      | cons r rn =>
      cases rn
      cases r with
      | lst hf rs =>
      rw [intsOf_eq hn] at rs
      rw [Reps.of_ints rs] at hf
      exact ⟨_, a :: l, rfl, .inl (hs _ _ hf), by simp, fin a l h⟩
    · exact h.elim
  · split at h
    · rename_i a l hn
      cases r with
      | cons r rn =>
      cases rn
      cases r with
      | tup hf rs =>
      rw [intsOf_eq hn] at rs
      rw [Reps.of_ints rs] at hf
      exact ⟨_, a :: l, rfl, .inr (hs _ _ hf), by simp, fin a l h⟩
    · exact h.elim
  · exact h.elim⟩
end
end Pv

namespace Pv
open PySem PySem.Spec PyProof.Rows L2 Sr
section
variable {X : Cx} {E : XK} {o i a b e : Expr} {ga gb g : G} {gs : GA} {pos apos cpos : Pos} {es : List Expr} {CX : CXT} {k n : Nat} {c : Str} {ps : List Str} {f : List D → Rs → Res D}
/-! ### divmod -/
/-! ### in, not in: data in a list or a tuple -/
/-! ### methods of lists -/
def MtD (K : PySem.W.Frag) (E : XK) (r : V → List V → Hp → VK → Prop) (f : D → List D → Rs → Res D) : Prop :=
  ∀ (S : List Addr) (F H : Hp) (R : Rs) (x : V) (xs : List V) (dx : D) (dxs : List D) (Q : VK), Same F H → Cells K S F H R → Rep K F x dx → Reps K F xs dxs → Wp K E (fun _ F v d => Rep K F v d) S F H (f dx dxs R) Q → r x xs H Q
def gBML (f : D → List D → Rs → Res D) (g : G) (gs : GA) : G := fun ρ R => (g ρ R).bind fun x R1 => match x with
  | .lst xs => (gs ρ R1).bind fun ds R2 => f (.lst xs) ds R2
  | _ => .bad
theorem bml_ap {f : D → List D → Rs → Res D} {ρ : PEnv} {R : Rs} : gBML f g gs ρ R = (g ρ R).bind fun x R1 => match x with
  | .lst xs => (gs ρ R1).bind fun ds R2 => f (.lst xs) ds R2
  | _ => .bad := rfl
theorem ev_bml {name : Str} {id : String} {r : V → List V → Hp → VK → Prop} {f : D → List D → Rs → Res D} (slot : Slot "list" name id) (hty : typeOf (.builtin id) = pure (.type "method_descriptor")) (hm : MtR X id r ∧ MtD X.K E r f) (ho : Ev X E o g) (ha : EvA X E (e :: es) gs)
    (hbase : attributeBase o name X.env (eval o X.env) = eval o X.env := by rfl)
    (hfew : ((backTo cpos (starEach (e :: es) X.env)).all (fun x => !x.1) && (backToKw cpos (keywordEach [] X.env)).all (fun x => x.1.isSome)
      && decide ((e :: es).length + ([] : List Keyword).length + (if ([] : List Keyword).isEmpty then 0 else 1) < 30)) = true := by rfl)
    (hline : (apos.endLine == cpos.line) = true := by rfl) (hs : starEach (e :: es) X.env = (false, eval e X.env) :: starEach es X.env := by rfl) (hplain : (backTo cpos (starEach es X.env)).any (·.1) = false := by rfl) :
    Ev X E (.Call (.Attribute o name apos) (e :: es) [] cpos) (gBML f g gs) := pe_imp (pe_bm PySem.F.plainAttrs_list slot hty hm.1 ho ha hbase hfew hline hs hplain) fun σ H Q ⟨S, F, ρ, R, v, h⟩ => by
  refine ⟨S, F, ρ, R, v, Wp.bind h fun x S1 F1 H1 dx R1 e1 c1 rx h1 => ?_⟩
  split at h1
  · rename_i xs
    cases rx with
    | lst hf rs =>
    refine ⟨.inl ⟨rfl, _, .of (e1.fh _ _ hf)⟩, S1, F1, ρ, R1, v.ext e1 c1, Wp.bind h1 fun ys S2 F2 H2 dys R2 e2 c2 ry h2 => ?_⟩
    exact hm.2 S2 F2 H2 R2 _ ys _ dys Q e2.fh c2 (e2.rep (.lst hf rs)) ry h2
  · exact h1.elim
def dCount : D → List D → Rs → Res D := fun x ds R => match x, ds with
  | .lst xs, [.int k] => match intsOf xs with
    | some ns => .ok (.int (ns.count k : Nat)) R
    | none => .bad
  | _, _ => .bad
theorem m_count : MtR X "list.count" (rCntI X.K) ∧ MtD X.K E (rCntI X.K) dCount := ⟨mt_lcount, fun S F H R x xs dx dxs Q hs c rx rxs h => by
  unfold dCount at h
  split at h
  · split at h
    · rename_i ns hns
      cases rx with
      | lst hf rs =>
      cases rxs with
      | cons r rr =>
      cases rr
      cases r
      rw [intsOf_eq hns] at rs
      have e := Reps.of_ints rs
      exact ⟨_, ns, _, rfl, rfl, by rw [← e]; exact .of (hs _ _ hf), h.now hs c (.int _)⟩
    · exact h.elim
  · exact h.elim⟩
/-! ### len(x), x[i] by the own methods -/
end
end Pv

namespace Pv
open PySem PySem.Spec PyProof.Rows L2 Sr
/-! ### two attributes from one tuple -/
section
variable {X : Cx} {E : XK} {own ol : List Nat} {o e : Expr} {g : G} {pos : Pos}
/-- x.f1, x.f2 = e, x a slot with a mutable instance of the class c -/
def gStF2 (m : Md) (own : List Nat) (i : Nat) (c f1 f2 : Str) (g : G) : GS := fun ρ R => (g (see m own ρ) R).out fun d R1 => if okM m d R1 then match (hide own ρ)[i]? with
  | some (some (.loc l)) => match R1[l]? with
    | some (.ins c' fs) => match d with
      | .tup [d1, d2] => if c' = c ∧ fs.length < 900 then .nx ρ (R1.set l (.ins c (putFD f2 d2 (putFD f1 d1 fs)))) else .bad
      | _ => .bad
    | _ => .bad
  | _ => .bad
  else .bad
theorem stF2_ap {m : Md} {i : Nat} {c f1 f2 : Str} {ρ : PEnv} {R : Rs} : gStF2 m own i c f1 f2 g ρ R = (g (see m own ρ) R).out fun d R1 => if okM m d R1 then match (hide own ρ)[i]? with
  | some (some (.loc l)) => match R1[l]? with
    | some (.ins c' fs) => match d with
      | .tup [d1, d2] => if c' = c ∧ fs.length < 900 then .nx ρ (R1.set l (.ins c (putFD f2 d2 (putFD f1 d1 fs)))) else .bad
      | _ => .bad
    | _ => .bad
  | _ => .bad
  else .bad := rfl
/-! ### a list so many times -/
theorem Reps.times {K : PySem.W.Frag} {F : Hp} {vs : List V} {ds : List D} (r : Reps K F vs ds) : ∀ n : Nat, Reps K F (List.replicate n vs).flatten (List.replicate n ds).flatten
  | 0 => .nil
  | n + 1 => by rw [List.replicate_succ, List.replicate_succ, List.flatten_cons, List.flatten_cons]; exact r.append (r.times n)
end
end Pv

namespace Pv
open PySem PySem.Spec PyProof.Rows L2 Sr
/-! ### the law's lambdas are made -/
structure LamS (l : LamT) : Prop where
  kind : l.scope.kind = .function
  co : l.scope.isCoroutine = false
  gen : l.scope.isGenerator = false
  own : ∀ y ∈ l.scope.names, y.2 ≠ .cell ∧ (y.2 = .local → y.1 ∉ l.N)
  binds : ∀ (cl : List (Str × Addr)) (c : Addr) (dV doc pm ctv : Value) (s : Shared), (l.dv = [] ∧ dV = .none) ∨ (l.dv ≠ [] ∧ ∃ (T : Addr) (o : Obj) (items : Array Value) (n : Nat), dV = .ref T ∧ s.heap.get? T = some o ∧ o.data = .seq items n ∧ items.size = l.dv.length) →
    ∃ bs : List (Str × Value), BindsTo s (PySem.W.kdv_fn "<lambda>" lamQ l.params (.expr l.body) l.scope cl dV doc pm (.ref c) ctv) ⟨[], []⟩ bs ∧ ∀ y ∈ bs, l.scope.names.lookup y.1 = some .local
structure LamOk (X : Cx) (l : LamT) : Prop where
  s : LamS l
  hN : X.N = l.N
  free : ∀ y ∈ l.scope.names, y.2 = .free → X.env.scope.names.lookup y.1 = some .cell ∨ X.env.scope.names.lookup y.1 = some .free
theorem LamOk.has {X : Cx} {l : LamT} (L : LamOk X l) (ok : X.Ok) : ∀ y ∈ l.scope.names, y.2 = .free → ∃ c, X.env.cells.lookup y.1 = some c := fun y hy e => ok.has _ (L.free y hy e)
section
variable {X : Cx} {E : XK} {pins : List (Addr × Obj)} {σ : L2.St} {s : Shared} {S : List Addr} {F H : Hp} {R : Rs} {l : LamT} {pos : Pos} {dV : Value} {Q : VK}
end
end Pv

namespace Pv
open PySem PySem.Spec PyProof.Rows L2 Sr
/-! ### cells that are captured: tracked while the law's frame waits -/
open Classical in
noncomputable def cutC (B : Addr → Prop) (H : Hp) : Hp := fun b => if B b then none else H b
open Classical in
theorem cutC_in {B : Addr → Prop} {H : Hp} {b : Addr} (h : B b) : cutC B H b = none := if_pos h
theorem cutC_out {B : Addr → Prop} {H : Hp} {b : Addr} (h : ¬B b) : cutC B H b = H b := if_neg h
/-- the cells are tracked in H -/
def Trk (B : Addr → Prop) (H : Hp) : Prop := ∀ b, B b → ∃ o u, H b = some (CellO b o) ∧ o.data = .cell u
theorem cellO_tup {b : Addr} {o : Obj} {xs : List V} : CellO b o ≠ .tup xs := fun z => by unfold CellO at z; cases z
theorem cellO_lst {b : Addr} {o : Obj} {xs : List V} : CellO b o ≠ .lst xs := fun z => by unfold CellO at z; cases z
theorem cellO_frz {b : Addr} {o ob : Obj} {u : HO} : CellO b o ≠ .frz ob u := fun z => by unfold CellO at z; cases z
theorem cellO_ins {b C dx : Addr} {o : Obj} {fs : List (Str × V)} : CellO b o ≠ .ins C dx fs := fun z => by unfold CellO at z; cases z
theorem cellO_dK {b : Addr} {o : Obj} {fs : List (Key × V)} : CellO b o ≠ .dK fs := fun z => by unfold CellO at z; cases z
theorem cellO_dT {b : Addr} {o : Obj} {fs : List (List Key × V)} : CellO b o ≠ .dT fs := fun z => by unfold CellO at z; cases z
theorem Trk.out {B : Addr → Prop} {H : Hp} (t : Trk B H) {b : Addr} {u : HO} (e : H b = some u) (hu : ∀ o, CellO b o ≠ u) : ¬B b := fun hb => by
  obtain ⟨o, w, h1, _⟩ := t b hb
  rw [e] at h1
  exact hu o (Option.some.inj h1).symm
section
variable {P : Program} {w : World} {B : Addr → Prop} {H H1 H2 : Hp} {h h' : Heap} {fs : List Addr}
end
/-! ### data without closures -/
mutual
def D.noC : D → Bool
  | .non => true
  | .bl _ => true
  | .int _ => true
  | .str _ => true
  | .tup xs => noL xs
  | .lst xs => noL xs
  | .arm xs => noL xs
  | .ins _ fs => noF fs
  | .dic kvs => noK kvs
  | .dit kvs => noT kvs
  | .ty _ => true
  | .cls _ => true
  | _ => false
def noL : List D → Bool
  | [] => true
  | d :: r => d.noC && noL r
def noF : List (Str × D) → Bool
  | [] => true
  | (_, d) :: r => d.noC && noF r
def noK : List (Key × D) → Bool
  | [] => true
  | (_, d) :: r => d.noC && noK r
def noT : List (List Key × D) → Bool
  | [] => true
  | (_, d) :: r => d.noC && noT r
end
def noO : D → Bool
  | .tab _ => true
  | d => d.noC
theorem noF_map : ∀ fs : List (Str × D), noF fs = noL (fs.map (·.2))
  | [] => rfl
  | (_, d) :: r => by simp [noF, noL, noF_map r]
theorem noK_map : ∀ fs : List (Key × D), noK fs = noL (fs.map (·.2))
  | [] => rfl
  | (_, d) :: r => by simp [noK, noL, noK_map r]
theorem noT_map : ∀ fs : List (List Key × D), noT fs = noL (fs.map (·.2))
  | [] => rfl
  | (_, d) :: r => by simp [noT, noL, noT_map r]
section
variable {K : PySem.W.Frag} {B : Addr → Prop} {F : Hp}
theorem rd_cut (t : Trk B F) {a : Addr} {u : HO} (hu : ∀ o, CellO a o ≠ u) (h : Rd F a u) : Rd (cutC B F) a u := by
  rcases h with h | ⟨o, h⟩
  · exact .inl (by rw [cutC_out (t.out h hu)]; exact h)
  · exact .inr ⟨o, by rw [cutC_out (t.out h fun o => cellO_frz)]; exact h⟩
mutual
theorem Rep.cut (t : Trk B F) : ∀ {v : V} {d : D}, Rep K F v d → d.noC = true → Rep K (cutC B F) v d
  | _, _, .non, _ => .non
  | _, _, .bl b, _ => .bl b
  | _, _, .int i, _ => .int i
  | _, _, .str x, _ => .str x
  | _, _, .tup h r, n => .tup (by rw [cutC_out (t.out h fun o => cellO_tup)]; exact h) (Reps.cut t r (by simpa [D.noC] using n))
  | _, _, .lst h r, n => .lst (by rw [cutC_out (t.out h fun o => cellO_lst)]; exact h) (Reps.cut t r (by simpa [D.noC] using n))
  | _, _, .arm h e r, n => .arm (by rw [cutC_out (t.out h fun o => cellO_frz)]; exact h) e (Reps.cut t r (by simpa [D.noC] using n))
  | _, _, .ins h e r, n => .ins (by rw [cutC_out (t.out h fun o => cellO_ins)]; exact h) e (Reps.cut t r (by rw [D.noC, noF_map] at n; exact n))
  | _, _, .dic h e r, n => .dic (rd_cut t (fun o => cellO_dK) h) e (Reps.cut t r (by rw [D.noC, noK_map] at n; exact n))
  | _, _, .dit h e r, n => .dit (rd_cut t (fun o => cellO_dT) h) e (Reps.cut t r (by rw [D.noC, noT_map] at n; exact n))
  | _, _, .ty n, _ => .ty n
  | _, _, .cls c, _ => .cls c
  | _, _, .lam _ _ _, n => by simp [D.noC] at n
  | _, _, .tab _, n => by simp [D.noC] at n
  | _, _, .clo _ _ _ _ _, n => by simp [D.noC] at n
theorem Reps.cut (t : Trk B F) : ∀ {vs : List V} {ds : List D}, Reps K F vs ds → noL ds = true → Reps K (cutC B F) vs ds
  | _, _, .nil, _ => .nil
  | _, _, .cons h r, n => .cons (Rep.cut t h (by simp [noL] at n; exact n.1)) (Reps.cut t r (by simp [noL] at n; exact n.2))
end
theorem RepO.cut (t : Trk B F) (hc : ∀ c, F c = some (LamX.CodeO c lamQ) → ¬B c) {o : HO} {d : D} (h : RepO K F o d) (n : noO d = true) : RepO K (cutC B F) o d := by
  cases h with
  | lst r => exact .lst (r.cut t (by simpa [noO, D.noC] using n))
  | ins e r => exact .ins e (r.cut t (by rw [noO, D.noC, noF_map] at n; exact n; all_goals nofun))
  | dic e r => exact .dic e (r.cut t (by rw [noO, D.noC, noK_map] at n; exact n; all_goals nofun))
  | dit e r => exact .dit e (r.cut t (by rw [noO, D.noC, noT_map] at n; exact n; all_goals nofun))
  | tab h => exact .tab (h.mono fun c e => by rw [cutC_out (hc c e)]; exact e)
theorem Same.cut {H : Hp} (hs : Same F H) : Same (cutC B F) (cutC B H) := fun b u e => by
  by_cases hb : B b
  · rw [cutC_in hb] at e; cases e
  · rw [cutC_out hb] at e ⊢; exact hs b u e
theorem Cells.cut {S : List Addr} {H : Hp} {R : Rs} (t : Trk B F) (hc : ∀ c, F c = some (LamX.CodeO c lamQ) → ¬B c) (c : Cells K S F H R) (n : R.all noO = true) : Cells K S (cutC B F) (cutC B H) R :=
  ⟨c.len, fun i a d h1 h2 => by
    obtain ⟨z1, o, z2, z3⟩ := c.at_ i a d h1 h2
    have hb : ¬B a := fun hb => by
      obtain ⟨o, u, z, _⟩ := t a hb
      rw [z1] at z; cases z
    exact ⟨by rw [cutC_out hb]; exact z1, o, by rw [cutC_out hb]; exact z2, z3.cut t hc (List.all_eq_true.mp n d (List.mem_of_getElem? h2))⟩, c.nd, c.tb⟩
end
end Pv

namespace Pv
open PySem PySem.Spec PyProof.Rows L2 Sr
/-! ### a lambda is called, its cells tracked -/
abbrev cloEnv (sc : Scope) (cl : List (Str × Addr)) (L f c : Addr) : Env := PySem.W.envX lamQ sc L f (.ref c) (cloFrom cl sc.names [])
/-- the context of its body -/
def cloCx (P : Program) (w : World) (K : PySem.W.Frag) (mg : Str → Option Value) (base : Heap) (N : List Str) (sc : Scope) (cl : List (Str × Addr)) (A : Around) (outer : List Env) (s : Shared) (H : Hp) (E : XK) (f c : Addr) : Cx where
  prog := P
  w := w
  K := K
  mg := mg
  base := base
  A := A.deeper (cloEnv sc cl s.heap.objs.size f c)
  N := N
  s_0 := s
  H_0 := H
  env := cloEnv sc cl s.heap.objs.size f c
  outer := outer
  stack := cloEnv sc cl s.heap.objs.size f c :: outer
  ex := []
  fn := fun _ => false
  calm := true
  pn := []
  xe := fun e s' => wpAny (model P w) (A.deeper (cloEnv sc cl s.heap.objs.size f c)) (leaving (cloEnv sc cl s.heap.objs.size f c) e) (fun _ s'' => L2.CX P w outer H s E e s'') (fun e' s'' => L2.CX P w outer H s E e' s'') s'
section
variable {P : Program} {w : World} {K : PySem.W.Frag} {mg : Str → Option Value} {base : Heap} {A : Around} {outer : List Env} {s1 : Shared} {H1 F : Hp} {l : LamT} {cl : List (Str × Addr)} {σ : L2.St} {f c : Addr}
end
def noE : PEnv → Bool
  | [] => true
  | none :: r => noE r
  | some (.loc _) :: r => noE r
  | some d :: r => d.noC && noE r
theorem RepE.cut {K : PySem.W.Frag} {F : Hp} {B : Addr → Prop} (t : Trk B F) : ∀ {a0 : Addr} {σ : L2.St} {ρ : PEnv}, RepE K F a0 σ ρ → noE ρ = true → RepE K (cutC B F) a0 σ ρ
  | _, _, _, .nil, _ => .nil
  | _, _, _, .none r, n => .none (RepE.cut t r n)
  | _, _, _, @RepE.some _ _ _ _ d _ ρ q r, n => by
    have h : d.noC = true ∧ noE ρ = true := by
      cases q <;> simp_all [noE, D.noC]
    exact .some (q.cut t h.1) (RepE.cut t r h.2)
  | _, _, _, .loc r, n => .loc (RepE.cut t r n)
section
variable {P : Program} {w : World} {K : PySem.W.Frag} {mg : Str → Option Value} {base : Heap}
/-- the lambda's text has the meaning g, wherever it is called -/
def LamBody (P : Program) (w : World) (K : PySem.W.Frag) (mg : Str → Option Value) (base : Heap) (k : Nat) (l : LamT) (g : G) : Prop := LamS l ∧ ∀ (cl : List (Str × Addr)) (A : Around) (outer : List Env) (s : Shared) (H : Hp) (E : XK) (f c : Addr), Room k (A.deeper (cloEnv l.scope cl s.heap.objs.size f c)) → Ev (cloCx P w K mg base l.N l.scope cl A outer s H E f c) E l.body g
end
end Pv

namespace Pv
open PySem PySem.Spec PyProof.Rows L2 Sr
/-! ### raise -/
def gRaise (c : Str) : GS := fun _ R => .exc c [] R
theorem raise_ap {c : Str} {ρ : PEnv} {R : Rs} : gRaise c ρ R = .exc c [] R := rfl
section
variable {X : Cx} {E : XK} {own own' ol : List Nat}
end
/-! ### try: .. except C as e: .. (the suite returns, and reads e alone) -/
section
variable {X : Cx} {E : XK} {own own' ol ol2 : List Nat}
theorem Takes.len {W : WX} {pn : List (Addr × Obj)} {xe : Value → Shared → Prop} (t : Takes (X.tr pn xe) W) : Takes (X.tr pn xe) (fun c d σ H => σ.length = X.N.length → W c d σ H) := fun u s' ⟨a, B, sI, pins, σ, H, cls, d, e, I, nb, up, sky, na, os, ag, w⟩ =>
  t u s' ⟨a, B, sI, pins, σ, H, cls, d, e, I, nb, up, sky, na, os, ag, w I.len⟩
end
end Pv

namespace Pv
open PySem PySem.Spec PyProof.Rows L2 Sr
/-! ### isinstance(e, C), e.f of the exception that a suite holds -/
section
variable {X : Cx} {E : XK} {a : Addr} {oe : Obj} {pn : List (Addr × Obj)} {d : Option Addr} {c : Str} {i : Nat} {e : Expr}
theorem exo_at {S : List Addr} {F H : Hp} {ρ : PEnv} {R : Rs} {σ : L2.St} {a' : Addr} {fs : List (Str × D)} (v : View X.K S F H ρ R σ) (hi : ρ[i]? = some (some (.exo a' d fs))) : σ[i]? = some (some (.ref a')) ∧ ((d = none ∧ fs = []) ∨ ∃ (dd : Addr) (gs : List (Str × V)), d = some dd ∧ H dd = some (.xd gs) ∧ gs.map (·.1) = fs.map (·.1) ∧ Reps X.K F (gs.map (·.2)) (fs.map (·.2))) := by
  obtain ⟨u, h1, h2⟩ := v.env i _ hi
  rcases h2 with h2 | ⟨n, b, h2, _⟩ | h2
  · cases h2
  · cases h2
  · cases h2 with
    | x h => exact ⟨h1, h.imp id fun ⟨dd, gs, z1, z2, z3, z4⟩ => ⟨dd, gs, z1, v.fh _ _ z2, z3, z4⟩⟩
end
end Pv

namespace Pv
open PySem PySem.Spec PyProof.Rows L2 Sr
/-! ### count, index of flat things; texts -/
section
variable {X : Cx} {E : XK}
end
end Pv

namespace Pv
open PySem PySem.Spec PyProof.Rows L2 Sr
/-! ### the head's facts, the table of the law's lambdas left out -/
/-- the end of a law -/
theorem walk_ofW {l : PySem.W.OpenLaw} {n k : Nat} {q : Program} {loose : List Str} {XP : (Str → Option Value) → Heap → Prop} {YP : World → Heap → Prop} {d : DefRec} {CX : CXT} {x : Str} (hn : l.most = some n) (hn2 : n ≤ sizeLine) (hdf : d.params.defaults = []) (hr : Room k callerA)
    (F : ∀ (w : World) (mg : Str → Option Value) (fa : Addr) (h : Heap), YP w h → h.Ns mainGlobals mg → mg d.name = some (.ref fa) →
      ∃ (K : PySem.W.Frag) (fd : FuncData) (sp : Sp), K.In h ∧ PySem.W.CodeHd h (He.cT K ("law", none)).1 (tabP K) ∧ K.lookup (tabP K) = none ∧ h.get? (tabP K) = some { cls := .none, data := .fields #[] } ∧ (∀ (s : Shared) (u : Value), BindsTo s fd ⟨[u], []⟩ [(x, u)]) ∧
        (∀ (H : Hp) (a : Addr) (ns : List Int), ns.length ≤ n → H (tabP K) = some (.tbl #[]) → SqL K H a (ns.map V.int) → sp [.ref a] H (fun v _ => v = .bl true) fun _ _ _ => False) ∧
        ∀ base : Heap, K.In base → base.Ns mainGlobals mg → LamX.TabB base mg (He.cT K ("law", none)).1 (tabP K) → FnOk l.prog w K mg base CX k fa fd [x] sp)
    (hCX : ∀ (H : Hp) (s : Shared) (e : Value) (s' : Shared), CX [] H s (fun _ _ _ => False) e s' → False) : PySem.W.WalkO q loose XP YP l.row.toRowW d [] (fun f vs => PySem.call f vs) := by
  refine Att.attach_call hn hdf fun w s0 s1 mg mb fa o pm cd doc a vs ns G Y ho hd hcd hmg hobj hints hlen hg => ?_
  obtain ⟨K, fd, sp, KX, C, nT, hT, hb, hsp, hF⟩ := F w mg fa _ Y G.T.g hmg
  refine LamX.law_callTs (cs := [((He.cT K ("law", none)).1, tabP K)]) KX G.T.g G.T.b G.T.builtins G.T.nolimit hg ?_ ?_ ?_ G.T.bmain hobj hints (Nat.le_trans hlen hn2) hr (fun base k1 k2 k3 => hF base k1 k2 (k3 ((He.cT K ("law", none)).1, tabP K) (List.mem_singleton.mpr rfl))) hb (fun H hH hS => hsp H a ns hlen (hH ((He.cT K ("law", none)).1, tabP K) (List.mem_singleton.mpr rfl)) hS) fun H e s' => hCX H s1 e s'
  · intro p hp; rw [List.mem_singleton.mp hp]; exact hT
  · intro p hp; rw [List.mem_singleton.mp hp]; exact nT
  · intro p hp; rw [List.mem_singleton.mp hp]; exact C
end Pv

namespace Pv
open PySem PySem.Spec PyProof.Rows L2 Sr
/-! ### what a call raises, told as the laws tell it -/
/-! ### a closure is called -/
abbrev LamTab := List (LamT × G)
open Classical in
noncomputable def lamG (tab : LamTab) (l : LamT) : Option G := match tab[l.id]? with
  | some (l', g) => if l = l' then some g else none
  | none => none
def TabB (P : Program) (w : World) (K : PySem.W.Frag) (mg : Str → Option Value) (base : Heap) (k : Nat) (tab : LamTab) : Prop := ∀ l g, lamG tab l = some g → LamBody P w K mg base k l g
section
variable {X : Cx} {E : XK}
end
/-! ### the law hands its lambdas to a def -/
open Classical in
section
variable {X : Cx} {pins : List (Addr × Obj)} {σ : L2.St} {H F : Hp} {s : Shared} {S : List Addr} {R : Rs} {ρ : PEnv} {a0 : Addr}
end
end Pv

namespace Pv
open PySem PySem.Spec PyProof.Rows L2 Sr
section
variable {X : Cx} {pins : List (Addr × Obj)} {σ : L2.St} {H F : Hp} {s : Shared} {S : List Addr} {R : Rs} {ρ : PEnv} {a0 : Addr}
end
end Pv

namespace Pv
open PySem PySem.Spec PyProof.Rows L2 Sr
/-! ### paths into a text -/
/-! ### the table of a law's lambdas -/
inductive AllT (p : LamT → G → Prop) : LamTab → Prop where
  | nil : AllT p []
  | cons {l : LamT} {g : G} {t : LamTab} : p l g → AllT p t → AllT p ((l, g) :: t)
theorem AllT.at_ {p : LamT → G → Prop} {tab : LamTab} (h : AllT p tab) : ∀ {i : Nat} {l : LamT} {g : G}, tab[i]? = some (l, g) → p l g := by
  induction h with
  | nil => intro i l g e; simp at e
  | cons h1 _ ih =>
    intro i l g e
    cases i with
    | zero => cases e; exact h1
    | succ i => exact ih e
end Pv

namespace Pv
open PySem PySem.Spec PyProof.Rows L2 Sr
/-! ### a lambda with one default that it never reads -/
/-! ### xs[::-1] -/
end Pv

namespace Pv
open PySem PySem.Spec PyProof.Rows L2 Sr
/-! ### own instance * anything plain (the own method says what it thinks of it) -/
section
open PySem.W PySem.Calls
variable {prog : Program} {w : World} {A : Around} {E : Value → Shared → Prop} {s : Shared} {h₀ : Heap} {L : Addr} {m : Str → Option Value} {K : PySem.W.Frag} {x C f : Addr} {ox : Obj} {od : Option Obj} {T : String}
end
section
variable {X : Cx} {CX : CXT} {k : Nat} {ps : List Str} {E : XK}
end
end Pv

/-! ### own exceptions whose __init__ says super().__init__(f"word {x}") and self.x = x -/
/-- what is wanted of the program itself: its file; no name super at its top -/
class PfOk (P : PySem.Program) : Prop where
  file : ((P.main.file : PySem.Str) == ("/claim/cut.py" : PySem.Str)) = true
  top : (P.main.scope.names.lookup ("super" : PySem.Str)).isSome = false
namespace Pv
open PySem PySem.Spec PyProof.Rows L2 Sr
section
variable {prog : Program} {w : World} {A : Around} {E : Value → Shared → Prop} {h : Heap} {g : Array GenState} {d : Drawn} {t : Nat} {os : OsState}
variable {nm q : Str} {C N : Addr} {bs bm : List Value} {hdct : Bool} {sn : List Str} {sub : List Value} {ab : Bool} {col : Option Bool} {dd : Option Addr} {k0 k1 k2 k3 k5 : Option Value}
theorem call_bwV {u e t0 : Addr} {rest : List Value} {Q : Value → Shared → Prop}
    (hC : h.get? C = some (excClassObj nm q C N bs bm hdct sn sub ab col dd k0 k1 k2 k3 k5 "ValueError.__new__")) (he : h.get? e = some (HandSPX.excO C t0)) (hu : h.get? u = some (PySem.W.kxs_mw "ValueError.__init__" e)) (hrest : rest.length ≤ sizeLine)
    (hq : ∀ h' t1, (∀ b o, b ≠ e → h.get? b = some o → h'.get? b = some o) → h'.get? e = some (HandSPX.excO C t1) → Q .none ⟨h', g, d, t, os⟩) :
    wpAny (model prog w) A (call (.ref u) rest) Q E ⟨h, g, d, t, os⟩ := by
  refine wpAny_call (codeAny_of_tree ?_)
  show wpAny _ A.in1 (callAny (.ref u) ⟨rest, []⟩) _ _ _
  simp only [callAny]
  refine wpAny_bind (wpAny_load hu ?_)
  simp only [PySem.W.kxs_mw, show (Value.type "method-wrapper" == Value.type "method" || Value.type "method-wrapper" == Value.type "builtin_function_or_method" || Value.type "method-wrapper" == Value.type "method-wrapper") = true by decide, if_true]
  refine W.KFB.if_so (by decide) ?_
  refine wpAny_bind (ESX.check_bound F.excBase_ValueError hC he rfl ?_)
  refine wpAny_bind (wpAny_pure (wpAny_pure ?_))
  refine ⟨Code.quiet_builtin _ (by decide +kernel), codeAny_builtin F.excBase_ValueError.initEntry ?_⟩
  rw [Around.under_plainId F.excBase_ValueError.init.plain _]
  wp_walk
  refine hq _ h.objs.size (fun b o hb ho => ?_) ?_
  · rw [Heap.get?_update_other _ _ (Ne.symm hb)]
    exact Heap.get?_push_of_some _ ho
  · rw [Heap.get?_update_self _ (Heap.get?_push_of_some _ he) rfl]
    rfl
end
theorem pin_add {X : Cx} {pins : List (Addr × Obj)} {σ : L2.St} {H : Hp} {s : Shared} {h' : Heap} {a : Addr} {o : Obj} {t' : Nat} (I : Inv X pins σ H s) (k : ∀ b u, s.heap.get? b = some u → h'.get? b = some u) (ha : s.heap.objs.size ≤ a) (ho : h'.get? a = some o) (hd : ∀ v, o.data ≠ .cell v) :
    Inv X ((a, o) :: pins) σ H { s with heap := h', toks := t' } := by
  have J : Inv X pins σ H { s with heap := h', toks := t' } := I.kept k
  refine J.pins_of fun p hp => ?_
  rcases List.mem_cons.mp hp with rfl | hp
  · exact ⟨ho, I.hok.fresh ha, Nat.ne_of_gt (Nat.lt_of_lt_of_le I.lt ha), I.nofs ha, hd⟩
  · exact J.pin p (List.mem_append_right _ hp)
theorem pin_off {X : Cx} {p : Addr × Obj} {pins : List (Addr × Obj)} {σ : L2.St} {H : Hp} {s : Shared} (I : Inv X (p :: pins) σ H s) : Inv X pins σ H s := I.pins_of fun r hr => I.pin r (List.mem_append_right _ (List.mem_cons_of_mem _ hr))
/-! ### what the head says of such a class -/
theorem clsVE_ok {K : PySem.W.Frag} {C : Addr} (h : clsVE K C = true) : ∃ nm q N bs bm sn sub ab col dd k0 k1 k2 k3 k5, K.lookup C = some (excClassObj nm q C N bs bm true sn sub ab col dd k0 k1 k2 k3 k5 "ValueError.__new__") ∧ PySem.HandSPX.refsVE bm = true := by
  unfold clsVE at h
  split at h
  · rename_i dd cd sl ho
    split at h
    · rename_i C' bm k0 k1 k2 k3 n k5 hm hs
      simp only [Bool.and_eq_true, beq_iff_eq, Bool.not_eq_true'] at h
      obtain ⟨⟨⟨⟨rfl, rfl⟩, hdel⟩, hdi⟩, ht⟩ := h
      obtain ⟨nm, bs, mro, ns, qn, hd, sn, sub, ab, col, del⟩ := cd
      dsimp only at hm hdel hdi
      subst hm hdel hdi
      have hsl : sl = #[k0, k1, k2, k3, some (.builtin "ValueError.__new__"), k5] := by
        cases sl with
        | mk l => exact congrArg Array.mk hs
      subst hsl
      exact ⟨_, _, _, _, _, _, _, _, _, _, _, _, _, _, _, ho, ht⟩
    · cases h
  · cases h
theorem eName?_ok {e : Expr} {x : Str} (h : eName? e = some x) : ∃ p, e = .Name x p := by
  unfold eName? at h; split at h
  · cases h; exact ⟨_, rfl⟩
  · cases h
theorem eAttr?_ok {e o : Expr} {x : Str} {p : Pos} (h : eAttr? e = some (o, x, p)) : e = .Attribute o x p := by
  unfold eAttr? at h; split at h
  · cases h; exact rfl
  · cases h
theorem eCall?_ok {e f : Expr} {a : List Expr} {p : Pos} (h : eCall? e = some (f, a, p)) : e = .Call f a [] p := by
  unfold eCall? at h; split at h
  · cases h; exact rfl
  · cases h
theorem eJoin?_ok {e : Expr} {a : List Expr} (h : eJoin? e = some a) : ∃ p, e = .JoinedStr a p := by
  unfold eJoin? at h; split at h
  · cases h; exact ⟨_, rfl⟩
  · cases h
theorem eFmt?_ok {e o : Expr} {c : Int} (h : eFmt? e = some (o, c)) : ∃ p, e = .FormattedValue o c none p := by
  unfold eFmt? at h; split at h
  · cases h; exact ⟨_, rfl⟩
  · cases h
theorem eStr?_ok {e : Expr} {x : Str} (h : eStr? e = some x) : ∃ j p, e = .Constant (.str x) j p := by
  unfold eStr? at h; split at h
  · cases h; exact ⟨_, _, rfl⟩
  · cases h
theorem sExpr?_ok {s : Stmt} {e : Expr} (h : sExpr? s = some e) : ∃ p, s = .Expr e p := by
  unfold sExpr? at h; split at h
  · cases h; exact ⟨_, rfl⟩
  · cases h
theorem sAsg?_ok {s : Stmt} {t e : Expr} (h : sAsg? s = some (t, e)) : ∃ p, s = .Assign [t] e p := by
  unfold sAsg? at h; split at h
  · cases h; exact ⟨_, rfl⟩
  · cases h
theorem isSup_ok {f pre : Str} {s : Stmt} (h : isSup f pre s = true) : ∃ q0 q1 q2 q3 q4 q5 q6 q7 q8 j, (q2.endLine == q7.line) = true ∧ s = .Expr (.Call (.Attribute (.Call (.Name "super" q0) [] [] q1) "__init__" q2) [.JoinedStr [.Constant (.str pre) j q3, .FormattedValue (.Name f q4) (-1) none q5] q6] [] q7) q8 := by
  unfold isSup at h
  split at h
  · rename_i e he
    obtain ⟨q8, rfl⟩ := sExpr?_ok he
    split at h
    · rename_i m j q7 hc
      obtain rfl := eCall?_ok hc
      rw [Bool.and_eq_true] at h
      obtain ⟨h1, h2⟩ := h
      split at h1
      · rename_i o i q2 ha
        obtain rfl := eAttr?_ok ha
        rw [Bool.and_eq_true, Bool.and_eq_true, decide_eq_true_eq] at h1
        obtain ⟨⟨rfl, hl⟩, h1⟩ := h1
        split at h1
        · rename_i n q1 hn
          obtain rfl := eCall?_ok hn
          obtain ⟨q0, rfl⟩ := eName?_ok (of_decide_eq_true h1)
          split at h2
          · rename_i a b hj
            obtain ⟨q6, rfl⟩ := eJoin?_ok hj
            rw [Bool.and_eq_true, decide_eq_true_eq] at h2
            obtain ⟨h2, h3⟩ := h2
            obtain ⟨jj, q3, rfl⟩ := eStr?_ok h2
            split at h3
            · rename_i x c hf
              obtain ⟨q5, rfl⟩ := eFmt?_ok hf
              rw [Bool.and_eq_true, decide_eq_true_eq, decide_eq_true_eq] at h3
              obtain ⟨rfl, h3⟩ := h3
              obtain ⟨q4, rfl⟩ := eName?_ok h3
              exact ⟨_, _, _, _, _, _, _, _, _, _, hl, rfl⟩
            · cases h3
          · cases h2
        · cases h1
      · cases h1
    · cases h
  · cases h
theorem isSt_ok {f : Str} {s : Stmt} (h : isSt f s = true) : ∃ q0 q1 q2 q3, s = .Assign [.Attribute (.Name "self" q0) f q1] (.Name f q2) q3 := by
  unfold isSt at h
  split at h
  · rename_i t e he
    obtain ⟨q3, rfl⟩ := sAsg?_ok he
    rw [Bool.and_eq_true, decide_eq_true_eq] at h
    obtain ⟨h1, h2⟩ := h
    obtain ⟨q2, rfl⟩ := eName?_ok h1
    split at h2
    · rename_i o x q1 ha
      obtain rfl := eAttr?_ok ha
      rw [Bool.and_eq_true, decide_eq_true_eq, decide_eq_true_eq] at h2
      obtain ⟨rfl, h2⟩ := h2
      obtain ⟨q0, rfl⟩ := eName?_ok h2
      exact ⟨_, _, _, _, rfl⟩
    · cases h2
  · cases h
theorem exiPar_ok {f : Str} {a : Arguments} (h : exiPar f a = true) : ∃ n1 p1 n2 p2, a = ⟨[], [⟨"self", n1, p1⟩, ⟨f, n2, p2⟩], none, [], [], none, []⟩ := by
  unfold exiPar at h; split at h
  · rw [Bool.and_eq_true, decide_eq_true_eq, decide_eq_true_eq] at h
    obtain ⟨rfl, rfl⟩ := h
    exact ⟨_, _, _, _, rfl⟩
  · cases h
theorem exiCode_ok {K : PySem.W.Frag} {a : Addr} (h : exiCode K a = true) : ∃ c d vs sl t, K.lookup a = some ⟨c, d, .fields vs, sl⟩ ∧ vs[2]? = some (.str "/claim/cut.py" t) := by
  unfold exiCode at h; split at h
  · rename_i ho
    split at h
    · rename_i hv
      have e := of_decide_eq_true h
      subst e
      exact ⟨_, _, _, _, _, ho, hv⟩
    · cases h
  · cases h
theorem exiCell_ok {K : PySem.W.Frag} {a C : Addr} (h : exiCell K a C = true) : ∃ c d sl, K.lookup a = some ⟨c, d, .cell (some (.ref C)), sl⟩ := by
  unfold exiCell at h; split at h
  · rename_i ho
    have e := beq_iff_eq.mp h
    subst e
    exact ⟨_, _, _, ho⟩
  · cases h
structure ExiF (K : PySem.W.Frag) (C fI : Addr) (f pre : Str) : Prop where
  ex : ∃ (oc : Value) (od : Option Addr) (osl : Array (Option Value)) (nm qual : Str) (params : Arguments) (s1 s2 : Stmt) (sc : Scope) (doc pm ct : Value) (an : Option Addr) (cda cc : Addr),
    K.lookup fI = some ⟨oc, od, .func (PySem.W.fnX nm qual params [s1, s2] sc [("__class__", cc)] .none .none doc pm an (.ref cda) ct), osl⟩ ∧ exiCell K cc C = true ∧ exiCode K cda = true ∧ PySem.W.codeIn K (.ref cda) qual = true ∧ exiPar f params = true ∧ isSup f pre s1 = true ∧ isSt f s2 = true ∧
    NdefX.nscB ["self", f, "__class__"] ["self", f] ["__class__"] sc = true ∧ sc.names.lookup ("super" : Str) = some NameKind.globalImplicit
theorem exiFn_ok {K : PySem.W.Frag} {C fI : Addr} {f pre : Str} (h : exiFn K C fI f pre = true) : ExiF K C fI f pre := by
  unfold exiFn at h
  split at h
  · rename_i oc od fd osl ho
    simp only [Bool.and_eq_true, decide_eq_true_eq, beq_iff_eq] at h
    obtain ⟨h1, h2, h3, h4, h5, h6, h7, h8, h9⟩ := h
    split at h1
    · rename_i x cc cda hcl hcd
      simp only [Bool.and_eq_true, decide_eq_true_eq] at h1
      obtain ⟨rfl, h10, h11, h12⟩ := h1
      unfold exiBody at h3
      split at h3
      · rename_i s1 s2 hb
        rw [Bool.and_eq_true] at h3
        obtain ⟨nm, qual, params, body, scope, globals, closure, dV, kV, doc, pm, an, code, ct, bi⟩ := fd
        dsimp only at *
        subst hcl hcd hb h6 h7 h8 h9
        exact ⟨⟨_, _, _, _, _, _, _, _, _, _, _, _, _, _, _, ho, h10, h11, h12, h2, h3.1, h3.2, h4, h5⟩⟩
      · cases h3
    · cases h1
  · cases h
structure ExiC (K : PySem.W.Frag) (c f pre : Str) : Prop where
  ox : OexC K (He.ga K c)
  noat : PySem.W.findIn K (.ref (He.ga K c)) f = some none
  ini : PySem.W.findIn K (.ref (He.ga K c)) "__init__" = some (some (.ref (He.ma K (He.ga K c) "__init__")))
  tI : PySem.W.typeIn K (.ref (He.ma K (He.ga K c) "__init__")) = some (.type "function")
  sup : PySem.W.ks_superIn K (He.ga K c) (He.ga K c) "__init__" = some (some (.builtin "ValueError.__init__"))
  sub : PySem.W.subIn K (.ref (He.ga K c)) (.type "ValueError") = some true
  mro : PySem.W.mroIn K (He.ga K c) (.ref (He.ga K c)) = some true
  nop : PySem.W.nsIn K cStatics "thirdparty.any" = some none
  fn : ExiF K (He.ga K c) (He.ma K (He.ga K c) "__init__") f pre
theorem exiB_ok {K : PySem.W.Frag} {c f pre : Str} (h : exiB K c f pre = true) : ExiC K c f pre := by
  unfold exiB at h
  simp only [Bool.and_eq_true, decide_eq_true_eq] at h
  obtain ⟨h1, h2, h3, h4, h5, h6, h7, h8, h9, h10, h11, h12, h13⟩ := h
  exact ⟨⟨clsVE_ok h1, h2, h3, h4, h5⟩, h6, h7, h8, h9, h10, h11, h12, exiFn_ok h13⟩
end Pv

namespace Pv
open PySem PySem.Spec PyProof.Rows L2 Sr
set_option exponentiation.threshold 4000 in
theorem log_small {i : Int} (h : smB i = true) : i.natAbs.log2 < 1920 := by
  have h1 := (smB_iff i).mp h
  by_cases h0 : i.natAbs = 0
  · rw [h0]; decide
  · refine (Nat.log2_lt h0).mpr (Nat.lt_of_lt_of_le (m := 2 ^ 64) ?_ (Nat.pow_le_pow_right (by decide) (by decide)))
    omega
theorem he_method {o : Expr} {name : Str} {apos pos : Pos} {args : List Expr} {env : Env} (hl : (apos.endLine == pos.line) = true) (hfew : methodCallForm args.length (backTo pos (starEach args env)) [] = true) :
    eval (.Call (.Attribute o name apos) args [] pos) env = (do
      let ov ← attributeBase o name env (eval o env)
      standAt apos.atName
      let (f, first) ← holding [ov] (getMethod ov name (do return (← importBound o env).getD true))
      callWith pos f first (backTo pos (starEach args env)) []) := by
  have hpos : methodCallPos true o env apos pos = pure pos := by unfold methodCallPos; simp [hl]
  have hk : backToKw pos (keywordEach [] env) = [] := rfl
  have e1 : eval (.Call (.Attribute o name apos) args [] pos) env = (do
      let ov ← attributeBase o name env (eval o env)
      standAt apos.atName
      methodCall o name apos pos env ov (args.length + ([] : List Keyword).length) (backTo pos (starEach args env)) (backToKw pos (keywordEach [] env))) := by first | rfl | rw [arm_eval_Call]
  rw [e1, hk]
  have e2 : methodCallForm (args.length + ([] : List Keyword).length) (backTo pos (starEach args env)) [] = true := hfew
  unfold methodCall calleeOf
  simp only [e2, if_true, hpos, pure_bind]
/-- what such an __init__ keeps -/
def spExi (K : PySem.W.Frag) (C : Addr) (f : Str) : Sp := fun vs H Q E => ∃ (a : Addr) (i : Int), vs = [.ref a, .int i] ∧ smB i = true ∧ H a = some (exo a C none) ∧ ∀ dx, H dx = none → dx ≠ a → Q .non (upd (upd H dx (exd dx [(f, .int i)])) a (exo a C (some dx)))
section
variable {P : Program} {w : World} {K : PySem.W.Frag} {mg : Str → Option Value} {base : Heap} {CX : CXT}
theorem fn_exi [hP : PfOk P] {c f pre : Str} (hpre : (pre : Str).length ≤ 1000) (T : ExiC K c f pre) (hsu : mg "super" = none) (hf : f = "index" ∨ f = "offset") :
    ∃ fd : FuncData, FnOk P w K mg base CX 1 (He.ma K (He.ga K c) "__init__") fd ["self", f] (spExi K (He.ga K c) f) ∧ L2.Binds K fd ["self", f] [] := by
  obtain ⟨oc, od, osl, nm, qual, params, s1, s2, sc, doc, pm, ct, an, cda, cc, hfn, hcell, hcode, hcd, hpar, hs1, hs2, hsc, hks⟩ := T.fn.ex
  obtain ⟨n1, p1, n2, p2, rfl⟩ := exiPar_ok hpar
  obtain ⟨q0, q1, q2, q3, q4, q5, q6, q7, q8, j, hline, rfl⟩ := isSup_ok hs1
  obtain ⟨r0, r1, r2, r3, rfl⟩ := isSt_ok hs2
  obtain ⟨oc2, od2, vs2, sl2, tf, hcda, hvs2⟩ := exiCode_ok hcode
  obtain ⟨oc3, od3, sl3, hcc⟩ := exiCell_ok hcell
  have hf3 : (f == ("__debug__" : Str)) = false := by rcases hf with rfl | rfl <;> decide
  have hf4 : (f == ("__classdict__" : Str)) = false := by rcases hf with rfl | rfl <;> decide
  have S : NdefX.NScope ["self", f, "__class__"] ["self", f] ["__class__"] sc := NdefX.nscope_by hsc
  refine ⟨PySem.W.fnX nm qual ⟨[], [⟨"self", n1, p1⟩, ⟨f, n2, p2⟩], none, [], [], none, []⟩ [.Expr (.Call (.Attribute (.Call (.Name "super" q0) [] [] q1) "__init__" q2) [.JoinedStr [.Constant (.str pre) j q3, .FormattedValue (.Name f q4) (-1) none q5] q6] [] q7) q8, .Assign [.Attribute (.Name "self" r0) f r1] (.Name f r2) r3] sc [("__class__", cc)] .none .none doc pm an (.ref cda) ct, ⟨fun vs H Q E h => by obtain ⟨a, i, rfl, _⟩ := h; rfl, fun A outer s H args us vs Q E hr e0 hb rv hsp => ?_⟩, L2.Binds.all fun us hl => by rcases hf with rfl | rfl <;> exact (match us, hl with | [_, _], _ => rfl)⟩
  obtain ⟨a, i, rfl, hi, ha, q⟩ := hsp
  have KX : K.In s.heap := e0.mod.kin.keeps fun b o e => (e0.bs b o e).1
  have lim : s.heap.NoLimit := e0.mod.nolimit.keeps fun b o e => (e0.bs b o e).1
  have inB : ∀ {b : Addr} {o : Obj}, K.lookup b = some o → s.heap.get? b = some o ∧ H b = none := fun {b o} e => e0.bs b o (e0.mod.kin _ _ e)
  refine ks_codeAny_call_defAt (fd := PySem.W.fnX nm qual _ _ sc [("__class__", cc)] .none .none doc pm an (.ref cda) ct) hr.depth (inB hfn).1 rfl lim (PySem.W.codeRec_of KX hcd) rfl hb S.nocell (fun ⟨n, _⟩ hy => S.par n (List.of_mem_zip hy).1) (fun h₁ hns kp => ?_) S.co S.gen S.kind
  let F : NdefX.NF := ⟨nm, qual, ⟨[], [⟨"self", n1, p1⟩, ⟨f, n2, p2⟩], none, [], [], none, []⟩, [.Expr (.Call (.Attribute (.Call (.Name "super" q0) [] [] q1) "__init__" q2) [.JoinedStr [.Constant (.str pre) j q3, .FormattedValue (.Name f q4) (-1) none q5] q6] [] q7) q8, .Assign [.Attribute (.Name "self" r0) f r1] (.Name f r2) r3], sc, [("__class__", cc)], cda⟩
  have C : NdefX.CellsAt F.cl ["__class__"] [some (.ref (He.ga K c))] s.heap H := by
    have lk : ∀ {y : Str} {b : Addr}, F.cl.lookup y = some b → y = "__class__" ∧ b = cc := fun {y b} e => by
      have e' : List.lookup y [(("__class__" : Str), cc)] = some b := e
      simp only [List.lookup] at e'
      split at e'
      · rename_i hy
        cases e'
        exact ⟨eq_of_beq hy, rfl⟩
      · cases e'
    have hic : s.heap.IsCell cc (some (.ref (He.ga K c))) := ⟨_, (inB hcc).1, rfl⟩
    refine ⟨rfl, fun y b e => ?_, fun x y b e1 e2 => (lk e1).1.trans (lk e2).1.symm, fun k y e => ?_⟩
    · obtain ⟨_, rfl⟩ := lk e
      exact ⟨(inB hcc).2, _, hic⟩
    · match k, e with
      | 0, e =>
        cases e
        exact ⟨cc, rfl, fun v ev => by cases ev; exact ⟨_, rfl, hic⟩⟩
      | k + 1, e => simp at e
  have I : L2.Inv (NdefX.ncx CX P w K mg base ["self", f, "__class__"] F (He.ma K (He.ga K c) "__init__") A outer s H E) [] (NdefX.startF ["self", f, "__class__"] [.ref a, .int i] [some (.ref (He.ga K c))]) H { s with heap := h₁, toks := s.toks + (List.zip (["self", f] : List Str) us).length } := NdefX.inv_startN S hr.hd e0 rfl rv C hns kp
  have fin : ∀ {σ' : L2.St} {H' : Hp} {s' : Shared}, L2.Inv (NdefX.ncx CX P w K mg base ["self", f, "__class__"] F (He.ma K (He.ga K c) "__init__") A outer s H E) [] σ' H' s' → Q .non H' → CE outer P w H s Q .none s' :=
    fun {σ' H' s'} J q => ⟨.non, H', J.os, J.bare, J.base, J.hok, rfl, q⟩
  have hN : (["self", f, "__class__"] : List Str).Nodup := S.nd
  have vf : Vis sc f := .inl (S.par f (by simp))
  have vs : Vis sc "self" := .inl (S.par "self" (by simp))
  -- self at this state
  have kX : ∀ {b : Addr} {o : Obj}, K.lookup b = some o → h₁.get? b = some o := fun e => kp _ _ (inB e).1
  obtain ⟨nmC, qC, NC, bsC, bmC, snC, subC, abC, colC, ddC, k0, k1, k2, k3, k5, hC, hbm⟩ := T.ox.cls
  obtain ⟨t1, hoe⟩ := L2.exo_at I.hok ha
  have hKX : K.In h₁ := KX.keeps kp
  have Ix : PySem.W.InstAt h₁ a ({ cls := .ref (He.ga K c), dict := none, data := .fields #[.ref t1, .none, .none, .none, .bool false, .none] } : Obj) (He.ga K c) none := ⟨hoe, rfl, rfl, trivial⟩
  obtain ⟨m, hns1, hlk⟩ := I.loc
  obtain ⟨u0, ru0, lk0⟩ := hlk 0 "self" (.ref a) rfl rfl vs
  have eu0 : u0 = .ref a := ru0
  subst eu0
  have hms : m "self" = some (.ref a) := by
    rcases lk0 with ⟨_, z⟩ | ⟨z, _⟩
    · exact z
    · exfalso
      have e := S.par "self" (by simp)
      have z' : sc.names.lookup ("self" : Str) = some .cell ∨ sc.names.lookup ("self" : Str) = some .free := z
      rw [e] at z'
      rcases z' with z' | z' <;> cases z'
  obtain ⟨mb, hb1, hb2⟩ := e0.mod.blt
  have kb : ∀ b o, base.get? b = some o → h₁.get? b = some o := fun b o e => kp _ _ (e0.bs b o e).1
  have hfree : sc.names.lookup ("__class__" : Str) = some .free := S.frk "__class__" (by simp)
  refine ks_wpAt_execs_cons (ks_wpAt_Expr_any (ks_wpAt_MethodCall (pl := _) ?_ (he_method hline rfl)) (by unfold interactive; have e := S.kind; simp [callEnv, newEnv, e]) rfl)
  refine ks_wpAt_super_base (of := ⟨oc, od, .func (PySem.W.fnX nm qual _ _ sc [("__class__", cc)] .none .none doc pm an (.ref cda) ct), osl⟩) (oc := ⟨oc2, od2, .fields vs2, sl2⟩) hks hfree (by decide) rfl (kX hfn) rfl (by rfl) rfl (kX hcda) rfl hvs2 hP.file hP.top ?_
  refine PySem.W.ks_loadName_global S.kind hks ?_
  refine Calls.loadGlobal_builtin (e0.mod.glob.keeps kb) hsu (hb1.keeps kb) ((hb2 "super" (by decide)).trans PyProof.Rows.Boot.«super») ⟨rfl, ?_⟩
  refine wpAny_loadName_free (c := cc) S.kind hfree (by rfl) ⟨_, kX hcc, rfl⟩ ?_
  refine wpAny_loadName_local S.kind (S.par "self" (by simp)) hns1 hms ?_
  refine ks_wpAny_isType_cls (kX hC) rfl ⟨rfl, ?_⟩
  have hclC : PySem.W.clsIn K (He.ga K c) = some { name := nmC, bases := bsC, mro := .ref (He.ga K c) :: bmC, ns := NC, qualname := qC, hasDict := true, slotNames := snC, subclasses := subC, abstract := abC, collection := colC, hasDel := false } := by unfold PySem.W.clsIn; rw [hC] <;> rfl
  refine ks_wpAny_call_super (kX hC) rfl hoe rfl (fun c e => by cases e) (PySem.W.looks_mroIn hKX T.mro) (fun h2 hso kp2 => ?_)
  have I2 : L2.Inv (NdefX.ncx CX P w K mg base ["self", f, "__class__"] F (He.ma K (He.ga K c) "__init__") A outer s H E) [] (NdefX.startF ["self", f, "__class__"] [.ref a, .int i] [some (.ref (He.ga K c))]) H { s with heap := h2, toks := s.toks + (List.zip (["self", f] : List Str) us).length } := I.kept (t' := s.toks + (List.zip (["self", f] : List Str) us).length) kp2
  have hKX2 : K.In h2 := hKX.keeps kp2
  have Ix2 : PySem.W.InstAt h2 a ({ cls := .ref (He.ga K c), dict := none, data := .fields #[.ref t1, .none, .none, .none, .bool false, .none] } : Obj) (He.ga K c) none := ⟨kp2 _ _ hoe, rfl, rfl, trivial⟩
  have hsup := T.sup
  unfold PySem.W.ks_superIn at hsup
  rw [hclC] at hsup
  refine PySem.W.kxs_getMethod PySem.W.kxs_ValueError hso (PySem.W.looks_opaque hKX2 T.nop) (l₀ := .ref (He.ga K c) :: bmC) (fun A Q E s k q => wpAny_bind ((PySem.W.looks_clsIn hKX2 hclC) A _ E s k (wpAny_pure q))) rfl hKX2 hsup (Ix2.type.andThen (PySem.W.looks_subIn hKX2 T.sub)) (PySem.W.ks_ne hKX2 Ix2 hclC) (by decide) ?_
  have I3 := pin_add (t' := s.toks + (List.zip (["self", f] : List Str) us).length + 1) (h' := h2.push (PySem.W.kxs_mw "ValueError.__init__" a)) (o := PySem.W.kxs_mw "ValueError.__init__" a) I2 (fun b o e => Heap.get?_push_of_some _ e) (Nat.le_refl _) (Heap.get?_push_at rfl rfl) (fun v z => by cases z)
  have hz : sizeLine = 16777216 := sizeLine_eq
  have hpj : PE (NdefX.ncx CX P w K mg base ["self", f, "__class__"] F (He.ma K (He.ga K c) "__init__") A outer s H E) (.JoinedStr [.Constant (.str pre) j q3, .FormattedValue (.Name f q4) (-1) none q5] q6) _ :=
    pe_joined (.cons pe_str (.cons (pe_fmt (pe_var (i := 1) rfl vf hf3 hf4)) .nil))
  have hpa := pa_cons hpj pa_nil (by rfl)
  refine PySem.W.kxs_callWith (i := "ValueError.__init__") (x := a) (by rfl) (Calls.evalArgs_plain ?_)
  refine wpAny_mono (hpa.run q7 _ _ _ H (fun us H1 => H1 = H ∧ us.length ≤ 1000) I3 ?_) (fun us s4 hus => ?_) (fun e s4 he => he)
  · have hl2 : (Str.empty ++ pre).length ≤ 1000 := by rw [show (Str.empty ++ pre).length = Str.empty.length + pre.length from Str.length_append _ _]; show 0 + _ ≤ _; omega
    refine ⟨pre, rfl, by omega, .int i, rfl, .inr ⟨i, rfl, log_small hi, toString i, rfl, ?_, rfl, by show 1 ≤ 1000; decide⟩⟩
    rw [show (Str.empty ++ pre ++ toString i).length = (Str.empty ++ pre).length + (toString i : Str).length from Str.length_append _ _]
    have := int_text_length_le (k := 1920) (by decide) (log_small hi)
    have e2 : (toString i : Str).length = (toString i).length := PySem.ofString_length _
    omega
  · obtain ⟨vs4, H4, I4, rv4, rfl, hl4⟩ := hus
    have hp4 := (I4.pin (_, _) (List.mem_append_right _ List.mem_cons_self)).1
    have J4 := pin_off I4
    obtain ⟨t4, ho4⟩ := L2.exo_at J4.hok ha
    obtain ⟨h4, g4, d4, k4, o4⟩ := s4
    refine ⟨hp4, ?_⟩
    have hl5 : us.length ≤ sizeLine := by rw [← rv4.length]; omega
    refine call_bwV (J4.kIn _ _ hC) ho4 hp4 hl5 fun h5 t5 k5 hx5 => ?_
    have J5 : L2.Inv (NdefX.ncx CX P w K mg base ["self", f, "__class__"] F (He.ma K (He.ga K c) "__init__") A outer s H4 E) [] (NdefX.startF ["self", f, "__class__"] [.ref a, .int i] [some (.ref (He.ga K c))]) H4 ⟨h5, g4, d4, k4, o4⟩ := by
      have J := J4.write (t' := k4) (x := a) (e := a) (o := exo a (He.ga K c) none) (by rw [ha]; exact True.intro) (.inl rfl) k5 ⟨_, hx5⟩ (exo_ok hx5)
      have eu : upd H4 a (exo a (He.ga K c) none) = H4 := by
        funext b
        by_cases hb : b = a
        · rw [hb, upd_same, ha]
        · rw [upd_ne hb]
      rw [eu] at J
      exact J
    refine ks_wpAt_execs_cons (wpAt_of_wpAny ?_)
    refine wpAny_mono ((ps_ost (f := f) (o := .Name "self" r0) (e := .Name f r2) (pe_var (i := 0) rfl vs) (pe_var (i := 1) rfl vf hf3 hf4)).run [] _ _ _ { nx := fun _ H' => Q .non H', rt := fun _ _ => False } J5 ?_) (fun fl s6 h6 => ?_) (fun e s6 he => he)
    · exact ⟨.int i, rfl, .ref a, rfl, a, He.ga K c, rfl, T.ox, T.noat, .inl ⟨ha, q⟩⟩
    · cases fl with
      | next =>
        obtain ⟨σ6, H6, J6, q6⟩ := h6
        exact wpAt_of_wpAny (wpAny_pure (fin J6 q6))
      | ret u => 
        obtain ⟨_, _, _, _, _, q6⟩ := h6
        exact q6.elim
      | brk => 
        obtain ⟨_, _, _, q6⟩ := h6
        exact q6.elim
      | cont => 
        obtain ⟨_, _, _, q6⟩ := h6
        exact q6.elim
end
/-- raise C(e), C's __init__ keeping the number e as f -/
def gRaiseI (c f : Str) (g : G) : GS := fun ρ R => (g ρ R).out fun d R1 => match d with
  | .int i => if smB i = true then .exc c [(f, .int i)] R1 else .bad
  | _ => .bad
theorem raiseI_ap {c f : Str} {g : G} {ρ : PEnv} {R : Rs} : gRaiseI c f g ρ R = (g ρ R).out fun d R1 => match d with
  | .int i => if smB i = true then .exc c [(f, .int i)] R1 else .bad
  | _ => .bad := rfl
section
variable {X : Cx} {E : XK} {own own' ol : List Nat}
theorem st_raiseI {c f pre : Str} {p pos1 pos : Pos} {e : Expr} {g : G} (hs : X.stack = X.env :: X.outer) (hf : X.env.frame = some X.env.locals) (hex : X.ex = []) {E1 : Value → Shared → Prop}
    (hx : X.xe = fun e s' => wpAny (model X.prog X.w) X.A (leaving X.env e) (fun _ s'' => L2.CX X.prog X.w X.outer X.H_0 X.s_0 E e s'') E1 s') (hc : X.calm = true) (hP : PfOk X.prog) (T : ExiC X.K c f pre) (hpre : pre.length ≤ 1000) (hff : f = "index" ∨ f = "offset") (hsu : X.mg "super" = none) (hr : Room 2 X.A) (hm : X.mg c = some (.ref (He.ga X.K c)))
    (he : Ev X E e g) (hg : Gl X c := by rfl) (hdb : (c == ("__debug__" : Str)) = false := by decide) (hst : starEach [e] X.env = (false, eval e X.env) :: starEach [] X.env := by rfl) :
    Stm X E own own' ol (.Raise (some (.Call (.Name c p) [e] [] pos1)) none pos) (gRaiseI c f g) := by
  obtain ⟨fd, F1, hb⟩ := fn_exi (P := X.prog) (w := X.w) (mg := X.mg) (base := X.base) (CX := L2.CX X.prog X.w) hpre T hsu hff
  refine ps_imp (ps_raise hc (takes_of hs hf hex hx) (pmk_oex (CX := L2.CX X.prog X.w) T.ox T.ini T.tI F1 hr hb (dvs := []) .nil pass_no hg hm (pa_cons he pa_nil hst) hdb hst rfl)) fun Dn σ H ⟨S0, F0, H0, ρ, R, s, h⟩ => ?_
  refine see_wp (m := .g) rfl s h fun v d R1 S F S1 F1 H1 s ef eg cells r ext h1 => ?_
  split at h1
  · rename_i i
    split at h1
    · rename_i hi
      cases r
      refine ⟨by show 1 ≤ 1000; decide, fun a ha => ⟨a, i, rfl, hi, upd_same, fun dx hdx hne => ⟨rfl, dx, [(f, .int i)], upd_same, ?_, ?_, ?_⟩⟩⟩
      · rw [upd_ne hne, upd_same]
      · rw [upd_ne hne] at hdx; exact hdx
      · rw [upd_ne hne] at hdx
        have eH : upd (del (upd (upd (upd H1 a (exo a (He.ga X.K c) none)) dx (exd dx [(f, .int i)])) a (exo a (He.ga X.K c) (some dx))) a) dx (.xd [(f, .int i)]) = upd H1 dx (.xd [(f, .int i)]) := by
          funext b
          by_cases hb : b = dx
          · subst hb; rw [upd_same, upd_same]
          · rw [upd_ne hb, upd_ne hb]
            by_cases ha' : b = a
            · subst ha'; rw [del_same, ha]
            · rw [del_ne ha', upd_ne ha', upd_ne hb, upd_ne ha']
        rw [eH]
        have fh : Same F1 H1 := ext.fh
        exact h1 (some dx) S1 (upd F1 dx (.xd [(f, .int i)])) _ (ext.trans (Ext.new fh hdx)) (cells.new fh hdx) (.at_ upd_same rfl (.cons (.int _) .nil))
    · exact h1.elim
  · exact h1.elim
end
end Pv

namespace Pv
open PySem PySem.Spec PyProof.Rows L2 Sr
/-! ### dicts that are walked: they are locked meanwhile -/
/-- what stands in a dict's cell -/
def isDc : HO → Prop
  | .dK _ => True
  | .dT _ => True
  | _ => False
/-- no dict, locked or not -/
def ndc : HO → Bool
  | .dK _ => false
  | .dT _ => false
  | .frz _ (.dK _) => false
  | .frz _ (.dT _) => false
  | _ => true
/-- the same, but for the locks of dicts -/
def Swp (F G : Hp) : Prop := ∀ a, F a = G a ∨ (∃ fs, Rd F a (.dK fs) ∧ Rd G a (.dK fs)) ∨ ∃ fs, Rd F a (.dT fs) ∧ Rd G a (.dT fs)
theorem rd_inj {F : Hp} {a : Addr} {u w : HO} (h : Rd F a u) (h' : Rd F a w) (hu : ∀ o x, u ≠ .frz o x) (hw : ∀ o x, w ≠ .frz o x) : u = w := by
  rcases h with h | ⟨o, h⟩ <;> rcases h' with h' | ⟨o', h'⟩ <;> rw [h] at h' <;> cases h'
  · rfl
  · exact absurd rfl (hu _ _)
  · exact absurd rfl (hw _ _)
  · rfl
section
variable {K : PySem.W.Frag} {F G : Hp}
theorem nrd {a : Addr} {u w : HO} (e : F a = some u) (hn : ndc u = true) (hw : isDc w) : ¬ Rd F a w := fun h => by
  rcases h with h | ⟨o, h⟩
  · rw [e] at h; cases h
    cases u <;> first | exact False.elim hw | exact (Bool.false_ne_true hn).elim
  · rw [e] at h; cases h
    cases w <;> first | exact False.elim hw | exact (Bool.false_ne_true hn).elim
theorem Swp.at_ (h : Swp F G) {a : Addr} {u : HO} (e : F a = some u) (hn : ndc u = true) : G a = some u := by
  rcases h a with q | ⟨fs, q, _⟩ | ⟨fs, q, _⟩
  · rw [← q]; exact e
  · exact absurd q (nrd e hn trivial)
  · exact absurd q (nrd e hn trivial)
theorem Swp.dvOk (h : Swp F G) {l : LamT} {dV : Value} (r : DvOk F l dV) : DvOk G l dV := by
  rcases r with r | ⟨r, t, e, ht⟩
  · exact .inl r
  · exact .inr ⟨r, t, e, h.at_ ht rfl⟩
theorem Swp.capOk (h : Swp F G) {N : List Str} {cl : List (Str × Addr)} {sc : Scope} {σ : List (Option V)} (r : CapOk F N cl sc σ) : CapOk G N cl sc σ := by
  obtain ⟨h1, h2, h3, h4, h5⟩ := r
  refine ⟨h1, h2, h3, fun y b e => ?_, fun i y v e1 e2 e3 => ?_⟩
  · obtain ⟨o, u, z1, z2⟩ := h4 y b e
    exact ⟨o, u, h.at_ z1 rfl, z2⟩
  · obtain ⟨b, o, u, z1, z2, z3⟩ := h5 i y v e1 e2 e3
    exact ⟨b, o, u, z1, h.at_ z2 rfl, z3⟩
theorem Swp.tabOk (h : Swp F G) {ps : Array Value} (r : TabOk F ps) : TabOk G ps := r.mono fun c e => h.at_ e rfl
theorem Swp.dK (h : Swp F G) {a : Addr} {fs : List (Key × V)} (e : Rd F a (.dK fs)) : Rd G a (.dK fs) := by
  rcases h a with z | ⟨gs, z1, z2⟩ | ⟨gs, z1, z2⟩
  · rcases e with e | ⟨o, e⟩
    · exact .inl (by rw [← z]; exact e)
    · exact .inr ⟨o, by rw [← z]; exact e⟩
  · have := rd_inj e z1 (by simp) (by simp)
    cases this; exact z2
  · have := rd_inj e z1 (by simp) (by simp)
    cases this
theorem Swp.dT (h : Swp F G) {a : Addr} {fs : List (List Key × V)} (e : Rd F a (.dT fs)) : Rd G a (.dT fs) := by
  rcases h a with z | ⟨gs, z1, z2⟩ | ⟨gs, z1, z2⟩
  · rcases e with e | ⟨o, e⟩
    · exact .inl (by rw [← z]; exact e)
    · exact .inr ⟨o, by rw [← z]; exact e⟩
  · have := rd_inj e z1 (by simp) (by simp)
    cases this
  · have := rd_inj e z1 (by simp) (by simp)
    cases this; exact z2
mutual
theorem Rep.swp (h : Swp F G) : ∀ {v : V} {d : D}, Rep K F v d → Rep K G v d
  | _, _, .non => .non
  | _, _, .bl b => .bl b
  | _, _, .int i => .int i
  | _, _, .str x => .str x
  | _, _, .tup e r => .tup (h.at_ e rfl) (Reps.swp h r)
  | _, _, .lst e r => .lst (h.at_ e rfl) (Reps.swp h r)
  | _, _, .arm e q r => .arm (h.at_ e rfl) q (Reps.swp h r)
  | _, _, .ins e q r => .ins (h.at_ e rfl) q (Reps.swp h r)
  | _, _, .dic e q r => .dic (h.dK e) q (Reps.swp h r)
  | _, _, .dit e q r => .dit (h.dT e) q (Reps.swp h r)
  | _, _, .ty n => .ty n
  | _, _, .cls c => .cls c
  | _, _, .lam h1 h2 h3 => .lam (h.at_ h1 rfl) (h.at_ h2 rfl) (h.dvOk h3)
  | _, _, .tab h1 => .tab (h.at_ h1 rfl)
  | _, _, .clo h1 h2 h3 h4 h5 => .clo (h.at_ h1 rfl) (h.at_ h2 rfl) (h.dvOk h3) (h.capOk h4) (RepE.swp h h5)
theorem RepE.swp (h : Swp F G) : ∀ {as : Addr} {σ : List (Option V)} {ρ : List (Option D)}, RepE K F as σ ρ → RepE K G as σ ρ
  | _, _, _, .nil => .nil
  | _, _, _, .none r => .none (RepE.swp h r)
  | _, _, _, .some q r => .some (Rep.swp h q) (RepE.swp h r)
  | _, _, _, .loc r => .loc (RepE.swp h r)
theorem Reps.swp (h : Swp F G) : ∀ {vs : List V} {ds : List D}, Reps K F vs ds → Reps K G vs ds
  | _, _, .nil => .nil
  | _, _, .cons a r => .cons (Rep.swp h a) (Reps.swp h r)
end
theorem RepO.swp (h : Swp F G) {o : HO} {d : D} (r : RepO K F o d) : RepO K G o d := by
  cases r with
  | lst r => exact .lst (r.swp h)
  | ins e r => exact .ins e (r.swp h)
  | dic e r => exact .dic e (r.swp h)
  | dit e r => exact .dit e (r.swp h)
  | tab r => exact .tab (h.tabOk r)
theorem LkV.swp (h : Swp F G) {v : V} {d : D} (r : LkV K F v d) : LkV K G v d := by
  cases r with
  | x r => exact .x (r.imp id fun ⟨d, fs, e, h1, h2, h3⟩ => ⟨d, fs, e, h.at_ h1 rfl, h2, h3.swp h⟩)
theorem RepV.swp {S : List Addr} (h : Swp F G) {v : V} {d : D} (r : RepV K S F v d) : RepV K S G v d := by
  rcases r with r | r | r
  · exact .inl (r.swp h)
  · exact .inr (.inl r)
  · exact .inr (.inr (r.swp h))
theorem swp_lock {a : Addr} {u : HO} {o : Obj} (hu : isDc u) (h : F a = some u) : Swp F (upd F a (.frz o u)) := fun b => by
  by_cases e : b = a
  · subst e
    right
    cases u <;> try exact False.elim hu
    · exact .inl ⟨_, .inl h, .inr ⟨o, upd_same⟩⟩
    · exact .inr ⟨_, .inl h, .inr ⟨o, upd_same⟩⟩
  · left; rw [upd_ne e]
theorem swp_unlock {a : Addr} {u : HO} {o : Obj} (hu : isDc u) (h : F a = some (.frz o u)) : Swp F (upd F a u) := fun b => by
  by_cases e : b = a
  · subst e
    right
    cases u <;> try exact False.elim hu
    · exact .inl ⟨_, .inr ⟨o, h⟩, .inl upd_same⟩
    · exact .inr ⟨_, .inr ⟨o, h⟩, .inl upd_same⟩
  · left; rw [upd_ne e]
end
theorem mut_dc {u : HO} (h : isDc u) : Mut (some u) := by cases u <;> first | exact False.elim h | trivial
section
variable {K : PySem.W.Frag} {S S' : List Addr} {F H F' H' F0 H0 : Hp} {R : Rs} {a : Addr} {u z : HO} {ρ : PEnv} {σ : L2.St} {E : XK}
theorem Cells.swp (c : Cells K S F H R) (hs : Swp F (L2.upd F a z)) (hF : F a ≠ none) : Cells K S (L2.upd F a z) (L2.upd H a z) R :=
  ⟨c.len, fun i b d h1 h2 => by
    obtain ⟨n, o, h3, h4⟩ := c.at_ i b d h1 h2
    have hne : b ≠ a := fun e => hF (by rw [← e]; exact n)
    exact ⟨by rw [upd_ne hne]; exact n, o, by rw [upd_ne hne]; exact h3, h4.swp hs⟩, c.nd, c.tb⟩
theorem same_both (h : Same F H) : Same (upd F a z) (upd H a z) := fun b w e => by
  by_cases q : b = a
  · subst q; rw [upd_same] at e ⊢; exact e
  · rw [upd_ne q] at e ⊢; exact h b w e
theorem View.lock {o : Obj} (v : View K S F H ρ R σ) (hu : isDc u) (hF : F a = some u) : View K S (upd F a (.frz o u)) (upd H a (.frz o u)) ρ R σ :=
  have hs : Swp F (upd F a (.frz o u)) := swp_lock hu hF
  ⟨same_both v.fh, fun j d hj => by
    obtain ⟨w, h1, h2⟩ := v.env j d hj
    exact ⟨w, h1, h2.swp hs⟩, v.cells.swp hs (by rw [hF]; simp), v.len⟩
/-- behind the lock -/
theorem Ext.unlock (hF : F a = some u) (hH : H a = some u) (e : Ext S (upd F a z) (upd H a z) S' F' H') : Ext S F H S' (upd F' a u) (upd H' a u) where
  s := e.s
  f := fun b w h => by
    by_cases q : b = a
    · subst q; rw [hF] at h; cases h; exact upd_same
    · rw [upd_ne q]; exact e.f b w (by rw [upd_ne q]; exact h)
  fh := same_both e.fh
  fr := fun b w h hb => by
    by_cases q : b = a
    · subst q; rw [hH] at h; cases h; exact upd_same
    · rw [upd_ne q]; exact e.fr b w (by rw [upd_ne q]; exact h) hb
  th := fun b w h => by
    by_cases q : b = a
    · subst q; exact ⟨u, upd_same⟩
    · rw [upd_ne q]; exact e.th b w (by rw [upd_ne q]; exact h)
  nw := fun b w h n => by
    have q : b ≠ a := fun q => by rw [q, hF] at n; cases n
    rw [upd_ne q]; exact e.nw b w (by rw [upd_ne q]; exact h) (by rw [upd_ne q]; exact n)
  sn := fun b h1 h2 => by
    have := e.sn b h1 h2
    by_cases q : b = a
    · subst q; rw [upd_same] at this; cases this
    · rwa [upd_ne q] at this
/-- a result that cannot raise -/
def Res.quiet {α : Type} (r : Res α) : Prop := ∀ c fs R, r ≠ .exc c fs R
theorem quiet_lst (r : Res (List D)) : (r.calm.bind dLst).quiet := fun c fs R h => by
  cases r with
  | ok xs R1 =>
    have h : dLst xs R1 = .exc c fs R := h
    unfold dLst at h
    split at h <;> cases h
  | exc _ _ _ => cases h
  | bad => cases h
theorem Wf.unlock {r : Res D} {Q : VK} {o : Obj} (hu : isDc u) (hF : F a = some u) (hH : H a = some u) (hq : r.quiet) (h : Wf K E S F H r Q) : Wf K E S (upd F a (.frz o u)) (upd H a (.frz o u)) r fun v H' => H' a = some (.frz o u) ∧ Q v (upd H' a u) := by
  cases r with
  | ok d R' =>
    intro p w S' F' H' e c hp hr hFp hHp hS
    have hF' : F' a = some (.frz o u) := e.f _ _ upd_same
    have hH' := e.fh _ _ hF'
    have hs : Swp F' (upd F' a u) := swp_unlock hu hF'
    have hpa : p ≠ a := fun q => by rw [q, hF'] at hFp; cases hFp
    exact ⟨hH', h p w S' (upd F' a u) (upd H' a u) (Ext.unlock hF hH e) (c.swp hs (by rw [hF']; simp)) (by rw [upd_ne hpa]; exact hp) (hr.swp hs) (by rw [upd_ne hpa]; exact hFp) (by rwa [upd_ne hpa] at hHp) hS⟩
  | exc c fs R' => exact absurd rfl (hq c fs R')
  | bad => exact h
end
section
variable {X : Cx} {E : XK} {e : Expr} {g : G}
/-- an expression that walks slot i's dict -/
theorem evf_lock {t : TE} {i : Nat} (h : PE X e t) (hq : ∀ ρ R, (g ρ R).quiet) (hg : ∀ ρ R, g ρ R ≠ .bad → ∃ kvs, ρ[i]? = some (some (.dic kvs)))
    (k : ∀ σ H S F ρ R a o fs gs Q, View X.K S F H ρ R σ → σ[i]? = some (some (.ref a)) → F a = some (.frz o (.dK fs)) → RepK X.K F fs gs → ρ[i]? = some (some (.dic gs)) → Wf X.K E S F H (g ρ R) Q → t σ H Q) : EvF X E e g := ⟨fun pins s σ H Q I q => by
  obtain ⟨S, F, ρ, R, v, hW⟩ := q
  have hnb : g ρ R ≠ .bad := fun z => by rw [z] at hW; exact hW
  obtain ⟨kvs, hk⟩ := hg ρ R hnb
  obtain ⟨w, hw, hr⟩ := v.env i _ hk
  have hr : Rep X.K F w (.dic kvs) := hr.rep rfl
  cases hr with
  | @dic a fs _ e1 e2 e3 =>
    rcases e1 with e1 | ⟨o, e1⟩
    · have hH := v.fh _ _ e1
      refine (pe_lock h).run pins s σ H Q I ⟨a, .dK fs, hH, mut_dc trivial, fun od => ?_⟩
      have hs : Swp F (upd F a (.frz od (.dK fs))) := swp_lock trivial e1
      exact k σ _ S _ ρ R a od fs kvs _ (v.lock trivial e1) hw upd_same ⟨e2, e3.swp hs⟩ hk (Wf.unlock trivial e1 hH (hq ρ R) hW)
    · exact h.run pins s σ H Q I (k σ H S F ρ R a o fs kvs Q v hw e1 ⟨e2, e3⟩ hk hW)⟩
/-! what is walked -/
def kD : Key → D
  | .inl i => .int i
  | .inr x => .str x
theorem rep_kD {K : PySem.W.Frag} {F : Hp} (k : Key) : Rep K F (kV k) (kD k) := by cases k <;> constructor
def dicOf (f : List (Key × D) → List D) : D → Rs → Res (List D) := fun d R => match d with
  | .dic kvs => .ok (f kvs) R
  | _ => .bad
def keysD (kvs : List (Key × D)) : List D := kvs.map fun p => kD p.1
/-- an iterator over slot i's dict, once it is locked -/
def DWalk (X : Cx) (tg iter : Expr) (i : Nat) (f : List (Key × D) → List D) : Prop := ∃ (wi : TI) (J : Addr → Obj → List (Key × V) → It), PI X tg iter wi ∧
  (∀ (σ : L2.St) (H : Hp) (R : It → Hp → Prop) (a : Addr) (o : Obj) (fs : List (Key × V)), σ[i]? = some (some (.ref a)) → H a = some (.frz o (.dK fs)) → R (J a o fs) H → wi σ H R) ∧
  ∀ (F : Hp) (a : Addr) (o : Obj) (fs : List (Key × V)) (gs : List (Key × D)), F a = some (.frz o (.dK fs)) → RepK X.K F fs gs → WalkD X.K F (J a o fs) (f gs)
theorem repK_at {K : PySem.W.Frag} {F : Hp} {fs : List (Key × V)} {gs : List (Key × D)} (r : RepK K F fs gs) {i : Nat} {k : Key} {v : V} (h : fs[i]? = some (k, v)) : ∃ d, gs[i]? = some (k, d) ∧ Rep K F v d := by
  have h1 : (fs.map (·.1))[i]? = some k := by rw [List.getElem?_map, h]; rfl
  have h2 : (fs.map (·.2))[i]? = some v := by rw [List.getElem?_map, h]; rfl
  rw [r.1, List.getElem?_map] at h1
  obtain ⟨d, h3, h4⟩ := r.2.getV h2
  rw [List.getElem?_map] at h3
  cases q : gs[i]? with
  | none => rw [q] at h1; cases h1
  | some p =>
    rw [q] at h1 h3
    cases h1; cases h3
    exact ⟨_, rfl, h4⟩
theorem repK_len {K : PySem.W.Frag} {F : Hp} {fs : List (Key × V)} {gs : List (Key × D)} (r : RepK K F fs gs) : fs.length = gs.length := by simpa using congrArg List.length r.1
variable {tg : Expr} {apos cpos : Pos}
theorem dw_keys {i : Nat} (h : PE X e (tVar i)) : DWalk X tg e i keysD := ⟨_, fun a o fs => Itk a o fs, pi_keys h, fun σ H R a o fs h1 h2 h3 => ⟨_, h1, a, o, rfl, .inl ⟨fs, h2, h3⟩⟩, fun F a o fs gs h1 r => by
  refine ⟨fun i H x H' => H' = H ∧ ∃ k v, fs[i]? = some (k, v) ∧ x = kV k, ?_, fun j d H x H2 F1 hd h2 h3 y => ?_⟩
  · rw [show (keysD gs).length = fs.length by simp [keysD, repK_len r]]
    exact walk_keys.mono (fun H hs => hs _ _ h1) fun _ _ _ _ _ _ y => y
  · obtain ⟨rfl, k, v, g1, rfl⟩ := y
    obtain ⟨w, g2, _⟩ := repK_at r g1
    unfold keysD at hd
    rw [List.getElem?_map, g2] at hd
    cases hd
    exact ⟨.refl _, F1, fun S => .refl h3, rep_kD k⟩⟩
/-! ### [x for k in d if t] -/
variable {vs : List Nat} {T : TD} {t : TG} {tt : GT} {ge : G} {elt iter : Expr} {ifs : List Expr} {scope : Scope} {own : List (Str × Nat)} {pos : Pos} {i : Nat} {f : List (Key × D) → List D}
theorem dic_bad {ρ : PEnv} {R : Rs} {k : List D → Rs → Res D} (h : (((gIt (dicOf f) (gVar i)) ρ R).bind k) ≠ .bad) : ∃ kvs, ρ[i]? = some (some (.dic kvs)) := by
  unfold gIt gVar at h
  split at h
  · rename_i d hd
    cases d with
    | dic kvs => exact ⟨kvs, hd⟩
    | _ => exact absurd (by first | rfl | (split <;> rfl)) h
  · exact absurd rfl h
theorem evf_lcK (hv : own.map (·.2) = vs) (hc : X.calm = true) (hN : X.N.Nodup) (hi : DWalk X tg iter i f) (ok : BlkOk X.N X.env.scope scope own)
    (hg : ∀ (s : Shared) (H : Hp) (C : Addr) (cl : List (Str × Addr)) (fp : List Addr), PG (X.blk s H scope (compEnvC scope cl C X.env) fp) tg t) (hT : TgD X.K t T vs) (ht : ∀ (s : Shared) (H : Hp) (C : Addr) (cl : List (Str × Addr)) (fp : List Addr), PTs (X.blk s H scope (compEnvC scope cl C X.env) fp) ifs (tPT X.K XF tt))
    (he : ∀ (s : Shared) (H : Hp) (C : Addr) (cl : List (Str × Addr)) (fp : List Addr), PE (X.blk s H scope (compEnvC scope cl C X.env) fp) elt (tP X.K XF ge)) (hs : ∀ x, foldedSetIterable iter X.env x = pure x := by intro _; rfl) :
    EvF X E (.ListComp elt [⟨tg, iter, ifs, 0⟩] scope pos) (gLc vs (gIt (dicOf f) (gVar i)) T tt ge) := by
  subst hv
  obtain ⟨wi, J, h1, h2, h3⟩ := hi
  refine evf_lock (i := i) (pe_lc hc hN h1 ok hg ht he hs) (fun ρ R => ?_) (fun ρ R h => dic_bad h) fun σ H S F ρ R a o fs gs Q v e1 e2 r e3 hW => ?_
  · unfold gLc
    cases q : gIt (dicOf f) (gVar i) ρ R with
    | ok ds R1 => exact quiet_lst _
    | exc c fs R1 =>
      exfalso
      unfold gIt gVar at q
      split at q
      · rename_i d hd
        split at q
        · cases q
        · cases d <;> cases q
      · cases q
    | bad => exact fun _ _ _ z => by cases z
  · have hW : Wf X.K E S F H (((lcG T tt ge (f gs) (wipeD ρ (own.map (·.2))) R).calm).bind dLst) Q := by
      unfold gLc gIt gVar at hW
      simp only [e3] at hW
      exact hW
    exact h2 σ H _ a o fs e1 (v.fh _ _ e2) (tLc_core hT v (h3 F a o fs gs e2 r) hW)
end
end Pv

/-! ### set(xs), xs a list of ints; sorted(set(xs)), len(set(xs)) -/
namespace L2
open PySem PySem.Spec PyProof.Rows
section
variable {P : Program} {w : World} {A : Around} {E : Value → Shared → Prop} {s : Shared}
/-- the empty set that set(..) lays first -/
abbrev newSet (w : World) : Obj := { cls := .type "set", dict := none, data := .set #[] 0 (.fresh 0 0 (!w.params.followText "set-order")) }
set_option maxRecDepth 100000 in
set_option maxHeartbeats 3200000 in
theorem setL_call {l : Addr} {items : Array Value} (ns : List Int) {Q : Value → Shared → Prop} (hh : A.handled = none) (hl : s.heap.IsList l items) (hit : IntsAre items.toList ns) (hb : ns.length + 1 < scanBound)
    (h : ∀ (h' : Heap) (tk c : Nat), SetR w h' s.heap.objs.size (fun j => decide (j ∈ ns)) c → (∀ b o, s.heap.get? b = some o → h'.get? b = some o) → Q (.ref s.heap.objs.size) { s with heap := h', toks := tk }) :
    wpAny (model P w) A (call (.type "set") [.ref l]) Q E s := by
  have hisz : items.size = ns.length := by rw [← Array.length_toList]; exact IntsAre.length hit
  obtain ⟨c, tl, hmro⟩ := F.called_set.mro
  have a1 := F.called_set.made
  have a2 := F.called_set.sub
  have a3 := F.called_set.notType
  have a4 := F.called_set.canCreate
  have a5 := F.typeCall_set_1 (.ref l)
  refine wpAny_call (codeAny_of_tree ?_)
  show wpAny _ _ (callAny (.type "set") _) _ _ _
  refine wpAny_pure ⟨Code.quiet_builtin _ (by decide +kernel), codeAny_builtin F.entry_type_call ?_⟩
  rw [Around.under_plain (weight_type_call_type "set" [.ref l] []) rfl]
  repeat (any_goals (first | assumption | wp_step))
  refine codeAny_mono (code_set_led1 (.ref l) (E := E) (Q₁ := fun v t => v = .ref s.heap.objs.size ∧ t = { s with heap := s.heap.push (newSet w) }) ⟨rfl, rfl⟩) fun r t hr => ?_
  cases r with
  | error e => exact hr
  | ok fl =>
    cases fl with
    | ret v =>
      obtain ⟨rfl, rfl⟩ := hr
      have hS : (s.heap.push (newSet w)).get? s.heap.objs.size = some (newSet w) := Heap.get?_push_size _ rfl
      have hT : Shared.TypeIs { s with heap := s.heap.push (newSet w) } (.ref s.heap.objs.size) "set" := ⟨_, hS, rfl⟩
      have b1 := F.called_set.init.lookup
      have b2 := F.called_set.init.bind (.ref s.heap.objs.size)
      repeat (any_goals (first | assumption | wp_step))
      refine codeAny_mono (codeAny_call_builtin (R := wants (fun r t => r = .none ∧ ∃ h' tk c, t = { s with heap := h', toks := tk } ∧ SetR w h' s.heap.objs.size (fun j => decide (j ∈ ns)) c ∧
          (∀ b o, s.heap.get? b = some o → h'.get? b = some o)) E) F.called_set.init.plain F.entry_set_init (check_set_init_1 hT ?_)) fun r t hr => ?_
      · obtain ⟨⟨oc, od, ot, os⟩, hol, hcl, nl, hdl⟩ := hl
        simp only at hcl hdl
        subst hcl hdl
        have hlS : l < s.heap.objs.size := Heap.lt_size hol
        have g1 : (s.heap.push (newSet w)).get? l = some { cls := .type "list", dict := od, data := .seq items nl, slots := os } := Heap.get?_push_of_some _ hol
        have c1 := F.sub_list_set
        have c2 := F.sub_list_frozenset
        have c3 : (Value.type "list" == Value.type "dict") = false := by decide
        have hl1 : (s.heap.push (newSet w)).IsList l items := ⟨_, g1, rfl, nl, rfl⟩
        unfold Builtin.«set.__init__» noKeywords Builtin.Frozenset.updateFrom
        generalize hPI : pyIter = PI
        wp_walk
        subst hPI
        refine wpAny_pyIter_list hl1 (wpAny_bind (wpAny_runValue ?_))
        have hh3 : A.in1.in1.in1.handled = none := by simp [hh]
        have hz : (s.heap.push (newSet w)).objs.size = s.heap.objs.size + 1 := by rw [Heap.size_push]
        have hneI : l ≠ (s.heap.push (newSet w)).objs.size := by rw [hz]; exact Nat.ne_of_lt (Nat.lt_succ_of_lt hlS)
        have hSf : s.heap.objs.size ∉ [(s.heap.push (newSet w)).objs.size, l] := by
          rw [hz]; simp only [List.mem_cons, List.not_mem_nil, or_false, not_or]
          exact ⟨Nat.ne_of_lt (Nat.lt_succ_self _), Nat.ne_of_gt hlS⟩
        refine set_update_ints ((Walks.list hh3 _ l hneI items).toS) s.heap.objs.size hSf ns hisz hb (fun i v hv => ?_) (items.size - 0) 0 _ (by omega) (Nat.zero_le _)
          ⟨⟨_, Heap.get?_push_size _ rfl, rfl, rfl⟩, hl1.push _⟩ ⟨0, Nat.le_refl 0, setR_new_at (Heap.get?_push_of_some _ hS)⟩ fun t c' hm hc' hS' => ?_
        · have hi : i < ns.length := by rw [← hisz]; exact (Array.getElem?_eq_some_iff.mp hv).1
          obtain ⟨k, e⟩ := IntsAre.int_at hit i v (by rw [Array.getElem?_toList]; exact hv)
          exact ⟨ns[i], k, List.getElem?_eq_getElem hi, by rw [e, List.getD_eq_getElem?_getD, List.getElem?_eq_getElem hi] <;> rfl⟩
        · obtain ⟨h', g2, d', tk', os'⟩ := t
          obtain rfl : g2 = s.gens := hm.gens
          obtain rfl : d' = s.drawn := hm.drawn
          obtain rfl : os' = s.os := hm.os
          show wpAny _ _ _ _ _ _
          refine wpAny_pure ?_
          show wpAny _ _ (ret Value.none) _ _ _
          refine wpAny_pure ⟨rfl, h', tk', c', rfl, hS', fun b o e => ?_⟩
          have hb0 : b < s.heap.objs.size := Heap.lt_size e
          refine hm.heap b o ?_ (Heap.get?_push_of_some _ (Heap.get?_push_of_some _ e))
          rw [hz]; simp only [List.mem_cons, List.not_mem_nil, or_false, not_or]
          exact ⟨Nat.ne_of_lt hb0, Nat.ne_of_lt (Nat.lt_succ_of_lt hb0)⟩
      · cases r with
        | error e => exact hr
        | ok fl =>
          cases fl with
          | ret r =>
            obtain ⟨rfl, h', tk, c', rfl, hS', hk'⟩ := hr
            repeat (any_goals (first | assumption | wp_step))
            exact h _ _ _ hS' hk'
          | _ => exact hr.elim
    | _ => exact hr.elim
end
/-- set(xs) -/
def rSetLI (K : PySem.W.Frag) (w : World) : List V → Hp → VK → Prop := fun vs H Q => ∃ (l : Addr) (ns : List Int), vs = [.ref l] ∧ SqL K H l (ns.map V.int) ∧ ns.length ≤ 4000 ∧ ∀ p c, H p = none → (∀ ms : List Int, ms.Nodup → (∀ k, k ∈ ms ↔ k ∈ ns) → ms.length = c) → Q (.ref p) (upd H p (SetO w p (fun j => decide (j ∈ ns)) c))
theorem setR_count {w : World} {h : Heap} {a : Addr} {ns : List Int} {c : Nat} (R : SetR w h a (fun j => decide (j ∈ ns)) c) {ms : List Int} (hn : ms.Nodup) (hm : ∀ k, k ∈ ms ↔ k ∈ ns) : ms.length = c := by
  obtain ⟨o, es, ep, t, ho, hex, hd, g, nd, hk, hb, hf, hc, _⟩ := R
  have pm : ms.Perm (es.toList.map keyOf) := (List.perm_ext_iff_of_nodup hn nd).mpr fun k => by rw [hm k, ← hk k, decide_eq_true_eq]
  rw [pm.length_eq, List.length_map, Array.length_toList]; exact hc
theorem cr_setLI {X : Cx} (hc : X.calm = true) : CallR X (.type "set") (rSetLI X.K X.w) := by
  intro pins s σ H vs us Q I r h
  obtain ⟨l, ns, rfl, hq, hlen, q⟩ := h
  rw [Vals.ref1 r]
  obtain ⟨its, rv, pl, hz⟩ := I.list hq
  refine setL_call ns (I.ok.hd hc) pl.isList (by simpa using RZ.intsAre_vals rv) (by unfold scanBound; omega) fun h' tk c R k => ?_
  have hn : H s.heap.objs.size = none := I.hok.fresh (Nat.le_refl _)
  have J : Inv X pins σ (upd H s.heap.objs.size (SetO X.w s.heap.objs.size (fun j => decide (j ∈ ns)) c)) { s with heap := h', toks := tk } :=
    I.call (ch := []) (Un.laid k (Nat.le_refl _) hn) (I.hok.laid k (Nat.le_refl _) (setO_new R)) I.bare (fun _ z => nomatch z)
  exact ⟨.ref s.heap.objs.size, _, J, rfl, q _ c hn fun ms h1 h2 => setR_count R h1 h2⟩
end L2

namespace Pv
open PySem PySem.Spec PyProof.Rows L2 Sr
/-! ### {k: x for .. in .. if t} -/
def dcG (T : TD) (tt : GT) (gk gv : G) : List D → PEnv → List (Key × D) → Rs → Res (List (Key × D))
  | [], _, acc, R => .ok acc R
  | d :: ds, ρ, acc, R => match T d ρ with
    | none => .bad
    | some ρ1 => (tt ρ1 R).bind fun b R1 => match b with
      | true => (gk ρ1 R1).bind fun y R2 => (gv ρ1 R2).bind fun z R3 => match keyOf y with
        | some k => if acc.length < sizeLine then dcG T tt gk gv ds ρ (putD acc k z) R3 else .bad
        | none => .bad
      | false => dcG T tt gk gv ds ρ acc R1
def dDicOf : List (Key × D) → Rs → Res D := fun kvs R => .ok (.dic kvs) R
def gDc (vs : List Nat) (it : GI) (T : TD) (tt : GT) (gk gv : G) : G := fun ρ R => (it ρ R).bind fun ds R1 => ((dcG T tt gk gv ds (wipeD ρ vs) [] R1).calm).bind dDicOf
theorem tDc_core {K : PySem.W.Frag} {E : XK} {vs : List Nat} {T : TD} {t : TG} {tt : GT} {gk gv : G} {σ : L2.St} {H1 : Hp} {Q : VK} {S1 : List Addr} {F1 : Hp} {ρ : PEnv} {R1 : Rs} {J : It} {ds : List D} (hT : TgD K t T vs) (v1 : View K S1 F1 H1 ρ R1 σ) (rJ : WalkD K F1 J ds)
    (h1 : Wf K E S1 F1 H1 (((dcG T tt gk gv ds (wipeD ρ vs) [] R1).calm).bind dDicOf) Q) :
    tDc (fun _ H R => R J H) t (tPT K XF tt) (tP K XF gk) (tP K XF gv) vs σ H1 Q := by
  intro p hp
  obtain ⟨Y, w, hy⟩ := rJ
  have c1 := v1.cells
  have hF1p : F1 p = none := v1.fh.free hp
  -- the turns
  let In : Nat → Hp → Prop := fun i H => ∃ S F R acc dacc, Ext S1 F1 H1 S F H ∧ Cells K S F H R ∧ H p = some (.dK acc) ∧ RepK K F acc dacc ∧ F p = none ∧ p ∉ S ∧
    ∃ kvs R', dcG T tt gk gv (ds.drop i) (wipeD ρ vs) dacc R = .ok kvs R' ∧ Wf K E S1 F1 H1 (.ok (.dic kvs) R') Q
  have h0 : In 0 (upd H1 p (.dK [])) := by
    refine ⟨S1, F1, R1, [], [], .newO v1.fh hp, c1.upd (c1.fresh hp), upd_same, RepK.nil, hF1p, c1.fresh hp, ?_⟩
    rw [List.drop_zero]
    cases q : dcG T tt gk gv ds (wipeD ρ vs) [] R1 with
    | ok ys R' => rw [q] at h1; exact ⟨ys, R', rfl, h1⟩
    | exc c fs R' => rw [q] at h1; exact h1.elim
    | bad => rw [q] at h1; exact h1.elim
  have hG : ∀ i H, In i H → Same F1 H := by
    rintro i H ⟨S, F, R, acc, dacc, e, c, _⟩
    exact e.f.trans e.fh
  have hd : ∀ H, In ds.length H → Q (.ref p) H := by
    rintro H ⟨S, F, R, acc, dacc, e, c, hD, ra, hFp, hSp, kvs, R', hg, hw⟩
    rw [List.drop_length] at hg
    cases hg
    exact hw p _ S F H e c hD (.dic ra.1 ra.2) hFp hp hSp
  refine ⟨fun i m H => m = ds.length - i ∧ i ≤ ds.length ∧ In i H, ⟨ds.length, by simp, Nat.zero_le _, h0⟩, ?_⟩
  rintro i m H ⟨rfl, hi, pI⟩
  have hsame := hG i H pI
  by_cases hlt : i < ds.length
  case neg =>
    have e : i = ds.length := by omega
    subst e
    exact .inl ⟨w.stops H hsame, hd H pI⟩
  refine .inr ⟨w.goes i H hlt hsame, In (i + 1), fun H' p' => ⟨ds.length - (i + 1), by omega, rfl, hlt, p'⟩, fun x H2 y => ?_⟩
  replace y := w.yields i H x H2 hlt hsame y
  obtain ⟨S, F, R, acc, dacc, e, c, hD, ra, hFp, hSp, kvs, R', hg, hw⟩ := pI
  have hdi : ds[i]? = some ds[i] := List.getElem?_eq_getElem hlt
  obtain ⟨hH, F2, e2, r2⟩ := hy i ds[i] H x H2 F hdi e.f e.fh y
  have c2 := c.pure (e2 S) hH
  have v2 : View K S F2 H2 (wipeD ρ vs) R (wipe σ vs) := wipe_view (v1.ext (e.trans (e2 S)) c2) vs
  have hD2 := hH _ _ hD
  have hF2 := (e2 S).nw p _ hD hFp
  rw [List.drop_eq_getElem_cons hlt] at hg
  unfold dcG at hg
  cases q : T ds[i] (wipeD ρ vs) with
  | none => rw [q] at hg; cases hg
  | some ρ1 =>
    rw [q] at hg
    refine hT F2 H2 x ds[i] (wipeD ρ vs) (wipe σ vs) (wipe σ vs) (wipeD ρ vs) ρ1 _ (e2 S).fh r2 q .refl fun σ' u => ⟨?_, ?_⟩
    · rw [u.wipe, wipe_wipe]
    · dsimp only at hg
      have v3 := u.view v2
      refine ⟨S, F2, ρ1, R, v3, ?_⟩
      cases qt : tt ρ1 R with
      | ok b R3 =>
        rw [qt] at hg
        simp only [Res.bind_ok] at hg
        intro b' S3 F3 H3 e3 c3 hb
        subst hb
        have hD3 := e3.fr p _ hD2 hSp
        have hF3 := e3.nw p _ hD2 hF2
        have hS3 : p ∉ S3 := fun z => by have := e3.sn p z hSp; rw [hD2] at this; cases this
        cases b' with
        | true =>
          simp only [if_true]
          refine ⟨S3, F3, ρ1, R3, v3.ext e3 c3, ?_⟩
          dsimp only at hg
          cases qk : gk ρ1 R3 with
          | ok yk R4 =>
            rw [qk] at hg
            simp only [Res.bind_ok] at hg
            intro kv S4 F4 H4 e4 c4 rk
            have hD4 := e4.fr p _ hD3 hS3
            have hF4 := e4.nw p _ hD3 hF3
            have hS4 : p ∉ S4 := fun z => by have := e4.sn p z hS3; rw [hD3] at this; cases this
            refine ⟨S4, F4, ρ1, R4, (v3.ext e3 c3).ext e4 c4, ?_⟩
            cases qe : gv ρ1 R4 with
            | ok z R5 =>
              rw [qe] at hg
              simp only [Res.bind_ok] at hg
              intro zv S5 F5 H5 e5 c5 rz
              have hD5 := e5.fr p _ hD4 hS4
              have hF5 := e5.nw p _ hD4 hF4
              have hS5 : p ∉ S5 := fun z => by have := e5.sn p z hS4; rw [hD4] at this; cases this
              cases qq : keyOf yk with
              | none => rw [qq] at hg; cases hg
              | some k =>
                rw [qq] at hg
                dsimp only at hg
                split at hg
                · rename_i hl
                  have eAll := (((e.trans (e2 S)).trans e3).trans e4).trans e5
                  have ra5 : RepK K F5 acc dacc := ⟨ra.1, ra.2.mono ((((e2 S).f.trans e3.f).trans e4.f).trans e5.f)⟩
                  refine ⟨acc, k, keyOf_rep rk qq, hD5, by rw [repK_len ra5]; exact hl, S5, F5, R5, _, _, ?_, c5.upd hS5, upd_same, RepK.put rz ra5, hF5, hS5, kvs, R', hg, hw⟩
                  exact ⟨eAll.s, eAll.f, fun b u h => by rw [upd_ne (ne_of_none h hF5)]; exact eAll.fh b u h, fun b u h hb => by rw [upd_ne (ne_of_none h hp)]; exact eAll.fr b u h hb, fun b u h => by rw [upd_ne (ne_of_none h hp)]; exact eAll.th b u h, eAll.nw, eAll.sn⟩
                · cases hg
            | exc c fs R5 => rw [qe] at hg; cases hg
            | bad => rw [qe] at hg; cases hg
          | exc c fs R4 => rw [qk] at hg; cases hg
          | bad => rw [qk] at hg; cases hg
        | false =>
          rw [if_neg (by decide)]
          exact ⟨S3, F3, R3, acc, dacc, (e.trans (e2 S)).trans e3, c3, hD3, ⟨ra.1, ra.2.mono ((e2 S).f.trans e3.f)⟩, hF3, hS3, kvs, R', hg, hw⟩
      | exc c fs R3 => rw [qt] at hg; cases hg
      | bad => rw [qt] at hg; cases hg
section
variable {X : Cx} {E : XK} {vs : List Nat} {it : GI} {T : TD} {t : TG} {tt : GT} {gk gv : G} {kx vx tg iter : Expr} {ifs : List Expr} {scope : Scope} {own : List (Str × Nat)} {pos : Pos} {i : Nat} {f : List (Key × D) → List D}
theorem tDc_of {K : PySem.W.Frag} {σ : L2.St} {H : Hp} {Q : VK} (hT : TgD K t T vs) (h : tF K E (gDc vs it T tt gk gv) σ H Q) :
    tDc (tG K E (fun _ F J ds => WalkD K F J ds) it) t (tPT K XF tt) (tP K XF gk) (tP K XF gv) vs σ H Q := by
  obtain ⟨S, F, ρ, R, v, h⟩ := h
  exact ⟨S, F, ρ, R, v, Wf.bind h fun J S1 F1 H1 ds R1 e1 c1 rJ h1 => tDc_core hT (v.ext e1 c1) rJ h1⟩
theorem evf_dc (hv : own.map (·.2) = vs) (hc : X.calm = true) (hN : X.N.Nodup) (hi : EvI X E tg iter it) (ok : BlkOk X.N X.env.scope scope own)
    (hg : ∀ (s : Shared) (H : Hp) (C : Addr) (cl : List (Str × Addr)) (fp : List Addr), PG (X.blk s H scope (compEnvC scope cl C X.env) fp) tg t) (hT : TgD X.K t T vs) (ht : ∀ (s : Shared) (H : Hp) (C : Addr) (cl : List (Str × Addr)) (fp : List Addr), PTs (X.blk s H scope (compEnvC scope cl C X.env) fp) ifs (tPT X.K XF tt))
    (hk : ∀ (s : Shared) (H : Hp) (C : Addr) (cl : List (Str × Addr)) (fp : List Addr), PE (X.blk s H scope (compEnvC scope cl C X.env) fp) kx (tP X.K XF gk)) (he : ∀ (s : Shared) (H : Hp) (C : Addr) (cl : List (Str × Addr)) (fp : List Addr), PE (X.blk s H scope (compEnvC scope cl C X.env) fp) vx (tP X.K XF gv)) (hs : ∀ x, foldedSetIterable iter X.env x = pure x := by intro _; rfl) :
    EvF X E (.DictComp kx vx [⟨tg, iter, ifs, 0⟩] scope pos) (gDc vs it T tt gk gv) := by
  subst hv
  exact pe_imp (pe_dc hc hN hi ok hg ht hk he hs) fun _ _ _ => tDc_of hT
end
end Pv

namespace Pv
open PySem PySem.Spec PyProof.Rows L2 Sr
/-! ### for k in d: the dict is locked meanwhile -/
/-- cell a holds z if it holds anything -/
def upI (F : Hp) (a : Addr) (z : HO) : Hp := fun b => if b = a then (F a).map fun _ => z else F b
theorem upI_ne {F : Hp} {a b : Addr} {z : HO} (h : b ≠ a) : upI F a z b = F b := by unfold upI; rw [if_neg h]
theorem upI_at {F : Hp} {a : Addr} {z : HO} : upI F a z a = (F a).map fun _ => z := by unfold upI; rw [if_pos rfl]
section
variable {K : PySem.W.Frag} {S0 S S' : List Addr} {F0 H0 F H F' H' : Hp} {R : Rs} {a : Addr} {u z : HO} {ρ : PEnv} {σ : L2.St} {E : XK} {own ol : List Nat}
theorem Ext.unlockI (e : Ext S0 (upd F0 a z) (upI H0 a z) S F H) (hF0 : F0 a = some u) (hH0 : ∀ w, H0 a = some w → w = u) : Ext S0 F0 H0 S (upd F a u) (upd H a u) where
  s := e.s
  f := fun b w h => by
    by_cases q : b = a
    · subst q; rw [hF0] at h; cases h; exact upd_same
    · rw [upd_ne q]; exact e.f b w (by rw [upd_ne q]; exact h)
  fh := same_both e.fh
  fr := fun b w h hb => by
    by_cases q : b = a
    · subst q; rw [hH0 w h]; exact upd_same
    · rw [upd_ne q]; exact e.fr b w (by rw [upI_ne q]; exact h) hb
  th := fun b w h => by
    by_cases q : b = a
    · subst q; exact ⟨u, upd_same⟩
    · rw [upd_ne q]; exact e.th b w (by rw [upI_ne q]; exact h)
  nw := fun b w h n => by
    have q : b ≠ a := fun q => by rw [q, hF0] at n; cases n
    rw [upd_ne q]
    exact e.nw b w (by rw [upI_ne q]; exact h) (by rw [upd_ne q]; exact n)
  sn := fun b h1 h2 => by
    have := e.sn b h1 h2
    by_cases q : b = a
    · subst q
      rw [upI_at] at this
      cases hz : H0 b with
      | none => rfl
      | some _ => rw [hz] at this; cases this
    · rwa [upI_ne q] at this
theorem SIn.unlockI {o : Obj} (s : SIn K S0 (upd F0 a (.frz o u)) (upI H0 a (.frz o u)) own ρ R σ S F H) (hu : isDc u) (hF0 : F0 a = some u) (hH0 : ∀ w, H0 a = some w → w = u) : SIn K S0 F0 H0 own ρ R σ S (upd F a u) (upd H a u) :=
  have hF : F a = some (.frz o u) := s.ext.f _ _ upd_same
  have hs : Swp F (upd F a u) := swp_unlock hu hF
  ⟨s.ext.unlockI hF0 hH0, s.cells.swp hs (by rw [hF]; simp), fun i d h1 h2 => by
    obtain ⟨v, h3, h4⟩ := s.sh i d h1 h2
    exact ⟨v, h3, h4.swp hs⟩, fun i hi d h => by
    obtain ⟨v, h1, b, w, rfl, h3, h4, h5, h6, h7⟩ := s.ow i hi d h
    have hb : b ≠ a := fun q => by rw [q, hF] at h5; cases h5
    exact ⟨_, h1, b, w, rfl, by rw [upd_ne hb]; exact h3, h4.swp hs, by rw [upd_ne hb]; exact h5, h6, by rwa [upI_ne hb] at h7⟩, s.ap, s.len⟩
def Out.quiet : Out → Out
  | .exc _ _ _ => .bad
  | o => o
/-- the ends behind the lock -/
def lockEnds (Dn : Ends) (a : Addr) (o : Obj) (u : HO) : Ends := ⟨fun σ' H' => H' a = some (.frz o u) ∧ Dn.nx σ' (upd H' a u), fun v H' => H' a = some (.frz o u) ∧ Dn.rt v (upd H' a u), fun σ' H' => H' a = some (.frz o u) ∧ Dn.bk σ' (upd H' a u), fun σ' H' => H' a = some (.frz o u) ∧ Dn.ct σ' (upd H' a u)⟩
theorem WpS.lock {out : Out} {Dn : Ends} {o : Obj} (hu : isDc u) (hF0 : F0 a = some u) (hH0 : ∀ w, H0 a = some w → w = u) (h : WpS K E S0 F0 H0 own ol out.quiet Dn) : WpS K E S0 (upd F0 a (.frz o u)) (upI H0 a (.frz o u)) own ol out (lockEnds Dn a o u) := by
  have at_ : ∀ {S : List Addr} {F H : Hp}, Ext S0 (upd F0 a (.frz o u)) (upI H0 a (.frz o u)) S F H → F a = some (.frz o u) ∧ H a = some (.frz o u) := fun e => ⟨e.f _ _ upd_same, e.fh _ _ (e.f _ _ upd_same)⟩
  cases out with
  | nx ρ R => exact fun σ H ⟨S, F, s⟩ => ⟨(at_ s.ext).2, h σ _ ⟨S, _, s.unlockI hu hF0 hH0⟩⟩
  | bk ρ R => exact fun σ H ⟨S, F, s⟩ => ⟨(at_ s.ext).2, h σ _ ⟨S, _, s.unlockI hu hF0 hH0⟩⟩
  | ct ρ R => exact fun σ H ⟨S, F, s⟩ => ⟨(at_ s.ext).2, h σ _ ⟨S, _, s.unlockI hu hF0 hH0⟩⟩
  | rt d R => exact fun v S F H e c r => ⟨(at_ e).2, h v S _ _ (e.unlockI hF0 hH0) (c.swp (swp_unlock hu (at_ e).1) (by rw [(at_ e).1]; simp)) (r.swp (swp_unlock hu (at_ e).1))⟩
  | rf d R =>
    intro b w S F H e c h1 h2 h3 h4 h5
    have hb : b ≠ a := fun q => by rw [q, (at_ e).1] at h3; cases h3
    exact ⟨(at_ e).2, h b w S _ _ (e.unlockI hF0 hH0) (c.swp (swp_unlock hu (at_ e).1) (by rw [(at_ e).1]; simp)) (by rw [upd_ne hb]; exact h1) (h2.swp (swp_unlock hu (at_ e).1)) (by rw [upd_ne hb]; exact h3) h4 (by rwa [upI_ne hb] at h5)⟩
  | exc c fs R => exact h.elim
  | bad => exact h
end
section
variable {X : Cx} {E : XK} {own own' ol vs : List Nat} {tg iter : Expr} {body : List Stmt} {T : TD} {b : GS} {t : TG} {pos : Pos} {i : Nat} {f : List (Key × D) → List D}
end
end Pv

namespace Pv
open PySem PySem.Spec PyProof.Rows L2 Sr
/-! ### sorted(set(xs)), len(set(xs)): ints without repetition, ascending -/
def insU (x : Int) : List Int → List Int
  | [] => [x]
  | y :: r => if x < y then x :: y :: r else if x = y then y :: r else y :: insU x r
def sortU : List Int → List Int
  | [] => []
  | x :: r => insU x (sortU r)
theorem mem_insU {x k : Int} : ∀ {r : List Int}, k ∈ insU x r ↔ k = x ∨ k ∈ r
  | [] => by simp [insU]
  | y :: r => by
    unfold insU
    split
    · simp
    · split
      · rename_i h; subst h; simp
      · have := mem_insU (x := x) (k := k) (r := r)
        simp only [List.mem_cons, this]
        constructor <;> rintro (h | h | h) <;> simp [h]
theorem insU_asc {x : Int} : ∀ {r : List Int}, r.Pairwise (· < ·) → (insU x r).Pairwise (· < ·)
  | [], _ => by simp [insU]
  | y :: r, h => by
    obtain ⟨h1, h2⟩ := List.pairwise_cons.mp h
    unfold insU
    split
    · rename_i hl
      refine List.pairwise_cons.mpr ⟨fun k hk => ?_, h⟩
      rcases List.mem_cons.mp hk with rfl | hk
      · exact hl
      · have := h1 k hk; omega
    · split
      · exact h
      · refine List.pairwise_cons.mpr ⟨fun k hk => ?_, insU_asc h2⟩
        rcases mem_insU.mp hk with rfl | hk
        · omega
        · exact h1 k hk
theorem mem_sortU {k : Int} : ∀ {xs : List Int}, k ∈ sortU xs ↔ k ∈ xs
  | [] => by simp [sortU]
  | x :: r => by rw [sortU, mem_insU, mem_sortU (xs := r)]; simp
theorem sortU_asc : ∀ xs : List Int, (sortU xs).Pairwise (· < ·)
  | [] => .nil
  | x :: r => insU_asc (sortU_asc r)
theorem asc_nodup {xs : List Int} (h : xs.Pairwise (· < ·)) : xs.Nodup := h.imp fun h => by omega
theorem asc_eq : ∀ {xs ys : List Int}, xs.Pairwise (· < ·) → ys.Pairwise (· < ·) → (∀ k, k ∈ xs ↔ k ∈ ys) → xs = ys
  | [], [], _, _, _ => rfl
  | [], y :: ys, _, _, h => by have := (h y).mpr (by simp); simp at this
  | x :: xs, [], _, _, h => by have := (h x).mp (by simp); simp at this
  | x :: xs, y :: ys, h1, h2, h => by
    obtain ⟨a1, a2⟩ := List.pairwise_cons.mp h1
    obtain ⟨b1, b2⟩ := List.pairwise_cons.mp h2
    have e : x = y := by
      rcases List.mem_cons.mp ((h x).mp (by simp)) with e | e
      · exact e
      · rcases List.mem_cons.mp ((h y).mpr (by simp)) with e' | e'
        · exact e'.symm
        · have := b1 x e; have := a1 y e'; omega
    subst e
    refine congrArg (x :: ·) (asc_eq a2 b2 fun k => ⟨fun hk => ?_, fun hk => ?_⟩)
    · rcases List.mem_cons.mp ((h k).mp (by simp [hk])) with e | e
      · have := a1 k hk; omega
      · exact e
    · rcases List.mem_cons.mp ((h k).mpr (by simp [hk])) with e | e
      · have := b1 k hk; omega
      · exact e
theorem insU_len (x : Int) : ∀ r : List Int, (insU x r).length ≤ r.length + 1
  | [] => by simp [insU]
  | y :: r => by
    unfold insU
    split
    · simp
    · split
      · simp
      · have := insU_len x r; simp; omega
theorem sortU_len : ∀ xs : List Int, (sortU xs).length ≤ xs.length
  | [] => Nat.le_refl _
  | x :: r => by have := sortU_len r; have := insU_len x (sortU r); simp [sortU]; omega
def dSortSet : List D → Rs → Res D := fun ds R => match ds with
  | [.lst xs] => match intsOf xs with
    | some ns => if ns.length ≤ 60 then .ok (.lst ((sortU ns).map D.int)) R else .bad
    | none => .bad
  | _ => .bad
theorem sortSet_ap {ns : List Int} {R : Rs} (h : ns.length ≤ 60) : dSortSet [.lst (ns.map D.int)] R = .ok (.lst ((sortU ns).map D.int)) R := by
  unfold dSortSet
  simp only [intsOf_map, h, if_true]
section
variable {X : Cx} {E : XK} {e : Expr} {g : G} {gs : GA} {pos p p2 q : Pos}
theorem evf_sortSet (hc : X.calm = true) (hg : Gl X "sorted") (hm : X.mg "sorted" = none) (hg2 : Gl X "set") (hm2 : X.mg "set" = none) (ha : EvA X E [e] gs) (hs : starEach [e] X.env = [(false, eval e X.env)] := by rfl) :
    EvF X E (.Call (.Name "sorted" p) [.Call (.Name "set" p2) [e] [] q] [] pos) (gCB dSortSet gs) :=
  pe_imp (pe_callB (cr_sortedSet hc) hg hm (by rfl) (pa_cons (pe_callTy (cr_setLI hc) hg2 hm2 (by rfl) ha (by decide) (by decide) hs rfl) pa_nil) (by decide) (by decide) rfl rfl) fun σ H Q ⟨S, F, ρ, R, v, h⟩ => by
    refine ⟨S, F, ρ, R, v, Wf.bind h fun x S1 F1 H1 dx R1 e1 c1 rx h1 => ?_⟩
    unfold dSortSet at h1
    split at h1
    · split at h1
      · rename_i ns hns
        split at h1
        · rename_i hl
          cases rx with
          | cons r rn =>
          cases rn
          cases r with
          | @lst a vs _ hf rs =>
          have hds := intsOf_eq hns
          subst hds
          have hvs := Reps.of_ints rs
          subst hvs
          refine ⟨a, ns, rfl, SqL.of (e1.fh _ _ hf), by omega, fun p c hp hcnt => ?_⟩
          have hc' := hcnt (sortU ns) (asc_nodup (sortU_asc ns)) fun k => mem_sortU
          have hlen := sortU_len ns
          refine ⟨p, _, c, rfl, upd_same, by omega, fun ms p2 hs hm hl hp2 => ?_⟩
          have he : ms = sortU ns := asc_eq hs (sortU_asc ns) fun k => by rw [hm k, decide_eq_true_eq, mem_sortU]
          subst he
          have x1 : Ext S1 F1 H1 S1 F1 (upd H1 p (SetO X.w p (fun j => decide (j ∈ ns)) c)) := .newO e1.fh hp
          have c2 := c1.upd (o := SetO X.w p (fun j => decide (j ∈ ns)) c) (c1.fresh hp)
          have hp21 : H1 p2 = none := x1.back hp2
          exact h1 p2 (.lst ((sortU ns).map V.int)) S1 F1 _ (x1.trans (.newO x1.fh hp2)) (c2.upd (c2.fresh hp2)) upd_same (.lst (.ints _)) (e1.fh.free hp21) hp21 (c2.fresh hp2)
        · exact h1.elim
      · exact h1.elim
    · exact h1.elim
/-! ### dicts: list(d), sorted(d), len(d), d == e -/
end
end Pv
namespace Pv
open PySem PySem.Spec PyProof.Rows L2 Sr
theorem dc_ap {vs : List Nat} {it : GI} {T : TD} {tt : GT} {gk gv : G} {ρ : PEnv} {R : Rs} : gDc vs it T tt gk gv ρ R = (it ρ R).bind fun ds R1 => ((dcG T tt gk gv ds (wipeD ρ vs) [] R1).calm).bind dDicOf := rfl
theorem dDicOf_ap {kvs : List (Key × D)} {R : Rs} : dDicOf kvs R = .ok (.dic kvs) R := rfl
end Pv

namespace L2
open PySem PySem.Spec PyProof.Rows
section
variable {X : Cx} {pins : List (Addr × Obj)} {σ : L2.St} {H : Hp} {s : Shared}
end
section
variable {X : Cx} {e : Expr} {es : List Expr} {te : TE} {t : TA} {p : Pos}
end
end L2
namespace Pv
open PySem PySem.Spec PyProof.Rows L2 Sr
section
variable {X : Cx} {E : XK} {e : Expr} {es : List Expr} {g : G} {gs : GA}
end
end Pv

namespace L2
open PySem PySem.Spec PyProof.Rows
/-! ### max of a list of tuples of whole numbers -/
def ltL (a b : List Int) : Bool := decide (a < b)
def maxR (x : List Int) (xs : List (List Int)) : List Int := xs.foldl (fun a y => if ltL a y then y else a) x
section
variable {X : Cx}
end
end L2
namespace Pv
open PySem PySem.Spec PyProof.Rows L2 Sr
section
variable {X : Cx} {E : XK}
end
end Pv

namespace L2
open PySem PySem.Spec PyProof.Rows
/-! ### len(set(xs)) -/
end L2
namespace Pv
open PySem PySem.Spec PyProof.Rows L2 Sr
section
variable {X : Cx} {E : XK} {e : Expr} {gs : GA} {pos p p2 q : Pos}
end
end Pv

namespace PySem.W
open PySem PySem.Calls PyProof.Rows PyProof.V PySem.Spec
section
variable {prog : Program} {w : World} {A : Around} {E : Value → Shared → Prop} {s : Shared} {T : String} {r d : Addr} {n : Nat} {P : Nat → Value → Prop} {OK : Heap → Prop} {Q : Value → Shared → Prop}
end
end PySem.W
namespace L2
open PySem PySem.Spec PyProof.Rows
section
variable {X : Cx}
variable {o : Expr} {p pos apos mpos : Pos} {td : TE}
end
end L2
namespace Pv
open PySem PySem.Spec PyProof.Rows L2 Sr
section
variable {X : Cx} {E : XK} {o : Expr} {g : G} {p pos apos mpos : Pos}
end
end Pv

namespace L2
open PySem PySem.Spec PyProof.Rows
/-! ### one list of whole numbers greater than another -/
end L2
namespace Pv
open PySem PySem.Spec PyProof.Rows L2 Sr
section
variable {X : Cx} {E : XK}
end
end Pv

namespace L2
open PySem PySem.Spec PyProof.Rows
/-! ### {k: v} with one tuple for its key -/
end L2
namespace Pv
open PySem PySem.Spec PyProof.Rows L2 Sr
/-! ### dicts whose keys are tuples -/
section
variable {X : Cx} {E : XK} {o i a e f : Expr} {gd gk gx g : G} {gs : GA} {pos apos cpos : Pos} {own ol : List Nat}
end
end Pv

namespace Pv
open PySem PySem.Spec PyProof.Rows L2 Sr
/-! ### a slot whose old value is forgotten may be owned anew -/
section
variable {X : Cx} {E : XK} {own own' ol : List Nat}
end
/-! ### range(i, j, -1) -/
section
variable {X : Cx} {E : XK} {tg : Expr} {gs : GA}
end
end Pv

namespace L2
open PySem PySem.Spec PyProof.Rows
/-! ### one tuple of whole numbers less than another -/
end L2
namespace Pv
open PySem PySem.Spec PyProof.Rows L2 Sr
section
variable {X : Cx} {E : XK}
end
end Pv

namespace L2
open PySem PySem.Spec PyProof.Rows
/-! ### a tuple once, or not at all -/
end L2
namespace Pv
open PySem PySem.Spec PyProof.Rows L2 Sr
section
variable {X : Cx} {E : XK}
end
end Pv

namespace Pv
open PySem PySem.Spec PyProof.Rows L2 Sr
/-! ### defs whose result is a new cell -/
def spPF (K : PySem.W.Frag) (n : Nat) (f : List D → Rs → Res D) : Sp := fun vs H Q E => ∃ S F R ds, Same F H ∧ Cells K S F H R ∧ Reps K F vs ds ∧ ds.length = n ∧ Wf K E S F H (f ds R) Q
theorem spPF_len {K : PySem.W.Frag} {n : Nat} {f : List D → Rs → Res D} (vs : List V) (H : Hp) (Q : VK) (E : XK) (h : spPF K n f vs H Q E) : vs.length = n := by
  obtain ⟨S, F, R, ds, _, _, r, hl, _⟩ := h
  rw [r.length]; exact hl
def outF : Out → Res D
  | .rf d R => .ok d R
  | .exc c fs R => .exc c fs R
  | _ => .bad
def runBF (n : Nat) (g : GS) : List D → Rs → Res D := fun ds R => outF (g (startD n ds) R)
theorem pure_impF {K : PySem.W.Frag} {n : Nat} {f : List D → Rs → Res D} (vs : List V) (H : Hp) (Q : VK) (E : XK) (h : spPF K n (pureF f) vs H Q E) : spPF K n f vs H Q E := by
  obtain ⟨S, F, R, ds, hs, c, r, hl, h⟩ := h
  refine ⟨[], F, [], ds, hs, cells_none, r, hl, ?_⟩
  unfold pureF at h
  split at h
  · rename_i d q
    rw [q]
    intro p o S' F' H' e' c' h1 h2 h3 h4 h5
    obtain ⟨e, c2⟩ := pure_ext c e' c'
    refine h p o S F' H' e c2 h1 h2 h3 h4 fun z => ?_
    obtain ⟨_, o', h6⟩ := c.has z
    rw [h4] at h6; cases h6
  · rename_i cn fs q
    rw [q]
    intro d S' F' H' e' c' rv
    obtain ⟨e, c2⟩ := pure_ext c e' c'
    refine h d S F' H' e c2 ?_
    cases rv with
    | no => exact .no
    | at_ a1 a2 a3 => exact .at_ a1 a2 a3
  · exact h.elim
section
variable {K : PySem.W.Frag} {S : List Addr} {F H : Hp} {R : Rs} {E : XK} {Q : VK}
theorem body_wpF {g : GS} {own' ol : List Nat} {ρ : PEnv} (h : Wf K E S F H (outF (g ρ R)) Q) : WpS K E S F H own' ol (g ρ R) { nx := fun _ H' => Q .non H', rt := Q } := by
  cases q : g ρ R with
  | nx ρ' R' => rw [q] at h; exact h.elim
  | rt d R' => rw [q] at h; exact h.elim
  | rf d R' =>
    rw [q] at h
    exact fun a o S1 F1 H1 e c ha r hF hS h0 => h a o S1 F1 H1 e c ha r hF h0 hS
  | exc c fs R' => rw [q] at h; exact h
  | bk ρ' R' => rw [q] at h; exact h.elim
  | ct ρ' R' => rw [q] at h; exact h.elim
  | bad => rw [q] at h; exact h.elim
end
section
variable {fa : List He.Fa} {fn : List He.DefD} {gt : List PropD} {ex : PySem.W.Frag → Bool} {K : PySem.W.Frag} {mg : Str → Option Value} {P : Program} {w : World} {base : Heap}
theorem BodyP.okF {k n : Nat} {N ps : List Str} {q : Str} {st : Stmt} {own own' : List Nat} {g : GS} (B : BodyP P w K mg base k N q st own own' g) (hn : N.length = n) (ho : ∀ i ∈ own, ps.length ≤ i) {f : Addr} {cdv : Value} {A : Around} {outer : List Env} {s : Shared} {H : Hp} {vs : List V} {Q : VK} {E : XK}
    (hr : Room k (A.deeper (envOfC q (defScope st) s.heap.objs.size f cdv))) (h : spPF K ps.length (runBF n g) vs H Q E) :
    ∃ t, PSs (cxOf (L2.CX P w) P w K mg base N q (defScope st) f cdv A outer s H E) (defBody st) t ∧ t { nx := fun _ H' => Q .non H', rt := Q } (L2.start N vs) H := by
  obtain ⟨S, F, R, ds, hs, c, r, hl, h⟩ := h
  exact ⟨_, B f cdv A outer s H E hr, S, F, H, _, R, ⟨S, F, sin_start hn (fun i hi => by rw [hl]; exact ho i hi) hs c r⟩, body_wpF h⟩
theorem fnPF {N ps : List Str} {k n : Nat} {x : Str} {own own' : List Nat} {g : GS} (st : Stmt) (S : Say fa fn gt ex K mg) (i j : Nat) (hd : fn[i]? = some ⟨(x, none), x, x, defArgs st, defBody st, defScope st, [], []⟩) (hg : fa[j]? = some (.glo x)) (SC : FnScope N ps (defScope st))
    (hb : ∀ (kV doc pm : Value) (an : Option Addr) (cdv ct : Value) (us : List Value), us.length = ps.length → bindArgs (PySem.W.fnOf x x (defArgs st) (defBody st) (defScope st) .none kV doc pm an cdv ct) ⟨us, []⟩ = pure (ps.zip us))
    (hn : N.length = n) (ho : ∀ i ∈ own, ps.length ≤ i) (B : BodyP P w K mg base k N x st own own' g) : Fn P w K mg base (L2.CX P w) (k + 1) x ps (spPF K ps.length (runBF n g)) := by
  obtain ⟨fd, F⟩ := S.c.def_ i hd
  exact ⟨_, fd, S.glo j hg, F.kp, F.bindsN hb, F.ok SC spPF_len fun cdv A outer s H vs Q E hr h => B.okF hn ho hr h, F.at_⟩
end
section
variable {X : Cx} {E : XK} {own own' ol : List Nat} {a b c e o : Expr} {es rest : List Expr} {ga gb gc g g' : G} {gs : GA} {pos p : Pos} {n k : Nat} {f : List D → Rs → Res D} {x cc : Str} {ps : List Str} {CX : CXT}
theorem tCall_ofF {K : PySem.W.Frag} {σ : L2.St} {H : Hp} {Q : VK} (h : tF K E (gCall n f gs) σ H Q) : tCall (spPF K n f) [] E (tPA K E gs) σ H Q := by
  obtain ⟨S, F, ρ, R, v, h⟩ := h
  refine ⟨S, F, ρ, R, v, Wf.bind h fun x S1 F1 H1 ds R1 e1 c1 rx h1 => ?_⟩
  rw [List.append_nil]
  split at h1
  · rename_i hl
    exact ⟨S1, F1, R1, ds, e1.fh, c1, rx, hl, h1⟩
  · exact h1.elim
theorem evf_fn (F : Fn X.prog X.w X.K X.mg X.base CX k x ps (spPF X.K n f)) (hr : Room k X.A) (hx : Passes CX X E) (ha : EvA X E (e :: es) gs) (hg : Gl X x := by rfl) (hdb : (x == ("__debug__" : Str)) = false := by decide)
    (he : starEach (e :: es) X.env = (false, eval e X.env) :: starEach es X.env := by rfl) (hpl : (backTo pos (starEach es X.env)).any (·.1) = false := by rfl) :
    EvF X E (.Call (.Name x p) (e :: es) [] pos) (gCall n f gs) := pe_imp (pe_fn F hr hx ha hg hdb he hpl) fun _ _ _ => tCall_ofF
/-- return e, e a new cell -/
def gRetX (own : List Nat) (g : G) : GS := fun ρ R => (g (see .f own ρ) R).out fun d R1 => .rf d R1
theorem retX_ap {ρ : PEnv} {R : Rs} : gRetX own g ρ R = (g (see .f own ρ) R).out fun d R1 => .rf d R1 := rfl
theorem st_retX (he : EvF X E e g) : Stm X E own own' ol (.Return (some e) pos) (gRetX own g) := ps_imp (ps_ret he) fun Dn σ H ⟨S0, F0, H0, ρ, R, s, h⟩ => by
  refine see_wf (m := .f) s h fun p o d R1 S F S1 F1 H1 s ef eg c hp r hF hn hS h1 => ?_
  have hb : H0 p = none := by
    cases q : H0 p with
    | none => rfl
    | some u =>
      obtain ⟨u', q'⟩ := s.ext.th p u q
      rw [hn] at q'; cases q'
  exact h1 p o S1 F1 H1 (s.ext.trans (ef rfl)) c hp r hF hS hb
/-- e.append(e'), e a new cell that nobody holds -/
def gAppX (own : List Nat) (g g' : G) : GS := fun ρ R => (g (see .f own ρ) R).out fun d R1 => match d with
  | .lst ds => (g' (see .f own ρ) R1).out fun _ R2 => if ds.length < sizeLine then .nx ρ R2 else .bad
  | _ => .bad
theorem appX_ap {ρ : PEnv} {R : Rs} : gAppX own g g' ρ R = (g (see .f own ρ) R).out fun d R1 => match d with
  | .lst ds => (g' (see .f own ρ) R1).out fun _ R2 => if ds.length < sizeLine then .nx ρ R2 else .bad
  | _ => .bad := rfl
theorem SIn.junk {K : PySem.W.Frag} {S0 S : List Addr} {F0 F H0 H : Hp} {ρ : PEnv} {R : Rs} {σ : L2.St} (s : SIn K S0 F0 H0 own ρ R σ S F H) {a : Addr} {o : HO} (hF : F a = none) (hS : a ∉ S) (h0 : H0 a = none) (hn : ∀ j ∈ own, ∀ d, ρ[j]? = some (some d) → σ[j]? ≠ some (some (.ref a))) : SIn K S0 F0 H0 own ρ R σ S F (upd H a o) := by
  have neF : ∀ b u, F b = some u → b ≠ a := fun b u e z => by rw [z, hF] at e; cases e
  have neH : ∀ b u, H0 b = some u → b ≠ a := fun b u e z => by rw [z, h0] at e; cases e
  refine ⟨⟨s.ext.s, s.ext.f, fun b u e => by rw [upd_ne (neF b u e)]; exact s.ext.fh b u e, fun b u e hb => by rw [upd_ne (neH b u e)]; exact s.ext.fr b u e hb, fun b u e => by rw [upd_ne (neH b u e)]; exact s.ext.th b u e, s.ext.nw, s.ext.sn⟩, s.cells.upd hS, s.sh, fun j hj d' q => ?_, s.ap, s.len⟩
  obtain ⟨v, g1, b, o2, rfl, g3, g4, g5, g6, g7⟩ := s.ow j hj d' q
  have hne : b ≠ a := fun z => by
    rw [z] at g1
    exact hn j hj d' q g1
  exact ⟨_, g1, b, o2, rfl, by rw [upd_ne hne]; exact g3, g4, g5, g6, g7⟩
theorem st_appX {apos cpos : Pos} (ho : EvF X E o g) (he : EvA X E [e] (gCons g' gNil))
    (hbase : attributeBase o "append" X.env (eval o X.env) = eval o X.env := by rfl)
    (hfew : ((backTo cpos (starEach [e] X.env)).all (fun x => !x.1) && (backToKw cpos (keywordEach [] X.env)).all (fun x => x.1.isSome)
      && decide (([e] : List Expr).length + ([] : List Keyword).length + (if ([] : List Keyword).isEmpty then 0 else 1) < 30)) = true := by rfl)
    (hline : (apos.endLine == cpos.line) = true := by rfl) (hs : starEach [e] X.env = (false, eval e X.env) :: starEach [] X.env := by rfl) (hplain : (backTo cpos (starEach [] X.env)).any (·.1) = false := by rfl)
    (hsw : swapsWith (.Call (.Attribute o "append" apos) [e] [] cpos) none pos.line X.env = pure false := by rfl) :
    Stm X E own own ol (.Expr (.Call (.Attribute o "append" apos) [e] [] cpos) pos) (gAppX own g g') := ps_imp (ps_expr (pe_bmL PySem.F.slot_list_append PySem.F.type_list_append mt_append ho he hbase hfew hline hs hplain) hsw) fun Dn σ H ⟨S0, F0, H0, ρ, R, s, h⟩ => by
  unfold gAppX at h
  refine see_wf (m := .f) s h fun p o d R1 S F S1 F1 H1 s ef eg c hp r hF hn hS h1 => ?_
  have hb : H0 p = none := by
    cases q : H0 p with
    | none => rfl
    | some u =>
      obtain ⟨u', q'⟩ := s.ext.th p u q
      rw [hn] at q'; cases q'
  have hno : ∀ j ∈ own, ∀ d, ρ[j]? = some (some d) → σ[j]? ≠ some (some (.ref p)) := fun j hj d h1 h2 => by
    obtain ⟨_, _, _, o, h3, _⟩ := s.own_none ⟨j, hj, d, h1, h2⟩
    rw [hn] at h3; cases h3
  have s2 := s.on (ef rfl) c
  split at h1
  · rename_i ds
    cases r with
    | @lst xs _ rs =>
    refine ⟨⟨p, xs, rfl, hp⟩, ?_⟩
    have h' : WpS X.K E S0 F0 H0 own ol (((gCons g' gNil) (see .f own ρ) R1).out fun ds' R2 => match ds' with
        | [d] => if ds.length < sizeLine then .nx ρ R2 else .bad
        | _ => .bad) Dn := by
      unfold gCons gNil
      cases q : g' (see .f own ρ) R1 with
      | ok d R2 => rw [q] at h1; exact h1
      | exc c fs R2 => rw [q] at h1; exact h1
      | bad => rw [q] at h1; exact h1
    obtain ⟨S2, F2, hv⟩ : SRel X.K S0 F0 H0 own ρ R1 σ H1 := ⟨S1, F1, s2⟩
    refine ⟨S1, F1, see .f own ρ, R1, s2.view, ?_⟩
    cases q : (gCons g' gNil) (see .f own ρ) R1 with
    | bad => rw [q] at h'; exact h'.elim
    | exc c fs R2 => rw [q] at h'; exact fun d S3 F3 H3 e3 c3 r3 => h' d S3 F3 H3 (s2.ext.trans e3) c3 r3
    | ok us R2 =>
      rw [q] at h'
      intro vs S3 F3 H3 e3 c3 r3
      have s3 := s2.on e3 c3
      have hp3 := e3.fr p _ hp hS
      have hF3 := e3.nw p _ hp hF
      have hS3 : p ∉ S3 := fun z => by
        have := e3.sn p z hS
        rw [hp] at this; cases this
      cases r3 with
      | nil => exact h'.elim
      | @cons v d vs ds' r1 rr =>
      cases rr with
      | cons => exact h'.elim
      | nil =>
      dsimp only [Res.out] at h'
      split at h'
      · rename_i hc
        refine ⟨_, xs, _, rfl, rfl, hp3, by rw [rs.length]; exact hc, ?_⟩
        exact h' _ _ ⟨_, _, s3.junk hF3 hS3 hb hno⟩
      · exact h'.elim
  · exact h1.elim
end
end Pv
namespace Pv
open PySem PySem.Spec PyProof.Rows L2 Sr
theorem runBF_ap {n : Nat} {g : GS} {ds : List D} {R : Rs} : runBF n g ds R = outF (g (startD n ds) R) := rfl
theorem outF_rf {d : D} {R : Rs} : outF (.rf d R) = .ok d R := rfl
end Pv

/-! ### list(zip(a, b)), a and b lists -/
namespace ZlX
open PySem PySem.Calls PyProof.Rows PyProof.V PySem.Spec PySem.W
structure ZG (xs ys : Array Value) (lo : Addr) (h : Heap) (as : List Addr) : Prop where
  rise : as.Pairwise (· < ·)
  above : ∀ a ∈ as, lo < a
  pairs : ∀ (j : Nat) (a : Addr), as[j]? = some a → ∃ x y, xs[j]? = some x ∧ ys[j]? = some y ∧ h.get? a = some { cls := .type "tuple", data := .seq #[x, y] }
theorem ZG.low {xs ys : Array Value} {lo lo' : Addr} {h : Heap} {as : List Addr} (g : ZG xs ys lo h as) (hl : lo' ≤ lo) : ZG xs ys lo' h as := ⟨g.rise, fun a ha => Nat.lt_of_le_of_lt hl (g.above a ha), g.pairs⟩
/-- where the zip stands -/
structure ZSt (h : Heap) (z TI TO i1 i2 l1 l2 S : Addr) (xs ys : Array Value) (i : Nat) : Prop where
  ti : IsPair h TI (.ref i1) (.ref i2)
  h1 : h.IsListIter i1 l1 i
  h2 : h.IsListIter i2 l2 i
  l1 : h.IsList l1 xs
  l2 : h.IsList l2 ys
  z : (IsZip h z TI TO .none ∧ ∃ a b, IsPair h TO a b) ∨ ∃ T f oT, IsZipHeld h z TI TO T f ∧ h.get? T = some oT ∧ T ≠ z ∧ T ≠ i1 ∧ T ≠ i2 ∧ T ≠ S
structure ZOff (z TI TO i1 i2 l1 l2 S : Addr) : Prop where
  z : z ≠ S
  ti : TI ≠ S
  to : TO ≠ S
  i1 : i1 ≠ S
  i2 : i2 ≠ S
  l1 : l1 ≠ S
  l2 : l2 ≠ S
theorem ZSt.keep {h h' : Heap} {z TI TO i1 i2 l1 l2 S : Addr} {xs ys : Array Value} {i : Nat} (O : ZOff z TI TO i1 i2 l1 l2 S) (st : ZSt h z TI TO i1 i2 l1 l2 S xs ys i) (hk : ∀ b o, b ≠ S → h.get? b = some o → h'.get? b = some o) : ZSt h' z TI TO i1 i2 l1 l2 S xs ys i where
  ti := hk _ _ O.ti st.ti
  h1 := st.h1.at fun o e => hk _ o O.i1 e
  h2 := st.h2.at fun o e => hk _ o O.i2 e
  l1 := st.l1.at fun o e => hk _ o O.l1 e
  l2 := st.l2.at fun o e => hk _ o O.l2 e
  z := by
    rcases st.z with ⟨a, b, c, d⟩ | ⟨T, f, oT, a, b, c, d, e, g⟩
    · exact .inl ⟨hk _ _ O.z a, b, c, hk _ _ O.to d⟩
    · exact .inr ⟨T, f, oT, hk _ _ O.z a, hk _ _ g b, c, d, e, g⟩
section
variable {prog : Program} {w : World} {A : Around} {E : Value → Shared → Prop} {s : Shared} {z TI TO i1 i2 l1 l2 S : Addr} {xs ys : Array Value}
end
section
variable {prog : Program} {w : World} {A : Around} {s : Shared} {R : Result → Shared → Prop} {z TI TO i1 i2 l1 l2 S : Addr} {xs ys : Array Value}
end
section
variable {prog : Program} {w : World} {A : Around} {E : Value → Shared → Prop} {s : Shared} {z TI TO i1 i2 l1 l2 S : Addr} {xs ys : Array Value}
end
section
variable {prog : Program} {w : World} {A : Around} {E : Value → Shared → Prop} {s : Shared} {z TI TO i1 i2 l1 l2 : Addr} {xs ys : Array Value}
end
open L2
section
variable {X : Cx} {e e2 : Expr} {ta : TA} {p p2 q pos : Pos}
end
end ZlX
namespace Pv
open PySem PySem.Spec PyProof.Rows L2 Sr
section
variable {X : Cx} {E : XK} {e e2 : Expr} {gs : GA} {pos p p2 q : Pos}
end
end Pv

namespace Pv
open PySem PySem.Spec PyProof.Rows L2 Sr
/-! ### try: .. except C: .. whose body raises nothing -/
section
variable {X : Cx} {E : XK} {own own' ol : List Nat}
end
end Pv

/-! ### bool(x), x an instance with __len__; x == t, x an instance and t a known tuple -/
namespace BlX
open PySem PySem.Calls PyProof.Rows PyProof.V PySem.Spec PySem.W
section
variable {prog : Program} {w : World} {A : Around} {E : Value → Shared → Prop} {s : Shared} {K : Frag} {h₀ : Heap} {L : Addr} {m : Str → Option Value} {x C f : Addr} {ox : Obj} {od : Option Obj}
end
end BlX
namespace Pv
open PySem PySem.Spec PyProof.Rows L2 Sr
section
variable {X : Cx} {CX : CXT} {k : Nat} {f C : Addr} {sp : Sp} {E : XK}
/-! ### x == t, t a known tuple -/
end
section
variable {X : Cx} {CX : CXT} {k : Nat} {E : XK} {c : Str} {ps : List Str} {f : List D → Rs → Res D}
end
end Pv

namespace L2
open PySem PySem.Spec PyProof.Rows
/-! ### {a: b, c: d}, ints -/
def tDisp2 (a b c d : Int) : TE := fun _ H Q => ∀ p, H p = none → Q (.ref p) (upd H p (.dK (putK (putK [] (.inl a) (.int b)) (.inl c) (.int d))))
theorem put_step {X : Cx} {pins : List (Addr × Obj)} {σ : St} {H : Hp} {s : Shared} {P0 : Addr} {kvs : List (Key × V)} {k : Key} {v : V} {key u : Value} {E : Value → Shared → Prop} {Q : Unit → Shared → Prop} {A : Around} (I : Inv X pins σ H s) (e : H P0 = some (.dK kvs)) (hl : kvs.length < sizeLine) (rk : RelV (kV k) key) (rv : RelV v u)
    (h : ∀ s', Inv X pins σ (upd H P0 (.dK (putK kvs k v))) s' → Q () s') : wpAny (model X.prog X.w) A (dictSet P0 key u) Q E s := by
  obtain ⟨z, hd, vs, rel, dd⟩ := dk_of I.hok e
  have hl2 : (putK kvs k v).length ≤ sizeLine := by have := length_putK kvs k v; omega
  refine wpAny_dictSet_pairs (hsz := by rw [← rel.length]; exact z) (kV_is rk) dd fun h' dd' hs => h _ ?_
  have he : ∃ q, h'.get? P0 = some q := let ⟨q, _, _, hq, _⟩ := dd'; ⟨q, hq⟩
  exact d_write I (by rw [e]; exact True.intro) hs he (dk_new hl2 hd (rel.put k rv) dd')
theorem pe_disp2 {X : Cx} {k1 v1 k2 v2 : Expr} {a b c d : Int} {pos : Pos} (h1 : PE X k1 (tC (.int a))) (h2 : PE X v1 (tC (.int b))) (h3 : PE X k2 (tC (.int c))) (h4 : PE X v2 (tC (.int d))) : PE X (.Dict [some k1, some k2] [v1, v2] pos) (tDisp2 a b c d) := by
  refine ⟨fun pins s σ H Q I q => ?_⟩
  have hn := I.hok.fresh (Nat.le_refl s.heap.objs.size)
  have I0 := I.laid (a := s.heap.objs.size) (o := .dK []) (h' := s.heap.push { cls := .type "dict", data := .dict #[] }) (t' := s.toks) (fun _ _ q => Heap.get?_push_of_some _ q) (Nat.le_refl _) (dk_empty s.heap I.big)
  refine wpAny_Dict_any rfl rfl (by simp) (Nat.le_of_ble_eq_true rfl) ?_
  refine pairTrees_cons_walk (thn (h1.run pins _ σ _ (fun x H' => x = .int a ∧ H' = upd H s.heap.objs.size (.dK [])) I0 ⟨rfl, rfl⟩) fun u1 s1 ⟨x1, H1, I1, r1, e1, g1⟩ => ?_)
  subst e1; subst g1
  refine thn (h2.run pins s1 σ _ (fun x H' => x = .int b ∧ H' = upd H s.heap.objs.size (.dK [])) I1 ⟨rfl, rfl⟩) fun u2 s2 ⟨x2, H2, I2, r2, e2, g2⟩ => ?_
  subst e2; subst g2
  refine pairTrees_cons_walk (thn (h3.run pins s2 σ _ (fun x H' => x = .int c ∧ H' = upd H s.heap.objs.size (.dK [])) I2 ⟨rfl, rfl⟩) fun u3 s3 ⟨x3, H3, I3, r3, e3, g3⟩ => ?_)
  subst e3; subst g3
  refine thn (h4.run pins s3 σ _ (fun x H' => x = .int d ∧ H' = upd H s.heap.objs.size (.dK [])) I3 ⟨rfl, rfl⟩) fun u4 s4 ⟨x4, H4, I4, r4, e4, g4⟩ => pairTrees_nil_walk ?_
  subst e4; subst g4
  have hz : 2 < sizeLine := by rw [sizeLine_eq]; decide
  unfold storeAll
  rw [List.forIn_cons]
  refine wpAny_bind (wpAny_bind (put_step (k := .inl a) (v := .int b) I4 upd_same (by show 0 < _; omega) r1 r2 fun s5 I5 => wpAny_pure ?_))
  dsimp only
  rw [List.forIn_cons]
  refine wpAny_bind (wpAny_bind (put_step (k := .inl c) (v := .int d) I5 upd_same (by show 1 < _; omega) r3 r4 fun s6 I6 => wpAny_pure ?_))
  dsimp only
  rw [List.forIn_nil]
  refine wpAny_pure ⟨.ref s.heap.objs.size, _, I6, rfl, ?_⟩
  have eh : upd (upd (upd H s.heap.objs.size (.dK [])) s.heap.objs.size (.dK (putK [] (.inl a) (.int b)))) s.heap.objs.size (.dK (putK (putK [] (.inl a) (.int b)) (.inl c) (.int d))) = upd H s.heap.objs.size (.dK (putK (putK [] (.inl a) (.int b)) (.inl c) (.int d))) := by
    funext x
    by_cases hx : x = s.heap.objs.size
    · subst hx; rw [upd_same, upd_same]
    · rw [upd_ne hx, upd_ne hx, upd_ne hx, upd_ne hx]
  rw [eh]
  exact q _ hn
/-! ### d == e, two dicts of ints that are equal -/
section
variable {X : Cx}
def rEqDc : R2 := fun x y H Q => ∃ a b ks ls, x = .ref a ∧ y = .ref b ∧ Rd H a (.dK ks) ∧ Rd H b (.dK ls) ∧ ks.length = ls.length ∧ (∀ p ∈ ks, ∃ i : Int, p.2 = .int i ∧ valV ls p.1 = some (.int i)) ∧ Q (.bl true) H
theorem op_eqDc (hu : X.A.units + 64 < cLine) : OpR X (compareOp .Eq) rEqDc := by
  intro pins s σ H x y v u Q I rx ry h
  obtain ⟨a, b, ks, ls, rfl, rfl, ha, hb, hl, hp, q⟩ := h
  cases (show v = Value.ref a from rx)
  cases (show u = Value.ref b from ry)
  obtain ⟨_, ya, va, ra, da⟩ := dk_rd I.hok ha
  obtain ⟨_, yb, vb, rb, db⟩ := dk_rd I.hok hb
  show wpAny (model X.prog X.w) X.A (richCompare .Eq (.ref a) (.ref b)) (EP X pins σ Q) X.xe s
  refine PySem.W.rcP_dicts (knd := mixKind X.prog X.w) (r := true) ya yb da db (by omega) (fun _ => hits_run (F := fun x y => x = y ∧ flatB x = true) (fun x y v u f rx ry => (by obtain ⟨rfl, f⟩ := f; exact (eqAt_same rx ry f).eqP)) rb ra fun p hm => ?_) _ _ ?_
  · obtain ⟨i, e1, e2⟩ := hp p hm
    exact ⟨_, e2, e1, by rw [e1]; rfl⟩
  · have e : va.length = vb.length := by rw [← ra.length, ← rb.length]; exact hl
    rw [show (va.length == vb.length && true) = true from by rw [e]; simp]
    exact ⟨.bl true, H, I, rfl, q⟩
end
end L2
namespace Pv
open PySem PySem.Spec PyProof.Rows L2 Sr
section
variable {X : Cx} {E : XK} {k1 v1 k2 v2 : Expr} {pos : Pos}
def gDisp2 (a b c d : Int) : G := fun _ R => .ok (.dic (putD (putD [] (.inl a) (.int b)) (.inl c) (.int d))) R
theorem disp2_ap {a b c d : Int} {ρ : PEnv} {R : Rs} : gDisp2 a b c d ρ R = .ok (.dic (putD (putD [] (.inl a) (.int b)) (.inl c) (.int d))) R := rfl
theorem evf_disp2 {a b c d : Int} (h1 : PE X k1 (tC (.int a))) (h2 : PE X v1 (tC (.int b))) (h3 : PE X k2 (tC (.int c))) (h4 : PE X v2 (tC (.int d))) : EvF X E (.Dict [some k1, some k2] [v1, v2] pos) (gDisp2 a b c d) := pe_imp (pe_disp2 h1 h2 h3 h4) fun σ H Q ⟨S, F, ρ, R, v, h⟩ => fun p hp => h.new v.fh v.cells (let z := RepK.put (k := (Sum.inl c : Key)) (.int d) (RepK.put (k := (Sum.inl a : Key)) (.int b) (RepK.nil (K := X.K) (F := F))); .dic z.1 z.2) hp
def eqDcB (xs ys : List (Key × D)) : Bool := decide (xs.length = ys.length) && xs.all fun p => match p.2, valD ys p.1 with
  | .int i, some (.int j) => decide (i = j)
  | _, _ => false
def dEqDc : D → D → Rs → Res D := fun x y R => match x, y with
  | .dic xs, .dic ys => if eqDcB xs ys = true then .ok (.bl true) R else .bad
  | _, _ => .bad
theorem RepK.mem {K : PySem.W.Frag} {F : Hp} : ∀ {fs : List (Key × V)} {gs : List (Key × D)}, RepK K F fs gs → ∀ p ∈ fs, ∃ q ∈ gs, p.1 = q.1 ∧ Rep K F p.2 q.2
  | [], _, _, p, hp => by simp at hp
  | f :: fs, [], r, p, hp => by have := r.len; simp at this
  | f :: fs, g :: gs, r, p, hp => by
    obtain ⟨⟨h1, h2⟩, h3⟩ := RepK.cons_iff.mp r
    rcases List.mem_cons.mp hp with rfl | hp
    · exact ⟨g, by simp, h1, h2⟩
    · obtain ⟨q, hq, z⟩ := RepK.mem h3 p hp
      exact ⟨q, by simp [hq], z⟩
theorem o_eqDc (hu : X.A.units + 64 < cLine) : OpR X (compareOp .Eq) rEqDc ∧ OpD X.K E rEqDc dEqDc := ⟨op_eqDc hu, fun S F H R x y dx dy Q hs c rx ry h => by
  unfold dEqDc at h
  split at h
  · rename_i xs ys
    split at h
    · rename_i he
      cases rx with
      | @dic a fs _ e1 e2 e3 =>
      cases ry with
      | @dic b fs' _ e1' e2' e3' =>
      unfold eqDcB at he
      rw [Bool.and_eq_true, decide_eq_true_eq, List.all_eq_true] at he
      have r1 : RepK X.K F fs xs := ⟨e2, e3⟩
      have r2 : RepK X.K F fs' ys := ⟨e2', e3'⟩
      refine ⟨a, b, fs, fs', rfl, rfl, rd_mono hs e1, rd_mono hs e1', by rw [r1.len, r2.len]; exact he.1, fun p hp => ?_, h.now hs c (.bl _)⟩
      obtain ⟨q, hq, k1, k2⟩ := r1.mem p hp
      have h1 := he.2 q hq
      split at h1
      · rename_i i j w1 w2
        have h1 := of_decide_eq_true h1
        subst h1
        obtain ⟨v, z1, z2⟩ := (r2.val (k := q.1)).1 _ w2
        rw [w1] at k2
        cases z2
        refine ⟨i, ?_, by rw [k1]; exact z1⟩
        generalize p.2 = pv at k2
        cases k2; rfl
      · cases h1
    · exact h.elim
  · exact h.elim⟩
end
end Pv

namespace Lw
open PySem PySem.Spec PyProof.Rows L2 Sr Pv
def m_is_int : GS := (gRet (gAndV (gCB (dIsK .int) (gCons (gVar 0) (gCons (gC (.ty "int")) gNil))) (gUn dNot (gCB (dIsK .bl) (gCons (gVar 0) (gCons (gC (.ty "bool")) gNil))))))
def f_is_int : List D → Rs → Res D := pureF (runB 1 m_is_int)

def m_is_int_in : GS := (gRet (gAndV (gCall 1 f_is_int (gCons (gVar 0) gNil)) (gCh dLe dLe (gVar 1) (gVar 0) (gVar 2))))
def f_is_int_in : List D → Rs → Res D := pureF (runB 3 m_is_int_in)

def m_never_falls : GS := (gSeq (gSet .f [] 1 (gC (.bl true)))
  (gSeq (gSet .f [] 2 (gC (.int 0)))
  (gSeq (gFor .f [] [3, 4] (gIt tupOf (gVar 0)) (dGTup 2 (dGCons (dName 3) (dGCons (dName 4) dGNil))) (gSeq (gAug .f [] 2 dAdd (gCB dInt1 (gCons (gVar 4) gNil)))
  (gSet .f [] 1 (gAndV (gVar 1) (gOp dGe (gVar 2) (gC (.int 0)))))))
  (gRet (gVar 1)))))
def f_never_falls : List D → Rs → Res D := pureF (runB 5 m_never_falls)

def m_Rig_init : GS := (gStF .f [] 0 "Rig" "told" (gVar 1))
def f_Rig_init : Nat → List D → Rs → Res D := runL 2 m_Rig_init

def m_Rig_arms : GS := (gRet (gFld "Rig" "told" (gVar 0)))
def f_Rig_arms : List D → Rs → Res D := pureF (runB 1 m_Rig_arms)

def m_Rig_is_forward : GS := (gRet (gCall 1 f_never_falls (gCons (gFld "Rig" "told" (gVar 0)) gNil)))
def f_Rig_is_forward : List D → Rs → Res D := pureF (runB 1 m_Rig_is_forward)

def m_Rig_eq : GS := (gRet (gAndV (gCB (dIsC "Rig") (gCons (gVar 1) (gCons (gC (.cls "Rig")) gNil))) (gOp (dEqD false) (gFld "Rig" "told" (gVar 0)) (gFld "Rig" "told" (gVar 1)))))
def f_Rig_eq : List D → Rs → Res D := pureF (runB 2 m_Rig_eq)

def m_L_steps : GS := (gRet (gIf (gB (gOp dGt (gVar 1) (gVar 0))) (gCB dRange (gCons (gOp dAdd (gVar 0) (gC (.int 1))) (gCons (gOp dAdd (gVar 1) (gC (.int 1))) gNil))) (gCB dRange3 (gCons (gOp dSub (gVar 0) (gC (.int 1))) (gCons (gOp dSub (gVar 1) (gC (.int 1))) (gCons (gOp dSub (gC (.int 0)) (gC (.int 1))) gNil))))))
def f_L_steps : List D → Rs → Res D := pureF (runB 2 m_L_steps)

abbrev f_L_below := belowF
theorem upd_self (H : Hp) (d : Addr) {o : HO} (h : H d = some o := by assumption) : upd H d o = H := by
  funext b; unfold upd; split
  · rename_i e; rw [e, h]
  · rfl
def m_is_place : GS := (gRet (gCall 3 f_is_int_in (gCons (gVar 0) (gCons (gUn dNeg (gC (.int 1000000))) (gCons (gC (.int 1000000)) gNil)))))
def f_is_place : List D → Rs → Res D := pureF (runB 1 m_is_place)

def m_check_row : GS := (gSeq (gIfS .f [] (gNot (gB (gCB (dIsK .lst) (gCons (gVar 0) (gCons (gC (.ty "list")) gNil))))) (gRaiseI "InvalidRow" "index" (gC (.int 0))) gNext)
  (gFor .f [] [1, 2] (gItA enumL (gCons (gVar 0) gNil)) (dGTup 2 (dGCons (dName 1) (dGCons (dName 2) dGNil))) (gIfS .f [] (gOr (gB (gOp (dEqS false) (gVar 1) (gC (.int 1000)))) (gNot (gB (gCall 1 f_is_place (gCons (gVar 2) gNil))))) (gRaiseI "InvalidRow" "index" (gVar 1)) gNext)))
def f_check_row : List D → Rs → Res D := pureF (runB 3 m_check_row)

def m_moved : GS := (gSeq (gIfS .f [2, 3] (gB (gOp (dEqS false) (gVar 1) (gOp dIx (gVar 0) (gUn dNeg (gC (.int 1)))))) (gRet (gTup (gCons (gVar 0) (gCons (gLst gNil) gNil)))) gNext)
  (gSeq (gPar [2, 3] [2, 3, 4] [true, true, false] (gCons (gCB dList (gCons (gVar 0) gNil)) (gCons (gLst gNil) (gCons (gOp dGt (gVar 1) (gOp dIx (gVar 0) (gUn dNeg (gC (.int 1))))) gNil))))
  (gSeq (gIfS .g [2, 3] (gB (gOp (dEqS false) (gVar 4) (gOp (dEqS false) (gOp dMod (gCB dLen (gCons (gVar 2) gNil)) (gC (.int 2))) (gC (.int 0))))) (gPop [2, 3] 2) gNext)
  (gSeq (gWhl (fun ρ _ => 1000) .g [2, 3] (gAnd (gB (gOp dGt (gCB dLen (gCons (gVar 2) gNil)) (gC (.int 1)))) (gIf (gB (gVar 4)) (gB (gOp dGe (gVar 1) (gOp dIx (gVar 2) (gUn dNeg (gC (.int 2)))))) (gB (gOp dLe (gVar 1) (gOp dIx (gVar 2) (gUn dNeg (gC (.int 2)))))))) (gSeq (gApp .g [2, 3] 3 (gCB dAbs (gCons (gOp dSub (gCB dInt1 (gCons (gOp dIx (gVar 2) (gUn dNeg (gC (.int 1)))) gNil)) (gCB dInt1 (gCons (gOp dIx (gVar 2) (gUn dNeg (gC (.int 2)))) gNil))) gNil)))
  (gSetO .g [2, 3] 2 (gSlL (gVar 2) gNoPart (gPart (gUn dNeg (gC (.int 2))))))))
  (gRet (gTup (gCons (gTup (gStar (gVar 2) (gCons (gVar 1) gNil))) (gCons (gVar 3) gNil))))))))
def f_moved : List D → Rs → Res D := pureF (runB 5 m_moved)

def m_followed : GS := (gSeq (gPar [3] [2, 3] [false, true] (gCons (gVar 0) (gCons (gLst gNil) gNil)))
  (gSeq (gFor .f [3] [4] (gIt lstOf (gVar 1)) (dName 4) (gSeq (gAsg .f [3] [2, 5] (dGTup 2 (dGCons (dName 2) (dGCons (dName 5) dGNil))) (gCall 2 f_moved (gCons (gVar 2) (gCons (gVar 4) gNil))))
  (gExt .f [3] 3 (gVar 5))))
  (gRet (gTup (gCons (gVar 2) (gCons (gVar 3) gNil))))))
def f_followed : List D → Rs → Res D := pureF (runB 6 m_followed)

def m_is_next : GS := (gSeq (gIfS .f [] (gB (gOp (dEqD false) (gVar 0) (gTup gNil))) (gRet (gOp dLe (gVar 1) (gC (.int 0)))) gNext)
  (gSeq (gIfS .f [] (gB (gOp (dEqS false) (gCB dLen (gCons (gVar 0) gNil)) (gC (.int 1)))) (gRet (gOp dGt (gVar 1) (gOp dIx (gVar 0) (gC (.int 0))))) gNext)
  (gRet (gCh dLt dLt (gCB dMinU (gCons (gSl (gVar 0) (gPart (gUn dNeg (gC (.int 2)))) gNoPart) gNil)) (gVar 1) (gCB dMaxU (gCons (gSl (gVar 0) (gPart (gUn dNeg (gC (.int 2)))) gNoPart) gNil))))))
def f_is_next : List D → Rs → Res D := pureF (runB 2 m_is_next)

def m_Memory_init : GS := (gSeq (gIfS .f [] (gOr (gNot (gB (gCB (dIsK .tup) (gCons (gVar 1) (gCons (gC (.ty "tuple")) gNil))))) (gB (gOp (dEqD false) (gVar 1) (gTup gNil)))) (gRaiseI "InvalidMemory" "index" (gC (.int 0))) gNext)
  (gSeq (gFor .f [] [2, 3] (gItA enumT (gCons (gVar 1) gNil)) (dGTup 2 (dGCons (dName 2) (dGCons (dName 3) dGNil))) (gIfS .f [] (gOr (gNot (gB (gCall 1 f_is_place (gCons (gVar 3) gNil)))) (gNot (gB (gCall 2 f_is_next (gCons (gSl (gVar 1) gNoPart (gPart (gVar 2))) (gCons (gVar 3) gNil)))))) (gRaiseI "InvalidMemory" "index" (gVar 2)) gNext))
  (gStF .f [] 0 "Memory" "told" (gVar 1))))
def f_Memory_init : Nat → List D → Rs → Res D := runL 4 m_Memory_init

def m_Memory_places : GS := (gRet (gFld "Memory" "told" (gVar 0)))
def f_Memory_places : List D → Rs → Res D := pureF (runB 1 m_Memory_places)

def m_Memory_place : GS := (gRet (gOp dIx (gFld "Memory" "told" (gVar 0)) (gUn dNeg (gC (.int 1)))))
def f_Memory_place : List D → Rs → Res D := pureF (runB 1 m_Memory_place)

def m_Memory_eq : GS := (gRet (gAndV (gCB (dIsC "Memory") (gCons (gVar 1) (gCons (gC (.cls "Memory")) gNil))) (gOp (dEqD false) (gFld "Memory" "told" (gVar 0)) (gFld "Memory" "told" (gVar 1)))))
def f_Memory_eq : List D → Rs → Res D := pureF (runB 2 m_Memory_eq)

def m_memory_of : GS := (gSeq (gDrop .f [] (gCall 1 f_check_row (gCons (gVar 0) gNil)))
  (gRet (gMk "Memory" 2 f_Memory_init (gCons (gOp dIx (gCall 2 f_followed (gCons (gTup (gCons (gC (.int 0)) gNil)) (gCons (gVar 0) gNil))) (gC (.int 0))) gNil))))
def f_memory_of : List D → Rs → Res D := pureF (runB 1 m_memory_of)

def m_L_row : GS := (gSeq (gSet .f [] 3 (gOp dIx (gLst (gCons (gC (.int 0)) (gCons (gOp dSub (gC (.int 0)) (gVar 2)) gNil))) (gCallL 0 2 f_L_below (gCons (gC (.int 2)) gNil))))
  (gRet (gLc [4] (gItA rng1 (gCons (gCallL 0 2 f_L_below (gCons (gOp dAdd (gVar 1) (gC (.int 1))) gNil)) gNil)) (dName 4) gYes (gOp dAdd (gVar 3) (gCallL 0 2 f_L_below (gCons (gOp dAdd (gOp dSub (gVar 2) (gVar 3)) (gC (.int 1))) gNil))))))
def f_L_row : Nat → List D → Rs → Res D := runL 5 m_L_row

def m_L_equal (f_L_equal : List D → Rs → Res D) : GS := (gSeq (gIfS .f [] (gB (gUn (dIsN false) (gVar 1))) (gRet (gUn (dIsN false) (gVar 0))) gNext)
  (gSeq (gIfS .f [] (gB (gCB (dIsK .bl) (gCons (gVar 1) (gCons (gC (.ty "bool")) gNil)))) (gRet (gAndV (gCB (dIsK .bl) (gCons (gVar 0) (gCons (gC (.ty "bool")) gNil))) (gOp (dEqD false) (gVar 0) (gVar 1)))) gNext)
  (gSeq (gIfS .f [] (gB (gCB (dIsK .int) (gCons (gVar 1) (gCons (gC (.ty "int")) gNil)))) (gRet (gAndV (gCB (dIsK .int) (gCons (gVar 0) (gCons (gC (.ty "int")) gNil))) (gAndV (gUn dNot (gCB (dIsK .bl) (gCons (gVar 0) (gCons (gC (.ty "bool")) gNil)))) (gOp (dEqD false) (gVar 0) (gVar 1))))) gNext)
  (gSeq (gIfS .f [] (gB (gCB (dIsK .str) (gCons (gVar 1) (gCons (gC (.ty "str")) gNil)))) (gRet (gAndV (gCB (dIsK .str) (gCons (gVar 0) (gCons (gC (.ty "str")) gNil))) (gOp (dEqD false) (gVar 0) (gVar 1)))) gNext)
  (gSeq (gIfS .f [] (gB (gOp (dEqS true) (gCB (dIsK .tup) (gCons (gVar 1) (gCons (gC (.ty "tuple")) gNil))) (gCB (dIsK .tup) (gCons (gVar 0) (gCons (gC (.ty "tuple")) gNil))))) (gRet (gC (.bl false))) gNext)
  (gSeq (gIfS .f [] (gB (gOp (dEqS true) (gCB (dIsK .lst) (gCons (gVar 1) (gCons (gC (.ty "list")) gNil))) (gCB (dIsK .lst) (gCons (gVar 0) (gCons (gC (.ty "list")) gNil))))) (gRet (gC (.bl false))) gNext)
  (gSeq (gIfS .f [] (gB (gOp (dEqS true) (gCB dLen (gCons (gVar 0) gNil)) (gCB dLen (gCons (gVar 1) gNil)))) (gRet (gC (.bl false))) gNext)
  (gRet (gCB dAll (gCons (gLc [2] (gItA rng1 (gCons (gCB dLen (gCons (gVar 1) gNil)) gNil)) (dName 2) gYes (gCall 2 f_L_equal (gCons (gOp dIx (gVar 0) (gVar 2)) (gCons (gOp dIx (gVar 1) (gVar 2)) gNil)))) gNil))))))))))
def r_L_equal : Nat → List D → Rs → Res D
  | 0 => fun _ _ => .bad
  | k + 1 => runB 3 (m_L_equal (r_L_equal k))
def f_L_equal : List D → Rs → Res D := pureF (r_L_equal 8)

def m_swings_of : GS := (gRet (gLc [1, 2] (gItA zipD (gCons (gVar 0) (gCons (gSl (gVar 0) (gPart (gC (.int 1))) gNoPart) gNil))) (dGTup 2 (dGCons (dName 1) (dGCons (dName 2) dGNil))) gYes (gCB dAbs (gCons (gOp dSub (gVar 2) (gVar 1)) gNil))))
def f_swings_of : List D → Rs → Res D := pureF (runB 3 m_swings_of)

def m_L_memory : GS := (gSeq (gPar [2] [1, 2, 3, 4] [false, true, false, false] (gCons (gOp dCatL (gLst (gCons (gC (.int 0)) gNil)) (gVar 0)) (gCons (gLst gNil) (gCons (gC (.int 0)) (gCons (gC (.bl true)) gNil)))))
  (gWhl (fun ρ _ => 1000) .f [2] (gB (gC (.bl true))) (gSeq (gSet .f [2] 5 (gSl (gVar 1) (gPart (gVar 3)) gNoPart))
  (gSeq (gSet .f [2] 6 (gIf (gB (gVar 4)) (gCB dMinU (gCons (gVar 5) gNil)) (gCB dMaxU (gCons (gVar 5) gNil))))
  (gSeq (gSet .f [2] 7 (gOp dIx (gLc [8] (gItA rng1 (gCons (gCB dLen (gCons (gVar 5) gNil)) gNil)) (dName 8) (gB (gOp (dEqS false) (gOp dIx (gVar 5) (gVar 8)) (gVar 6))) (gVar 8)) (gUn dNeg (gC (.int 1)))))
  (gSeq (gApp .f [2] 2 (gVar 6))
  (gSeq (gIfS .f [2] (gB (gOp (dEqS false) (gVar 7) (gOp dSub (gCB dLen (gCons (gVar 5) gNil)) (gC (.int 1))))) (gRet (gCB dTupl (gCons (gVar 2) gNil))) gNext)
  (gPar [2] [3, 4] [false, false] (gCons (gOp dAdd (gVar 3) (gVar 7)) (gCons (gUn dNot (gVar 4)) gNil))))))))))
def f_L_memory : List D → Rs → Res D := pureF (runB 9 m_L_memory)

def m_L_loops : GS := (gSeq (gPar [4] [1, 2, 3, 4] [false, false, false, true] (gCons (gC (.int 0)) (gCons (gLst gNil) (gCons (gTup (gCons (gC (.int 0)) gNil)) (gCons (gLst gNil) gNil)))))
  (gSeq (gFor .f [4] [5] (gIt lstOf (gVar 0)) (dName 5) (gSeq (gFor .f [4] [6] (gIt lstOf (gCall 2 f_L_steps (gCons (gVar 1) (gCons (gVar 5) gNil)))) (dName 6) (gSeq (gSet .f [4] 2 (gOp dCatL (gCB dList (gCons (gIf (gB (gOp (dEqS false) (gOp dIx (gVar 3) (gC (.int 0))) (gC (.int 0)))) (gSl (gVar 3) (gPart (gC (.int 1))) gNoPart) (gVar 3)) gNil)) (gLst (gCons (gVar 6) gNil))))
  (gSeq (gSet .f [4] 7 (gCall 1 f_L_memory (gCons (gVar 2) gNil)))
  (gSeq (gIfS .f [4] (gB (gOp (dEqS false) (gCB dLen (gCons (gVar 7) gNil)) (gOp dSub (gCB dLen (gCons (gVar 3) gNil)) (gC (.int 2))))) (gApp .f [4] 4 (gCB dAbs (gCons (gOp dSub (gOp dIx (gVar 3) (gUn dNeg (gC (.int 2)))) (gOp dIx (gVar 3) (gUn dNeg (gC (.int 3))))) gNil))) gNext)
  (gSeq (gIfS .f [4] (gB (gOp (dEqS false) (gCB dLen (gCons (gVar 7) gNil)) (gOp dSub (gCB dLen (gCons (gVar 3) gNil)) (gC (.int 1))))) (gApp .f [4] 4 (gC (.int 1))) gNext)
  (gSet .f [4] 3 (gVar 7)))))))
  (gSet .f [4] 1 (gVar 5))))
  (gRet (gVar 4))))
def f_L_loops : List D → Rs → Res D := pureF (runB 8 m_L_loops)

def m_counted : GS := (gRet (gDc [1] (gIt lstOf (gCB dSortSet (gCons (gVar 0) gNil))) (dName 1) gYes (gVar 1) (gBML dCount (gVar 0) (gCons (gVar 1) gNil))))
def f_counted : List D → Rs → Res D := pureF (runB 2 m_counted)

def m_loops : GS := (gSeq (gDrop .f [] (gCall 1 f_check_row (gCons (gVar 0) gNil)))
  (gRet (gCall 1 f_counted (gCons (gOp dIx (gCall 2 f_followed (gCons (gTup (gCons (gC (.int 0)) gNil)) (gCons (gVar 0) gNil))) (gC (.int 1))) gNil))))
def f_loops : List D → Rs → Res D := pureF (runB 1 m_loops)

def m_open_swings : GS := (gRet (gCall 1 f_swings_of (gCons (gProp "Memory" (calmF f_Memory_places) (gVar 0)) gNil)))
def f_open_swings : List D → Rs → Res D := pureF (runB 1 m_open_swings)

def m_countedX : GS := (gRetX [] (gDc [1] (gIt lstOf (gCB dSortSet (gCons (gVar 0) gNil))) (dName 1) gYes (gVar 1) (gBML dCount (gVar 0) (gCons (gVar 1) gNil))))
def f_countedX : List D → Rs → Res D := pureF (runBF 2 m_countedX)

def m_loopsX : GS := (gSeq (gDrop .f [] (gCall 1 f_check_row (gCons (gVar 0) gNil)))
  (gRetX [] (gCall 1 f_countedX (gCons (gOp dIx (gCall 2 f_followed (gCons (gTup (gCons (gC (.int 0)) gNil)) (gCons (gVar 0) gNil))) (gC (.int 1))) gNil))))
def f_loopsX : List D → Rs → Res D := pureF (runBF 1 m_loopsX)

def m_swings_ofX : GS := (gRetX [] (gLc [1, 2] (gItA zipD (gCons (gVar 0) (gCons (gSl (gVar 0) (gPart (gC (.int 1))) gNoPart) gNil))) (dGTup 2 (dGCons (dName 1) (dGCons (dName 2) dGNil))) gYes (gCB dAbs (gCons (gOp dSub (gVar 2) (gVar 1)) gNil))))
def f_swings_ofX : List D → Rs → Res D := pureF (runBF 3 m_swings_ofX)

def m_open_swingsX : GS := (gRetX [] (gCall 1 f_swings_ofX (gCons (gProp "Memory" (calmF f_Memory_places) (gVar 0)) gNil)))
def f_open_swingsX : List D → Rs → Res D := pureF (runBF 1 m_open_swingsX)

def m_L_pairs : GS := (gRet (gIf (gB (gCB (dIsK .dct) (gCons (gVar 0) (gCons (gC (.ty "dict")) gNil)))) (gLc [1] (gIt (dicOf keysD) (gVar 0)) (dName 1) gYes (gTup (gCons (gVar 1) (gCons (gOp dDGet (gVar 0) (gVar 1)) gNil)))) (gC .non)))
def f_L_pairs : List D → Rs → Res D := pureF (runB 2 m_L_pairs)

def m_L_told : GS := (gRet (gLc [1] (gIt lstOf (gCB dSortSet (gCons (gVar 0) gNil))) (dName 1) gYes (gTup (gCons (gVar 1) (gCons (gBML dCount (gVar 0) (gCons (gVar 1) gNil)) gNil)))))
def f_L_told : List D → Rs → Res D := pureF (runB 2 m_L_told)


def RaW (H : Hp) (a : Addr) (n : Int) (_ : Nat) (σ' : L2.St) (H' : Hp) : Prop := ∃ (z : Int) (u : Option V), σ' = [some (.ref a), some (.int n), some (.int z), u] ∧ 0 ≤ z ∧ H' = H
def RaC (H1 : Hp) (D : Addr) (i : Nat) (H' : Hp) : Prop := Same H1 H' ∧ ∃ acc : List Int, H' D = some (.lst (List.map V.int acc)) ∧ acc.length ≤ i ∧ ∀ x ∈ acc, 0 ≤ x
def ml175 : GS := (gSeq (gDSet .f [4] 4 (gC (.int 0)) (gC (.int 1)))
  (gAppX [4] (gCall 1 f_open_swingsX (gCons (gVar 5) gNil)) (gC (.int 0))))
def ml173 : GS := (gSeq (gIfS .f [4] (gNot (gB (gCall 2 f_L_equal (gCons (gCall 1 f_open_swings (gCons (gVar 5) gNil)) (gCons (gVar 7) gNil))))) (gRet (gC (.bl false))) gNext)
  ml175)
def ml172 : GS := (gSeq (gSet .f [4] 7 (gLc [8] (gItA rng1 (gCons (gOp dSub (gCB dLen (gCons (gVar 6) gNil)) (gC (.int 1))) gNil)) (dName 8) gYes (gCB dAbs (gCons (gOp dSub (gOp dIx (gVar 6) (gOp dAdd (gVar 8) (gC (.int 1)))) (gOp dIx (gVar 6) (gVar 8))) gNil))))
  ml173)
def ml171 : GS := (gSeq (gSet .f [4] 6 (gCall 1 f_L_memory (gCons (gVar 3) gNil)))
  ml172)
def ml169 : GS := (gSeq (gIfS .g [4] (gNot (gB (gCall 2 f_L_equal (gCons (gCall 1 f_L_pairs (gCons (gVar 4) gNil)) (gCons (gCall 1 f_L_told (gCons (gCall 1 f_L_loops (gCons (gVar 3) gNil)) gNil)) gNil))))) (gRet (gC (.bl false))) gNext)
  ml171)
def ml168 : GS := (gSeq (gPar [4] [4, 5] [true, false] (gCons (gCall 1 f_loopsX (gCons (gVar 3) gNil)) (gCons (gCall 1 f_memory_of (gCons (gVar 3) gNil)) gNil)))
  ml169)
def ml167 : GS := (gSeq (gSet .f [4] 3 (gCallL 1 3 f_L_row (gCons (gOp dIx (gLst (gCons (gC (.int 9)) (gCons (gC (.int 16)) gNil))) (gCallL 1 2 f_L_below (gCons (gC (.int 2)) gNil))) (gCons (gOp dIx (gLst (gCons (gC (.int 3)) (gCons (gC (.int 7)) (gCons (gC (.int 12)) gNil)))) (gCallL 1 2 f_L_below (gCons (gC (.int 3)) gNil))) gNil))))
  ml168)
def ml166 : GS := (gSeq (gFor .f [4] [2] (gItA rng1 (gCons (gC (.int 3)) gNil)) (dName 2) ml167)
  (gRet (gAndV (gOp dEqDc (gCall 1 f_loops (gCons (gLst (gCons (gC (.int 9)) (gCons (gC (.int 4)) (gCons (gC (.int 6)) (gCons (gC (.int 4)) (gCons (gC (.int 0)) gNil)))))) gNil)) (gDisp2 2 1 9 1)) (gOp dEqDc (gCall 1 f_loops (gCons (gLst gNil) gNil)) gDNew))))
def m_law : GS := ml166
end Lw
namespace Lw
open PySem PySem.Spec PyProof.Rows L2 Sr Pv Rg
variable {A0 : Addr}
theorem blsOf_of {α : Type} (f : α → Bool) (xs : List α) : blsOf (xs.map fun x => .bl (f x)) = some (xs.map f) := by
  rw [show (xs.map fun x => D.bl (f x)) = (xs.map f).map D.bl by simp, blsOf_map]
/-- arms as they stand in a rig -/
structure Fit (a : Arms) : Prop where
  c : Canon a
  len : a.length ≤ 60
  arm : ∀ p ∈ a, -1000000 ≤ p.2 ∧ p.2 ≤ 1000000
  deep : ∀ p ∈ a, p.1 ≤ 999
theorem line60 {n : Nat} (h : n ≤ 100000) : n ≤ sizeLine := Nat.le_trans h (by decide)
theorem Fit.line {a : Arms} (h : Fit a) : a.length ≤ sizeLine := line60 (Nat.le_trans h.len (by decide))
theorem nf_loop {x : Option D} {R : Rs} : ∀ (a : Arms) (t : Int) (b : Bool) (u v : Option D), ∃ t' u' v', loopG (dGTup 2 (dGCons (dName 3) (dGCons (dName 4) dGNil))) (gSeq (gAug .f [] 2 dAdd (gCB dInt1 (Pv.gCons (gVar 4) Pv.gNil))) (gSet .f [] 1 (gAndV (gVar 1) (gOp dGe (gVar 2) (gC (.int 0)))))) (a.map prD) [x, some (.bl b), some (.int t), u, v] R = .nx [x, some (.bl (b && nf a t)), some (.int t'), u', v'] R
  | [], t, b, u, v => ⟨t, u, v, by simp [loopG, nf]⟩
  | p :: a, t, b, u, v => by
    obtain ⟨t', u', v', h⟩ := nf_loop (x := x) (R := R) a (t + p.2) (b && decide (0 ≤ t + p.2)) (some (.int p.1)) (some (.int p.2))
    refine ⟨t', u', v', ?_⟩
    rw [List.map_cons, loopG]
    cases b <;> simp only [prD, raise_ap, raiseI_ap, calmF_ap, le_line, lt_line, var_ap, c_ap, op_ap, un_ap, b_ap, and_ap, or_ap, not_ap, if_ap, andV_ap, orV_ap, ch_ap, nil_ap, cons_ap, star_ap, tup_ap, lst_ap, arm_ap, cb_ap, noPart_ap, part_ap, sl_ap, slL_ap, call_ap, callL_ap, mk_ap, fld_ap, prop_ap, meth_ap, callI_ap, get2_ap, dnew_ap, it_ap, itA_ap, yes_ap, next_ap, seq_ap, set_ap, setO_ap, drop_ap, ret_ap, retN_ap, brk_ap, cnt_ap, never_ap, ifS_ap, aug_ap, app_ap, ext_ap, pop_ap, par_ap, asg_ap, dset_ap, stF_ap, stF2_ap, fldL_ap, see_f, see_g, okM_f, okM_g, okR_f, okR_g, okO_f, okO_g, hide_nil, hide_cons, setAll_cons, setAll_nil, wipe_nil, wipe_cons, runB_ap, runL_ap, startL_ap, startD_ap, out1_nx, out1_rt, dName_ap, dGTup_ap, dGLst_ap, dGCons_ap, dGNil_ap, dAdd_ap, dSub_ap, dMul_ap, dFdiv_ap, dMod_ap, dLt_ap, dLe_ap, dGt_ap, dGe_ap, bOf_ap, dNeg_ap, dNot_ap, eqS_int, eqS_bl, eqS_str, dInt1_ap, dInt1_bl, dMax2_ap, dMin2_ap, dAbs_ap, dSum_ap, dAny_ap, dAll_ap, dLen_l, dLen_t, dLen_a, dIx_l, dIx_t, dIx_a, dTup_ap, dLst_ap, dArm_ap, dList_l, dList_t, dTupl_ap, dTupA_ap, lstOf_ap, tupOf_t, tupOf_a, itemsOf_t, itemsOf_l, dSl_l, dSl_t, dSlL_ap, dCatL_ap, dIsN_ap, rng1_ap, rng2_ap, dRange_1, dRange_2, dRange3_ap, ownB_ap, ownT_ap, ownN_ap, eqI_ap, isC_y, il_int, il_bl, il_str, il_non, il_tup, il_lst, il_armD, il_ins, il_dic, il_ar, il_rig, Bool.false_eq_true, if_false, if_true, Res.bind_ok, Res.bind_bad, Res.out_ok, Res.out_bad, Res.calm_ok, List.map_cons, List.map_nil, List.length_cons, List.length_nil, Nat.reduceAdd, Nat.reduceSub, List.replicate, List.cons_append, List.nil_append, List.getElem?_cons_zero, List.getElem?_cons_succ, List.set_cons_succ, List.set_cons_zero, Bool.true_and, Bool.and_true, Bool.not_false, Bool.not_true, List.contains_nil, Option.bind_some, for_ap, lc_ap, Nat.reduceEqDiff, Nat.reduceLeDiff, Bool.false_xor, Bool.true_xor, and_self, decide_true, decide_false, List.lookup, List.all_cons, List.all_nil, List.contains_cons, Nat.reduceBEq, Bool.or_false, Bool.false_or, Bool.or_true, Bool.true_or, beq_self_eq_true, List.contains_nil, nf, Bool.and_assoc, Bool.false_and] at h ⊢ <;> exact h
theorem e_never_falls {a : Arms} {R : Rs} : f_never_falls [arD a] R = .ok (.bl (nf a 0)) R := by
  unfold f_never_falls
  refine pureF_ok ?_
  unfold m_never_falls
  simp only [raise_ap, raiseI_ap, calmF_ap, le_line, lt_line, var_ap, c_ap, op_ap, un_ap, b_ap, and_ap, or_ap, not_ap, if_ap, andV_ap, orV_ap, ch_ap, nil_ap, cons_ap, star_ap, tup_ap, lst_ap, arm_ap, cb_ap, noPart_ap, part_ap, sl_ap, slL_ap, call_ap, callL_ap, mk_ap, fld_ap, prop_ap, meth_ap, callI_ap, get2_ap, dnew_ap, it_ap, itA_ap, yes_ap, next_ap, seq_ap, set_ap, setO_ap, drop_ap, ret_ap, retN_ap, brk_ap, cnt_ap, never_ap, ifS_ap, aug_ap, app_ap, ext_ap, pop_ap, par_ap, asg_ap, dset_ap, stF_ap, stF2_ap, fldL_ap, see_f, see_g, okM_f, okM_g, okR_f, okR_g, okO_f, okO_g, hide_nil, hide_cons, setAll_cons, setAll_nil, wipe_nil, wipe_cons, runB_ap, runL_ap, startL_ap, startD_ap, out1_nx, out1_rt, dName_ap, dGTup_ap, dGLst_ap, dGCons_ap, dGNil_ap, dAdd_ap, dSub_ap, dMul_ap, dFdiv_ap, dMod_ap, dLt_ap, dLe_ap, dGt_ap, dGe_ap, bOf_ap, dNeg_ap, dNot_ap, eqS_int, eqS_bl, eqS_str, dInt1_ap, dInt1_bl, dMax2_ap, dMin2_ap, dAbs_ap, dSum_ap, dAny_ap, dAll_ap, dLen_l, dLen_t, dLen_a, dIx_l, dIx_t, dIx_a, dTup_ap, dLst_ap, dArm_ap, dList_l, dList_t, dTupl_ap, dTupA_ap, lstOf_ap, tupOf_t, tupOf_a, itemsOf_t, itemsOf_l, dSl_l, dSl_t, dSlL_ap, dCatL_ap, dIsN_ap, rng1_ap, rng2_ap, dRange_1, dRange_2, dRange3_ap, ownB_ap, ownT_ap, ownN_ap, eqI_ap, isC_y, il_int, il_bl, il_str, il_non, il_tup, il_lst, il_armD, il_ins, il_dic, il_ar, il_rig, Bool.false_eq_true, if_false, if_true, Res.bind_ok, Res.bind_bad, Res.out_ok, Res.out_bad, Res.calm_ok, List.map_cons, List.map_nil, List.length_cons, List.length_nil, Nat.reduceAdd, Nat.reduceSub, List.replicate, List.cons_append, List.nil_append, List.getElem?_cons_zero, List.getElem?_cons_succ, List.set_cons_succ, List.set_cons_zero, Bool.true_and, Bool.and_true, Bool.not_false, Bool.not_true, List.contains_nil, Option.bind_some, for_ap, lc_ap, Nat.reduceEqDiff, Nat.reduceLeDiff, Bool.false_xor, Bool.true_xor, and_self, decide_true, decide_false, List.lookup, List.all_cons, List.all_nil, List.contains_cons, Nat.reduceBEq, Bool.or_false, Bool.false_or, Bool.or_true, Bool.true_or, beq_self_eq_true, List.contains_nil, arD]
  obtain ⟨t', u', v', h⟩ := nf_loop (x := some (.arm (a.map prD))) (R := []) a 0 true none none
  rw [h]
  simp only [raise_ap, raiseI_ap, calmF_ap, le_line, lt_line, var_ap, c_ap, op_ap, un_ap, b_ap, and_ap, or_ap, not_ap, if_ap, andV_ap, orV_ap, ch_ap, nil_ap, cons_ap, star_ap, tup_ap, lst_ap, arm_ap, cb_ap, noPart_ap, part_ap, sl_ap, slL_ap, call_ap, callL_ap, mk_ap, fld_ap, prop_ap, meth_ap, callI_ap, get2_ap, dnew_ap, it_ap, itA_ap, yes_ap, next_ap, seq_ap, set_ap, setO_ap, drop_ap, ret_ap, retN_ap, brk_ap, cnt_ap, never_ap, ifS_ap, aug_ap, app_ap, ext_ap, pop_ap, par_ap, asg_ap, dset_ap, stF_ap, stF2_ap, fldL_ap, see_f, see_g, okM_f, okM_g, okR_f, okR_g, okO_f, okO_g, hide_nil, hide_cons, setAll_cons, setAll_nil, wipe_nil, wipe_cons, runB_ap, runL_ap, startL_ap, startD_ap, out1_nx, out1_rt, dName_ap, dGTup_ap, dGLst_ap, dGCons_ap, dGNil_ap, dAdd_ap, dSub_ap, dMul_ap, dFdiv_ap, dMod_ap, dLt_ap, dLe_ap, dGt_ap, dGe_ap, bOf_ap, dNeg_ap, dNot_ap, eqS_int, eqS_bl, eqS_str, dInt1_ap, dInt1_bl, dMax2_ap, dMin2_ap, dAbs_ap, dSum_ap, dAny_ap, dAll_ap, dLen_l, dLen_t, dLen_a, dIx_l, dIx_t, dIx_a, dTup_ap, dLst_ap, dArm_ap, dList_l, dList_t, dTupl_ap, dTupA_ap, lstOf_ap, tupOf_t, tupOf_a, itemsOf_t, itemsOf_l, dSl_l, dSl_t, dSlL_ap, dCatL_ap, dIsN_ap, rng1_ap, rng2_ap, dRange_1, dRange_2, dRange3_ap, ownB_ap, ownT_ap, ownN_ap, eqI_ap, isC_y, il_int, il_bl, il_str, il_non, il_tup, il_lst, il_armD, il_ins, il_dic, il_ar, il_rig, Bool.false_eq_true, if_false, if_true, Res.bind_ok, Res.bind_bad, Res.out_ok, Res.out_bad, Res.calm_ok, List.map_cons, List.map_nil, List.length_cons, List.length_nil, Nat.reduceAdd, Nat.reduceSub, List.replicate, List.cons_append, List.nil_append, List.getElem?_cons_zero, List.getElem?_cons_succ, List.set_cons_succ, List.set_cons_zero, Bool.true_and, Bool.and_true, Bool.not_false, Bool.not_true, List.contains_nil, Option.bind_some, for_ap, lc_ap, Nat.reduceEqDiff, Nat.reduceLeDiff, Bool.false_xor, Bool.true_xor, and_self, decide_true, decide_false, List.lookup, List.all_cons, List.all_nil, List.contains_cons, Nat.reduceBEq, Bool.or_false, Bool.false_or, Bool.or_true, Bool.true_or, beq_self_eq_true, List.contains_nil]
/-! ### tables of weights -/
theorem keyOf_int {i : Int} : keyOf (.int i) = some (.inl i) := rfl
theorem atI_nat {α : Type} (xs : List α) (k : Nat) : atI xs (k : Int) = xs[k]? := by
  unfold atI ixN
  rw [if_pos (Int.natCast_nonneg k)]
  by_cases h : k < xs.length
  · rw [if_pos (by omega)]; simp
  · rw [if_neg (by omega), List.getElem?_eq_none (by omega)]; rfl
theorem loopG_range {T : TD} {b : GS} {enc : Nat → D} {n : Nat} (I : Nat → PEnv → Rs → Prop) {ρ : PEnv} {R : Rs} (h0 : I 0 ρ R) (hs : ∀ i ρ R, i < n → I i ρ R → ∃ ρ1, T (enc i) ρ = some ρ1 ∧ ∃ ρ2 R2, (b ρ1 R = .nx ρ2 R2 ∨ b ρ1 R = .ct ρ2 R2) ∧ I (i + 1) ρ2 R2) : ∃ ρ2 R2, loopG T b ((List.range n).map enc) ρ R = .nx ρ2 R2 ∧ I n ρ2 R2 := by
  have : ∀ (m i : Nat) (ρ : PEnv) (R : Rs), i + m = n → I i ρ R → ∃ ρ2 R2, loopG T b ((List.range' i m).map enc) ρ R = .nx ρ2 R2 ∧ I n ρ2 R2 := by
    intro m
    induction m with
    | zero => intro i ρ R e h; simp at e; subst e; exact ⟨ρ, R, rfl, h⟩
    | succ m ih =>
      intro i ρ R e h
      obtain ⟨ρ1, h1, ρ2, R2, h2, h3⟩ := hs i ρ R (by omega) h
      obtain ⟨ρ3, R3, h4, h5⟩ := ih (i + 1) ρ2 R2 (by omega) h3
      refine ⟨ρ3, R3, ?_, h5⟩
      rw [List.range'_succ, List.map_cons]
      rcases h2 with h2 | h2 <;> simp only [loopG, h1, h2, h4]
  have := this n 0 ρ R (by omega) h0
  rwa [← List.range_eq_range'] at this
/-! ### == of arms -/
def arP (a : Arms) : PyData := .tuple (a.map fun p => .tuple [.int p.1, .int p.2])
theorem pdL_pr : ∀ a : Arms, pdL (a.map prD) = some (a.map fun p => .tuple [.int p.1, .int p.2])
  | [] => by simp [pdL]
  | p :: a => by simp [pdL, prD, D.pd, pdL_pr a]
theorem pd_ar (a : Arms) : (arD a).pd = some (arP a) := by simp [arD, D.pd, pdL_pr, arP]
theorem lay_pr : ∀ a : Arms, PyData.canLayAll0 (a.map fun p => .tuple [.int p.1, .int p.2]) = true
  | [] => rfl
  | p :: a => by
    rw [List.map_cons]
    show (PyData.canLay0 (.tuple [.int p.1, .int p.2]) && PyData.canLayAll0 _) = true
    rw [lay_pr a]; rfl
theorem depth_pr : ∀ a : Arms, PyData.depthAll (a.map fun p => .tuple [.int p.1, .int p.2]) ≤ 4
  | [] => by decide
  | p :: a => by
    have := depth_pr a
    simp only [List.map_cons, PyData.depthAll, PyData.depth]
    omega
theorem shaped_ar (a : Arms) : SeqAt.shaped (arP a) = true := by
  have h := depth_pr a
  have h2 := lay_pr a
  unfold SeqAt.shaped arP
  simp only [PyData.canLay0, h2, PyData.depth, Bool.true_and]
  exact decide_eq_true (by omega)
theorem eqv_pr : ∀ a b : Arms, PyData.eqvAll (a.map fun p => .tuple [.int p.1, .int p.2]) (b.map fun p => .tuple [.int p.1, .int p.2]) = decide (a = b)
  | [], [] => rfl
  | [], _ :: _ => rfl
  | _ :: _, [] => rfl
  | p :: a, q :: b => by
    rw [List.map_cons, List.map_cons]
    show (PyData.eqv (.tuple [.int p.1, .int p.2]) (.tuple [.int q.1, .int q.2]) && PyData.eqvAll _ _) = _
    rw [eqv_pr a b]
    have : PyData.eqv (.tuple [.int p.1, .int p.2]) (.tuple [.int q.1, .int q.2]) = (p.1 == q.1 && (p.2 == q.2 && true)) := rfl
    rw [this]
    by_cases h1 : p.1 = q.1 <;> by_cases h2 : p.2 = q.2 <;> simp [h1, h2, Prod.ext_iff]
theorem eqv_ar (a b : Arms) : PyData.eqv (arP a) (arP b) = decide (a = b) := by
  show PyData.eqvAll _ _ = _
  exact eqv_pr a b
theorem eqD_ar {n : Bool} {a b : Arms} {R : Rs} : dEqD n (arD a) (arD b) R = .ok (.bl (n ^^ decide (a = b))) R := by
  simp only [dEqD, pd_ar, shaped_ar, eqv_ar, Bool.and_self, if_true]
/-! ### rigs -/
theorem e_rig_init {a : Arms} {R : Rs} : f_Rig_init R.length [arD a] (R ++ [.ins "Rig" []]) = .ok .non (R ++ [rigD a]) := by
  unfold f_Rig_init m_Rig_init
  simp only [raise_ap, raiseI_ap, calmF_ap, le_line, lt_line, var_ap, c_ap, op_ap, un_ap, b_ap, and_ap, or_ap, not_ap, if_ap, andV_ap, orV_ap, ch_ap, nil_ap, cons_ap, star_ap, tup_ap, lst_ap, arm_ap, cb_ap, noPart_ap, part_ap, sl_ap, slL_ap, call_ap, callL_ap, mk_ap, fld_ap, prop_ap, meth_ap, callI_ap, get2_ap, dnew_ap, it_ap, itA_ap, yes_ap, next_ap, seq_ap, set_ap, setO_ap, drop_ap, ret_ap, retN_ap, brk_ap, cnt_ap, never_ap, ifS_ap, aug_ap, app_ap, ext_ap, pop_ap, par_ap, asg_ap, dset_ap, stF_ap, stF2_ap, fldL_ap, see_f, see_g, okM_f, okM_g, okR_f, okR_g, okO_f, okO_g, hide_nil, hide_cons, setAll_cons, setAll_nil, wipe_nil, wipe_cons, runB_ap, runL_ap, startL_ap, startD_ap, out1_nx, out1_rt, dName_ap, dGTup_ap, dGLst_ap, dGCons_ap, dGNil_ap, dAdd_ap, dSub_ap, dMul_ap, dFdiv_ap, dMod_ap, dLt_ap, dLe_ap, dGt_ap, dGe_ap, bOf_ap, dNeg_ap, dNot_ap, eqS_int, eqS_bl, eqS_str, dInt1_ap, dInt1_bl, dMax2_ap, dMin2_ap, dAbs_ap, dSum_ap, dAny_ap, dAll_ap, dLen_l, dLen_t, dLen_a, dIx_l, dIx_t, dIx_a, dTup_ap, dLst_ap, dArm_ap, dList_l, dList_t, dTupl_ap, dTupA_ap, lstOf_ap, tupOf_t, tupOf_a, itemsOf_t, itemsOf_l, dSl_l, dSl_t, dSlL_ap, dCatL_ap, dIsN_ap, rng1_ap, rng2_ap, dRange_1, dRange_2, dRange3_ap, ownB_ap, ownT_ap, ownN_ap, eqI_ap, isC_y, il_int, il_bl, il_str, il_non, il_tup, il_lst, il_armD, il_ins, il_dic, il_ar, il_rig, Bool.false_eq_true, if_false, if_true, Res.bind_ok, Res.bind_bad, Res.out_ok, Res.out_bad, Res.calm_ok, List.map_cons, List.map_nil, List.length_cons, List.length_nil, Nat.reduceAdd, Nat.reduceSub, List.replicate, List.cons_append, List.nil_append, List.getElem?_cons_zero, List.getElem?_cons_succ, List.set_cons_succ, List.set_cons_zero, Bool.true_and, Bool.and_true, Bool.not_false, Bool.not_true, List.contains_nil, Option.bind_some, for_ap, lc_ap, Nat.reduceEqDiff, Nat.reduceLeDiff, Bool.false_xor, Bool.true_xor, and_self, decide_true, decide_false, List.lookup, List.all_cons, List.all_nil, List.contains_cons, Nat.reduceBEq, Bool.or_false, Bool.false_or, Bool.or_true, Bool.true_or, beq_self_eq_true, List.contains_nil]
  have h1 : (R ++ [D.ins "Rig" []])[R.length]? = some (D.ins "Rig" []) := by simp
  simp only [h1, raise_ap, raiseI_ap, calmF_ap, le_line, lt_line, var_ap, c_ap, op_ap, un_ap, b_ap, and_ap, or_ap, not_ap, if_ap, andV_ap, orV_ap, ch_ap, nil_ap, cons_ap, star_ap, tup_ap, lst_ap, arm_ap, cb_ap, noPart_ap, part_ap, sl_ap, slL_ap, call_ap, callL_ap, mk_ap, fld_ap, prop_ap, meth_ap, callI_ap, get2_ap, dnew_ap, it_ap, itA_ap, yes_ap, next_ap, seq_ap, set_ap, setO_ap, drop_ap, ret_ap, retN_ap, brk_ap, cnt_ap, never_ap, ifS_ap, aug_ap, app_ap, ext_ap, pop_ap, par_ap, asg_ap, dset_ap, stF_ap, stF2_ap, fldL_ap, see_f, see_g, okM_f, okM_g, okR_f, okR_g, okO_f, okO_g, hide_nil, hide_cons, setAll_cons, setAll_nil, wipe_nil, wipe_cons, runB_ap, runL_ap, startL_ap, startD_ap, out1_nx, out1_rt, dName_ap, dGTup_ap, dGLst_ap, dGCons_ap, dGNil_ap, dAdd_ap, dSub_ap, dMul_ap, dFdiv_ap, dMod_ap, dLt_ap, dLe_ap, dGt_ap, dGe_ap, bOf_ap, dNeg_ap, dNot_ap, eqS_int, eqS_bl, eqS_str, dInt1_ap, dInt1_bl, dMax2_ap, dMin2_ap, dAbs_ap, dSum_ap, dAny_ap, dAll_ap, dLen_l, dLen_t, dLen_a, dIx_l, dIx_t, dIx_a, dTup_ap, dLst_ap, dArm_ap, dList_l, dList_t, dTupl_ap, dTupA_ap, lstOf_ap, tupOf_t, tupOf_a, itemsOf_t, itemsOf_l, dSl_l, dSl_t, dSlL_ap, dCatL_ap, dIsN_ap, rng1_ap, rng2_ap, dRange_1, dRange_2, dRange3_ap, ownB_ap, ownT_ap, ownN_ap, eqI_ap, isC_y, il_int, il_bl, il_str, il_non, il_tup, il_lst, il_armD, il_ins, il_dic, il_ar, il_rig, Bool.false_eq_true, if_false, if_true, Res.bind_ok, Res.bind_bad, Res.out_ok, Res.out_bad, Res.calm_ok, List.map_cons, List.map_nil, List.length_cons, List.length_nil, Nat.reduceAdd, Nat.reduceSub, List.replicate, List.cons_append, List.nil_append, List.getElem?_cons_zero, List.getElem?_cons_succ, List.set_cons_succ, List.set_cons_zero, Bool.true_and, Bool.and_true, Bool.not_false, Bool.not_true, List.contains_nil, Option.bind_some, for_ap, lc_ap, Nat.reduceEqDiff, Nat.reduceLeDiff, Bool.false_xor, Bool.true_xor, and_self, decide_true, decide_false, List.lookup, List.all_cons, List.all_nil, List.contains_cons, Nat.reduceBEq, Bool.or_false, Bool.false_or, Bool.or_true, Bool.true_or, beq_self_eq_true, List.contains_nil, putFD, Nat.zero_lt_succ]
  simp [rigD, out1]
theorem mk_rig {a : Arms} {R : Rs} : mkEnd "Rig" R.length (f_Rig_init R.length [arD a] (R ++ [.ins "Rig" []])) = .ok (rigD a) R := by
  rw [e_rig_init]; exact mkEnd_ok rfl
theorem rig_told {a : Arms} : (List.lookup ("told" : Str) [(("told" : Str), arD a)]) = some (arD a) := by simp [List.lookup]
theorem e_rig_arms {a : Arms} {R : Rs} : f_Rig_arms [rigD a] R = .ok (arD a) R := by
  unfold f_Rig_arms
  refine pureF_ok ?_
  unfold m_Rig_arms
  simp only [raise_ap, raiseI_ap, calmF_ap, le_line, lt_line, var_ap, c_ap, op_ap, un_ap, b_ap, and_ap, or_ap, not_ap, if_ap, andV_ap, orV_ap, ch_ap, nil_ap, cons_ap, star_ap, tup_ap, lst_ap, arm_ap, cb_ap, noPart_ap, part_ap, sl_ap, slL_ap, call_ap, callL_ap, mk_ap, fld_ap, prop_ap, meth_ap, callI_ap, get2_ap, dnew_ap, it_ap, itA_ap, yes_ap, next_ap, seq_ap, set_ap, setO_ap, drop_ap, ret_ap, retN_ap, brk_ap, cnt_ap, never_ap, ifS_ap, aug_ap, app_ap, ext_ap, pop_ap, par_ap, asg_ap, dset_ap, stF_ap, stF2_ap, fldL_ap, see_f, see_g, okM_f, okM_g, okR_f, okR_g, okO_f, okO_g, hide_nil, hide_cons, setAll_cons, setAll_nil, wipe_nil, wipe_cons, runB_ap, runL_ap, startL_ap, startD_ap, out1_nx, out1_rt, dName_ap, dGTup_ap, dGLst_ap, dGCons_ap, dGNil_ap, dAdd_ap, dSub_ap, dMul_ap, dFdiv_ap, dMod_ap, dLt_ap, dLe_ap, dGt_ap, dGe_ap, bOf_ap, dNeg_ap, dNot_ap, eqS_int, eqS_bl, eqS_str, dInt1_ap, dInt1_bl, dMax2_ap, dMin2_ap, dAbs_ap, dSum_ap, dAny_ap, dAll_ap, dLen_l, dLen_t, dLen_a, dIx_l, dIx_t, dIx_a, dTup_ap, dLst_ap, dArm_ap, dList_l, dList_t, dTupl_ap, dTupA_ap, lstOf_ap, tupOf_t, tupOf_a, itemsOf_t, itemsOf_l, dSl_l, dSl_t, dSlL_ap, dCatL_ap, dIsN_ap, rng1_ap, rng2_ap, dRange_1, dRange_2, dRange3_ap, ownB_ap, ownT_ap, ownN_ap, eqI_ap, isC_y, il_int, il_bl, il_str, il_non, il_tup, il_lst, il_armD, il_ins, il_dic, il_ar, il_rig, Bool.false_eq_true, if_false, if_true, Res.bind_ok, Res.bind_bad, Res.out_ok, Res.out_bad, Res.calm_ok, List.map_cons, List.map_nil, List.length_cons, List.length_nil, Nat.reduceAdd, Nat.reduceSub, List.replicate, List.cons_append, List.nil_append, List.getElem?_cons_zero, List.getElem?_cons_succ, List.set_cons_succ, List.set_cons_zero, Bool.true_and, Bool.and_true, Bool.not_false, Bool.not_true, List.contains_nil, Option.bind_some, for_ap, lc_ap, Nat.reduceEqDiff, Nat.reduceLeDiff, Bool.false_xor, Bool.true_xor, and_self, decide_true, decide_false, List.lookup, List.all_cons, List.all_nil, List.contains_cons, Nat.reduceBEq, Bool.or_false, Bool.false_or, Bool.or_true, Bool.true_or, beq_self_eq_true, List.contains_nil, rigD, rig_told]
theorem e_rig_fwd {a : Arms} {R : Rs} : f_Rig_is_forward [rigD a] R = .ok (.bl (nf a 0)) R := by
  unfold f_Rig_is_forward
  refine pureF_ok ?_
  unfold m_Rig_is_forward
  simp only [raise_ap, raiseI_ap, calmF_ap, le_line, lt_line, var_ap, c_ap, op_ap, un_ap, b_ap, and_ap, or_ap, not_ap, if_ap, andV_ap, orV_ap, ch_ap, nil_ap, cons_ap, star_ap, tup_ap, lst_ap, arm_ap, cb_ap, noPart_ap, part_ap, sl_ap, slL_ap, call_ap, callL_ap, mk_ap, fld_ap, prop_ap, meth_ap, callI_ap, get2_ap, dnew_ap, it_ap, itA_ap, yes_ap, next_ap, seq_ap, set_ap, setO_ap, drop_ap, ret_ap, retN_ap, brk_ap, cnt_ap, never_ap, ifS_ap, aug_ap, app_ap, ext_ap, pop_ap, par_ap, asg_ap, dset_ap, stF_ap, stF2_ap, fldL_ap, see_f, see_g, okM_f, okM_g, okR_f, okR_g, okO_f, okO_g, hide_nil, hide_cons, setAll_cons, setAll_nil, wipe_nil, wipe_cons, runB_ap, runL_ap, startL_ap, startD_ap, out1_nx, out1_rt, dName_ap, dGTup_ap, dGLst_ap, dGCons_ap, dGNil_ap, dAdd_ap, dSub_ap, dMul_ap, dFdiv_ap, dMod_ap, dLt_ap, dLe_ap, dGt_ap, dGe_ap, bOf_ap, dNeg_ap, dNot_ap, eqS_int, eqS_bl, eqS_str, dInt1_ap, dInt1_bl, dMax2_ap, dMin2_ap, dAbs_ap, dSum_ap, dAny_ap, dAll_ap, dLen_l, dLen_t, dLen_a, dIx_l, dIx_t, dIx_a, dTup_ap, dLst_ap, dArm_ap, dList_l, dList_t, dTupl_ap, dTupA_ap, lstOf_ap, tupOf_t, tupOf_a, itemsOf_t, itemsOf_l, dSl_l, dSl_t, dSlL_ap, dCatL_ap, dIsN_ap, rng1_ap, rng2_ap, dRange_1, dRange_2, dRange3_ap, ownB_ap, ownT_ap, ownN_ap, eqI_ap, isC_y, il_int, il_bl, il_str, il_non, il_tup, il_lst, il_armD, il_ins, il_dic, il_ar, il_rig, Bool.false_eq_true, if_false, if_true, Res.bind_ok, Res.bind_bad, Res.out_ok, Res.out_bad, Res.calm_ok, List.map_cons, List.map_nil, List.length_cons, List.length_nil, Nat.reduceAdd, Nat.reduceSub, List.replicate, List.cons_append, List.nil_append, List.getElem?_cons_zero, List.getElem?_cons_succ, List.set_cons_succ, List.set_cons_zero, Bool.true_and, Bool.and_true, Bool.not_false, Bool.not_true, List.contains_nil, Option.bind_some, for_ap, lc_ap, Nat.reduceEqDiff, Nat.reduceLeDiff, Bool.false_xor, Bool.true_xor, and_self, decide_true, decide_false, List.lookup, List.all_cons, List.all_nil, List.contains_cons, Nat.reduceBEq, Bool.or_false, Bool.false_or, Bool.or_true, Bool.true_or, beq_self_eq_true, List.contains_nil, rigD, rig_told, e_never_falls]
theorem e_is_int_in {i lo hi : Int} {R : Rs} : f_is_int_in [.int i, .int lo, .int hi] R = .ok (.bl (decide (lo ≤ i) && decide (i ≤ hi))) R := by
  have h0 : f_is_int [.int i] [] = .ok (.bl true) [] := rfl
  unfold f_is_int_in
  refine pureF_ok ?_
  unfold m_is_int_in
  simp only [raise_ap, raiseI_ap, calmF_ap, le_line, lt_line, var_ap, c_ap, op_ap, un_ap, b_ap, and_ap, or_ap, not_ap, if_ap, andV_ap, orV_ap, ch_ap, nil_ap, cons_ap, star_ap, tup_ap, lst_ap, arm_ap, cb_ap, noPart_ap, part_ap, sl_ap, slL_ap, call_ap, callL_ap, mk_ap, fld_ap, prop_ap, meth_ap, callI_ap, get2_ap, dnew_ap, it_ap, itA_ap, yes_ap, next_ap, seq_ap, set_ap, setO_ap, drop_ap, ret_ap, retN_ap, brk_ap, cnt_ap, never_ap, ifS_ap, aug_ap, app_ap, ext_ap, pop_ap, par_ap, asg_ap, dset_ap, stF_ap, stF2_ap, fldL_ap, see_f, see_g, okM_f, okM_g, okR_f, okR_g, okO_f, okO_g, hide_nil, hide_cons, setAll_cons, setAll_nil, wipe_nil, wipe_cons, runB_ap, runL_ap, startL_ap, startD_ap, out1_nx, out1_rt, dName_ap, dGTup_ap, dGLst_ap, dGCons_ap, dGNil_ap, dAdd_ap, dSub_ap, dMul_ap, dFdiv_ap, dMod_ap, dLt_ap, dLe_ap, dGt_ap, dGe_ap, bOf_ap, dNeg_ap, dNot_ap, eqS_int, eqS_bl, eqS_str, dInt1_ap, dInt1_bl, dMax2_ap, dMin2_ap, dAbs_ap, dSum_ap, dAny_ap, dAll_ap, dLen_l, dLen_t, dLen_a, dIx_l, dIx_t, dIx_a, dTup_ap, dLst_ap, dArm_ap, dList_l, dList_t, dTupl_ap, dTupA_ap, lstOf_ap, tupOf_t, tupOf_a, itemsOf_t, itemsOf_l, dSl_l, dSl_t, dSlL_ap, dCatL_ap, dIsN_ap, rng1_ap, rng2_ap, dRange_1, dRange_2, dRange3_ap, ownB_ap, ownT_ap, ownN_ap, eqI_ap, isC_y, il_int, il_bl, il_str, il_non, il_tup, il_lst, il_armD, il_ins, il_dic, il_ar, il_rig, Bool.false_eq_true, if_false, if_true, Res.bind_ok, Res.bind_bad, Res.out_ok, Res.out_bad, Res.calm_ok, List.map_cons, List.map_nil, List.length_cons, List.length_nil, Nat.reduceAdd, Nat.reduceSub, List.replicate, List.cons_append, List.nil_append, List.getElem?_cons_zero, List.getElem?_cons_succ, List.set_cons_succ, List.set_cons_zero, Bool.true_and, Bool.and_true, Bool.not_false, Bool.not_true, List.contains_nil, Option.bind_some, for_ap, lc_ap, Nat.reduceEqDiff, Nat.reduceLeDiff, Bool.false_xor, Bool.true_xor, and_self, decide_true, decide_false, List.lookup, List.all_cons, List.all_nil, List.contains_cons, Nat.reduceBEq, Bool.or_false, Bool.false_or, Bool.or_true, Bool.true_or, beq_self_eq_true, List.contains_nil, h0]
  by_cases h : lo ≤ i
  · simp only [h, raise_ap, raiseI_ap, calmF_ap, le_line, lt_line, var_ap, c_ap, op_ap, un_ap, b_ap, and_ap, or_ap, not_ap, if_ap, andV_ap, orV_ap, ch_ap, nil_ap, cons_ap, star_ap, tup_ap, lst_ap, arm_ap, cb_ap, noPart_ap, part_ap, sl_ap, slL_ap, call_ap, callL_ap, mk_ap, fld_ap, prop_ap, meth_ap, callI_ap, get2_ap, dnew_ap, it_ap, itA_ap, yes_ap, next_ap, seq_ap, set_ap, setO_ap, drop_ap, ret_ap, retN_ap, brk_ap, cnt_ap, never_ap, ifS_ap, aug_ap, app_ap, ext_ap, pop_ap, par_ap, asg_ap, dset_ap, stF_ap, stF2_ap, fldL_ap, see_f, see_g, okM_f, okM_g, okR_f, okR_g, okO_f, okO_g, hide_nil, hide_cons, setAll_cons, setAll_nil, wipe_nil, wipe_cons, runB_ap, runL_ap, startL_ap, startD_ap, out1_nx, out1_rt, dName_ap, dGTup_ap, dGLst_ap, dGCons_ap, dGNil_ap, dAdd_ap, dSub_ap, dMul_ap, dFdiv_ap, dMod_ap, dLt_ap, dLe_ap, dGt_ap, dGe_ap, bOf_ap, dNeg_ap, dNot_ap, eqS_int, eqS_bl, eqS_str, dInt1_ap, dInt1_bl, dMax2_ap, dMin2_ap, dAbs_ap, dSum_ap, dAny_ap, dAll_ap, dLen_l, dLen_t, dLen_a, dIx_l, dIx_t, dIx_a, dTup_ap, dLst_ap, dArm_ap, dList_l, dList_t, dTupl_ap, dTupA_ap, lstOf_ap, tupOf_t, tupOf_a, itemsOf_t, itemsOf_l, dSl_l, dSl_t, dSlL_ap, dCatL_ap, dIsN_ap, rng1_ap, rng2_ap, dRange_1, dRange_2, dRange3_ap, ownB_ap, ownT_ap, ownN_ap, eqI_ap, isC_y, il_int, il_bl, il_str, il_non, il_tup, il_lst, il_armD, il_ins, il_dic, il_ar, il_rig, Bool.false_eq_true, if_false, if_true, Res.bind_ok, Res.bind_bad, Res.out_ok, Res.out_bad, Res.calm_ok, List.map_cons, List.map_nil, List.length_cons, List.length_nil, Nat.reduceAdd, Nat.reduceSub, List.replicate, List.cons_append, List.nil_append, List.getElem?_cons_zero, List.getElem?_cons_succ, List.set_cons_succ, List.set_cons_zero, Bool.true_and, Bool.and_true, Bool.not_false, Bool.not_true, List.contains_nil, Option.bind_some, for_ap, lc_ap, Nat.reduceEqDiff, Nat.reduceLeDiff, Bool.false_xor, Bool.true_xor, and_self, decide_true, decide_false, List.lookup, List.all_cons, List.all_nil, List.contains_cons, Nat.reduceBEq, Bool.or_false, Bool.false_or, Bool.or_true, Bool.true_or, beq_self_eq_true, List.contains_nil]
  · simp only [h, raise_ap, raiseI_ap, calmF_ap, le_line, lt_line, var_ap, c_ap, op_ap, un_ap, b_ap, and_ap, or_ap, not_ap, if_ap, andV_ap, orV_ap, ch_ap, nil_ap, cons_ap, star_ap, tup_ap, lst_ap, arm_ap, cb_ap, noPart_ap, part_ap, sl_ap, slL_ap, call_ap, callL_ap, mk_ap, fld_ap, prop_ap, meth_ap, callI_ap, get2_ap, dnew_ap, it_ap, itA_ap, yes_ap, next_ap, seq_ap, set_ap, setO_ap, drop_ap, ret_ap, retN_ap, brk_ap, cnt_ap, never_ap, ifS_ap, aug_ap, app_ap, ext_ap, pop_ap, par_ap, asg_ap, dset_ap, stF_ap, stF2_ap, fldL_ap, see_f, see_g, okM_f, okM_g, okR_f, okR_g, okO_f, okO_g, hide_nil, hide_cons, setAll_cons, setAll_nil, wipe_nil, wipe_cons, runB_ap, runL_ap, startL_ap, startD_ap, out1_nx, out1_rt, dName_ap, dGTup_ap, dGLst_ap, dGCons_ap, dGNil_ap, dAdd_ap, dSub_ap, dMul_ap, dFdiv_ap, dMod_ap, dLt_ap, dLe_ap, dGt_ap, dGe_ap, bOf_ap, dNeg_ap, dNot_ap, eqS_int, eqS_bl, eqS_str, dInt1_ap, dInt1_bl, dMax2_ap, dMin2_ap, dAbs_ap, dSum_ap, dAny_ap, dAll_ap, dLen_l, dLen_t, dLen_a, dIx_l, dIx_t, dIx_a, dTup_ap, dLst_ap, dArm_ap, dList_l, dList_t, dTupl_ap, dTupA_ap, lstOf_ap, tupOf_t, tupOf_a, itemsOf_t, itemsOf_l, dSl_l, dSl_t, dSlL_ap, dCatL_ap, dIsN_ap, rng1_ap, rng2_ap, dRange_1, dRange_2, dRange3_ap, ownB_ap, ownT_ap, ownN_ap, eqI_ap, isC_y, il_int, il_bl, il_str, il_non, il_tup, il_lst, il_armD, il_ins, il_dic, il_ar, il_rig, Bool.false_eq_true, if_false, if_true, Res.bind_ok, Res.bind_bad, Res.out_ok, Res.out_bad, Res.calm_ok, List.map_cons, List.map_nil, List.length_cons, List.length_nil, Nat.reduceAdd, Nat.reduceSub, List.replicate, List.cons_append, List.nil_append, List.getElem?_cons_zero, List.getElem?_cons_succ, List.set_cons_succ, List.set_cons_zero, Bool.true_and, Bool.and_true, Bool.not_false, Bool.not_true, List.contains_nil, Option.bind_some, for_ap, lc_ap, Nat.reduceEqDiff, Nat.reduceLeDiff, Bool.false_xor, Bool.true_xor, and_self, decide_true, decide_false, List.lookup, List.all_cons, List.all_nil, List.contains_cons, Nat.reduceBEq, Bool.or_false, Bool.false_or, Bool.or_true, Bool.true_or, beq_self_eq_true, List.contains_nil, Bool.false_and]
theorem e_rig_eq {a b : Arms} {R : Rs} : f_Rig_eq [rigD a, rigD b] R = .ok (.bl (decide (a = b))) R := by
  unfold f_Rig_eq
  refine pureF_ok ?_
  unfold m_Rig_eq
  simp only [raise_ap, raiseI_ap, calmF_ap, le_line, lt_line, var_ap, c_ap, op_ap, un_ap, b_ap, and_ap, or_ap, not_ap, if_ap, andV_ap, orV_ap, ch_ap, nil_ap, cons_ap, star_ap, tup_ap, lst_ap, arm_ap, cb_ap, noPart_ap, part_ap, sl_ap, slL_ap, call_ap, callL_ap, mk_ap, fld_ap, prop_ap, meth_ap, callI_ap, get2_ap, dnew_ap, it_ap, itA_ap, yes_ap, next_ap, seq_ap, set_ap, setO_ap, drop_ap, ret_ap, retN_ap, brk_ap, cnt_ap, never_ap, ifS_ap, aug_ap, app_ap, ext_ap, pop_ap, par_ap, asg_ap, dset_ap, stF_ap, stF2_ap, fldL_ap, see_f, see_g, okM_f, okM_g, okR_f, okR_g, okO_f, okO_g, hide_nil, hide_cons, setAll_cons, setAll_nil, wipe_nil, wipe_cons, runB_ap, runL_ap, startL_ap, startD_ap, out1_nx, out1_rt, dName_ap, dGTup_ap, dGLst_ap, dGCons_ap, dGNil_ap, dAdd_ap, dSub_ap, dMul_ap, dFdiv_ap, dMod_ap, dLt_ap, dLe_ap, dGt_ap, dGe_ap, bOf_ap, dNeg_ap, dNot_ap, eqS_int, eqS_bl, eqS_str, dInt1_ap, dInt1_bl, dMax2_ap, dMin2_ap, dAbs_ap, dSum_ap, dAny_ap, dAll_ap, dLen_l, dLen_t, dLen_a, dIx_l, dIx_t, dIx_a, dTup_ap, dLst_ap, dArm_ap, dList_l, dList_t, dTupl_ap, dTupA_ap, lstOf_ap, tupOf_t, tupOf_a, itemsOf_t, itemsOf_l, dSl_l, dSl_t, dSlL_ap, dCatL_ap, dIsN_ap, rng1_ap, rng2_ap, dRange_1, dRange_2, dRange3_ap, ownB_ap, ownT_ap, ownN_ap, eqI_ap, isC_y, il_int, il_bl, il_str, il_non, il_tup, il_lst, il_armD, il_ins, il_dic, il_ar, il_rig, Bool.false_eq_true, if_false, if_true, Res.bind_ok, Res.bind_bad, Res.out_ok, Res.out_bad, Res.calm_ok, List.map_cons, List.map_nil, List.length_cons, List.length_nil, Nat.reduceAdd, Nat.reduceSub, List.replicate, List.cons_append, List.nil_append, List.getElem?_cons_zero, List.getElem?_cons_succ, List.set_cons_succ, List.set_cons_zero, Bool.true_and, Bool.and_true, Bool.not_false, Bool.not_true, List.contains_nil, Option.bind_some, for_ap, lc_ap, Nat.reduceEqDiff, Nat.reduceLeDiff, Bool.false_xor, Bool.true_xor, and_self, decide_true, decide_false, List.lookup, List.all_cons, List.all_nil, List.contains_cons, Nat.reduceBEq, Bool.or_false, Bool.false_or, Bool.or_true, Bool.true_or, beq_self_eq_true, List.contains_nil, show rigD a = .ins "Rig" [("told", arD a)] from rfl, show rigD b = .ins "Rig" [("told", arD b)] from rfl, rig_told, eqD_ar]
end Lw

namespace Lw
open PySem PySem.Spec PyProof.Rows L2 Sr Pv Rg
variable {A0 : Addr}
/-! ### trees as data -/
def trD : Tr → D
  | .rod s => .tup [.str "rod", .int s]
  | .mul t k => .tup [.str "*", trD t, .int k]
  | .neg t => .tup [.str "neg", trD t]
  | .add a b => .tup [.str "+", trD a, trD b]
  | .sub a b => .tup [.str "-", trD a, trD b]
  | .chn a b => .tup [.str ">>", trD a, trD b]
theorem il_tr (t : Tr) : (trD t).isLoc = false := by cases t <;> rfl
theorem at0 {α : Type} {x : α} {xs : List α} : atI (x :: xs) 0 = some x := by
  unfold atI ixN; rw [if_pos (by omega), if_pos (by simp only [List.length_cons]; omega)]; rfl
theorem at1 {α : Type} {x y : α} {xs : List α} : atI (x :: y :: xs) 1 = some y := by
  unfold atI ixN; rw [if_pos (by omega), if_pos (by simp only [List.length_cons]; omega)]; rfl
theorem at2 {α : Type} {x y z : α} {xs : List α} : atI (x :: y :: z :: xs) 2 = some z := by
  unfold atI ixN; rw [if_pos (by omega), if_pos (by simp only [List.length_cons]; omega)]; rfl
theorem fo_nil {own : List Nat} : flOk own [] [] = true := rfl
theorem fo_cons {own is : List Nat} {i : Nat} {b : Bool} {fl : List Bool} : flOk own (i :: is) (b :: fl) = ((b == own.contains i) && flOk own is fl) := rfl
theorem nd_nil : decide (([] : List Nat).Nodup) = true := rfl
theorem nd_cons {is : List Nat} {i : Nat} : decide ((i :: is).Nodup) = (!is.contains i && decide is.Nodup) := by
  simp [List.nodup_cons]
def upL (o : Int) (n : Nat) : List D := (List.range n).map fun k : Nat => .int (o + 1 + (k : Int))
def dnLi (o : Int) (n : Nat) : List D := (List.range n).map fun k : Nat => .int (o - 1 - (k : Int))
theorem e_steps_u {o n : Int} {R : Rs} (h0 : -8000000 ≤ o) (h : o ≤ n) (hn : n ≤ 8000000) : f_L_steps [.int o, .int n] R = .ok (.lst (Lw.upL o (n - o).toNat)) R := by
  unfold f_L_steps
  refine pureF_ok ?_
  unfold m_L_steps
  by_cases h1 : o < n
  · have hB : rgOkB (o + 1) (n + 1) = true := rgOkB_iff.mpr ⟨⟨by omega, by omega⟩, ⟨by omega, by omega⟩, by omega⟩
    simp only [raise_ap, raiseI_ap, calmF_ap, le_line, lt_line, var_ap, c_ap, op_ap, un_ap, b_ap, and_ap, or_ap, not_ap, if_ap, andV_ap, orV_ap, ch_ap, nil_ap, cons_ap, star_ap, tup_ap, lst_ap, arm_ap, cb_ap, noPart_ap, part_ap, sl_ap, slL_ap, call_ap, callL_ap, mk_ap, fld_ap, prop_ap, meth_ap, callI_ap, get2_ap, dnew_ap, it_ap, itA_ap, yes_ap, next_ap, seq_ap, set_ap, setO_ap, drop_ap, ret_ap, retN_ap, brk_ap, cnt_ap, never_ap, ifS_ap, aug_ap, app_ap, ext_ap, pop_ap, par_ap, asg_ap, dset_ap, stF_ap, stF2_ap, fldL_ap, see_f, see_g, okM_f, okM_g, okR_f, okR_g, okO_f, okO_g, hide_nil, hide_cons, setAll_cons, setAll_nil, wipe_nil, wipe_cons, runB_ap, runL_ap, startL_ap, startD_ap, out1_nx, out1_rt, dName_ap, dGTup_ap, dGLst_ap, dGCons_ap, dGNil_ap, dAdd_ap, dSub_ap, dMul_ap, dFdiv_ap, dMod_ap, dLt_ap, dLe_ap, dGt_ap, dGe_ap, bOf_ap, dNeg_ap, dNot_ap, eqS_int, eqS_bl, eqS_str, dInt1_ap, dInt1_bl, dMax2_ap, dMin2_ap, dAbs_ap, dSum_ap, dAny_ap, dAll_ap, dLen_l, dLen_t, dLen_a, dIx_l, dIx_t, dIx_a, dTup_ap, dLst_ap, dArm_ap, dList_l, dList_t, dTupl_ap, dTupA_ap, lstOf_ap, tupOf_t, tupOf_a, itemsOf_t, itemsOf_l, dSl_l, dSl_t, dSlL_ap, dCatL_ap, dIsN_ap, rng1_ap, rng2_ap, dRange_1, dRange_2, dRange3_ap, ownB_ap, ownT_ap, ownN_ap, eqI_ap, isC_y, il_int, il_bl, il_str, il_non, il_tup, il_lst, il_armD, il_ins, il_dic, il_ar, il_rig, Bool.false_eq_true, if_false, if_true, Res.bind_ok, Res.bind_bad, Res.out_ok, Res.out_bad, Res.calm_ok, List.map_cons, List.map_nil, List.length_cons, List.length_nil, Nat.reduceAdd, Nat.reduceSub, List.replicate, List.cons_append, List.nil_append, List.getElem?_cons_zero, List.getElem?_cons_succ, List.set_cons_succ, List.set_cons_zero, Bool.true_and, Bool.and_true, Bool.not_false, Bool.not_true, List.contains_nil, Option.bind_some, for_ap, lc_ap, Nat.reduceEqDiff, Nat.reduceLeDiff, Bool.false_xor, Bool.true_xor, and_self, decide_true, decide_false, List.lookup, List.all_cons, List.all_nil, List.contains_cons, Nat.reduceBEq, Bool.or_false, Bool.false_or, Bool.or_true, Bool.true_or, beq_self_eq_true, List.contains_nil, h1, hB]
    rw [show n + 1 - (o + 1) = n - o by omega]
    rfl
  · have e : n = o := by omega
    subst e
    have hB : rgOkB (n - 1) (n - 1) = true := rgOkB_iff.mpr ⟨⟨by omega, by omega⟩, ⟨by omega, by omega⟩, by omega⟩
    have e2 : (0 : Int) - 1 = -1 := by decide
    simp only [raise_ap, raiseI_ap, calmF_ap, le_line, lt_line, var_ap, c_ap, op_ap, un_ap, b_ap, and_ap, or_ap, not_ap, if_ap, andV_ap, orV_ap, ch_ap, nil_ap, cons_ap, star_ap, tup_ap, lst_ap, arm_ap, cb_ap, noPart_ap, part_ap, sl_ap, slL_ap, call_ap, callL_ap, mk_ap, fld_ap, prop_ap, meth_ap, callI_ap, get2_ap, dnew_ap, it_ap, itA_ap, yes_ap, next_ap, seq_ap, set_ap, setO_ap, drop_ap, ret_ap, retN_ap, brk_ap, cnt_ap, never_ap, ifS_ap, aug_ap, app_ap, ext_ap, pop_ap, par_ap, asg_ap, dset_ap, stF_ap, stF2_ap, fldL_ap, see_f, see_g, okM_f, okM_g, okR_f, okR_g, okO_f, okO_g, hide_nil, hide_cons, setAll_cons, setAll_nil, wipe_nil, wipe_cons, runB_ap, runL_ap, startL_ap, startD_ap, out1_nx, out1_rt, dName_ap, dGTup_ap, dGLst_ap, dGCons_ap, dGNil_ap, dAdd_ap, dSub_ap, dMul_ap, dFdiv_ap, dMod_ap, dLt_ap, dLe_ap, dGt_ap, dGe_ap, bOf_ap, dNeg_ap, dNot_ap, eqS_int, eqS_bl, eqS_str, dInt1_ap, dInt1_bl, dMax2_ap, dMin2_ap, dAbs_ap, dSum_ap, dAny_ap, dAll_ap, dLen_l, dLen_t, dLen_a, dIx_l, dIx_t, dIx_a, dTup_ap, dLst_ap, dArm_ap, dList_l, dList_t, dTupl_ap, dTupA_ap, lstOf_ap, tupOf_t, tupOf_a, itemsOf_t, itemsOf_l, dSl_l, dSl_t, dSlL_ap, dCatL_ap, dIsN_ap, rng1_ap, rng2_ap, dRange_1, dRange_2, dRange3_ap, ownB_ap, ownT_ap, ownN_ap, eqI_ap, isC_y, il_int, il_bl, il_str, il_non, il_tup, il_lst, il_armD, il_ins, il_dic, il_ar, il_rig, Bool.false_eq_true, if_false, if_true, Res.bind_ok, Res.bind_bad, Res.out_ok, Res.out_bad, Res.calm_ok, List.map_cons, List.map_nil, List.length_cons, List.length_nil, Nat.reduceAdd, Nat.reduceSub, List.replicate, List.cons_append, List.nil_append, List.getElem?_cons_zero, List.getElem?_cons_succ, List.set_cons_succ, List.set_cons_zero, Bool.true_and, Bool.and_true, Bool.not_false, Bool.not_true, List.contains_nil, Option.bind_some, for_ap, lc_ap, Nat.reduceEqDiff, Nat.reduceLeDiff, Bool.false_xor, Bool.true_xor, and_self, decide_true, decide_false, List.lookup, List.all_cons, List.all_nil, List.contains_cons, Nat.reduceBEq, Bool.or_false, Bool.false_or, Bool.or_true, Bool.true_or, beq_self_eq_true, List.contains_nil, h1, e2, hB]
    rw [show (n - 1 - (n - 1)).toNat = 0 by omega, show (n - n).toNat = 0 by omega]
    rfl
theorem e_steps_d {o n : Int} {R : Rs} (h0 : -8000000 ≤ n) (h : n ≤ o) (hn : o ≤ 8000000) : f_L_steps [.int o, .int n] R = .ok (.lst (dnLi o (o - n).toNat)) R := by
  unfold f_L_steps
  refine pureF_ok ?_
  unfold m_L_steps
  have h1 : ¬ (o < n) := by omega
  have hB : rgOkB (o - 1) (n - 1) = true := rgOkB_iff.mpr ⟨⟨by omega, by omega⟩, ⟨by omega, by omega⟩, by omega⟩
  have hC : rgOkB (n - 1) (o - 1) = true := rgOkB_iff.mpr ⟨⟨by omega, by omega⟩, ⟨by omega, by omega⟩, by omega⟩
  have e2 : (0 : Int) - 1 = -1 := by decide
  simp only [raise_ap, raiseI_ap, calmF_ap, le_line, lt_line, var_ap, c_ap, op_ap, un_ap, b_ap, and_ap, or_ap, not_ap, if_ap, andV_ap, orV_ap, ch_ap, nil_ap, cons_ap, star_ap, tup_ap, lst_ap, arm_ap, cb_ap, noPart_ap, part_ap, sl_ap, slL_ap, call_ap, callL_ap, mk_ap, fld_ap, prop_ap, meth_ap, callI_ap, get2_ap, dnew_ap, it_ap, itA_ap, yes_ap, next_ap, seq_ap, set_ap, setO_ap, drop_ap, ret_ap, retN_ap, brk_ap, cnt_ap, never_ap, ifS_ap, aug_ap, app_ap, ext_ap, pop_ap, par_ap, asg_ap, dset_ap, stF_ap, stF2_ap, fldL_ap, see_f, see_g, okM_f, okM_g, okR_f, okR_g, okO_f, okO_g, hide_nil, hide_cons, setAll_cons, setAll_nil, wipe_nil, wipe_cons, runB_ap, runL_ap, startL_ap, startD_ap, out1_nx, out1_rt, dName_ap, dGTup_ap, dGLst_ap, dGCons_ap, dGNil_ap, dAdd_ap, dSub_ap, dMul_ap, dFdiv_ap, dMod_ap, dLt_ap, dLe_ap, dGt_ap, dGe_ap, bOf_ap, dNeg_ap, dNot_ap, eqS_int, eqS_bl, eqS_str, dInt1_ap, dInt1_bl, dMax2_ap, dMin2_ap, dAbs_ap, dSum_ap, dAny_ap, dAll_ap, dLen_l, dLen_t, dLen_a, dIx_l, dIx_t, dIx_a, dTup_ap, dLst_ap, dArm_ap, dList_l, dList_t, dTupl_ap, dTupA_ap, lstOf_ap, tupOf_t, tupOf_a, itemsOf_t, itemsOf_l, dSl_l, dSl_t, dSlL_ap, dCatL_ap, dIsN_ap, rng1_ap, rng2_ap, dRange_1, dRange_2, dRange3_ap, ownB_ap, ownT_ap, ownN_ap, eqI_ap, isC_y, il_int, il_bl, il_str, il_non, il_tup, il_lst, il_armD, il_ins, il_dic, il_ar, il_rig, Bool.false_eq_true, if_false, if_true, Res.bind_ok, Res.bind_bad, Res.out_ok, Res.out_bad, Res.calm_ok, List.map_cons, List.map_nil, List.length_cons, List.length_nil, Nat.reduceAdd, Nat.reduceSub, List.replicate, List.cons_append, List.nil_append, List.getElem?_cons_zero, List.getElem?_cons_succ, List.set_cons_succ, List.set_cons_zero, Bool.true_and, Bool.and_true, Bool.not_false, Bool.not_true, List.contains_nil, Option.bind_some, for_ap, lc_ap, Nat.reduceEqDiff, Nat.reduceLeDiff, Bool.false_xor, Bool.true_xor, and_self, decide_true, decide_false, List.lookup, List.all_cons, List.all_nil, List.contains_cons, Nat.reduceBEq, Bool.or_false, Bool.false_or, Bool.or_true, Bool.true_or, beq_self_eq_true, List.contains_nil, h1, e2, hB, hC]
  rw [show o - 1 - (n - 1) = o - n by omega]
  rfl
def Mv (S S' : Sw) : Prop := S' = S ∨ S' = upS S ∨ S' = dnS S
theorem Mv.rod {S S' : Sw} (h : Mv S S') {s : Int} (hs : 0 ≤ s) : eB [(s, 1)] S' = min (max (eB [(s, 1)] S) (pl S' - s)) (pl S') := by
  rcases h with rfl | rfl | rfl
  · exact (rod_stay hs _).symm
  · exact rod_up hs S
  · exact rod_dn hs S
end Lw

namespace Lw
open PySem PySem.Spec PyProof.Rows L2 Sr Pv Rg
variable {A0 : Addr}
/-! ### rows of places -/
def inD (xs : List Int) : List D := xs.map D.int
def inP (xs : List Int) : List PyData := xs.map PyData.int
/-! ### curves -/
def onS (k : Nat) : Sw := (0, List.replicate k true)
theorem sum_on (a : Arms) : ∀ (k : Nat) (j : Int), sumB a j (List.replicate k true) = cv a (j + k) - cv a j
  | 0, j => by simp [sumB]
  | k + 1, j => by
    rw [List.replicate_succ, sumB, sum_on a k, if_pos rfl]
    have e : j + 1 + (k : Int) = j + ((k + 1 : Nat) : Int) := by omega
    rw [e]
    show cv a (j + 1) - cv a j + _ = _
    omega
theorem catL_ok {xs ys : List D} {R : Rs} (h : xs.length + ys.length ≤ sizeLine) : dCatL (.lst xs) (.lst ys) R = .ok (.lst (xs ++ ys)) R := by
  rw [dCatL_ap]; exact if_pos h
theorem lst_ok {xs : List D} {R : Rs} (h : xs.length ≤ sizeLine) : dLst xs R = .ok (.lst xs) R := by
  rw [dLst_ap]; exact if_pos h
theorem in_len (rs : List Int) : (inD rs).length = rs.length := by simp [inD]
theorem pdL_in : ∀ xs : List Int, pdL (inD xs) = some (inP xs)
  | [] => rfl
  | x :: xs => by
    show pdL (D.int x :: inD xs) = _
    simp only [pdL, D.pd, pdL_in xs]
    rfl
theorem lay_in : ∀ xs : List Int, PyData.canLayAll0 (inP xs) = true
  | [] => rfl
  | x :: xs => by
    show (PyData.canLay0 (.int x) && PyData.canLayAll0 (inP xs)) = true
    rw [lay_in xs]; rfl
theorem depth_in : ∀ xs : List Int, PyData.depthAll (inP xs) ≤ 4
  | [] => by decide
  | x :: xs => by
    have := depth_in xs
    show PyData.depthAll (PyData.int x :: inP xs) ≤ 4
    simp only [PyData.depthAll, PyData.depth]
    omega
theorem eqv_in : ∀ xs ys : List Int, PyData.eqvAll (inP xs) (inP ys) = decide (xs = ys)
  | [], [] => rfl
  | [], _ :: _ => rfl
  | _ :: _, [] => rfl
  | x :: xs, y :: ys => by
    show (PyData.eqv (.int x) (.int y) && PyData.eqvAll (inP xs) (inP ys)) = _
    rw [eqv_in xs ys]
    have : PyData.eqv (.int x) (.int y) = (x == y) := rfl
    rw [this]
    by_cases h1 : x = y <;> simp [h1]
/-! ### the source, and trees drawn from it -/
def srcD (st : List Int) : D := .lst (st.map D.int)
theorem e_bel {st : List Int} {n : Int} (h : stOk st = true) (h0 : 0 < n) (h1 : n < 1073741824) : ∃ c st', (∀ A0 : Addr, belowF 0 [.int n] [srcD st, .tab A0] = .ok (.int c) [srcD st', .tab A0]) ∧ 0 ≤ c ∧ c < n ∧ stOk st' = true := by
  obtain ⟨a, b, c⟩ := below_ok h h0
  exact ⟨_, _, fun _ => belowF_eq h h0 h1, a, b, c⟩
end Lw

namespace Lw
open PySem PySem.Spec PyProof.Rows L2 Sr Pv Rg
variable {A0 : Addr}
/-! ### rigs as values of the operators -/
theorem ownB_rig {h : List D → Rs → Res D} {a b : Arms} {R : Rs} : dOwnB "Rig" h (rigD a) (rigD b) R = h [rigD a, rigD b] R := ownB_ap
theorem ownT_rig {h : List D → Rs → Res D} {a : Arms} {i : Int} {R : Rs} : dOwnT "Rig" h (rigD a) (.int i) R = h [rigD a, .int i] R := ownT_ap
theorem ownN_rig {h : List D → Rs → Res D} {a : Arms} {R : Rs} : dOwnN "Rig" h (rigD a) R = h [rigD a] R := ownN_ap
theorem eqI_rig {n : Bool} {a b : Arms} {R : Rs} : dEqI "Rig" n f_Rig_eq (rigD a) (rigD b) R = .ok (.bl (n ^^ decide (a = b))) R := by
  unfold rigD
  rw [eqI_ap]
  have := e_rig_eq (a := a) (b := b) (R := R)
  unfold rigD at this
  rw [this]
  rfl
def propR (c : Str) (h : List D → Rs → Res D) : D → Rs → Res D := fun d R1 => match d with
  | .ins c' fs => if c' = c then h [.ins c' fs] R1 else .bad
  | _ => .bad
theorem propR_ap {c : Str} {h : List D → Rs → Res D} {g : G} {ρ : PEnv} {R : Rs} : gProp c h g ρ R = (g ρ R).bind (propR c h) := rfl
theorem propR_rig {h : List D → Rs → Res D} {a : Arms} {R : Rs} : propR "Rig" h (rigD a) R = h [rigD a] R := by simp [propR, rigD]
/-! ### bounds of combinations -/
theorem _root_.Rg.RB.times {b : Arms} {M' L' t : Int} {n' : Nat} (q : RB b M' L' n') (h1 : -3 ≤ t) (h2 : t ≤ 3) : RB (addA [] b t) (max 0 M') (0 + 3 * L') (0 + n') := (RB.nil (by decide) (by decide)).add q h1 h2
theorem rg2 : rngD 0 (2 : Int).toNat = [.int 0, .int 1] := rfl
theorem rg3 : rngD 0 (3 : Int).toNat = [.int 0, .int 1, .int 2] := rfl
theorem rg4 : rngD 0 (4 : Int).toNat = [.int 0, .int 1, .int 2, .int 3] := rfl
theorem in2 : inB 2 = true := by decide
theorem in3 : inB 3 = true := by decide
theorem in4 : inB 4 = true := by decide
theorem lcG_nil {T : TD} {tt : GT} {ge : G} {ρ : PEnv} {R : Rs} : lcG T tt ge [] ρ R = .ok [] R := rfl
theorem lcG_yes {T : TD} {ge : G} {d : D} {ds : List D} {ρ ρ1 : PEnv} {R : Rs} (h : T d ρ = some ρ1) : lcG T gYes ge (d :: ds) ρ R = (ge ρ1 R).bind fun y R2 => (lcG T gYes ge ds ρ R2).bind fun ys R3 => .ok (y :: ys) R3 := by
  simp only [lcG, h, gYes, Res.bind_ok]
theorem lcG_yesN {i : Nat} {ge : G} {d : D} {ds : List D} {ρ : PEnv} {R : Rs} : lcG (dName i) gYes ge (d :: ds) ρ R = (ge (ρ.set i (some d)) R).bind fun y R2 => (lcG (dName i) gYes ge ds ρ R2).bind fun ys R3 => .ok (y :: ys) R3 := lcG_yes rfl
theorem lawStart_ap {n : Nat} : lawStart n = none :: some (.loc 0) :: List.replicate (n - 2) none := rfl
theorem loop_inv {T : TD} {b : GS} {ds : List D} {ρ : PEnv} {R : Rs} {o : Out} (hL : loopG T b ds ρ R = o) (I : PEnv → Rs → Prop) (h0 : I ρ R) (hs : ∀ d ∈ ds, ∀ ρ R, I ρ R → ∃ ρ1, T d ρ = some ρ1 ∧ ∃ ρ2 R2, (b ρ1 R = .nx ρ2 R2 ∨ b ρ1 R = .ct ρ2 R2) ∧ I ρ2 R2) : ∃ ρ2 R2, o = .nx ρ2 R2 ∧ I ρ2 R2 := by
  subst hL
  induction ds generalizing ρ R with
  | nil => exact ⟨ρ, R, rfl, h0⟩
  | cons d ds ih =>
    obtain ⟨ρ1, h1, ρ2, R2, h2, h3⟩ := hs d (by simp) ρ R h0
    obtain ⟨ρ3, R3, h4, h5⟩ := ih h3 fun d hd => hs d (by simp [hd])
    refine ⟨ρ3, R3, ?_, h5⟩
    rcases h2 with h2 | h2 <;> simp only [loopG, h1, h2, h4]
end Lw

namespace Lw
open PySem PySem.Spec PyProof.Rows L2 Sr Pv Rg
variable {A0 : Addr}
open Mt (movedR followR shrink pas MemOk MemV endA swings iabs memR isNextR)
/-! ### slices and indexes -/
theorem cut_take {α : Type} (xs : List α) (k : Nat) : Pv.cutD xs none (some (k : Int)) = xs.take k := by
  unfold Pv.cutD
  rw [HT.sIx_nat, HT.sIx_none, List.drop_zero, Nat.sub_zero]
  by_cases h : k ≤ xs.length
  · rw [Nat.min_eq_left h]
  · rw [Nat.min_eq_right (by omega), List.take_of_length_le (Nat.le_refl _), List.take_of_length_le (by omega)]
theorem cut_drop {α : Type} (xs : List α) (k : Nat) : Pv.cutD xs (some (k : Int)) none = xs.drop k := by
  unfold Pv.cutD
  rw [HT.sIx_nat, HT.sIx_none]
  by_cases h : k ≤ xs.length
  · rw [Nat.min_eq_left h, List.take_of_length_le (by simp)]
  · rw [Nat.min_eq_right (by omega), List.drop_of_length_le (Nat.le_refl _), List.drop_of_length_le (by omega)]; simp
theorem cut_drop1 {α : Type} (xs : List α) : Pv.cutD xs (some 1) none = xs.drop 1 := cut_drop xs 1
theorem cut_m2 {α : Type} (xs : List α) (b a : α) : Pv.cutD (xs ++ [b, a]) none (some (-2)) = xs := by
  unfold Pv.cutD
  have e : HT.sIx (xs ++ [b, a]).length (xs ++ [b, a]).length (some (-2)) = xs.length := by unfold HT.sIx; simp; omega
  rw [e, HT.sIx_none]; simp
theorem cut_l2 {α : Type} (xs : List α) (b a : α) : Pv.cutD (xs ++ [b, a]) (some (-2)) none = [b, a] := by
  unfold Pv.cutD
  have e : HT.sIx (xs ++ [b, a]).length 0 (some (-2)) = xs.length := by unfold HT.sIx; simp; omega
  rw [e, HT.sIx_none]; simp
theorem at_m1 {α : Type} (xs : List α) (a : α) : atI (xs ++ [a]) (-1) = some a := by
  unfold atI ixN
  rw [if_neg (by omega), if_pos (by simp; omega)]
  simp only [Option.bind_some]
  rw [show (-1 + ((xs ++ [a]).length : Int)).toNat = xs.length by simp; omega]
  simp
theorem at_m2 {α : Type} (xs : List α) (b a : α) : atI (xs ++ [b, a]) (-2) = some b := by
  unfold atI ixN
  rw [if_neg (by omega), if_pos (by simp; omega)]
  simp only [Option.bind_some]
  rw [show (-2 + ((xs ++ [b, a]).length : Int)).toNat = xs.length by simp; omega]
  simp
/-! ### memories as data; the last place first -/
def plL (rs : List Int) : List D := rs.reverse.map D.int
def plD (rs : List Int) : D := .tup (plL rs)
def memD (rs : List Int) : D := .ins "Memory" [("told", plD rs)]
theorem plL_cons (a : Int) (r : List Int) : plL (a :: r) = plL r ++ [.int a] := by simp [plL]
theorem plL_cons2 (a b : Int) (r : List Int) : plL (a :: b :: r) = plL r ++ [.int b, .int a] := by simp [plL]
theorem plL_len (rs : List Int) : (plL rs).length = rs.length := by simp [plL]
theorem at_pl1 (a : Int) (r : List Int) : atI (plL (a :: r)) (-1) = some (.int a) := by rw [plL_cons, at_m1]
theorem at_pl2 (a b : Int) (r : List Int) : atI (plL (a :: b :: r)) (-2) = some (.int b) := by rw [plL_cons2, at_m2]
theorem cut_pl2 (a b : Int) (r : List Int) : Pv.cutD (plL (a :: b :: r)) none (some (-2)) = plL r := by rw [plL_cons2, cut_m2]
theorem immO_l {xs : List D} : immO (.lst xs) = immL xs := rfl
theorem imm_i {i : Int} : (D.int i).imm = true := rfl
theorem il_pl {rs : List Int} : (plD rs).isLoc = false := rfl
theorem il_mem {rs : List Int} : (memD rs).isLoc = false := rfl
theorem immL_pl (rs : List Int) : immL (plL rs) = true := immL_ints _
theorem immL_in (rs : List Int) : immL (inD rs) = true := immL_ints _
theorem moved_loop {x : Option D} {p : Int} {up : Bool} : ∀ (n : Nat) (f hs : List Int), f.length ≤ 2 * n → f.length + hs.length ≤ 10000 →
    whlG .g [2, 3] (gAnd (gB (gOp dGt (gCB dLen (Pv.gCons (gVar 2) Pv.gNil)) (gC (.int 1)))) (gIf (gB (gVar 4)) (gB (gOp dGe (gVar 1) (gOp dIx (gVar 2) (gUn dNeg (gC (.int 2)))))) (gB (gOp dLe (gVar 1) (gOp dIx (gVar 2) (gUn dNeg (gC (.int 2)))))))) (gSeq (gApp .g [2, 3] 3 (gCB dAbs (Pv.gCons (gOp dSub (gCB dInt1 (Pv.gCons (gOp dIx (gVar 2) (gUn dNeg (gC (.int 1)))) Pv.gNil)) (gCB dInt1 (Pv.gCons (gOp dIx (gVar 2) (gUn dNeg (gC (.int 2)))) Pv.gNil))) Pv.gNil)))
  (gSetO .g [2, 3] 2 (gSlL (gVar 2) gNoPart (gPart (gUn dNeg (gC (.int 2))))))) (n + 1) [x, some (.int p), some (.lst (plL f)), some (.lst (inD hs)), some (.bl up)] []
    = .nx [x, some (.int p), some (.lst (plL (shrink up p f hs).1)), some (.lst (inD (shrink up p f hs).2)), some (.bl up)] []
  | n, [], hs, h1, h2 => by
    simp only [whlG, raise_ap, raiseI_ap, calmF_ap, le_line, lt_line, var_ap, c_ap, op_ap, un_ap, b_ap, and_ap, or_ap, not_ap, if_ap, andV_ap, orV_ap, ch_ap, nil_ap, cons_ap, star_ap, tup_ap, lst_ap, arm_ap, cb_ap, noPart_ap, part_ap, sl_ap, slL_ap, call_ap, callL_ap, mk_ap, fld_ap, prop_ap, meth_ap, callI_ap, get2_ap, dnew_ap, it_ap, itA_ap, yes_ap, next_ap, seq_ap, set_ap, setO_ap, drop_ap, ret_ap, retN_ap, brk_ap, cnt_ap, never_ap, ifS_ap, aug_ap, app_ap, ext_ap, pop_ap, par_ap, asg_ap, dset_ap, stF_ap, stF2_ap, fldL_ap, see_f, see_g, okM_f, okM_g, okR_f, okR_g, okO_f, okO_g, hide_nil, hide_cons, setAll_cons, setAll_nil, wipe_nil, wipe_cons, runB_ap, runL_ap, startL_ap, startD_ap, out1_nx, out1_rt, dName_ap, dGTup_ap, dGLst_ap, dGCons_ap, dGNil_ap, dAdd_ap, dSub_ap, dMul_ap, dFdiv_ap, dMod_ap, dLt_ap, dLe_ap, dGt_ap, dGe_ap, bOf_ap, dNeg_ap, dNot_ap, eqS_int, eqS_bl, eqS_str, dInt1_ap, dInt1_bl, dMax2_ap, dMin2_ap, dAbs_ap, dSum_ap, dAny_ap, dAll_ap, dLen_l, dLen_t, dLen_a, dIx_l, dIx_t, dIx_a, dTup_ap, dLst_ap, dArm_ap, dList_l, dList_t, dTupl_ap, dTupA_ap, lstOf_ap, tupOf_t, tupOf_a, itemsOf_t, itemsOf_l, dSl_l, dSl_t, dSlL_ap, dCatL_ap, dIsN_ap, rng1_ap, rng2_ap, dRange_1, dRange_2, dRange3_ap, ownB_ap, ownT_ap, ownN_ap, eqI_ap, isC_y, il_int, il_bl, il_str, il_non, il_tup, il_lst, il_armD, il_ins, il_dic, il_ar, il_rig, Bool.false_eq_true, if_false, if_true, Res.bind_ok, Res.bind_bad, Res.out_ok, Res.out_bad, Res.calm_ok, List.map_cons, List.map_nil, List.length_cons, List.length_nil, Nat.reduceAdd, Nat.reduceSub, List.replicate, List.cons_append, List.nil_append, List.getElem?_cons_zero, List.getElem?_cons_succ, List.set_cons_succ, List.set_cons_zero, Bool.true_and, Bool.and_true, Bool.not_false, Bool.not_true, List.contains_nil, Option.bind_some, for_ap, lc_ap, Nat.reduceEqDiff, Nat.reduceLeDiff, Bool.false_xor, Bool.true_xor, and_self, decide_true, decide_false, List.lookup, List.all_cons, List.all_nil, List.contains_cons, Nat.reduceBEq, Bool.or_false, Bool.false_or, Bool.or_true, Bool.true_or, beq_self_eq_true, List.contains_nil, shrink]
    simp [plL]
  | n, [a], hs, h1, h2 => by
    simp only [whlG, raise_ap, raiseI_ap, calmF_ap, le_line, lt_line, var_ap, c_ap, op_ap, un_ap, b_ap, and_ap, or_ap, not_ap, if_ap, andV_ap, orV_ap, ch_ap, nil_ap, cons_ap, star_ap, tup_ap, lst_ap, arm_ap, cb_ap, noPart_ap, part_ap, sl_ap, slL_ap, call_ap, callL_ap, mk_ap, fld_ap, prop_ap, meth_ap, callI_ap, get2_ap, dnew_ap, it_ap, itA_ap, yes_ap, next_ap, seq_ap, set_ap, setO_ap, drop_ap, ret_ap, retN_ap, brk_ap, cnt_ap, never_ap, ifS_ap, aug_ap, app_ap, ext_ap, pop_ap, par_ap, asg_ap, dset_ap, stF_ap, stF2_ap, fldL_ap, see_f, see_g, okM_f, okM_g, okR_f, okR_g, okO_f, okO_g, hide_nil, hide_cons, setAll_cons, setAll_nil, wipe_nil, wipe_cons, runB_ap, runL_ap, startL_ap, startD_ap, out1_nx, out1_rt, dName_ap, dGTup_ap, dGLst_ap, dGCons_ap, dGNil_ap, dAdd_ap, dSub_ap, dMul_ap, dFdiv_ap, dMod_ap, dLt_ap, dLe_ap, dGt_ap, dGe_ap, bOf_ap, dNeg_ap, dNot_ap, eqS_int, eqS_bl, eqS_str, dInt1_ap, dInt1_bl, dMax2_ap, dMin2_ap, dAbs_ap, dSum_ap, dAny_ap, dAll_ap, dLen_l, dLen_t, dLen_a, dIx_l, dIx_t, dIx_a, dTup_ap, dLst_ap, dArm_ap, dList_l, dList_t, dTupl_ap, dTupA_ap, lstOf_ap, tupOf_t, tupOf_a, itemsOf_t, itemsOf_l, dSl_l, dSl_t, dSlL_ap, dCatL_ap, dIsN_ap, rng1_ap, rng2_ap, dRange_1, dRange_2, dRange3_ap, ownB_ap, ownT_ap, ownN_ap, eqI_ap, isC_y, il_int, il_bl, il_str, il_non, il_tup, il_lst, il_armD, il_ins, il_dic, il_ar, il_rig, Bool.false_eq_true, if_false, if_true, Res.bind_ok, Res.bind_bad, Res.out_ok, Res.out_bad, Res.calm_ok, List.map_cons, List.map_nil, List.length_cons, List.length_nil, Nat.reduceAdd, Nat.reduceSub, List.replicate, List.cons_append, List.nil_append, List.getElem?_cons_zero, List.getElem?_cons_succ, List.set_cons_succ, List.set_cons_zero, Bool.true_and, Bool.and_true, Bool.not_false, Bool.not_true, List.contains_nil, Option.bind_some, for_ap, lc_ap, Nat.reduceEqDiff, Nat.reduceLeDiff, Bool.false_xor, Bool.true_xor, and_self, decide_true, decide_false, List.lookup, List.all_cons, List.all_nil, List.contains_cons, Nat.reduceBEq, Bool.or_false, Bool.false_or, Bool.or_true, Bool.true_or, beq_self_eq_true, List.contains_nil, shrink]
    simp [plL]
  | 0, a :: b :: r, hs, h1, h2 => by simp at h1
  | n + 1, a :: b :: r, hs, h1, h2 => by
    have hl : (1 : Int) < (plL (a :: b :: r)).length := by rw [plL_len]; simp; omega
    have hl2 : hs.length < 100000 := by simp at h2; omega
    rw [whlG]
    simp only [raise_ap, raiseI_ap, calmF_ap, le_line, lt_line, var_ap, c_ap, op_ap, un_ap, b_ap, and_ap, or_ap, not_ap, if_ap, andV_ap, orV_ap, ch_ap, nil_ap, cons_ap, star_ap, tup_ap, lst_ap, arm_ap, cb_ap, noPart_ap, part_ap, sl_ap, slL_ap, call_ap, callL_ap, mk_ap, fld_ap, prop_ap, meth_ap, callI_ap, get2_ap, dnew_ap, it_ap, itA_ap, yes_ap, next_ap, seq_ap, set_ap, setO_ap, drop_ap, ret_ap, retN_ap, brk_ap, cnt_ap, never_ap, ifS_ap, aug_ap, app_ap, ext_ap, pop_ap, par_ap, asg_ap, dset_ap, stF_ap, stF2_ap, fldL_ap, see_f, see_g, okM_f, okM_g, okR_f, okR_g, okO_f, okO_g, hide_nil, hide_cons, setAll_cons, setAll_nil, wipe_nil, wipe_cons, runB_ap, runL_ap, startL_ap, startD_ap, out1_nx, out1_rt, dName_ap, dGTup_ap, dGLst_ap, dGCons_ap, dGNil_ap, dAdd_ap, dSub_ap, dMul_ap, dFdiv_ap, dMod_ap, dLt_ap, dLe_ap, dGt_ap, dGe_ap, bOf_ap, dNeg_ap, dNot_ap, eqS_int, eqS_bl, eqS_str, dInt1_ap, dInt1_bl, dMax2_ap, dMin2_ap, dAbs_ap, dSum_ap, dAny_ap, dAll_ap, dLen_l, dLen_t, dLen_a, dIx_l, dIx_t, dIx_a, dTup_ap, dLst_ap, dArm_ap, dList_l, dList_t, dTupl_ap, dTupA_ap, lstOf_ap, tupOf_t, tupOf_a, itemsOf_t, itemsOf_l, dSl_l, dSl_t, dSlL_ap, dCatL_ap, dIsN_ap, rng1_ap, rng2_ap, dRange_1, dRange_2, dRange3_ap, ownB_ap, ownT_ap, ownN_ap, eqI_ap, isC_y, il_int, il_bl, il_str, il_non, il_tup, il_lst, il_armD, il_ins, il_dic, il_ar, il_rig, Bool.false_eq_true, if_false, if_true, Res.bind_ok, Res.bind_bad, Res.out_ok, Res.out_bad, Res.calm_ok, List.map_cons, List.map_nil, List.length_cons, List.length_nil, Nat.reduceAdd, Nat.reduceSub, List.replicate, List.cons_append, List.nil_append, List.getElem?_cons_zero, List.getElem?_cons_succ, List.set_cons_succ, List.set_cons_zero, Bool.true_and, Bool.and_true, Bool.not_false, Bool.not_true, List.contains_nil, Option.bind_some, for_ap, lc_ap, Nat.reduceEqDiff, Nat.reduceLeDiff, Bool.false_xor, Bool.true_xor, and_self, decide_true, decide_false, List.lookup, List.all_cons, List.all_nil, List.contains_cons, Nat.reduceBEq, Bool.or_false, Bool.false_or, Bool.or_true, Bool.true_or, beq_self_eq_true, List.contains_nil, decide_eq_true_eq, hl, at_pl2, at_pl1]
    rw [shrink]
    have ih := moved_loop (x := x) (p := p) (up := up) n r (hs ++ [iabs (a - b)]) (by simp at h1; omega) (by simp at h2 ⊢; omega)
    have e2 : inD (hs ++ [iabs (a - b)]) = inD hs ++ [D.int (if a - b < 0 then -(a - b) else a - b)] := by simp [inD, iabs]
    cases up with
    | true =>
      simp only [pas, if_true]
      by_cases hb : b ≤ p
      · simp only [raise_ap, raiseI_ap, calmF_ap, le_line, lt_line, var_ap, c_ap, op_ap, un_ap, b_ap, and_ap, or_ap, not_ap, if_ap, andV_ap, orV_ap, ch_ap, nil_ap, cons_ap, star_ap, tup_ap, lst_ap, arm_ap, cb_ap, noPart_ap, part_ap, sl_ap, slL_ap, call_ap, callL_ap, mk_ap, fld_ap, prop_ap, meth_ap, callI_ap, get2_ap, dnew_ap, it_ap, itA_ap, yes_ap, next_ap, seq_ap, set_ap, setO_ap, drop_ap, ret_ap, retN_ap, brk_ap, cnt_ap, never_ap, ifS_ap, aug_ap, app_ap, ext_ap, pop_ap, par_ap, asg_ap, dset_ap, stF_ap, stF2_ap, fldL_ap, see_f, see_g, okM_f, okM_g, okR_f, okR_g, okO_f, okO_g, hide_nil, hide_cons, setAll_cons, setAll_nil, wipe_nil, wipe_cons, runB_ap, runL_ap, startL_ap, startD_ap, out1_nx, out1_rt, dName_ap, dGTup_ap, dGLst_ap, dGCons_ap, dGNil_ap, dAdd_ap, dSub_ap, dMul_ap, dFdiv_ap, dMod_ap, dLt_ap, dLe_ap, dGt_ap, dGe_ap, bOf_ap, dNeg_ap, dNot_ap, eqS_int, eqS_bl, eqS_str, dInt1_ap, dInt1_bl, dMax2_ap, dMin2_ap, dAbs_ap, dSum_ap, dAny_ap, dAll_ap, dLen_l, dLen_t, dLen_a, dIx_l, dIx_t, dIx_a, dTup_ap, dLst_ap, dArm_ap, dList_l, dList_t, dTupl_ap, dTupA_ap, lstOf_ap, tupOf_t, tupOf_a, itemsOf_t, itemsOf_l, dSl_l, dSl_t, dSlL_ap, dCatL_ap, dIsN_ap, rng1_ap, rng2_ap, dRange_1, dRange_2, dRange3_ap, ownB_ap, ownT_ap, ownN_ap, eqI_ap, isC_y, il_int, il_bl, il_str, il_non, il_tup, il_lst, il_armD, il_ins, il_dic, il_ar, il_rig, Bool.false_eq_true, if_false, if_true, Res.bind_ok, Res.bind_bad, Res.out_ok, Res.out_bad, Res.calm_ok, List.map_cons, List.map_nil, List.length_cons, List.length_nil, Nat.reduceAdd, Nat.reduceSub, List.replicate, List.cons_append, List.nil_append, List.getElem?_cons_zero, List.getElem?_cons_succ, List.set_cons_succ, List.set_cons_zero, Bool.true_and, Bool.and_true, Bool.not_false, Bool.not_true, List.contains_nil, Option.bind_some, for_ap, lc_ap, Nat.reduceEqDiff, Nat.reduceLeDiff, Bool.false_xor, Bool.true_xor, and_self, decide_true, decide_false, List.lookup, List.all_cons, List.all_nil, List.contains_cons, Nat.reduceBEq, Bool.or_false, Bool.false_or, Bool.or_true, Bool.true_or, beq_self_eq_true, List.contains_nil, hb, in_len, hl2, cut_pl2, immL_pl, immL_in, imm_i, immO_l]
        rw [e2] at ih
        exact ih
      · simp only [raise_ap, raiseI_ap, calmF_ap, le_line, lt_line, var_ap, c_ap, op_ap, un_ap, b_ap, and_ap, or_ap, not_ap, if_ap, andV_ap, orV_ap, ch_ap, nil_ap, cons_ap, star_ap, tup_ap, lst_ap, arm_ap, cb_ap, noPart_ap, part_ap, sl_ap, slL_ap, call_ap, callL_ap, mk_ap, fld_ap, prop_ap, meth_ap, callI_ap, get2_ap, dnew_ap, it_ap, itA_ap, yes_ap, next_ap, seq_ap, set_ap, setO_ap, drop_ap, ret_ap, retN_ap, brk_ap, cnt_ap, never_ap, ifS_ap, aug_ap, app_ap, ext_ap, pop_ap, par_ap, asg_ap, dset_ap, stF_ap, stF2_ap, fldL_ap, see_f, see_g, okM_f, okM_g, okR_f, okR_g, okO_f, okO_g, hide_nil, hide_cons, setAll_cons, setAll_nil, wipe_nil, wipe_cons, runB_ap, runL_ap, startL_ap, startD_ap, out1_nx, out1_rt, dName_ap, dGTup_ap, dGLst_ap, dGCons_ap, dGNil_ap, dAdd_ap, dSub_ap, dMul_ap, dFdiv_ap, dMod_ap, dLt_ap, dLe_ap, dGt_ap, dGe_ap, bOf_ap, dNeg_ap, dNot_ap, eqS_int, eqS_bl, eqS_str, dInt1_ap, dInt1_bl, dMax2_ap, dMin2_ap, dAbs_ap, dSum_ap, dAny_ap, dAll_ap, dLen_l, dLen_t, dLen_a, dIx_l, dIx_t, dIx_a, dTup_ap, dLst_ap, dArm_ap, dList_l, dList_t, dTupl_ap, dTupA_ap, lstOf_ap, tupOf_t, tupOf_a, itemsOf_t, itemsOf_l, dSl_l, dSl_t, dSlL_ap, dCatL_ap, dIsN_ap, rng1_ap, rng2_ap, dRange_1, dRange_2, dRange3_ap, ownB_ap, ownT_ap, ownN_ap, eqI_ap, isC_y, il_int, il_bl, il_str, il_non, il_tup, il_lst, il_armD, il_ins, il_dic, il_ar, il_rig, Bool.false_eq_true, if_false, if_true, Res.bind_ok, Res.bind_bad, Res.out_ok, Res.out_bad, Res.calm_ok, List.map_cons, List.map_nil, List.length_cons, List.length_nil, Nat.reduceAdd, Nat.reduceSub, List.replicate, List.cons_append, List.nil_append, List.getElem?_cons_zero, List.getElem?_cons_succ, List.set_cons_succ, List.set_cons_zero, Bool.true_and, Bool.and_true, Bool.not_false, Bool.not_true, List.contains_nil, Option.bind_some, for_ap, lc_ap, Nat.reduceEqDiff, Nat.reduceLeDiff, Bool.false_xor, Bool.true_xor, and_self, decide_true, decide_false, List.lookup, List.all_cons, List.all_nil, List.contains_cons, Nat.reduceBEq, Bool.or_false, Bool.false_or, Bool.or_true, Bool.true_or, beq_self_eq_true, List.contains_nil, hb]
    | false =>
      simp only [pas]
      by_cases hb : p ≤ b
      · simp only [raise_ap, raiseI_ap, calmF_ap, le_line, lt_line, var_ap, c_ap, op_ap, un_ap, b_ap, and_ap, or_ap, not_ap, if_ap, andV_ap, orV_ap, ch_ap, nil_ap, cons_ap, star_ap, tup_ap, lst_ap, arm_ap, cb_ap, noPart_ap, part_ap, sl_ap, slL_ap, call_ap, callL_ap, mk_ap, fld_ap, prop_ap, meth_ap, callI_ap, get2_ap, dnew_ap, it_ap, itA_ap, yes_ap, next_ap, seq_ap, set_ap, setO_ap, drop_ap, ret_ap, retN_ap, brk_ap, cnt_ap, never_ap, ifS_ap, aug_ap, app_ap, ext_ap, pop_ap, par_ap, asg_ap, dset_ap, stF_ap, stF2_ap, fldL_ap, see_f, see_g, okM_f, okM_g, okR_f, okR_g, okO_f, okO_g, hide_nil, hide_cons, setAll_cons, setAll_nil, wipe_nil, wipe_cons, runB_ap, runL_ap, startL_ap, startD_ap, out1_nx, out1_rt, dName_ap, dGTup_ap, dGLst_ap, dGCons_ap, dGNil_ap, dAdd_ap, dSub_ap, dMul_ap, dFdiv_ap, dMod_ap, dLt_ap, dLe_ap, dGt_ap, dGe_ap, bOf_ap, dNeg_ap, dNot_ap, eqS_int, eqS_bl, eqS_str, dInt1_ap, dInt1_bl, dMax2_ap, dMin2_ap, dAbs_ap, dSum_ap, dAny_ap, dAll_ap, dLen_l, dLen_t, dLen_a, dIx_l, dIx_t, dIx_a, dTup_ap, dLst_ap, dArm_ap, dList_l, dList_t, dTupl_ap, dTupA_ap, lstOf_ap, tupOf_t, tupOf_a, itemsOf_t, itemsOf_l, dSl_l, dSl_t, dSlL_ap, dCatL_ap, dIsN_ap, rng1_ap, rng2_ap, dRange_1, dRange_2, dRange3_ap, ownB_ap, ownT_ap, ownN_ap, eqI_ap, isC_y, il_int, il_bl, il_str, il_non, il_tup, il_lst, il_armD, il_ins, il_dic, il_ar, il_rig, Bool.false_eq_true, if_false, if_true, Res.bind_ok, Res.bind_bad, Res.out_ok, Res.out_bad, Res.calm_ok, List.map_cons, List.map_nil, List.length_cons, List.length_nil, Nat.reduceAdd, Nat.reduceSub, List.replicate, List.cons_append, List.nil_append, List.getElem?_cons_zero, List.getElem?_cons_succ, List.set_cons_succ, List.set_cons_zero, Bool.true_and, Bool.and_true, Bool.not_false, Bool.not_true, List.contains_nil, Option.bind_some, for_ap, lc_ap, Nat.reduceEqDiff, Nat.reduceLeDiff, Bool.false_xor, Bool.true_xor, and_self, decide_true, decide_false, List.lookup, List.all_cons, List.all_nil, List.contains_cons, Nat.reduceBEq, Bool.or_false, Bool.false_or, Bool.or_true, Bool.true_or, beq_self_eq_true, List.contains_nil, hb, in_len, hl2, cut_pl2, immL_pl, immL_in, imm_i, immO_l]
        rw [e2] at ih
        exact ih
      · simp only [raise_ap, raiseI_ap, calmF_ap, le_line, lt_line, var_ap, c_ap, op_ap, un_ap, b_ap, and_ap, or_ap, not_ap, if_ap, andV_ap, orV_ap, ch_ap, nil_ap, cons_ap, star_ap, tup_ap, lst_ap, arm_ap, cb_ap, noPart_ap, part_ap, sl_ap, slL_ap, call_ap, callL_ap, mk_ap, fld_ap, prop_ap, meth_ap, callI_ap, get2_ap, dnew_ap, it_ap, itA_ap, yes_ap, next_ap, seq_ap, set_ap, setO_ap, drop_ap, ret_ap, retN_ap, brk_ap, cnt_ap, never_ap, ifS_ap, aug_ap, app_ap, ext_ap, pop_ap, par_ap, asg_ap, dset_ap, stF_ap, stF2_ap, fldL_ap, see_f, see_g, okM_f, okM_g, okR_f, okR_g, okO_f, okO_g, hide_nil, hide_cons, setAll_cons, setAll_nil, wipe_nil, wipe_cons, runB_ap, runL_ap, startL_ap, startD_ap, out1_nx, out1_rt, dName_ap, dGTup_ap, dGLst_ap, dGCons_ap, dGNil_ap, dAdd_ap, dSub_ap, dMul_ap, dFdiv_ap, dMod_ap, dLt_ap, dLe_ap, dGt_ap, dGe_ap, bOf_ap, dNeg_ap, dNot_ap, eqS_int, eqS_bl, eqS_str, dInt1_ap, dInt1_bl, dMax2_ap, dMin2_ap, dAbs_ap, dSum_ap, dAny_ap, dAll_ap, dLen_l, dLen_t, dLen_a, dIx_l, dIx_t, dIx_a, dTup_ap, dLst_ap, dArm_ap, dList_l, dList_t, dTupl_ap, dTupA_ap, lstOf_ap, tupOf_t, tupOf_a, itemsOf_t, itemsOf_l, dSl_l, dSl_t, dSlL_ap, dCatL_ap, dIsN_ap, rng1_ap, rng2_ap, dRange_1, dRange_2, dRange3_ap, ownB_ap, ownT_ap, ownN_ap, eqI_ap, isC_y, il_int, il_bl, il_str, il_non, il_tup, il_lst, il_armD, il_ins, il_dic, il_ar, il_rig, Bool.false_eq_true, if_false, if_true, Res.bind_ok, Res.bind_bad, Res.out_ok, Res.out_bad, Res.calm_ok, List.map_cons, List.map_nil, List.length_cons, List.length_nil, Nat.reduceAdd, Nat.reduceSub, List.replicate, List.cons_append, List.nil_append, List.getElem?_cons_zero, List.getElem?_cons_succ, List.set_cons_succ, List.set_cons_zero, Bool.true_and, Bool.and_true, Bool.not_false, Bool.not_true, List.contains_nil, Option.bind_some, for_ap, lc_ap, Nat.reduceEqDiff, Nat.reduceLeDiff, Bool.false_xor, Bool.true_xor, and_self, decide_true, decide_false, List.lookup, List.all_cons, List.all_nil, List.contains_cons, Nat.reduceBEq, Bool.or_false, Bool.false_or, Bool.or_true, Bool.true_or, beq_self_eq_true, List.contains_nil, hb]
theorem pop_pl {own : List Nat} {x0 x1 x3 x4 : Option D} {a : Int} {r : List Int} {R : Rs} : gPop own 2 [x0, x1, some (.lst (plL (a :: r))), x3, x4] R = .nx [x0, x1, some (.lst (plL r)), x3, x4] R := by
  rw [pop_ap]
  have e : ∃ d ds, plL (a :: r) = d :: ds ∧ (d :: ds).dropLast = plL r := by
    have hd : (plL (a :: r)).dropLast = plL r := by rw [plL_cons]; simp
    cases q : plL (a :: r) with
    | nil => have := plL_len (a :: r); rw [q] at this; simp at this
    | cons d ds => exact ⟨d, ds, rfl, by rw [← q]; exact hd⟩
  obtain ⟨d, ds, e1, e2⟩ := e
  rw [e1]
  simp only [List.getElem?_cons_succ, List.getElem?_cons_zero, List.set_cons_succ, List.set_cons_zero, e2]
theorem e_moved {rs : List Int} {p : Int} {R : Rs} (hne : rs ≠ []) (hl : rs.length ≤ 1500) : f_moved [plD rs, .int p] R = .ok (.tup [plD (movedR rs p).1, .lst (inD (movedR rs p).2)]) R := by
  unfold f_moved
  refine pureF_ok ?_
  cases rs with
  | nil => exact absurd rfl hne
  | cons a r =>
    unfold m_moved
    unfold plD
    simp only [raise_ap, raiseI_ap, calmF_ap, le_line, lt_line, var_ap, c_ap, op_ap, un_ap, b_ap, and_ap, or_ap, not_ap, if_ap, andV_ap, orV_ap, ch_ap, nil_ap, cons_ap, star_ap, tup_ap, lst_ap, arm_ap, cb_ap, noPart_ap, part_ap, sl_ap, slL_ap, call_ap, callL_ap, mk_ap, fld_ap, prop_ap, meth_ap, callI_ap, get2_ap, dnew_ap, it_ap, itA_ap, yes_ap, next_ap, seq_ap, set_ap, setO_ap, drop_ap, ret_ap, retN_ap, brk_ap, cnt_ap, never_ap, ifS_ap, aug_ap, app_ap, ext_ap, par_ap, asg_ap, dset_ap, stF_ap, stF2_ap, fldL_ap, see_f, see_g, okM_f, okM_g, okR_f, okR_g, okO_f, okO_g, hide_nil, hide_cons, setAll_cons, setAll_nil, wipe_nil, wipe_cons, runB_ap, runL_ap, startL_ap, startD_ap, out1_nx, out1_rt, dName_ap, dGTup_ap, dGLst_ap, dGCons_ap, dGNil_ap, dAdd_ap, dSub_ap, dMul_ap, dFdiv_ap, dMod_ap, dLt_ap, dLe_ap, dGt_ap, dGe_ap, bOf_ap, dNeg_ap, dNot_ap, eqS_int, eqS_bl, eqS_str, dInt1_ap, dInt1_bl, dMax2_ap, dMin2_ap, dAbs_ap, dSum_ap, dAny_ap, dAll_ap, dLen_l, dLen_t, dLen_a, dIx_l, dIx_t, dIx_a, dTup_ap, dLst_ap, dArm_ap, dList_l, dList_t, dTupl_ap, dTupA_ap, lstOf_ap, tupOf_t, tupOf_a, itemsOf_t, itemsOf_l, dSl_l, dSl_t, dSlL_ap, dCatL_ap, dIsN_ap, rng1_ap, rng2_ap, dRange_1, dRange_2, dRange3_ap, ownB_ap, ownT_ap, ownN_ap, eqI_ap, isC_y, il_int, il_bl, il_str, il_non, il_tup, il_lst, il_armD, il_ins, il_dic, il_ar, il_rig, Bool.false_eq_true, if_false, if_true, Res.bind_ok, Res.bind_bad, Res.out_ok, Res.out_bad, Res.calm_ok, List.map_cons, List.map_nil, List.length_cons, List.length_nil, Nat.reduceAdd, Nat.reduceSub, List.replicate, List.cons_append, List.nil_append, List.getElem?_cons_zero, List.getElem?_cons_succ, List.set_cons_succ, List.set_cons_zero, Bool.true_and, Bool.and_true, Bool.not_false, Bool.not_true, List.contains_nil, Option.bind_some, for_ap, lc_ap, Nat.reduceEqDiff, Nat.reduceLeDiff, Bool.false_xor, Bool.true_xor, and_self, decide_true, decide_false, List.lookup, List.all_cons, List.all_nil, List.contains_cons, Nat.reduceBEq, Bool.or_false, Bool.false_or, Bool.or_true, Bool.true_or, beq_self_eq_true, List.contains_nil, at_pl1, movedR]
    by_cases hp : p = a
    · simp only [raise_ap, raiseI_ap, calmF_ap, le_line, lt_line, var_ap, c_ap, op_ap, un_ap, b_ap, and_ap, or_ap, not_ap, if_ap, andV_ap, orV_ap, ch_ap, nil_ap, cons_ap, star_ap, tup_ap, lst_ap, arm_ap, cb_ap, noPart_ap, part_ap, sl_ap, slL_ap, call_ap, callL_ap, mk_ap, fld_ap, prop_ap, meth_ap, callI_ap, get2_ap, dnew_ap, it_ap, itA_ap, yes_ap, next_ap, seq_ap, set_ap, setO_ap, drop_ap, ret_ap, retN_ap, brk_ap, cnt_ap, never_ap, ifS_ap, aug_ap, app_ap, ext_ap, pop_ap, par_ap, asg_ap, dset_ap, stF_ap, stF2_ap, fldL_ap, see_f, see_g, okM_f, okM_g, okR_f, okR_g, okO_f, okO_g, hide_nil, hide_cons, setAll_cons, setAll_nil, wipe_nil, wipe_cons, runB_ap, runL_ap, startL_ap, startD_ap, out1_nx, out1_rt, dName_ap, dGTup_ap, dGLst_ap, dGCons_ap, dGNil_ap, dAdd_ap, dSub_ap, dMul_ap, dFdiv_ap, dMod_ap, dLt_ap, dLe_ap, dGt_ap, dGe_ap, bOf_ap, dNeg_ap, dNot_ap, eqS_int, eqS_bl, eqS_str, dInt1_ap, dInt1_bl, dMax2_ap, dMin2_ap, dAbs_ap, dSum_ap, dAny_ap, dAll_ap, dLen_l, dLen_t, dLen_a, dIx_l, dIx_t, dIx_a, dTup_ap, dLst_ap, dArm_ap, dList_l, dList_t, dTupl_ap, dTupA_ap, lstOf_ap, tupOf_t, tupOf_a, itemsOf_t, itemsOf_l, dSl_l, dSl_t, dSlL_ap, dCatL_ap, dIsN_ap, rng1_ap, rng2_ap, dRange_1, dRange_2, dRange3_ap, ownB_ap, ownT_ap, ownN_ap, eqI_ap, isC_y, il_int, il_bl, il_str, il_non, il_tup, il_lst, il_armD, il_ins, il_dic, il_ar, il_rig, Bool.false_eq_true, if_false, if_true, Res.bind_ok, Res.bind_bad, Res.out_ok, Res.out_bad, Res.calm_ok, List.map_cons, List.map_nil, List.length_cons, List.length_nil, Nat.reduceAdd, Nat.reduceSub, List.replicate, List.cons_append, List.nil_append, List.getElem?_cons_zero, List.getElem?_cons_succ, List.set_cons_succ, List.set_cons_zero, Bool.true_and, Bool.and_true, Bool.not_false, Bool.not_true, List.contains_nil, Option.bind_some, for_ap, lc_ap, Nat.reduceEqDiff, Nat.reduceLeDiff, Bool.false_xor, Bool.true_xor, and_self, decide_true, decide_false, List.lookup, List.all_cons, List.all_nil, List.contains_cons, Nat.reduceBEq, Bool.or_false, Bool.false_or, Bool.or_true, Bool.true_or, beq_self_eq_true, List.contains_nil, hp, if_true, inD]
    · have e0 : (0 : Int) < 2 := by decide
      simp only [raise_ap, raiseI_ap, calmF_ap, le_line, lt_line, var_ap, c_ap, op_ap, un_ap, b_ap, and_ap, or_ap, not_ap, if_ap, andV_ap, orV_ap, ch_ap, nil_ap, cons_ap, star_ap, tup_ap, lst_ap, arm_ap, cb_ap, noPart_ap, part_ap, sl_ap, slL_ap, call_ap, callL_ap, mk_ap, fld_ap, prop_ap, meth_ap, callI_ap, get2_ap, dnew_ap, it_ap, itA_ap, yes_ap, next_ap, seq_ap, set_ap, setO_ap, drop_ap, ret_ap, retN_ap, brk_ap, cnt_ap, never_ap, ifS_ap, aug_ap, app_ap, ext_ap, par_ap, asg_ap, dset_ap, stF_ap, stF2_ap, fldL_ap, see_f, see_g, okM_f, okM_g, okR_f, okR_g, okO_f, okO_g, hide_nil, hide_cons, setAll_cons, setAll_nil, wipe_nil, wipe_cons, runB_ap, runL_ap, startL_ap, startD_ap, out1_nx, out1_rt, dName_ap, dGTup_ap, dGLst_ap, dGCons_ap, dGNil_ap, dAdd_ap, dSub_ap, dMul_ap, dFdiv_ap, dMod_ap, dLt_ap, dLe_ap, dGt_ap, dGe_ap, bOf_ap, dNeg_ap, dNot_ap, eqS_int, eqS_bl, eqS_str, dInt1_ap, dInt1_bl, dMax2_ap, dMin2_ap, dAbs_ap, dSum_ap, dAny_ap, dAll_ap, dLen_l, dLen_t, dLen_a, dIx_l, dIx_t, dIx_a, dTup_ap, dLst_ap, dArm_ap, dList_l, dList_t, dTupl_ap, dTupA_ap, lstOf_ap, tupOf_t, tupOf_a, itemsOf_t, itemsOf_l, dSl_l, dSl_t, dSlL_ap, dCatL_ap, dIsN_ap, rng1_ap, rng2_ap, dRange_1, dRange_2, dRange3_ap, ownB_ap, ownT_ap, ownN_ap, eqI_ap, isC_y, il_int, il_bl, il_str, il_non, il_tup, il_lst, il_armD, il_ins, il_dic, il_ar, il_rig, Bool.false_eq_true, if_false, if_true, Res.bind_ok, Res.bind_bad, Res.out_ok, Res.out_bad, Res.calm_ok, List.map_cons, List.map_nil, List.length_cons, List.length_nil, Nat.reduceAdd, Nat.reduceSub, List.replicate, List.cons_append, List.nil_append, List.getElem?_cons_zero, List.getElem?_cons_succ, List.set_cons_succ, List.set_cons_zero, Bool.true_and, Bool.and_true, Bool.not_false, Bool.not_true, List.contains_nil, Option.bind_some, for_ap, lc_ap, Nat.reduceEqDiff, Nat.reduceLeDiff, Bool.false_xor, Bool.true_xor, and_self, decide_true, decide_false, List.lookup, List.all_cons, List.all_nil, List.contains_cons, Nat.reduceBEq, Bool.or_false, Bool.false_or, Bool.or_true, Bool.true_or, beq_self_eq_true, List.contains_nil, at_pl1, hp, fo_nil, fo_cons, nd_nil, nd_cons, eq_self, plL_len, e0]
      have em : decide ((((r.length + 1 : Nat) : Int)) % 2 = 0) = decide ((r.length + 1) % 2 = 0) := by
        rw [decide_eq_decide]; omega
      rw [em]
      have hs1 : 2 < 100000 := by decide
      have hl1 := (Mt.shrink_len (decide (a < p)) p r.length r [] (Nat.le_refl _))
      have hl2 := (Mt.shrink_len (decide (a < p)) p (a :: r).length (a :: r) [] (Nat.le_refl _))
      simp only [List.length_cons, List.length_nil] at hl hl1 hl2
      by_cases hc : decide (a < p) = decide ((r.length + 1) % 2 = 0)
      · have l1 : (plL (shrink (decide (a < p)) p r []).1).length + 1 ≤ 100000 := by rw [plL_len]; omega
        have hw := moved_loop (x := some (.tup (plL (a :: r)))) (p := p) (up := decide (a < p)) 999 r [] (by omega) (by simp; omega)
        rw [show D.lst [] = D.lst (inD []) from rfl]
        simp only [hc] at hw l1 ⊢
        simp only [raise_ap, raiseI_ap, calmF_ap, le_line, lt_line, var_ap, c_ap, op_ap, un_ap, b_ap, and_ap, or_ap, not_ap, if_ap, andV_ap, orV_ap, ch_ap, nil_ap, cons_ap, star_ap, tup_ap, lst_ap, arm_ap, cb_ap, noPart_ap, part_ap, sl_ap, slL_ap, call_ap, callL_ap, mk_ap, fld_ap, prop_ap, meth_ap, callI_ap, get2_ap, dnew_ap, it_ap, itA_ap, yes_ap, next_ap, seq_ap, set_ap, setO_ap, drop_ap, ret_ap, retN_ap, brk_ap, cnt_ap, never_ap, ifS_ap, aug_ap, app_ap, ext_ap, par_ap, asg_ap, dset_ap, stF_ap, stF2_ap, fldL_ap, see_f, see_g, okM_f, okM_g, okR_f, okR_g, okO_f, okO_g, hide_nil, hide_cons, setAll_cons, setAll_nil, wipe_nil, wipe_cons, runB_ap, runL_ap, startL_ap, startD_ap, out1_nx, out1_rt, dName_ap, dGTup_ap, dGLst_ap, dGCons_ap, dGNil_ap, dAdd_ap, dSub_ap, dMul_ap, dFdiv_ap, dMod_ap, dLt_ap, dLe_ap, dGt_ap, dGe_ap, bOf_ap, dNeg_ap, dNot_ap, eqS_int, eqS_bl, eqS_str, dInt1_ap, dInt1_bl, dMax2_ap, dMin2_ap, dAbs_ap, dSum_ap, dAny_ap, dAll_ap, dLen_l, dLen_t, dLen_a, dIx_l, dIx_t, dIx_a, dTup_ap, dLst_ap, dArm_ap, dList_l, dList_t, dTupl_ap, dTupA_ap, lstOf_ap, tupOf_t, tupOf_a, itemsOf_t, itemsOf_l, dSl_l, dSl_t, dSlL_ap, dCatL_ap, dIsN_ap, rng1_ap, rng2_ap, dRange_1, dRange_2, dRange3_ap, ownB_ap, ownT_ap, ownN_ap, eqI_ap, isC_y, il_int, il_bl, il_str, il_non, il_tup, il_lst, il_armD, il_ins, il_dic, il_ar, il_rig, Bool.false_eq_true, if_false, if_true, Res.bind_ok, Res.bind_bad, Res.out_ok, Res.out_bad, Res.calm_ok, List.map_cons, List.map_nil, List.length_cons, List.length_nil, Nat.reduceAdd, Nat.reduceSub, List.replicate, List.cons_append, List.nil_append, List.getElem?_cons_zero, List.getElem?_cons_succ, List.set_cons_succ, List.set_cons_zero, Bool.true_and, Bool.and_true, Bool.not_false, Bool.not_true, List.contains_nil, Option.bind_some, for_ap, lc_ap, Nat.reduceEqDiff, Nat.reduceLeDiff, Bool.false_xor, Bool.true_xor, and_self, decide_true, decide_false, List.lookup, List.all_cons, List.all_nil, List.contains_cons, Nat.reduceBEq, Bool.or_false, Bool.false_or, Bool.or_true, Bool.true_or, beq_self_eq_true, List.contains_nil, pop_pl, whl_ap, hw, plL_cons p, List.length_append, le_line l1, eq_self]
      · have l1 : (plL (shrink (decide (a < p)) p (a :: r) []).1).length + 1 ≤ 100000 := by rw [plL_len]; omega
        have hw := moved_loop (x := some (.tup (plL (a :: r)))) (p := p) (up := decide (a < p)) 999 (a :: r) [] (by simp; omega) (by simp; omega)
        rw [show D.lst [] = D.lst (inD []) from rfl]
        simp only [hc, if_false, decide_false] at hw l1 ⊢
        simp only [raise_ap, raiseI_ap, calmF_ap, le_line, lt_line, var_ap, c_ap, op_ap, un_ap, b_ap, and_ap, or_ap, not_ap, if_ap, andV_ap, orV_ap, ch_ap, nil_ap, cons_ap, star_ap, tup_ap, lst_ap, arm_ap, cb_ap, noPart_ap, part_ap, sl_ap, slL_ap, call_ap, callL_ap, mk_ap, fld_ap, prop_ap, meth_ap, callI_ap, get2_ap, dnew_ap, it_ap, itA_ap, yes_ap, next_ap, seq_ap, set_ap, setO_ap, drop_ap, ret_ap, retN_ap, brk_ap, cnt_ap, never_ap, ifS_ap, aug_ap, app_ap, ext_ap, pop_ap, par_ap, asg_ap, dset_ap, stF_ap, stF2_ap, fldL_ap, see_f, see_g, okM_f, okM_g, okR_f, okR_g, okO_f, okO_g, hide_nil, hide_cons, setAll_cons, setAll_nil, wipe_nil, wipe_cons, runB_ap, runL_ap, startL_ap, startD_ap, out1_nx, out1_rt, dName_ap, dGTup_ap, dGLst_ap, dGCons_ap, dGNil_ap, dAdd_ap, dSub_ap, dMul_ap, dFdiv_ap, dMod_ap, dLt_ap, dLe_ap, dGt_ap, dGe_ap, bOf_ap, dNeg_ap, dNot_ap, eqS_int, eqS_bl, eqS_str, dInt1_ap, dInt1_bl, dMax2_ap, dMin2_ap, dAbs_ap, dSum_ap, dAny_ap, dAll_ap, dLen_l, dLen_t, dLen_a, dIx_l, dIx_t, dIx_a, dTup_ap, dLst_ap, dArm_ap, dList_l, dList_t, dTupl_ap, dTupA_ap, lstOf_ap, tupOf_t, tupOf_a, itemsOf_t, itemsOf_l, dSl_l, dSl_t, dSlL_ap, dCatL_ap, dIsN_ap, rng1_ap, rng2_ap, dRange_1, dRange_2, dRange3_ap, ownB_ap, ownT_ap, ownN_ap, eqI_ap, isC_y, il_int, il_bl, il_str, il_non, il_tup, il_lst, il_armD, il_ins, il_dic, il_ar, il_rig, Bool.false_eq_true, if_false, if_true, Res.bind_ok, Res.bind_bad, Res.out_ok, Res.out_bad, Res.calm_ok, List.map_cons, List.map_nil, List.length_cons, List.length_nil, Nat.reduceAdd, Nat.reduceSub, List.replicate, List.cons_append, List.nil_append, List.getElem?_cons_zero, List.getElem?_cons_succ, List.set_cons_succ, List.set_cons_zero, Bool.true_and, Bool.and_true, Bool.not_false, Bool.not_true, List.contains_nil, Option.bind_some, for_ap, lc_ap, Nat.reduceEqDiff, Nat.reduceLeDiff, Bool.false_xor, Bool.true_xor, and_self, decide_true, decide_false, List.lookup, List.all_cons, List.all_nil, List.contains_cons, Nat.reduceBEq, Bool.or_false, Bool.false_or, Bool.or_true, Bool.true_or, beq_self_eq_true, List.contains_nil, whl_ap, hw, plL_cons p, List.length_append, le_line l1, eq_self]
theorem ext_l {xs ys : List Int} : inD xs ++ inD ys = inD (xs ++ ys) := by simp [inD]
theorem follow_loop {x y : Option D} : ∀ (row rs hs : List Int) (u v : Option D), rs ≠ [] → rs.length + row.length ≤ 1500 → hs.length + rs.length + row.length ≤ 50000 →
    ∃ u' v', loopG (dName 4) (gSeq (gAsg .f [3] [2, 5] (dGTup 2 (dGCons (dName 2) (dGCons (dName 5) dGNil))) (gCall 2 f_moved (Pv.gCons (gVar 2) (Pv.gCons (gVar 4) Pv.gNil)))) (gExt .f [3] 3 (gVar 5))) (inD row) [x, y, some (plD rs), some (.lst (inD hs)), u, v] []
      = .nx [x, y, some (plD (followR rs row).1), some (.lst (inD (hs ++ (followR rs row).2))), u', v'] []
  | [], rs, hs, u, v, hne, h1, h2 => ⟨u, v, by simp [loopG, inD, followR]⟩
  | p :: row, rs, hs, u, v, hne, h1, h2 => by
    have hl := Mt.moved_cnt rs p
    have hl2 := Mt.moved_len rs p
    simp only [List.length_cons] at h1 h2
    obtain ⟨u', v', ih⟩ := follow_loop (x := x) (y := y) row (movedR rs p).1 (hs ++ (movedR rs p).2) (some (.int p)) (some (.lst (inD (movedR rs p).2))) (Mt.moved_ne rs p) (by omega) (by rw [List.length_append]; omega)
    refine ⟨u', v', ?_⟩
    have hz : hs.length + (movedR rs p).2.length ≤ 100000 := by omega
    rw [show inD (p :: row) = .int p :: inD row from rfl, loopG]
    simp only [raise_ap, raiseI_ap, calmF_ap, le_line, lt_line, var_ap, c_ap, op_ap, un_ap, b_ap, and_ap, or_ap, not_ap, if_ap, andV_ap, orV_ap, ch_ap, nil_ap, cons_ap, star_ap, tup_ap, lst_ap, arm_ap, cb_ap, noPart_ap, part_ap, sl_ap, slL_ap, call_ap, callL_ap, mk_ap, fld_ap, prop_ap, meth_ap, callI_ap, get2_ap, dnew_ap, it_ap, itA_ap, yes_ap, next_ap, seq_ap, set_ap, setO_ap, drop_ap, ret_ap, retN_ap, brk_ap, cnt_ap, never_ap, ifS_ap, aug_ap, app_ap, ext_ap, pop_ap, par_ap, asg_ap, dset_ap, stF_ap, stF2_ap, fldL_ap, see_f, see_g, okM_f, okM_g, okR_f, okR_g, okO_f, okO_g, hide_nil, hide_cons, setAll_cons, setAll_nil, wipe_nil, wipe_cons, runB_ap, runL_ap, startL_ap, startD_ap, out1_nx, out1_rt, dName_ap, dGTup_ap, dGLst_ap, dGCons_ap, dGNil_ap, dAdd_ap, dSub_ap, dMul_ap, dFdiv_ap, dMod_ap, dLt_ap, dLe_ap, dGt_ap, dGe_ap, bOf_ap, dNeg_ap, dNot_ap, eqS_int, eqS_bl, eqS_str, dInt1_ap, dInt1_bl, dMax2_ap, dMin2_ap, dAbs_ap, dSum_ap, dAny_ap, dAll_ap, dLen_l, dLen_t, dLen_a, dIx_l, dIx_t, dIx_a, dTup_ap, dLst_ap, dArm_ap, dList_l, dList_t, dTupl_ap, dTupA_ap, lstOf_ap, tupOf_t, tupOf_a, itemsOf_t, itemsOf_l, dSl_l, dSl_t, dSlL_ap, dCatL_ap, dIsN_ap, rng1_ap, rng2_ap, dRange_1, dRange_2, dRange3_ap, ownB_ap, ownT_ap, ownN_ap, eqI_ap, isC_y, il_int, il_bl, il_str, il_non, il_tup, il_lst, il_armD, il_ins, il_dic, il_ar, il_rig, Bool.false_eq_true, if_false, if_true, Res.bind_ok, Res.bind_bad, Res.out_ok, Res.out_bad, Res.calm_ok, List.map_cons, List.map_nil, List.length_cons, List.length_nil, Nat.reduceAdd, Nat.reduceSub, List.replicate, List.cons_append, List.nil_append, List.getElem?_cons_zero, List.getElem?_cons_succ, List.set_cons_succ, List.set_cons_zero, Bool.true_and, Bool.and_true, Bool.not_false, Bool.not_true, List.contains_nil, Option.bind_some, for_ap, lc_ap, Nat.reduceEqDiff, Nat.reduceLeDiff, Bool.false_xor, Bool.true_xor, and_self, decide_true, decide_false, List.lookup, List.all_cons, List.all_nil, List.contains_cons, Nat.reduceBEq, Bool.or_false, Bool.false_or, Bool.or_true, Bool.true_or, beq_self_eq_true, List.contains_nil, il_pl, e_moved hne (show rs.length ≤ 1500 by omega), in_len, le_line hz, immL_in]
    rw [ext_l, ih, followR, List.append_assoc]
theorem e_followed {rs row : List Int} {R : Rs} (hne : rs ≠ []) (hl : rs.length + row.length ≤ 1500) : f_followed [plD rs, .lst (inD row)] R = .ok (.tup [plD (followR rs row).1, .lst (inD (followR rs row).2)]) R := by
  unfold f_followed
  refine pureF_ok ?_
  unfold m_followed
  have e0 : D.lst [] = .lst (inD []) := rfl
  obtain ⟨u', v', h⟩ := follow_loop (x := some (plD rs)) (y := some (.lst (inD row))) row rs [] none none hne hl (by simp; omega)
  simp only [raise_ap, raiseI_ap, calmF_ap, le_line, lt_line, var_ap, c_ap, op_ap, un_ap, b_ap, and_ap, or_ap, not_ap, if_ap, andV_ap, orV_ap, ch_ap, nil_ap, cons_ap, star_ap, tup_ap, lst_ap, arm_ap, cb_ap, noPart_ap, part_ap, sl_ap, slL_ap, call_ap, callL_ap, mk_ap, fld_ap, prop_ap, meth_ap, callI_ap, get2_ap, dnew_ap, it_ap, itA_ap, yes_ap, next_ap, seq_ap, set_ap, setO_ap, drop_ap, ret_ap, retN_ap, brk_ap, cnt_ap, never_ap, ifS_ap, aug_ap, app_ap, ext_ap, pop_ap, par_ap, asg_ap, dset_ap, stF_ap, stF2_ap, fldL_ap, see_f, see_g, okM_f, okM_g, okR_f, okR_g, okO_f, okO_g, hide_nil, hide_cons, setAll_cons, setAll_nil, wipe_nil, wipe_cons, runB_ap, runL_ap, startL_ap, startD_ap, out1_nx, out1_rt, dName_ap, dGTup_ap, dGLst_ap, dGCons_ap, dGNil_ap, dAdd_ap, dSub_ap, dMul_ap, dFdiv_ap, dMod_ap, dLt_ap, dLe_ap, dGt_ap, dGe_ap, bOf_ap, dNeg_ap, dNot_ap, eqS_int, eqS_bl, eqS_str, dInt1_ap, dInt1_bl, dMax2_ap, dMin2_ap, dAbs_ap, dSum_ap, dAny_ap, dAll_ap, dLen_l, dLen_t, dLen_a, dIx_l, dIx_t, dIx_a, dTup_ap, dLst_ap, dArm_ap, dList_l, dList_t, dTupl_ap, dTupA_ap, lstOf_ap, tupOf_t, tupOf_a, itemsOf_t, itemsOf_l, dSl_l, dSl_t, dSlL_ap, dCatL_ap, dIsN_ap, rng1_ap, rng2_ap, dRange_1, dRange_2, dRange3_ap, ownB_ap, ownT_ap, ownN_ap, eqI_ap, isC_y, il_int, il_bl, il_str, il_non, il_tup, il_lst, il_armD, il_ins, il_dic, il_ar, il_rig, Bool.false_eq_true, if_false, if_true, Res.bind_ok, Res.bind_bad, Res.out_ok, Res.out_bad, Res.calm_ok, List.map_cons, List.map_nil, List.length_cons, List.length_nil, Nat.reduceAdd, Nat.reduceSub, List.replicate, List.cons_append, List.nil_append, List.getElem?_cons_zero, List.getElem?_cons_succ, List.set_cons_succ, List.set_cons_zero, Bool.true_and, Bool.and_true, Bool.not_false, Bool.not_true, List.contains_nil, Option.bind_some, for_ap, lc_ap, Nat.reduceEqDiff, Nat.reduceLeDiff, Bool.false_xor, Bool.true_xor, and_self, decide_true, decide_false, List.lookup, List.all_cons, List.all_nil, List.contains_cons, Nat.reduceBEq, Bool.or_false, Bool.false_or, Bool.or_true, Bool.true_or, beq_self_eq_true, List.contains_nil, il_pl, fo_nil, fo_cons, nd_nil, nd_cons, eq_self]
  rw [e0, h]
  simp only [raise_ap, raiseI_ap, calmF_ap, le_line, lt_line, var_ap, c_ap, op_ap, un_ap, b_ap, and_ap, or_ap, not_ap, if_ap, andV_ap, orV_ap, ch_ap, nil_ap, cons_ap, star_ap, tup_ap, lst_ap, arm_ap, cb_ap, noPart_ap, part_ap, sl_ap, slL_ap, call_ap, callL_ap, mk_ap, fld_ap, prop_ap, meth_ap, callI_ap, get2_ap, dnew_ap, it_ap, itA_ap, yes_ap, next_ap, seq_ap, set_ap, setO_ap, drop_ap, ret_ap, retN_ap, brk_ap, cnt_ap, never_ap, ifS_ap, aug_ap, app_ap, ext_ap, pop_ap, par_ap, asg_ap, dset_ap, stF_ap, stF2_ap, fldL_ap, see_f, see_g, okM_f, okM_g, okR_f, okR_g, okO_f, okO_g, hide_nil, hide_cons, setAll_cons, setAll_nil, wipe_nil, wipe_cons, runB_ap, runL_ap, startL_ap, startD_ap, out1_nx, out1_rt, dName_ap, dGTup_ap, dGLst_ap, dGCons_ap, dGNil_ap, dAdd_ap, dSub_ap, dMul_ap, dFdiv_ap, dMod_ap, dLt_ap, dLe_ap, dGt_ap, dGe_ap, bOf_ap, dNeg_ap, dNot_ap, eqS_int, eqS_bl, eqS_str, dInt1_ap, dInt1_bl, dMax2_ap, dMin2_ap, dAbs_ap, dSum_ap, dAny_ap, dAll_ap, dLen_l, dLen_t, dLen_a, dIx_l, dIx_t, dIx_a, dTup_ap, dLst_ap, dArm_ap, dList_l, dList_t, dTupl_ap, dTupA_ap, lstOf_ap, tupOf_t, tupOf_a, itemsOf_t, itemsOf_l, dSl_l, dSl_t, dSlL_ap, dCatL_ap, dIsN_ap, rng1_ap, rng2_ap, dRange_1, dRange_2, dRange3_ap, ownB_ap, ownT_ap, ownN_ap, eqI_ap, isC_y, il_int, il_bl, il_str, il_non, il_tup, il_lst, il_armD, il_ins, il_dic, il_ar, il_rig, Bool.false_eq_true, if_false, if_true, Res.bind_ok, Res.bind_bad, Res.out_ok, Res.out_bad, Res.calm_ok, List.map_cons, List.map_nil, List.length_cons, List.length_nil, Nat.reduceAdd, Nat.reduceSub, List.replicate, List.cons_append, List.nil_append, List.getElem?_cons_zero, List.getElem?_cons_succ, List.set_cons_succ, List.set_cons_zero, Bool.true_and, Bool.and_true, Bool.not_false, Bool.not_true, List.contains_nil, Option.bind_some, for_ap, lc_ap, Nat.reduceEqDiff, Nat.reduceLeDiff, Bool.false_xor, Bool.true_xor, and_self, decide_true, decide_false, List.lookup, List.all_cons, List.all_nil, List.contains_cons, Nat.reduceBEq, Bool.or_false, Bool.false_or, Bool.or_true, Bool.true_or, beq_self_eq_true, List.contains_nil, il_pl]
/-! ### ends -/
theorem plD_in (rs : List Int) : plD rs = .tup (inD rs.reverse) := rfl
theorem memV_bd : ∀ {rs : List Int}, MemV rs → ∀ x ∈ rs, -1000000 ≤ x ∧ x ≤ 1000000
  | [], _, x, hx => by simp at hx
  | a :: r, h, x, hx => by
    rcases List.mem_cons.mp hx with rfl | hx
    · exact h.1
    · exact memV_bd h.2.2 x hx
/-! ### checks -/
def FarP (p : Int) : Prop := -1000000 ≤ p ∧ p ≤ 1000000
theorem e_is_place {p : Int} {R : Rs} (h : FarP p) : f_is_place [.int p] R = .ok (.bl true) R := by
  unfold f_is_place
  refine pureF_ok ?_
  unfold m_is_place
  have h1 := h.1
  have h2 := h.2
  have e : -1000000 ≤ p := h.1
  simp only [raise_ap, raiseI_ap, calmF_ap, le_line, lt_line, var_ap, c_ap, op_ap, un_ap, b_ap, and_ap, or_ap, not_ap, if_ap, andV_ap, orV_ap, ch_ap, nil_ap, cons_ap, star_ap, tup_ap, lst_ap, arm_ap, cb_ap, noPart_ap, part_ap, sl_ap, slL_ap, call_ap, callL_ap, mk_ap, fld_ap, prop_ap, meth_ap, callI_ap, get2_ap, dnew_ap, it_ap, itA_ap, yes_ap, next_ap, seq_ap, set_ap, setO_ap, drop_ap, ret_ap, retN_ap, brk_ap, cnt_ap, never_ap, ifS_ap, aug_ap, app_ap, ext_ap, pop_ap, par_ap, asg_ap, dset_ap, stF_ap, stF2_ap, fldL_ap, see_f, see_g, okM_f, okM_g, okR_f, okR_g, okO_f, okO_g, hide_nil, hide_cons, setAll_cons, setAll_nil, wipe_nil, wipe_cons, runB_ap, runL_ap, startL_ap, startD_ap, out1_nx, out1_rt, dName_ap, dGTup_ap, dGLst_ap, dGCons_ap, dGNil_ap, dAdd_ap, dSub_ap, dMul_ap, dFdiv_ap, dMod_ap, dLt_ap, dLe_ap, dGt_ap, dGe_ap, bOf_ap, dNeg_ap, dNot_ap, eqS_int, eqS_bl, eqS_str, dInt1_ap, dInt1_bl, dMax2_ap, dMin2_ap, dAbs_ap, dSum_ap, dAny_ap, dAll_ap, dLen_l, dLen_t, dLen_a, dIx_l, dIx_t, dIx_a, dTup_ap, dLst_ap, dArm_ap, dList_l, dList_t, dTupl_ap, dTupA_ap, lstOf_ap, tupOf_t, tupOf_a, itemsOf_t, itemsOf_l, dSl_l, dSl_t, dSlL_ap, dCatL_ap, dIsN_ap, rng1_ap, rng2_ap, dRange_1, dRange_2, dRange3_ap, ownB_ap, ownT_ap, ownN_ap, eqI_ap, isC_y, il_int, il_bl, il_str, il_non, il_tup, il_lst, il_armD, il_ins, il_dic, il_ar, il_rig, Bool.false_eq_true, if_false, if_true, Res.bind_ok, Res.bind_bad, Res.out_ok, Res.out_bad, Res.calm_ok, List.map_cons, List.map_nil, List.length_cons, List.length_nil, Nat.reduceAdd, Nat.reduceSub, List.replicate, List.cons_append, List.nil_append, List.getElem?_cons_zero, List.getElem?_cons_succ, List.set_cons_succ, List.set_cons_zero, Bool.true_and, Bool.and_true, Bool.not_false, Bool.not_true, List.contains_nil, Option.bind_some, for_ap, lc_ap, Nat.reduceEqDiff, Nat.reduceLeDiff, Bool.false_xor, Bool.true_xor, and_self, decide_true, decide_false, List.lookup, List.all_cons, List.all_nil, List.contains_cons, Nat.reduceBEq, Bool.or_false, Bool.false_or, Bool.or_true, Bool.true_or, beq_self_eq_true, List.contains_nil, e_is_int_in, e, h2]
theorem enD_in_get (ds : List Int) (i : Nat) : (enD (inD ds))[i]? = (ds[i]?).map fun x => .tup [.int i, .int x] := by
  rw [enD_get]
  simp only [inD, List.getElem?_map, Option.map_map]
  rfl
theorem enD_len (ds : List Int) : (enD (inD ds)).length = ds.length := by simp [enD, inD]
theorem enD_range (ds : List Int) : enD (inD ds) = (List.range ds.length).map fun i => .tup [.int (i : Int), .int (ds.getD i 0)] := by
  refine List.ext_getElem? fun i => ?_
  rw [enD_in_get, List.getElem?_map]
  by_cases h : i < ds.length
  · rw [List.getElem?_range h, List.getElem?_eq_getElem h]
    simp [List.getD, h]
  · rw [List.getElem?_eq_none (by omega), List.getElem?_eq_none (by simp; omega)]
    rfl
theorem getD_mem {ds : List Int} {i : Nat} (h : i < ds.length) : ds.getD i 0 ∈ ds := by
  have : ds.getD i 0 = ds[i] := by simp [List.getD, h]
  rw [this]; exact List.getElem_mem h
theorem isK_ll {xs : List D} {R : Rs} : dIsK .lst [.lst xs, .ty "list"] R = .ok (.bl true) R := rfl
theorem isK_tt {xs : List D} {R : Rs} : dIsK .tup [.tup xs, .ty "tuple"] R = .ok (.bl true) R := rfl
theorem e_check_row {row : List Int} {R : Rs} (hl : row.length ≤ 1000) (hp : ∀ p ∈ row, FarP p) : f_check_row [.lst (inD row)] R = .ok .non R := by
  unfold f_check_row
  refine pureF_ok ?_
  unfold m_check_row
  simp only [raise_ap, raiseI_ap, calmF_ap, le_line, lt_line, var_ap, c_ap, op_ap, un_ap, b_ap, and_ap, or_ap, not_ap, if_ap, andV_ap, orV_ap, ch_ap, nil_ap, cons_ap, star_ap, tup_ap, lst_ap, arm_ap, cb_ap, noPart_ap, part_ap, sl_ap, slL_ap, call_ap, callL_ap, mk_ap, fld_ap, prop_ap, meth_ap, callI_ap, get2_ap, dnew_ap, it_ap, itA_ap, yes_ap, next_ap, seq_ap, set_ap, setO_ap, drop_ap, ret_ap, retN_ap, brk_ap, cnt_ap, never_ap, ifS_ap, aug_ap, app_ap, ext_ap, pop_ap, par_ap, asg_ap, dset_ap, stF_ap, stF2_ap, fldL_ap, see_f, see_g, okM_f, okM_g, okR_f, okR_g, okO_f, okO_g, hide_nil, hide_cons, setAll_cons, setAll_nil, wipe_nil, wipe_cons, runB_ap, runL_ap, startL_ap, startD_ap, out1_nx, out1_rt, dName_ap, dGTup_ap, dGLst_ap, dGCons_ap, dGNil_ap, dAdd_ap, dSub_ap, dMul_ap, dFdiv_ap, dMod_ap, dLt_ap, dLe_ap, dGt_ap, dGe_ap, bOf_ap, dNeg_ap, dNot_ap, eqS_int, eqS_bl, eqS_str, dInt1_ap, dInt1_bl, dMax2_ap, dMin2_ap, dAbs_ap, dSum_ap, dAny_ap, dAll_ap, dLen_l, dLen_t, dLen_a, dIx_l, dIx_t, dIx_a, dTup_ap, dLst_ap, dArm_ap, dList_l, dList_t, dTupl_ap, dTupA_ap, lstOf_ap, tupOf_t, tupOf_a, itemsOf_t, itemsOf_l, dSl_l, dSl_t, dSlL_ap, dCatL_ap, dIsN_ap, rng1_ap, rng2_ap, dRange_1, dRange_2, dRange3_ap, ownB_ap, ownT_ap, ownN_ap, eqI_ap, isC_y, il_int, il_bl, il_str, il_non, il_tup, il_lst, il_armD, il_ins, il_dic, il_ar, il_rig, Bool.false_eq_true, if_false, if_true, Res.bind_ok, Res.bind_bad, Res.out_ok, Res.out_bad, Res.calm_ok, List.map_cons, List.map_nil, List.length_cons, List.length_nil, Nat.reduceAdd, Nat.reduceSub, List.replicate, List.cons_append, List.nil_append, List.getElem?_cons_zero, List.getElem?_cons_succ, List.set_cons_succ, List.set_cons_zero, Bool.true_and, Bool.and_true, Bool.not_false, Bool.not_true, List.contains_nil, Option.bind_some, for_ap, lc_ap, Nat.reduceEqDiff, Nat.reduceLeDiff, Bool.false_xor, Bool.true_xor, and_self, decide_true, decide_false, List.lookup, List.all_cons, List.all_nil, List.contains_cons, Nat.reduceBEq, Bool.or_false, Bool.false_or, Bool.or_true, Bool.true_or, beq_self_eq_true, List.contains_nil, isK_ll, enumL, enD_range]
  obtain ⟨ρ2, R2, h1, h2⟩ := loopG_range (T := dGTup 2 (dGCons (dName 1) (dGCons (dName 2) dGNil))) (n := row.length) (enc := fun i : Nat => D.tup [.int (i : Int), .int (row.getD i 0)])
    (b := gIfS .f [] (gOr (gB (gOp (dEqS false) (gVar 1) (gC (.int 1000)))) (gNot (gB (gCall 1 f_is_place (Pv.gCons (gVar 2) Pv.gNil))))) (gRaiseI "InvalidRow" "index" (gVar 1)) gNext)
    (fun i ρ R => R = [] ∧ ∃ u v, ρ = [some (.lst (inD row)), u, v])
    (ρ := [some (.lst (inD row)), none, none]) (R := []) ⟨rfl, none, none, rfl⟩ (by
      rintro i ρ R hi ⟨rfl, u, v, rfl⟩
      refine ⟨_, rfl, ?_⟩
      have hne : ¬ ((i : Int) = 1000) := by omega
      simp only [raise_ap, raiseI_ap, calmF_ap, le_line, lt_line, var_ap, c_ap, op_ap, un_ap, b_ap, and_ap, or_ap, not_ap, if_ap, andV_ap, orV_ap, ch_ap, nil_ap, cons_ap, star_ap, tup_ap, lst_ap, arm_ap, cb_ap, noPart_ap, part_ap, sl_ap, slL_ap, call_ap, callL_ap, mk_ap, fld_ap, prop_ap, meth_ap, callI_ap, get2_ap, dnew_ap, it_ap, itA_ap, yes_ap, next_ap, seq_ap, set_ap, setO_ap, drop_ap, ret_ap, retN_ap, brk_ap, cnt_ap, never_ap, ifS_ap, aug_ap, app_ap, ext_ap, pop_ap, par_ap, asg_ap, dset_ap, stF_ap, stF2_ap, fldL_ap, see_f, see_g, okM_f, okM_g, okR_f, okR_g, okO_f, okO_g, hide_nil, hide_cons, setAll_cons, setAll_nil, wipe_nil, wipe_cons, runB_ap, runL_ap, startL_ap, startD_ap, out1_nx, out1_rt, dName_ap, dGTup_ap, dGLst_ap, dGCons_ap, dGNil_ap, dAdd_ap, dSub_ap, dMul_ap, dFdiv_ap, dMod_ap, dLt_ap, dLe_ap, dGt_ap, dGe_ap, bOf_ap, dNeg_ap, dNot_ap, eqS_int, eqS_bl, eqS_str, dInt1_ap, dInt1_bl, dMax2_ap, dMin2_ap, dAbs_ap, dSum_ap, dAny_ap, dAll_ap, dLen_l, dLen_t, dLen_a, dIx_l, dIx_t, dIx_a, dTup_ap, dLst_ap, dArm_ap, dList_l, dList_t, dTupl_ap, dTupA_ap, lstOf_ap, tupOf_t, tupOf_a, itemsOf_t, itemsOf_l, dSl_l, dSl_t, dSlL_ap, dCatL_ap, dIsN_ap, rng1_ap, rng2_ap, dRange_1, dRange_2, dRange3_ap, ownB_ap, ownT_ap, ownN_ap, eqI_ap, isC_y, il_int, il_bl, il_str, il_non, il_tup, il_lst, il_armD, il_ins, il_dic, il_ar, il_rig, Bool.false_eq_true, if_false, if_true, Res.bind_ok, Res.bind_bad, Res.out_ok, Res.out_bad, Res.calm_ok, List.map_cons, List.map_nil, List.length_cons, List.length_nil, Nat.reduceAdd, Nat.reduceSub, List.replicate, List.cons_append, List.nil_append, List.getElem?_cons_zero, List.getElem?_cons_succ, List.set_cons_succ, List.set_cons_zero, Bool.true_and, Bool.and_true, Bool.not_false, Bool.not_true, List.contains_nil, Option.bind_some, for_ap, lc_ap, Nat.reduceEqDiff, Nat.reduceLeDiff, Bool.false_xor, Bool.true_xor, and_self, decide_true, decide_false, List.lookup, List.all_cons, List.all_nil, List.contains_cons, Nat.reduceBEq, Bool.or_false, Bool.false_or, Bool.or_true, Bool.true_or, beq_self_eq_true, List.contains_nil, hne, e_is_place (hp _ (getD_mem hi))]
      exact ⟨_, _, .inl rfl, rfl, _, _, rfl⟩)
  obtain ⟨rfl, u, v, rfl⟩ := h2
  simp only [h1, raise_ap, raiseI_ap, calmF_ap, le_line, lt_line, var_ap, c_ap, op_ap, un_ap, b_ap, and_ap, or_ap, not_ap, if_ap, andV_ap, orV_ap, ch_ap, nil_ap, cons_ap, star_ap, tup_ap, lst_ap, arm_ap, cb_ap, noPart_ap, part_ap, sl_ap, slL_ap, call_ap, callL_ap, mk_ap, fld_ap, prop_ap, meth_ap, callI_ap, get2_ap, dnew_ap, it_ap, itA_ap, yes_ap, next_ap, seq_ap, set_ap, setO_ap, drop_ap, ret_ap, retN_ap, brk_ap, cnt_ap, never_ap, ifS_ap, aug_ap, app_ap, ext_ap, pop_ap, par_ap, asg_ap, dset_ap, stF_ap, stF2_ap, fldL_ap, see_f, see_g, okM_f, okM_g, okR_f, okR_g, okO_f, okO_g, hide_nil, hide_cons, setAll_cons, setAll_nil, wipe_nil, wipe_cons, runB_ap, runL_ap, startL_ap, startD_ap, out1_nx, out1_rt, dName_ap, dGTup_ap, dGLst_ap, dGCons_ap, dGNil_ap, dAdd_ap, dSub_ap, dMul_ap, dFdiv_ap, dMod_ap, dLt_ap, dLe_ap, dGt_ap, dGe_ap, bOf_ap, dNeg_ap, dNot_ap, eqS_int, eqS_bl, eqS_str, dInt1_ap, dInt1_bl, dMax2_ap, dMin2_ap, dAbs_ap, dSum_ap, dAny_ap, dAll_ap, dLen_l, dLen_t, dLen_a, dIx_l, dIx_t, dIx_a, dTup_ap, dLst_ap, dArm_ap, dList_l, dList_t, dTupl_ap, dTupA_ap, lstOf_ap, tupOf_t, tupOf_a, itemsOf_t, itemsOf_l, dSl_l, dSl_t, dSlL_ap, dCatL_ap, dIsN_ap, rng1_ap, rng2_ap, dRange_1, dRange_2, dRange3_ap, ownB_ap, ownT_ap, ownN_ap, eqI_ap, isC_y, il_int, il_bl, il_str, il_non, il_tup, il_lst, il_armD, il_ins, il_dic, il_ar, il_rig, Bool.false_eq_true, if_false, if_true, Res.bind_ok, Res.bind_bad, Res.out_ok, Res.out_bad, Res.calm_ok, List.map_cons, List.map_nil, List.length_cons, List.length_nil, Nat.reduceAdd, Nat.reduceSub, List.replicate, List.cons_append, List.nil_append, List.getElem?_cons_zero, List.getElem?_cons_succ, List.set_cons_succ, List.set_cons_zero, Bool.true_and, Bool.and_true, Bool.not_false, Bool.not_true, List.contains_nil, Option.bind_some, for_ap, lc_ap, Nat.reduceEqDiff, Nat.reduceLeDiff, Bool.false_xor, Bool.true_xor, and_self, decide_true, decide_false, List.lookup, List.all_cons, List.all_nil, List.contains_cons, Nat.reduceBEq, Bool.or_false, Bool.false_or, Bool.or_true, Bool.true_or, beq_self_eq_true, List.contains_nil]
/-! ### Memory -/
theorem pd_t_in (xs : List Int) : (D.tup (inD xs)).pd = some (.tuple (inP xs)) := by
  simp only [D.pd, pdL_in]
  rfl
theorem shaped_t_in (xs : List Int) : SeqAt.shaped (.tuple (inP xs)) = true := by
  have h := depth_in xs
  have h2 := lay_in xs
  unfold SeqAt.shaped
  simp only [PyData.canLay0, h2, PyData.depth, Bool.true_and]
  exact decide_eq_true (by omega)
theorem eqD_t_in {n : Bool} {xs ys : List Int} {R : Rs} : dEqD n (.tup (inD xs)) (.tup (inD ys)) R = .ok (.bl (n ^^ decide (xs = ys))) R := by
  have e : PyData.eqv (.tuple (inP xs)) (.tuple (inP ys)) = decide (xs = ys) := eqv_in xs ys
  simp only [dEqD, pd_t_in, shaped_t_in, e, Bool.and_self, if_true]
theorem eqD_pl {n : Bool} {rs gs : List Int} {R : Rs} : dEqD n (plD rs) (plD gs) R = .ok (.bl (n ^^ decide (rs = gs))) R := by
  rw [plD_in, plD_in, eqD_t_in]
  have : decide (rs.reverse = gs.reverse) = decide (rs = gs) := by rw [decide_eq_decide]; exact ⟨fun h => by simpa using congrArg List.reverse h, fun h => by rw [h]⟩
  rw [this]
theorem e_is_next {rs : List Int} {p : Int} {R : Rs} : f_is_next [plD rs, .int p] R = .ok (.bl (isNextR rs p)) R := by
  unfold f_is_next
  refine pureF_ok ?_
  unfold m_is_next
  have e0 : D.tup [] = plD [] := rfl
  match rs with
  | [] =>
    simp only [raise_ap, raiseI_ap, calmF_ap, le_line, lt_line, var_ap, c_ap, op_ap, un_ap, b_ap, and_ap, or_ap, not_ap, if_ap, andV_ap, orV_ap, ch_ap, nil_ap, cons_ap, star_ap, tup_ap, lst_ap, arm_ap, cb_ap, noPart_ap, part_ap, sl_ap, slL_ap, call_ap, callL_ap, mk_ap, fld_ap, prop_ap, meth_ap, callI_ap, get2_ap, dnew_ap, it_ap, itA_ap, yes_ap, next_ap, seq_ap, set_ap, setO_ap, drop_ap, ret_ap, retN_ap, brk_ap, cnt_ap, never_ap, ifS_ap, aug_ap, app_ap, ext_ap, pop_ap, par_ap, asg_ap, dset_ap, stF_ap, stF2_ap, fldL_ap, see_f, see_g, okM_f, okM_g, okR_f, okR_g, okO_f, okO_g, hide_nil, hide_cons, setAll_cons, setAll_nil, wipe_nil, wipe_cons, runB_ap, runL_ap, startL_ap, startD_ap, out1_nx, out1_rt, dName_ap, dGTup_ap, dGLst_ap, dGCons_ap, dGNil_ap, dAdd_ap, dSub_ap, dMul_ap, dFdiv_ap, dMod_ap, dLt_ap, dLe_ap, dGt_ap, dGe_ap, bOf_ap, dNeg_ap, dNot_ap, eqS_int, eqS_bl, eqS_str, dInt1_ap, dInt1_bl, dMax2_ap, dMin2_ap, dAbs_ap, dSum_ap, dAny_ap, dAll_ap, dLen_l, dLen_t, dLen_a, dIx_l, dIx_t, dIx_a, dTup_ap, dLst_ap, dArm_ap, dList_l, dList_t, dTupl_ap, dTupA_ap, lstOf_ap, tupOf_t, tupOf_a, itemsOf_t, itemsOf_l, dSl_l, dSl_t, dSlL_ap, dCatL_ap, dIsN_ap, rng1_ap, rng2_ap, dRange_1, dRange_2, dRange3_ap, ownB_ap, ownT_ap, ownN_ap, eqI_ap, isC_y, il_int, il_bl, il_str, il_non, il_tup, il_lst, il_armD, il_ins, il_dic, il_ar, il_rig, Bool.false_eq_true, if_false, if_true, Res.bind_ok, Res.bind_bad, Res.out_ok, Res.out_bad, Res.calm_ok, List.map_cons, List.map_nil, List.length_cons, List.length_nil, Nat.reduceAdd, Nat.reduceSub, List.replicate, List.cons_append, List.nil_append, List.getElem?_cons_zero, List.getElem?_cons_succ, List.set_cons_succ, List.set_cons_zero, Bool.true_and, Bool.and_true, Bool.not_false, Bool.not_true, List.contains_nil, Option.bind_some, for_ap, lc_ap, Nat.reduceEqDiff, Nat.reduceLeDiff, Bool.false_xor, Bool.true_xor, and_self, decide_true, decide_false, List.lookup, List.all_cons, List.all_nil, List.contains_cons, Nat.reduceBEq, Bool.or_false, Bool.false_or, Bool.or_true, Bool.true_or, beq_self_eq_true, List.contains_nil, il_pl]
    rw [e0]
    simp only [raise_ap, raiseI_ap, calmF_ap, le_line, lt_line, var_ap, c_ap, op_ap, un_ap, b_ap, and_ap, or_ap, not_ap, if_ap, andV_ap, orV_ap, ch_ap, nil_ap, cons_ap, star_ap, tup_ap, lst_ap, arm_ap, cb_ap, noPart_ap, part_ap, sl_ap, slL_ap, call_ap, callL_ap, mk_ap, fld_ap, prop_ap, meth_ap, callI_ap, get2_ap, dnew_ap, it_ap, itA_ap, yes_ap, next_ap, seq_ap, set_ap, setO_ap, drop_ap, ret_ap, retN_ap, brk_ap, cnt_ap, never_ap, ifS_ap, aug_ap, app_ap, ext_ap, pop_ap, par_ap, asg_ap, dset_ap, stF_ap, stF2_ap, fldL_ap, see_f, see_g, okM_f, okM_g, okR_f, okR_g, okO_f, okO_g, hide_nil, hide_cons, setAll_cons, setAll_nil, wipe_nil, wipe_cons, runB_ap, runL_ap, startL_ap, startD_ap, out1_nx, out1_rt, dName_ap, dGTup_ap, dGLst_ap, dGCons_ap, dGNil_ap, dAdd_ap, dSub_ap, dMul_ap, dFdiv_ap, dMod_ap, dLt_ap, dLe_ap, dGt_ap, dGe_ap, bOf_ap, dNeg_ap, dNot_ap, eqS_int, eqS_bl, eqS_str, dInt1_ap, dInt1_bl, dMax2_ap, dMin2_ap, dAbs_ap, dSum_ap, dAny_ap, dAll_ap, dLen_l, dLen_t, dLen_a, dIx_l, dIx_t, dIx_a, dTup_ap, dLst_ap, dArm_ap, dList_l, dList_t, dTupl_ap, dTupA_ap, lstOf_ap, tupOf_t, tupOf_a, itemsOf_t, itemsOf_l, dSl_l, dSl_t, dSlL_ap, dCatL_ap, dIsN_ap, rng1_ap, rng2_ap, dRange_1, dRange_2, dRange3_ap, ownB_ap, ownT_ap, ownN_ap, eqI_ap, isC_y, il_int, il_bl, il_str, il_non, il_tup, il_lst, il_armD, il_ins, il_dic, il_ar, il_rig, Bool.false_eq_true, if_false, if_true, Res.bind_ok, Res.bind_bad, Res.out_ok, Res.out_bad, Res.calm_ok, List.map_cons, List.map_nil, List.length_cons, List.length_nil, Nat.reduceAdd, Nat.reduceSub, List.replicate, List.cons_append, List.nil_append, List.getElem?_cons_zero, List.getElem?_cons_succ, List.set_cons_succ, List.set_cons_zero, Bool.true_and, Bool.and_true, Bool.not_false, Bool.not_true, List.contains_nil, Option.bind_some, for_ap, lc_ap, Nat.reduceEqDiff, Nat.reduceLeDiff, Bool.false_xor, Bool.true_xor, and_self, decide_true, decide_false, List.lookup, List.all_cons, List.all_nil, List.contains_cons, Nat.reduceBEq, Bool.or_false, Bool.false_or, Bool.or_true, Bool.true_or, beq_self_eq_true, List.contains_nil, eqD_pl, il_pl, isNextR]
  | [a] =>
    have hd : decide ([a] = []) = false := by simp
    have e1 : plL [a] = [.int a] := rfl
    simp only [raise_ap, raiseI_ap, calmF_ap, le_line, lt_line, var_ap, c_ap, op_ap, un_ap, b_ap, and_ap, or_ap, not_ap, if_ap, andV_ap, orV_ap, ch_ap, nil_ap, cons_ap, star_ap, tup_ap, lst_ap, arm_ap, cb_ap, noPart_ap, part_ap, sl_ap, slL_ap, call_ap, callL_ap, mk_ap, fld_ap, prop_ap, meth_ap, callI_ap, get2_ap, dnew_ap, it_ap, itA_ap, yes_ap, next_ap, seq_ap, set_ap, setO_ap, drop_ap, ret_ap, retN_ap, brk_ap, cnt_ap, never_ap, ifS_ap, aug_ap, app_ap, ext_ap, pop_ap, par_ap, asg_ap, dset_ap, stF_ap, stF2_ap, fldL_ap, see_f, see_g, okM_f, okM_g, okR_f, okR_g, okO_f, okO_g, hide_nil, hide_cons, setAll_cons, setAll_nil, wipe_nil, wipe_cons, runB_ap, runL_ap, startL_ap, startD_ap, out1_nx, out1_rt, dName_ap, dGTup_ap, dGLst_ap, dGCons_ap, dGNil_ap, dAdd_ap, dSub_ap, dMul_ap, dFdiv_ap, dMod_ap, dLt_ap, dLe_ap, dGt_ap, dGe_ap, bOf_ap, dNeg_ap, dNot_ap, eqS_int, eqS_bl, eqS_str, dInt1_ap, dInt1_bl, dMax2_ap, dMin2_ap, dAbs_ap, dSum_ap, dAny_ap, dAll_ap, dLen_l, dLen_t, dLen_a, dIx_l, dIx_t, dIx_a, dTup_ap, dLst_ap, dArm_ap, dList_l, dList_t, dTupl_ap, dTupA_ap, lstOf_ap, tupOf_t, tupOf_a, itemsOf_t, itemsOf_l, dSl_l, dSl_t, dSlL_ap, dCatL_ap, dIsN_ap, rng1_ap, rng2_ap, dRange_1, dRange_2, dRange3_ap, ownB_ap, ownT_ap, ownN_ap, eqI_ap, isC_y, il_int, il_bl, il_str, il_non, il_tup, il_lst, il_armD, il_ins, il_dic, il_ar, il_rig, Bool.false_eq_true, if_false, if_true, Res.bind_ok, Res.bind_bad, Res.out_ok, Res.out_bad, Res.calm_ok, List.map_cons, List.map_nil, List.length_cons, List.length_nil, Nat.reduceAdd, Nat.reduceSub, List.replicate, List.cons_append, List.nil_append, List.getElem?_cons_zero, List.getElem?_cons_succ, List.set_cons_succ, List.set_cons_zero, Bool.true_and, Bool.and_true, Bool.not_false, Bool.not_true, List.contains_nil, Option.bind_some, for_ap, lc_ap, Nat.reduceEqDiff, Nat.reduceLeDiff, Bool.false_xor, Bool.true_xor, and_self, decide_true, decide_false, List.lookup, List.all_cons, List.all_nil, List.contains_cons, Nat.reduceBEq, Bool.or_false, Bool.false_or, Bool.or_true, Bool.true_or, beq_self_eq_true, List.contains_nil, il_pl]
    rw [e0]
    simp only [raise_ap, raiseI_ap, calmF_ap, le_line, lt_line, var_ap, c_ap, op_ap, un_ap, b_ap, and_ap, or_ap, not_ap, if_ap, andV_ap, orV_ap, ch_ap, nil_ap, cons_ap, star_ap, tup_ap, lst_ap, arm_ap, cb_ap, noPart_ap, part_ap, sl_ap, slL_ap, call_ap, callL_ap, mk_ap, fld_ap, prop_ap, meth_ap, callI_ap, get2_ap, dnew_ap, it_ap, itA_ap, yes_ap, next_ap, seq_ap, set_ap, setO_ap, drop_ap, ret_ap, retN_ap, brk_ap, cnt_ap, never_ap, ifS_ap, aug_ap, app_ap, ext_ap, pop_ap, par_ap, asg_ap, dset_ap, stF_ap, stF2_ap, fldL_ap, see_f, see_g, okM_f, okM_g, okR_f, okR_g, okO_f, okO_g, hide_nil, hide_cons, setAll_cons, setAll_nil, wipe_nil, wipe_cons, runB_ap, runL_ap, startL_ap, startD_ap, out1_nx, out1_rt, dName_ap, dGTup_ap, dGLst_ap, dGCons_ap, dGNil_ap, dAdd_ap, dSub_ap, dMul_ap, dFdiv_ap, dMod_ap, dLt_ap, dLe_ap, dGt_ap, dGe_ap, bOf_ap, dNeg_ap, dNot_ap, eqS_int, eqS_bl, eqS_str, dInt1_ap, dInt1_bl, dMax2_ap, dMin2_ap, dAbs_ap, dSum_ap, dAny_ap, dAll_ap, dLen_l, dLen_t, dLen_a, dIx_l, dIx_t, dIx_a, dTup_ap, dLst_ap, dArm_ap, dList_l, dList_t, dTupl_ap, dTupA_ap, lstOf_ap, tupOf_t, tupOf_a, itemsOf_t, itemsOf_l, dSl_l, dSl_t, dSlL_ap, dCatL_ap, dIsN_ap, rng1_ap, rng2_ap, dRange_1, dRange_2, dRange3_ap, ownB_ap, ownT_ap, ownN_ap, eqI_ap, isC_y, il_int, il_bl, il_str, il_non, il_tup, il_lst, il_armD, il_ins, il_dic, il_ar, il_rig, Bool.false_eq_true, if_false, if_true, Res.bind_ok, Res.bind_bad, Res.out_ok, Res.out_bad, Res.calm_ok, List.map_cons, List.map_nil, List.length_cons, List.length_nil, Nat.reduceAdd, Nat.reduceSub, List.replicate, List.cons_append, List.nil_append, List.getElem?_cons_zero, List.getElem?_cons_succ, List.set_cons_succ, List.set_cons_zero, Bool.true_and, Bool.and_true, Bool.not_false, Bool.not_true, List.contains_nil, Option.bind_some, for_ap, lc_ap, Nat.reduceEqDiff, Nat.reduceLeDiff, Bool.false_xor, Bool.true_xor, and_self, decide_true, decide_false, List.lookup, List.all_cons, List.all_nil, List.contains_cons, Nat.reduceBEq, Bool.or_false, Bool.false_or, Bool.or_true, Bool.true_or, beq_self_eq_true, List.contains_nil, eqD_pl, il_pl, hd]
    unfold plD
    simp only [raise_ap, raiseI_ap, calmF_ap, le_line, lt_line, var_ap, c_ap, op_ap, un_ap, b_ap, and_ap, or_ap, not_ap, if_ap, andV_ap, orV_ap, ch_ap, nil_ap, cons_ap, star_ap, tup_ap, lst_ap, arm_ap, cb_ap, noPart_ap, part_ap, sl_ap, slL_ap, call_ap, callL_ap, mk_ap, fld_ap, prop_ap, meth_ap, callI_ap, get2_ap, dnew_ap, it_ap, itA_ap, yes_ap, next_ap, seq_ap, set_ap, setO_ap, drop_ap, ret_ap, retN_ap, brk_ap, cnt_ap, never_ap, ifS_ap, aug_ap, app_ap, ext_ap, pop_ap, par_ap, asg_ap, dset_ap, stF_ap, stF2_ap, fldL_ap, see_f, see_g, okM_f, okM_g, okR_f, okR_g, okO_f, okO_g, hide_nil, hide_cons, setAll_cons, setAll_nil, wipe_nil, wipe_cons, runB_ap, runL_ap, startL_ap, startD_ap, out1_nx, out1_rt, dName_ap, dGTup_ap, dGLst_ap, dGCons_ap, dGNil_ap, dAdd_ap, dSub_ap, dMul_ap, dFdiv_ap, dMod_ap, dLt_ap, dLe_ap, dGt_ap, dGe_ap, bOf_ap, dNeg_ap, dNot_ap, eqS_int, eqS_bl, eqS_str, dInt1_ap, dInt1_bl, dMax2_ap, dMin2_ap, dAbs_ap, dSum_ap, dAny_ap, dAll_ap, dLen_l, dLen_t, dLen_a, dIx_l, dIx_t, dIx_a, dTup_ap, dLst_ap, dArm_ap, dList_l, dList_t, dTupl_ap, dTupA_ap, lstOf_ap, tupOf_t, tupOf_a, itemsOf_t, itemsOf_l, dSl_l, dSl_t, dSlL_ap, dCatL_ap, dIsN_ap, rng1_ap, rng2_ap, dRange_1, dRange_2, dRange3_ap, ownB_ap, ownT_ap, ownN_ap, eqI_ap, isC_y, il_int, il_bl, il_str, il_non, il_tup, il_lst, il_armD, il_ins, il_dic, il_ar, il_rig, Bool.false_eq_true, if_false, if_true, Res.bind_ok, Res.bind_bad, Res.out_ok, Res.out_bad, Res.calm_ok, List.map_cons, List.map_nil, List.length_cons, List.length_nil, Nat.reduceAdd, Nat.reduceSub, List.replicate, List.cons_append, List.nil_append, List.getElem?_cons_zero, List.getElem?_cons_succ, List.set_cons_succ, List.set_cons_zero, Bool.true_and, Bool.and_true, Bool.not_false, Bool.not_true, List.contains_nil, Option.bind_some, for_ap, lc_ap, Nat.reduceEqDiff, Nat.reduceLeDiff, Bool.false_xor, Bool.true_xor, and_self, decide_true, decide_false, List.lookup, List.all_cons, List.all_nil, List.contains_cons, Nat.reduceBEq, Bool.or_false, Bool.false_or, Bool.or_true, Bool.true_or, beq_self_eq_true, List.contains_nil, e1, at0]
    simp [isNextR, out1]
  | b :: a :: r =>
    have hd : decide (b :: a :: r = []) = false := by simp
    simp only [raise_ap, raiseI_ap, calmF_ap, le_line, lt_line, var_ap, c_ap, op_ap, un_ap, b_ap, and_ap, or_ap, not_ap, if_ap, andV_ap, orV_ap, ch_ap, nil_ap, cons_ap, star_ap, tup_ap, lst_ap, arm_ap, cb_ap, noPart_ap, part_ap, sl_ap, slL_ap, call_ap, callL_ap, mk_ap, fld_ap, prop_ap, meth_ap, callI_ap, get2_ap, dnew_ap, it_ap, itA_ap, yes_ap, next_ap, seq_ap, set_ap, setO_ap, drop_ap, ret_ap, retN_ap, brk_ap, cnt_ap, never_ap, ifS_ap, aug_ap, app_ap, ext_ap, pop_ap, par_ap, asg_ap, dset_ap, stF_ap, stF2_ap, fldL_ap, see_f, see_g, okM_f, okM_g, okR_f, okR_g, okO_f, okO_g, hide_nil, hide_cons, setAll_cons, setAll_nil, wipe_nil, wipe_cons, runB_ap, runL_ap, startL_ap, startD_ap, out1_nx, out1_rt, dName_ap, dGTup_ap, dGLst_ap, dGCons_ap, dGNil_ap, dAdd_ap, dSub_ap, dMul_ap, dFdiv_ap, dMod_ap, dLt_ap, dLe_ap, dGt_ap, dGe_ap, bOf_ap, dNeg_ap, dNot_ap, eqS_int, eqS_bl, eqS_str, dInt1_ap, dInt1_bl, dMax2_ap, dMin2_ap, dAbs_ap, dSum_ap, dAny_ap, dAll_ap, dLen_l, dLen_t, dLen_a, dIx_l, dIx_t, dIx_a, dTup_ap, dLst_ap, dArm_ap, dList_l, dList_t, dTupl_ap, dTupA_ap, lstOf_ap, tupOf_t, tupOf_a, itemsOf_t, itemsOf_l, dSl_l, dSl_t, dSlL_ap, dCatL_ap, dIsN_ap, rng1_ap, rng2_ap, dRange_1, dRange_2, dRange3_ap, ownB_ap, ownT_ap, ownN_ap, eqI_ap, isC_y, il_int, il_bl, il_str, il_non, il_tup, il_lst, il_armD, il_ins, il_dic, il_ar, il_rig, Bool.false_eq_true, if_false, if_true, Res.bind_ok, Res.bind_bad, Res.out_ok, Res.out_bad, Res.calm_ok, List.map_cons, List.map_nil, List.length_cons, List.length_nil, Nat.reduceAdd, Nat.reduceSub, List.replicate, List.cons_append, List.nil_append, List.getElem?_cons_zero, List.getElem?_cons_succ, List.set_cons_succ, List.set_cons_zero, Bool.true_and, Bool.and_true, Bool.not_false, Bool.not_true, List.contains_nil, Option.bind_some, for_ap, lc_ap, Nat.reduceEqDiff, Nat.reduceLeDiff, Bool.false_xor, Bool.true_xor, and_self, decide_true, decide_false, List.lookup, List.all_cons, List.all_nil, List.contains_cons, Nat.reduceBEq, Bool.or_false, Bool.false_or, Bool.or_true, Bool.true_or, beq_self_eq_true, List.contains_nil, il_pl]
    rw [e0]
    simp only [raise_ap, raiseI_ap, calmF_ap, le_line, lt_line, var_ap, c_ap, op_ap, un_ap, b_ap, and_ap, or_ap, not_ap, if_ap, andV_ap, orV_ap, ch_ap, nil_ap, cons_ap, star_ap, tup_ap, lst_ap, arm_ap, cb_ap, noPart_ap, part_ap, sl_ap, slL_ap, call_ap, callL_ap, mk_ap, fld_ap, prop_ap, meth_ap, callI_ap, get2_ap, dnew_ap, it_ap, itA_ap, yes_ap, next_ap, seq_ap, set_ap, setO_ap, drop_ap, ret_ap, retN_ap, brk_ap, cnt_ap, never_ap, ifS_ap, aug_ap, app_ap, ext_ap, pop_ap, par_ap, asg_ap, dset_ap, stF_ap, stF2_ap, fldL_ap, see_f, see_g, okM_f, okM_g, okR_f, okR_g, okO_f, okO_g, hide_nil, hide_cons, setAll_cons, setAll_nil, wipe_nil, wipe_cons, runB_ap, runL_ap, startL_ap, startD_ap, out1_nx, out1_rt, dName_ap, dGTup_ap, dGLst_ap, dGCons_ap, dGNil_ap, dAdd_ap, dSub_ap, dMul_ap, dFdiv_ap, dMod_ap, dLt_ap, dLe_ap, dGt_ap, dGe_ap, bOf_ap, dNeg_ap, dNot_ap, eqS_int, eqS_bl, eqS_str, dInt1_ap, dInt1_bl, dMax2_ap, dMin2_ap, dAbs_ap, dSum_ap, dAny_ap, dAll_ap, dLen_l, dLen_t, dLen_a, dIx_l, dIx_t, dIx_a, dTup_ap, dLst_ap, dArm_ap, dList_l, dList_t, dTupl_ap, dTupA_ap, lstOf_ap, tupOf_t, tupOf_a, itemsOf_t, itemsOf_l, dSl_l, dSl_t, dSlL_ap, dCatL_ap, dIsN_ap, rng1_ap, rng2_ap, dRange_1, dRange_2, dRange3_ap, ownB_ap, ownT_ap, ownN_ap, eqI_ap, isC_y, il_int, il_bl, il_str, il_non, il_tup, il_lst, il_armD, il_ins, il_dic, il_ar, il_rig, Bool.false_eq_true, if_false, if_true, Res.bind_ok, Res.bind_bad, Res.out_ok, Res.out_bad, Res.calm_ok, List.map_cons, List.map_nil, List.length_cons, List.length_nil, Nat.reduceAdd, Nat.reduceSub, List.replicate, List.cons_append, List.nil_append, List.getElem?_cons_zero, List.getElem?_cons_succ, List.set_cons_succ, List.set_cons_zero, Bool.true_and, Bool.and_true, Bool.not_false, Bool.not_true, List.contains_nil, Option.bind_some, for_ap, lc_ap, Nat.reduceEqDiff, Nat.reduceLeDiff, Bool.false_xor, Bool.true_xor, and_self, decide_true, decide_false, List.lookup, List.all_cons, List.all_nil, List.contains_cons, Nat.reduceBEq, Bool.or_false, Bool.false_or, Bool.or_true, Bool.true_or, beq_self_eq_true, List.contains_nil, eqD_pl, il_pl, hd]
    unfold plD
    have hne : ¬ (((r.length + 1 + 1 : Nat) : Int) = 1) := by omega
    have e1 : Pv.cutD (plL (b :: a :: r)) (some (-2)) none = [.int a, .int b] := by rw [plL_cons2, cut_l2]
    simp only [raise_ap, raiseI_ap, calmF_ap, le_line, lt_line, var_ap, c_ap, op_ap, un_ap, b_ap, and_ap, or_ap, not_ap, if_ap, andV_ap, orV_ap, ch_ap, nil_ap, cons_ap, star_ap, tup_ap, lst_ap, arm_ap, cb_ap, noPart_ap, part_ap, sl_ap, slL_ap, call_ap, callL_ap, mk_ap, fld_ap, prop_ap, meth_ap, callI_ap, get2_ap, dnew_ap, it_ap, itA_ap, yes_ap, next_ap, seq_ap, set_ap, setO_ap, drop_ap, ret_ap, retN_ap, brk_ap, cnt_ap, never_ap, ifS_ap, aug_ap, app_ap, ext_ap, pop_ap, par_ap, asg_ap, dset_ap, stF_ap, stF2_ap, fldL_ap, see_f, see_g, okM_f, okM_g, okR_f, okR_g, okO_f, okO_g, hide_nil, hide_cons, setAll_cons, setAll_nil, wipe_nil, wipe_cons, runB_ap, runL_ap, startL_ap, startD_ap, out1_nx, out1_rt, dName_ap, dGTup_ap, dGLst_ap, dGCons_ap, dGNil_ap, dAdd_ap, dSub_ap, dMul_ap, dFdiv_ap, dMod_ap, dLt_ap, dLe_ap, dGt_ap, dGe_ap, bOf_ap, dNeg_ap, dNot_ap, eqS_int, eqS_bl, eqS_str, dInt1_ap, dInt1_bl, dMax2_ap, dMin2_ap, dAbs_ap, dSum_ap, dAny_ap, dAll_ap, dLen_l, dLen_t, dLen_a, dIx_l, dIx_t, dIx_a, dTup_ap, dLst_ap, dArm_ap, dList_l, dList_t, dTupl_ap, dTupA_ap, lstOf_ap, tupOf_t, tupOf_a, itemsOf_t, itemsOf_l, dSl_l, dSl_t, dSlL_ap, dCatL_ap, dIsN_ap, rng1_ap, rng2_ap, dRange_1, dRange_2, dRange3_ap, ownB_ap, ownT_ap, ownN_ap, eqI_ap, isC_y, il_int, il_bl, il_str, il_non, il_tup, il_lst, il_armD, il_ins, il_dic, il_ar, il_rig, Bool.false_eq_true, if_false, if_true, Res.bind_ok, Res.bind_bad, Res.out_ok, Res.out_bad, Res.calm_ok, List.map_cons, List.map_nil, List.length_cons, List.length_nil, Nat.reduceAdd, Nat.reduceSub, List.replicate, List.cons_append, List.nil_append, List.getElem?_cons_zero, List.getElem?_cons_succ, List.set_cons_succ, List.set_cons_zero, Bool.true_and, Bool.and_true, Bool.not_false, Bool.not_true, List.contains_nil, Option.bind_some, for_ap, lc_ap, Nat.reduceEqDiff, Nat.reduceLeDiff, Bool.false_xor, Bool.true_xor, and_self, decide_true, decide_false, List.lookup, List.all_cons, List.all_nil, List.contains_cons, Nat.reduceBEq, Bool.or_false, Bool.false_or, Bool.or_true, Bool.true_or, beq_self_eq_true, List.contains_nil, plL_len, hne, e1, dMinU, dMaxU, intsOf, Option.map_some, loI, hiI, isNextR]
    by_cases hm : min a b < p
    · simp only [hm, raise_ap, raiseI_ap, calmF_ap, le_line, lt_line, var_ap, c_ap, op_ap, un_ap, b_ap, and_ap, or_ap, not_ap, if_ap, andV_ap, orV_ap, ch_ap, nil_ap, cons_ap, star_ap, tup_ap, lst_ap, arm_ap, cb_ap, noPart_ap, part_ap, sl_ap, slL_ap, call_ap, callL_ap, mk_ap, fld_ap, prop_ap, meth_ap, callI_ap, get2_ap, dnew_ap, it_ap, itA_ap, yes_ap, next_ap, seq_ap, set_ap, setO_ap, drop_ap, ret_ap, retN_ap, brk_ap, cnt_ap, never_ap, ifS_ap, aug_ap, app_ap, ext_ap, pop_ap, par_ap, asg_ap, dset_ap, stF_ap, stF2_ap, fldL_ap, see_f, see_g, okM_f, okM_g, okR_f, okR_g, okO_f, okO_g, hide_nil, hide_cons, setAll_cons, setAll_nil, wipe_nil, wipe_cons, runB_ap, runL_ap, startL_ap, startD_ap, out1_nx, out1_rt, dName_ap, dGTup_ap, dGLst_ap, dGCons_ap, dGNil_ap, dAdd_ap, dSub_ap, dMul_ap, dFdiv_ap, dMod_ap, dLt_ap, dLe_ap, dGt_ap, dGe_ap, bOf_ap, dNeg_ap, dNot_ap, eqS_int, eqS_bl, eqS_str, dInt1_ap, dInt1_bl, dMax2_ap, dMin2_ap, dAbs_ap, dSum_ap, dAny_ap, dAll_ap, dLen_l, dLen_t, dLen_a, dIx_l, dIx_t, dIx_a, dTup_ap, dLst_ap, dArm_ap, dList_l, dList_t, dTupl_ap, dTupA_ap, lstOf_ap, tupOf_t, tupOf_a, itemsOf_t, itemsOf_l, dSl_l, dSl_t, dSlL_ap, dCatL_ap, dIsN_ap, rng1_ap, rng2_ap, dRange_1, dRange_2, dRange3_ap, ownB_ap, ownT_ap, ownN_ap, eqI_ap, isC_y, il_int, il_bl, il_str, il_non, il_tup, il_lst, il_armD, il_ins, il_dic, il_ar, il_rig, Bool.false_eq_true, if_false, if_true, Res.bind_ok, Res.bind_bad, Res.out_ok, Res.out_bad, Res.calm_ok, List.map_cons, List.map_nil, List.length_cons, List.length_nil, Nat.reduceAdd, Nat.reduceSub, List.replicate, List.cons_append, List.nil_append, List.getElem?_cons_zero, List.getElem?_cons_succ, List.set_cons_succ, List.set_cons_zero, Bool.true_and, Bool.and_true, Bool.not_false, Bool.not_true, List.contains_nil, Option.bind_some, for_ap, lc_ap, Nat.reduceEqDiff, Nat.reduceLeDiff, Bool.false_xor, Bool.true_xor, and_self, decide_true, decide_false, List.lookup, List.all_cons, List.all_nil, List.contains_cons, Nat.reduceBEq, Bool.or_false, Bool.false_or, Bool.or_true, Bool.true_or, beq_self_eq_true, List.contains_nil]
    · simp only [hm, raise_ap, raiseI_ap, calmF_ap, le_line, lt_line, var_ap, c_ap, op_ap, un_ap, b_ap, and_ap, or_ap, not_ap, if_ap, andV_ap, orV_ap, ch_ap, nil_ap, cons_ap, star_ap, tup_ap, lst_ap, arm_ap, cb_ap, noPart_ap, part_ap, sl_ap, slL_ap, call_ap, callL_ap, mk_ap, fld_ap, prop_ap, meth_ap, callI_ap, get2_ap, dnew_ap, it_ap, itA_ap, yes_ap, next_ap, seq_ap, set_ap, setO_ap, drop_ap, ret_ap, retN_ap, brk_ap, cnt_ap, never_ap, ifS_ap, aug_ap, app_ap, ext_ap, pop_ap, par_ap, asg_ap, dset_ap, stF_ap, stF2_ap, fldL_ap, see_f, see_g, okM_f, okM_g, okR_f, okR_g, okO_f, okO_g, hide_nil, hide_cons, setAll_cons, setAll_nil, wipe_nil, wipe_cons, runB_ap, runL_ap, startL_ap, startD_ap, out1_nx, out1_rt, dName_ap, dGTup_ap, dGLst_ap, dGCons_ap, dGNil_ap, dAdd_ap, dSub_ap, dMul_ap, dFdiv_ap, dMod_ap, dLt_ap, dLe_ap, dGt_ap, dGe_ap, bOf_ap, dNeg_ap, dNot_ap, eqS_int, eqS_bl, eqS_str, dInt1_ap, dInt1_bl, dMax2_ap, dMin2_ap, dAbs_ap, dSum_ap, dAny_ap, dAll_ap, dLen_l, dLen_t, dLen_a, dIx_l, dIx_t, dIx_a, dTup_ap, dLst_ap, dArm_ap, dList_l, dList_t, dTupl_ap, dTupA_ap, lstOf_ap, tupOf_t, tupOf_a, itemsOf_t, itemsOf_l, dSl_l, dSl_t, dSlL_ap, dCatL_ap, dIsN_ap, rng1_ap, rng2_ap, dRange_1, dRange_2, dRange3_ap, ownB_ap, ownT_ap, ownN_ap, eqI_ap, isC_y, il_int, il_bl, il_str, il_non, il_tup, il_lst, il_armD, il_ins, il_dic, il_ar, il_rig, Bool.false_eq_true, if_false, if_true, Res.bind_ok, Res.bind_bad, Res.out_ok, Res.out_bad, Res.calm_ok, List.map_cons, List.map_nil, List.length_cons, List.length_nil, Nat.reduceAdd, Nat.reduceSub, List.replicate, List.cons_append, List.nil_append, List.getElem?_cons_zero, List.getElem?_cons_succ, List.set_cons_succ, List.set_cons_zero, Bool.true_and, Bool.and_true, Bool.not_false, Bool.not_true, List.contains_nil, Option.bind_some, for_ap, lc_ap, Nat.reduceEqDiff, Nat.reduceLeDiff, Bool.false_xor, Bool.true_xor, and_self, decide_true, decide_false, List.lookup, List.all_cons, List.all_nil, List.contains_cons, Nat.reduceBEq, Bool.or_false, Bool.false_or, Bool.or_true, Bool.true_or, beq_self_eq_true, List.contains_nil, Bool.false_and]
theorem pl_take (rs : List Int) (i : Nat) : plL (rs.drop (rs.length - i)) = (plL rs).take i := by
  unfold plL
  rw [← List.map_take, List.take_reverse]
theorem plD_enum (rs : List Int) : enD (plL rs) = (List.range rs.length).map fun i => .tup [.int (i : Int), .int (rs.reverse.getD i 0)] := by
  have := enD_range rs.reverse
  rw [List.length_reverse] at this
  exact this
theorem e_mem_init {rs : List Int} {R : Rs} (m : MemOk rs) : f_Memory_init R.length [plD rs] (R ++ [.ins "Memory" []]) = .ok .non (R ++ [memD rs]) := by
  unfold f_Memory_init m_Memory_init
  have e0 : D.tup [] = plD [] := rfl
  have hne : decide (rs = []) = false := by simp [m.1]
  have ek : ∀ R, dIsK .tup [plD rs, .ty "tuple"] R = .ok (.bl true) R := fun R => isK_tt
  have ee : ∀ R, enumT [plD rs] R = .ok (enD (plL rs)) R := fun R => rfl
  simp only [raise_ap, raiseI_ap, calmF_ap, le_line, lt_line, var_ap, c_ap, op_ap, un_ap, b_ap, and_ap, or_ap, not_ap, if_ap, andV_ap, orV_ap, ch_ap, nil_ap, cons_ap, star_ap, tup_ap, lst_ap, arm_ap, cb_ap, noPart_ap, part_ap, sl_ap, slL_ap, call_ap, callL_ap, mk_ap, fld_ap, prop_ap, meth_ap, callI_ap, get2_ap, dnew_ap, it_ap, itA_ap, yes_ap, next_ap, seq_ap, set_ap, setO_ap, drop_ap, ret_ap, retN_ap, brk_ap, cnt_ap, never_ap, ifS_ap, aug_ap, app_ap, ext_ap, pop_ap, par_ap, asg_ap, dset_ap, stF_ap, stF2_ap, fldL_ap, see_f, see_g, okM_f, okM_g, okR_f, okR_g, okO_f, okO_g, hide_nil, hide_cons, setAll_cons, setAll_nil, wipe_nil, wipe_cons, runB_ap, runL_ap, startL_ap, startD_ap, out1_nx, out1_rt, dName_ap, dGTup_ap, dGLst_ap, dGCons_ap, dGNil_ap, dAdd_ap, dSub_ap, dMul_ap, dFdiv_ap, dMod_ap, dLt_ap, dLe_ap, dGt_ap, dGe_ap, bOf_ap, dNeg_ap, dNot_ap, eqS_int, eqS_bl, eqS_str, dInt1_ap, dInt1_bl, dMax2_ap, dMin2_ap, dAbs_ap, dSum_ap, dAny_ap, dAll_ap, dLen_l, dLen_t, dLen_a, dIx_l, dIx_t, dIx_a, dTup_ap, dLst_ap, dArm_ap, dList_l, dList_t, dTupl_ap, dTupA_ap, lstOf_ap, tupOf_t, tupOf_a, itemsOf_t, itemsOf_l, dSl_l, dSl_t, dSlL_ap, dCatL_ap, dIsN_ap, rng1_ap, rng2_ap, dRange_1, dRange_2, dRange3_ap, ownB_ap, ownT_ap, ownN_ap, eqI_ap, isC_y, il_int, il_bl, il_str, il_non, il_tup, il_lst, il_armD, il_ins, il_dic, il_ar, il_rig, Bool.false_eq_true, if_false, if_true, Res.bind_ok, Res.bind_bad, Res.out_ok, Res.out_bad, Res.calm_ok, List.map_cons, List.map_nil, List.length_cons, List.length_nil, Nat.reduceAdd, Nat.reduceSub, List.replicate, List.cons_append, List.nil_append, List.getElem?_cons_zero, List.getElem?_cons_succ, List.set_cons_succ, List.set_cons_zero, Bool.true_and, Bool.and_true, Bool.not_false, Bool.not_true, List.contains_nil, Option.bind_some, for_ap, lc_ap, Nat.reduceEqDiff, Nat.reduceLeDiff, Bool.false_xor, Bool.true_xor, and_self, decide_true, decide_false, List.lookup, List.all_cons, List.all_nil, List.contains_cons, Nat.reduceBEq, Bool.or_false, Bool.false_or, Bool.or_true, Bool.true_or, beq_self_eq_true, List.contains_nil, il_pl, ek]
  rw [e0]
  simp only [raise_ap, raiseI_ap, calmF_ap, le_line, lt_line, var_ap, c_ap, op_ap, un_ap, b_ap, and_ap, or_ap, not_ap, if_ap, andV_ap, orV_ap, ch_ap, nil_ap, cons_ap, star_ap, tup_ap, lst_ap, arm_ap, cb_ap, noPart_ap, part_ap, sl_ap, slL_ap, call_ap, callL_ap, mk_ap, fld_ap, prop_ap, meth_ap, callI_ap, get2_ap, dnew_ap, it_ap, itA_ap, yes_ap, next_ap, seq_ap, set_ap, setO_ap, drop_ap, ret_ap, retN_ap, brk_ap, cnt_ap, never_ap, ifS_ap, aug_ap, app_ap, ext_ap, pop_ap, par_ap, asg_ap, dset_ap, stF_ap, stF2_ap, fldL_ap, see_f, see_g, okM_f, okM_g, okR_f, okR_g, okO_f, okO_g, hide_nil, hide_cons, setAll_cons, setAll_nil, wipe_nil, wipe_cons, runB_ap, runL_ap, startL_ap, startD_ap, out1_nx, out1_rt, dName_ap, dGTup_ap, dGLst_ap, dGCons_ap, dGNil_ap, dAdd_ap, dSub_ap, dMul_ap, dFdiv_ap, dMod_ap, dLt_ap, dLe_ap, dGt_ap, dGe_ap, bOf_ap, dNeg_ap, dNot_ap, eqS_int, eqS_bl, eqS_str, dInt1_ap, dInt1_bl, dMax2_ap, dMin2_ap, dAbs_ap, dSum_ap, dAny_ap, dAll_ap, dLen_l, dLen_t, dLen_a, dIx_l, dIx_t, dIx_a, dTup_ap, dLst_ap, dArm_ap, dList_l, dList_t, dTupl_ap, dTupA_ap, lstOf_ap, tupOf_t, tupOf_a, itemsOf_t, itemsOf_l, dSl_l, dSl_t, dSlL_ap, dCatL_ap, dIsN_ap, rng1_ap, rng2_ap, dRange_1, dRange_2, dRange3_ap, ownB_ap, ownT_ap, ownN_ap, eqI_ap, isC_y, il_int, il_bl, il_str, il_non, il_tup, il_lst, il_armD, il_ins, il_dic, il_ar, il_rig, Bool.false_eq_true, if_false, if_true, Res.bind_ok, Res.bind_bad, Res.out_ok, Res.out_bad, Res.calm_ok, List.map_cons, List.map_nil, List.length_cons, List.length_nil, Nat.reduceAdd, Nat.reduceSub, List.replicate, List.cons_append, List.nil_append, List.getElem?_cons_zero, List.getElem?_cons_succ, List.set_cons_succ, List.set_cons_zero, Bool.true_and, Bool.and_true, Bool.not_false, Bool.not_true, List.contains_nil, Option.bind_some, for_ap, lc_ap, Nat.reduceEqDiff, Nat.reduceLeDiff, Bool.false_xor, Bool.true_xor, and_self, decide_true, decide_false, List.lookup, List.all_cons, List.all_nil, List.contains_cons, Nat.reduceBEq, Bool.or_false, Bool.false_or, Bool.or_true, Bool.true_or, beq_self_eq_true, List.contains_nil, eqD_pl, il_pl, hne, ee, plD_enum]
  obtain ⟨ρ2, R2, h1, h2⟩ := loopG_range (T := dGTup 2 (dGCons (dName 2) (dGCons (dName 3) dGNil))) (n := rs.length) (enc := fun i : Nat => D.tup [.int (i : Int), .int (rs.reverse.getD i 0)])
    (b := gIfS .f [] (gOr (gNot (gB (gCall 1 f_is_place (Pv.gCons (gVar 3) Pv.gNil)))) (gNot (gB (gCall 2 f_is_next (Pv.gCons (gSl (gVar 1) gNoPart (gPart (gVar 2))) (Pv.gCons (gVar 3) Pv.gNil)))))) (gRaiseI "InvalidMemory" "index" (gVar 2)) gNext)
    (fun i ρ R1 => R1 = R ++ [.ins "Memory" []] ∧ ∃ u v, ρ = [some (.loc R.length), some (plD rs), u, v])
    (ρ := [some (.loc R.length), some (plD rs), none, none]) (R := R ++ [.ins "Memory" []]) ⟨rfl, none, none, rfl⟩ (by
      rintro i ρ R1 hi ⟨rfl, u, v, rfl⟩
      refine ⟨_, rfl, ?_⟩
      have hk := Mt.memV_at (k := rs.length - 1 - i) m.2 (by omega)
      have e1 : rs.reverse.getD i 0 = rs[rs.length - 1 - i] := by
        simp [List.getD, hi]
      have e2 : ∀ R, dSl (plD rs) none (some (i : Int)) R = .ok (plD (rs.drop (rs.length - i))) R := fun R => by
        unfold plD
        rw [dSl_t, cut_take, pl_take]
      have e3 : rs.length - 1 - i + 1 = rs.length - i := by omega
      rw [e3] at hk
      rw [e1]
      simp only [raise_ap, raiseI_ap, calmF_ap, le_line, lt_line, var_ap, c_ap, op_ap, un_ap, b_ap, and_ap, or_ap, not_ap, if_ap, andV_ap, orV_ap, ch_ap, nil_ap, cons_ap, star_ap, tup_ap, lst_ap, arm_ap, cb_ap, noPart_ap, part_ap, sl_ap, slL_ap, call_ap, callL_ap, mk_ap, fld_ap, prop_ap, meth_ap, callI_ap, get2_ap, dnew_ap, it_ap, itA_ap, yes_ap, next_ap, seq_ap, set_ap, setO_ap, drop_ap, ret_ap, retN_ap, brk_ap, cnt_ap, never_ap, ifS_ap, aug_ap, app_ap, ext_ap, pop_ap, par_ap, asg_ap, dset_ap, stF_ap, stF2_ap, fldL_ap, see_f, see_g, okM_f, okM_g, okR_f, okR_g, okO_f, okO_g, hide_nil, hide_cons, setAll_cons, setAll_nil, wipe_nil, wipe_cons, runB_ap, runL_ap, startL_ap, startD_ap, out1_nx, out1_rt, dName_ap, dGTup_ap, dGLst_ap, dGCons_ap, dGNil_ap, dAdd_ap, dSub_ap, dMul_ap, dFdiv_ap, dMod_ap, dLt_ap, dLe_ap, dGt_ap, dGe_ap, bOf_ap, dNeg_ap, dNot_ap, eqS_int, eqS_bl, eqS_str, dInt1_ap, dInt1_bl, dMax2_ap, dMin2_ap, dAbs_ap, dSum_ap, dAny_ap, dAll_ap, dLen_l, dLen_t, dLen_a, dIx_l, dIx_t, dIx_a, dTup_ap, dLst_ap, dArm_ap, dList_l, dList_t, dTupl_ap, dTupA_ap, lstOf_ap, tupOf_t, tupOf_a, itemsOf_t, itemsOf_l, dSl_l, dSl_t, dSlL_ap, dCatL_ap, dIsN_ap, rng1_ap, rng2_ap, dRange_1, dRange_2, dRange3_ap, ownB_ap, ownT_ap, ownN_ap, eqI_ap, isC_y, il_int, il_bl, il_str, il_non, il_tup, il_lst, il_armD, il_ins, il_dic, il_ar, il_rig, Bool.false_eq_true, if_false, if_true, Res.bind_ok, Res.bind_bad, Res.out_ok, Res.out_bad, Res.calm_ok, List.map_cons, List.map_nil, List.length_cons, List.length_nil, Nat.reduceAdd, Nat.reduceSub, List.replicate, List.cons_append, List.nil_append, List.getElem?_cons_zero, List.getElem?_cons_succ, List.set_cons_succ, List.set_cons_zero, Bool.true_and, Bool.and_true, Bool.not_false, Bool.not_true, List.contains_nil, Option.bind_some, for_ap, lc_ap, Nat.reduceEqDiff, Nat.reduceLeDiff, Bool.false_xor, Bool.true_xor, and_self, decide_true, decide_false, List.lookup, List.all_cons, List.all_nil, List.contains_cons, Nat.reduceBEq, Bool.or_false, Bool.false_or, Bool.or_true, Bool.true_or, beq_self_eq_true, List.contains_nil, il_pl, e2, e_is_place hk.1, e_is_next, hk.2]
      exact ⟨_, _, .inl rfl, rfl, _, _, rfl⟩)
  obtain ⟨rfl, u, v, rfl⟩ := h2
  simp only [h1, raise_ap, raiseI_ap, calmF_ap, le_line, lt_line, var_ap, c_ap, op_ap, un_ap, b_ap, and_ap, or_ap, not_ap, if_ap, andV_ap, orV_ap, ch_ap, nil_ap, cons_ap, star_ap, tup_ap, lst_ap, arm_ap, cb_ap, noPart_ap, part_ap, sl_ap, slL_ap, call_ap, callL_ap, mk_ap, fld_ap, prop_ap, meth_ap, callI_ap, get2_ap, dnew_ap, it_ap, itA_ap, yes_ap, next_ap, seq_ap, set_ap, setO_ap, drop_ap, ret_ap, retN_ap, brk_ap, cnt_ap, never_ap, ifS_ap, aug_ap, app_ap, ext_ap, pop_ap, par_ap, asg_ap, dset_ap, stF_ap, stF2_ap, fldL_ap, see_f, see_g, okM_f, okM_g, okR_f, okR_g, okO_f, okO_g, hide_nil, hide_cons, setAll_cons, setAll_nil, wipe_nil, wipe_cons, runB_ap, runL_ap, startL_ap, startD_ap, out1_nx, out1_rt, dName_ap, dGTup_ap, dGLst_ap, dGCons_ap, dGNil_ap, dAdd_ap, dSub_ap, dMul_ap, dFdiv_ap, dMod_ap, dLt_ap, dLe_ap, dGt_ap, dGe_ap, bOf_ap, dNeg_ap, dNot_ap, eqS_int, eqS_bl, eqS_str, dInt1_ap, dInt1_bl, dMax2_ap, dMin2_ap, dAbs_ap, dSum_ap, dAny_ap, dAll_ap, dLen_l, dLen_t, dLen_a, dIx_l, dIx_t, dIx_a, dTup_ap, dLst_ap, dArm_ap, dList_l, dList_t, dTupl_ap, dTupA_ap, lstOf_ap, tupOf_t, tupOf_a, itemsOf_t, itemsOf_l, dSl_l, dSl_t, dSlL_ap, dCatL_ap, dIsN_ap, rng1_ap, rng2_ap, dRange_1, dRange_2, dRange3_ap, ownB_ap, ownT_ap, ownN_ap, eqI_ap, isC_y, il_int, il_bl, il_str, il_non, il_tup, il_lst, il_armD, il_ins, il_dic, il_ar, il_rig, Bool.false_eq_true, if_false, if_true, Res.bind_ok, Res.bind_bad, Res.out_ok, Res.out_bad, Res.calm_ok, List.map_cons, List.map_nil, List.length_cons, List.length_nil, Nat.reduceAdd, Nat.reduceSub, List.replicate, List.cons_append, List.nil_append, List.getElem?_cons_zero, List.getElem?_cons_succ, List.set_cons_succ, List.set_cons_zero, Bool.true_and, Bool.and_true, Bool.not_false, Bool.not_true, List.contains_nil, Option.bind_some, for_ap, lc_ap, Nat.reduceEqDiff, Nat.reduceLeDiff, Bool.false_xor, Bool.true_xor, and_self, decide_true, decide_false, List.lookup, List.all_cons, List.all_nil, List.contains_cons, Nat.reduceBEq, Bool.or_false, Bool.false_or, Bool.or_true, Bool.true_or, beq_self_eq_true, List.contains_nil, il_pl]
  simp [memD, putFD, out1]
theorem mk_mem {rs : List Int} {R : Rs} (m : MemOk rs) : mkEnd "Memory" R.length (f_Memory_init R.length [plD rs] (R ++ [.ins "Memory" []])) = .ok (memD rs) R := by
  rw [e_mem_init m]; exact mkEnd_ok rfl
theorem mem_told {rs : List Int} : (List.lookup ("told" : Str) [(("told" : Str), plD rs)]) = some (plD rs) := by simp [List.lookup]
theorem e_mem_places {rs : List Int} {R : Rs} : f_Memory_places [memD rs] R = .ok (plD rs) R := by
  unfold f_Memory_places
  refine pureF_ok ?_
  unfold m_Memory_places memD
  simp only [raise_ap, raiseI_ap, calmF_ap, le_line, lt_line, var_ap, c_ap, op_ap, un_ap, b_ap, and_ap, or_ap, not_ap, if_ap, andV_ap, orV_ap, ch_ap, nil_ap, cons_ap, star_ap, tup_ap, lst_ap, arm_ap, cb_ap, noPart_ap, part_ap, sl_ap, slL_ap, call_ap, callL_ap, mk_ap, fld_ap, prop_ap, meth_ap, callI_ap, get2_ap, dnew_ap, it_ap, itA_ap, yes_ap, next_ap, seq_ap, set_ap, setO_ap, drop_ap, ret_ap, retN_ap, brk_ap, cnt_ap, never_ap, ifS_ap, aug_ap, app_ap, ext_ap, pop_ap, par_ap, asg_ap, dset_ap, stF_ap, stF2_ap, fldL_ap, see_f, see_g, okM_f, okM_g, okR_f, okR_g, okO_f, okO_g, hide_nil, hide_cons, setAll_cons, setAll_nil, wipe_nil, wipe_cons, runB_ap, runL_ap, startL_ap, startD_ap, out1_nx, out1_rt, dName_ap, dGTup_ap, dGLst_ap, dGCons_ap, dGNil_ap, dAdd_ap, dSub_ap, dMul_ap, dFdiv_ap, dMod_ap, dLt_ap, dLe_ap, dGt_ap, dGe_ap, bOf_ap, dNeg_ap, dNot_ap, eqS_int, eqS_bl, eqS_str, dInt1_ap, dInt1_bl, dMax2_ap, dMin2_ap, dAbs_ap, dSum_ap, dAny_ap, dAll_ap, dLen_l, dLen_t, dLen_a, dIx_l, dIx_t, dIx_a, dTup_ap, dLst_ap, dArm_ap, dList_l, dList_t, dTupl_ap, dTupA_ap, lstOf_ap, tupOf_t, tupOf_a, itemsOf_t, itemsOf_l, dSl_l, dSl_t, dSlL_ap, dCatL_ap, dIsN_ap, rng1_ap, rng2_ap, dRange_1, dRange_2, dRange3_ap, ownB_ap, ownT_ap, ownN_ap, eqI_ap, isC_y, il_int, il_bl, il_str, il_non, il_tup, il_lst, il_armD, il_ins, il_dic, il_ar, il_rig, Bool.false_eq_true, if_false, if_true, Res.bind_ok, Res.bind_bad, Res.out_ok, Res.out_bad, Res.calm_ok, List.map_cons, List.map_nil, List.length_cons, List.length_nil, Nat.reduceAdd, Nat.reduceSub, List.replicate, List.cons_append, List.nil_append, List.getElem?_cons_zero, List.getElem?_cons_succ, List.set_cons_succ, List.set_cons_zero, Bool.true_and, Bool.and_true, Bool.not_false, Bool.not_true, List.contains_nil, Option.bind_some, for_ap, lc_ap, Nat.reduceEqDiff, Nat.reduceLeDiff, Bool.false_xor, Bool.true_xor, and_self, decide_true, decide_false, List.lookup, List.all_cons, List.all_nil, List.contains_cons, Nat.reduceBEq, Bool.or_false, Bool.false_or, Bool.or_true, Bool.true_or, beq_self_eq_true, List.contains_nil, mem_told]
theorem e_mem_place {a : Int} {r : List Int} {R : Rs} : f_Memory_place [memD (a :: r)] R = .ok (.int a) R := by
  unfold f_Memory_place
  refine pureF_ok ?_
  unfold m_Memory_place memD
  simp only [raise_ap, raiseI_ap, calmF_ap, le_line, lt_line, var_ap, c_ap, op_ap, un_ap, b_ap, and_ap, or_ap, not_ap, if_ap, andV_ap, orV_ap, ch_ap, nil_ap, cons_ap, star_ap, tup_ap, lst_ap, arm_ap, cb_ap, noPart_ap, part_ap, sl_ap, slL_ap, call_ap, callL_ap, mk_ap, fld_ap, prop_ap, meth_ap, callI_ap, get2_ap, dnew_ap, it_ap, itA_ap, yes_ap, next_ap, seq_ap, set_ap, setO_ap, drop_ap, ret_ap, retN_ap, brk_ap, cnt_ap, never_ap, ifS_ap, aug_ap, app_ap, ext_ap, pop_ap, par_ap, asg_ap, dset_ap, stF_ap, stF2_ap, fldL_ap, see_f, see_g, okM_f, okM_g, okR_f, okR_g, okO_f, okO_g, hide_nil, hide_cons, setAll_cons, setAll_nil, wipe_nil, wipe_cons, runB_ap, runL_ap, startL_ap, startD_ap, out1_nx, out1_rt, dName_ap, dGTup_ap, dGLst_ap, dGCons_ap, dGNil_ap, dAdd_ap, dSub_ap, dMul_ap, dFdiv_ap, dMod_ap, dLt_ap, dLe_ap, dGt_ap, dGe_ap, bOf_ap, dNeg_ap, dNot_ap, eqS_int, eqS_bl, eqS_str, dInt1_ap, dInt1_bl, dMax2_ap, dMin2_ap, dAbs_ap, dSum_ap, dAny_ap, dAll_ap, dLen_l, dLen_t, dLen_a, dIx_l, dIx_t, dIx_a, dTup_ap, dLst_ap, dArm_ap, dList_l, dList_t, dTupl_ap, dTupA_ap, lstOf_ap, tupOf_t, tupOf_a, itemsOf_t, itemsOf_l, dSl_l, dSl_t, dSlL_ap, dCatL_ap, dIsN_ap, rng1_ap, rng2_ap, dRange_1, dRange_2, dRange3_ap, ownB_ap, ownT_ap, ownN_ap, eqI_ap, isC_y, il_int, il_bl, il_str, il_non, il_tup, il_lst, il_armD, il_ins, il_dic, il_ar, il_rig, Bool.false_eq_true, if_false, if_true, Res.bind_ok, Res.bind_bad, Res.out_ok, Res.out_bad, Res.calm_ok, List.map_cons, List.map_nil, List.length_cons, List.length_nil, Nat.reduceAdd, Nat.reduceSub, List.replicate, List.cons_append, List.nil_append, List.getElem?_cons_zero, List.getElem?_cons_succ, List.set_cons_succ, List.set_cons_zero, Bool.true_and, Bool.and_true, Bool.not_false, Bool.not_true, List.contains_nil, Option.bind_some, for_ap, lc_ap, Nat.reduceEqDiff, Nat.reduceLeDiff, Bool.false_xor, Bool.true_xor, and_self, decide_true, decide_false, List.lookup, List.all_cons, List.all_nil, List.contains_cons, Nat.reduceBEq, Bool.or_false, Bool.false_or, Bool.or_true, Bool.true_or, beq_self_eq_true, List.contains_nil, mem_told]
  unfold plD
  simp only [raise_ap, raiseI_ap, calmF_ap, le_line, lt_line, var_ap, c_ap, op_ap, un_ap, b_ap, and_ap, or_ap, not_ap, if_ap, andV_ap, orV_ap, ch_ap, nil_ap, cons_ap, star_ap, tup_ap, lst_ap, arm_ap, cb_ap, noPart_ap, part_ap, sl_ap, slL_ap, call_ap, callL_ap, mk_ap, fld_ap, prop_ap, meth_ap, callI_ap, get2_ap, dnew_ap, it_ap, itA_ap, yes_ap, next_ap, seq_ap, set_ap, setO_ap, drop_ap, ret_ap, retN_ap, brk_ap, cnt_ap, never_ap, ifS_ap, aug_ap, app_ap, ext_ap, pop_ap, par_ap, asg_ap, dset_ap, stF_ap, stF2_ap, fldL_ap, see_f, see_g, okM_f, okM_g, okR_f, okR_g, okO_f, okO_g, hide_nil, hide_cons, setAll_cons, setAll_nil, wipe_nil, wipe_cons, runB_ap, runL_ap, startL_ap, startD_ap, out1_nx, out1_rt, dName_ap, dGTup_ap, dGLst_ap, dGCons_ap, dGNil_ap, dAdd_ap, dSub_ap, dMul_ap, dFdiv_ap, dMod_ap, dLt_ap, dLe_ap, dGt_ap, dGe_ap, bOf_ap, dNeg_ap, dNot_ap, eqS_int, eqS_bl, eqS_str, dInt1_ap, dInt1_bl, dMax2_ap, dMin2_ap, dAbs_ap, dSum_ap, dAny_ap, dAll_ap, dLen_l, dLen_t, dLen_a, dIx_l, dIx_t, dIx_a, dTup_ap, dLst_ap, dArm_ap, dList_l, dList_t, dTupl_ap, dTupA_ap, lstOf_ap, tupOf_t, tupOf_a, itemsOf_t, itemsOf_l, dSl_l, dSl_t, dSlL_ap, dCatL_ap, dIsN_ap, rng1_ap, rng2_ap, dRange_1, dRange_2, dRange3_ap, ownB_ap, ownT_ap, ownN_ap, eqI_ap, isC_y, il_int, il_bl, il_str, il_non, il_tup, il_lst, il_armD, il_ins, il_dic, il_ar, il_rig, Bool.false_eq_true, if_false, if_true, Res.bind_ok, Res.bind_bad, Res.out_ok, Res.out_bad, Res.calm_ok, List.map_cons, List.map_nil, List.length_cons, List.length_nil, Nat.reduceAdd, Nat.reduceSub, List.replicate, List.cons_append, List.nil_append, List.getElem?_cons_zero, List.getElem?_cons_succ, List.set_cons_succ, List.set_cons_zero, Bool.true_and, Bool.and_true, Bool.not_false, Bool.not_true, List.contains_nil, Option.bind_some, for_ap, lc_ap, Nat.reduceEqDiff, Nat.reduceLeDiff, Bool.false_xor, Bool.true_xor, and_self, decide_true, decide_false, List.lookup, List.all_cons, List.all_nil, List.contains_cons, Nat.reduceBEq, Bool.or_false, Bool.false_or, Bool.or_true, Bool.true_or, beq_self_eq_true, List.contains_nil, at_pl1]
theorem e_mem_eq {rs gs : List Int} {R : Rs} : f_Memory_eq [memD rs, memD gs] R = .ok (.bl (decide (rs = gs))) R := by
  unfold f_Memory_eq
  refine pureF_ok ?_
  unfold m_Memory_eq memD
  simp only [raise_ap, raiseI_ap, calmF_ap, le_line, lt_line, var_ap, c_ap, op_ap, un_ap, b_ap, and_ap, or_ap, not_ap, if_ap, andV_ap, orV_ap, ch_ap, nil_ap, cons_ap, star_ap, tup_ap, lst_ap, arm_ap, cb_ap, noPart_ap, part_ap, sl_ap, slL_ap, call_ap, callL_ap, mk_ap, fld_ap, prop_ap, meth_ap, callI_ap, get2_ap, dnew_ap, it_ap, itA_ap, yes_ap, next_ap, seq_ap, set_ap, setO_ap, drop_ap, ret_ap, retN_ap, brk_ap, cnt_ap, never_ap, ifS_ap, aug_ap, app_ap, ext_ap, pop_ap, par_ap, asg_ap, dset_ap, stF_ap, stF2_ap, fldL_ap, see_f, see_g, okM_f, okM_g, okR_f, okR_g, okO_f, okO_g, hide_nil, hide_cons, setAll_cons, setAll_nil, wipe_nil, wipe_cons, runB_ap, runL_ap, startL_ap, startD_ap, out1_nx, out1_rt, dName_ap, dGTup_ap, dGLst_ap, dGCons_ap, dGNil_ap, dAdd_ap, dSub_ap, dMul_ap, dFdiv_ap, dMod_ap, dLt_ap, dLe_ap, dGt_ap, dGe_ap, bOf_ap, dNeg_ap, dNot_ap, eqS_int, eqS_bl, eqS_str, dInt1_ap, dInt1_bl, dMax2_ap, dMin2_ap, dAbs_ap, dSum_ap, dAny_ap, dAll_ap, dLen_l, dLen_t, dLen_a, dIx_l, dIx_t, dIx_a, dTup_ap, dLst_ap, dArm_ap, dList_l, dList_t, dTupl_ap, dTupA_ap, lstOf_ap, tupOf_t, tupOf_a, itemsOf_t, itemsOf_l, dSl_l, dSl_t, dSlL_ap, dCatL_ap, dIsN_ap, rng1_ap, rng2_ap, dRange_1, dRange_2, dRange3_ap, ownB_ap, ownT_ap, ownN_ap, eqI_ap, isC_y, il_int, il_bl, il_str, il_non, il_tup, il_lst, il_armD, il_ins, il_dic, il_ar, il_rig, Bool.false_eq_true, if_false, if_true, Res.bind_ok, Res.bind_bad, Res.out_ok, Res.out_bad, Res.calm_ok, List.map_cons, List.map_nil, List.length_cons, List.length_nil, Nat.reduceAdd, Nat.reduceSub, List.replicate, List.cons_append, List.nil_append, List.getElem?_cons_zero, List.getElem?_cons_succ, List.set_cons_succ, List.set_cons_zero, Bool.true_and, Bool.and_true, Bool.not_false, Bool.not_true, List.contains_nil, Option.bind_some, for_ap, lc_ap, Nat.reduceEqDiff, Nat.reduceLeDiff, Bool.false_xor, Bool.true_xor, and_self, decide_true, decide_false, List.lookup, List.all_cons, List.all_nil, List.contains_cons, Nat.reduceBEq, Bool.or_false, Bool.false_or, Bool.or_true, Bool.true_or, beq_self_eq_true, List.contains_nil, mem_told, eqD_pl]
theorem e_memory_of {row : List Int} {R : Rs} (hl : row.length ≤ 1000) (hp : ∀ p ∈ row, FarP p) : f_memory_of [.lst (inD row)] R = .ok (memD (memR row)) R := by
  unfold f_memory_of
  refine pureF_ok ?_
  unfold m_memory_of
  have e0 : D.tup [.int 0] = plD [0] := rfl
  have m' : MemOk (memR row) := Mt.memR_ok hp
  have := mk_mem (R := []) m'
  simp only [List.nil_append, List.length_nil] at this
  simp only [raise_ap, raiseI_ap, calmF_ap, le_line, lt_line, var_ap, c_ap, op_ap, un_ap, b_ap, and_ap, or_ap, not_ap, if_ap, andV_ap, orV_ap, ch_ap, nil_ap, cons_ap, star_ap, tup_ap, lst_ap, arm_ap, cb_ap, noPart_ap, part_ap, sl_ap, slL_ap, call_ap, callL_ap, mk_ap, fld_ap, prop_ap, meth_ap, callI_ap, get2_ap, dnew_ap, it_ap, itA_ap, yes_ap, next_ap, seq_ap, set_ap, setO_ap, drop_ap, ret_ap, retN_ap, brk_ap, cnt_ap, never_ap, ifS_ap, aug_ap, app_ap, ext_ap, pop_ap, par_ap, asg_ap, dset_ap, stF_ap, stF2_ap, fldL_ap, see_f, see_g, okM_f, okM_g, okR_f, okR_g, okO_f, okO_g, hide_nil, hide_cons, setAll_cons, setAll_nil, wipe_nil, wipe_cons, runB_ap, runL_ap, startL_ap, startD_ap, out1_nx, out1_rt, dName_ap, dGTup_ap, dGLst_ap, dGCons_ap, dGNil_ap, dAdd_ap, dSub_ap, dMul_ap, dFdiv_ap, dMod_ap, dLt_ap, dLe_ap, dGt_ap, dGe_ap, bOf_ap, dNeg_ap, dNot_ap, eqS_int, eqS_bl, eqS_str, dInt1_ap, dInt1_bl, dMax2_ap, dMin2_ap, dAbs_ap, dSum_ap, dAny_ap, dAll_ap, dLen_l, dLen_t, dLen_a, dIx_l, dIx_t, dIx_a, dTup_ap, dLst_ap, dArm_ap, dList_l, dList_t, dTupl_ap, dTupA_ap, lstOf_ap, tupOf_t, tupOf_a, itemsOf_t, itemsOf_l, dSl_l, dSl_t, dSlL_ap, dCatL_ap, dIsN_ap, rng1_ap, rng2_ap, dRange_1, dRange_2, dRange3_ap, ownB_ap, ownT_ap, ownN_ap, eqI_ap, isC_y, il_int, il_bl, il_str, il_non, il_tup, il_lst, il_armD, il_ins, il_dic, il_ar, il_rig, Bool.false_eq_true, if_false, if_true, Res.bind_ok, Res.bind_bad, Res.out_ok, Res.out_bad, Res.calm_ok, List.map_cons, List.map_nil, List.length_cons, List.length_nil, Nat.reduceAdd, Nat.reduceSub, List.replicate, List.cons_append, List.nil_append, List.getElem?_cons_zero, List.getElem?_cons_succ, List.set_cons_succ, List.set_cons_zero, Bool.true_and, Bool.and_true, Bool.not_false, Bool.not_true, List.contains_nil, Option.bind_some, for_ap, lc_ap, Nat.reduceEqDiff, Nat.reduceLeDiff, Bool.false_xor, Bool.true_xor, and_self, decide_true, decide_false, List.lookup, List.all_cons, List.all_nil, List.contains_cons, Nat.reduceBEq, Bool.or_false, Bool.false_or, Bool.or_true, Bool.true_or, beq_self_eq_true, List.contains_nil, e_check_row hl hp]
  rw [e0]
  simp only [raise_ap, raiseI_ap, calmF_ap, le_line, lt_line, var_ap, c_ap, op_ap, un_ap, b_ap, and_ap, or_ap, not_ap, if_ap, andV_ap, orV_ap, ch_ap, nil_ap, cons_ap, star_ap, tup_ap, lst_ap, arm_ap, cb_ap, noPart_ap, part_ap, sl_ap, slL_ap, call_ap, callL_ap, mk_ap, fld_ap, prop_ap, meth_ap, callI_ap, get2_ap, dnew_ap, it_ap, itA_ap, yes_ap, next_ap, seq_ap, set_ap, setO_ap, drop_ap, ret_ap, retN_ap, brk_ap, cnt_ap, never_ap, ifS_ap, aug_ap, app_ap, ext_ap, pop_ap, par_ap, asg_ap, dset_ap, stF_ap, stF2_ap, fldL_ap, see_f, see_g, okM_f, okM_g, okR_f, okR_g, okO_f, okO_g, hide_nil, hide_cons, setAll_cons, setAll_nil, wipe_nil, wipe_cons, runB_ap, runL_ap, startL_ap, startD_ap, out1_nx, out1_rt, dName_ap, dGTup_ap, dGLst_ap, dGCons_ap, dGNil_ap, dAdd_ap, dSub_ap, dMul_ap, dFdiv_ap, dMod_ap, dLt_ap, dLe_ap, dGt_ap, dGe_ap, bOf_ap, dNeg_ap, dNot_ap, eqS_int, eqS_bl, eqS_str, dInt1_ap, dInt1_bl, dMax2_ap, dMin2_ap, dAbs_ap, dSum_ap, dAny_ap, dAll_ap, dLen_l, dLen_t, dLen_a, dIx_l, dIx_t, dIx_a, dTup_ap, dLst_ap, dArm_ap, dList_l, dList_t, dTupl_ap, dTupA_ap, lstOf_ap, tupOf_t, tupOf_a, itemsOf_t, itemsOf_l, dSl_l, dSl_t, dSlL_ap, dCatL_ap, dIsN_ap, rng1_ap, rng2_ap, dRange_1, dRange_2, dRange3_ap, ownB_ap, ownT_ap, ownN_ap, eqI_ap, isC_y, il_int, il_bl, il_str, il_non, il_tup, il_lst, il_armD, il_ins, il_dic, il_ar, il_rig, Bool.false_eq_true, if_false, if_true, Res.bind_ok, Res.bind_bad, Res.out_ok, Res.out_bad, Res.calm_ok, List.map_cons, List.map_nil, List.length_cons, List.length_nil, Nat.reduceAdd, Nat.reduceSub, List.replicate, List.cons_append, List.nil_append, List.getElem?_cons_zero, List.getElem?_cons_succ, List.set_cons_succ, List.set_cons_zero, Bool.true_and, Bool.and_true, Bool.not_false, Bool.not_true, List.contains_nil, Option.bind_some, for_ap, lc_ap, Nat.reduceEqDiff, Nat.reduceLeDiff, Bool.false_xor, Bool.true_xor, and_self, decide_true, decide_false, List.lookup, List.all_cons, List.all_nil, List.contains_cons, Nat.reduceBEq, Bool.or_false, Bool.false_or, Bool.or_true, Bool.true_or, beq_self_eq_true, List.contains_nil, e_followed (rs := [0]) (row := row) (by simp) (show 1 + row.length ≤ 1500 by omega), at0]
  exact congrArg (fun x => out1 (x.out fun d R1 => Out.rt d R1)) this
end Lw

namespace Lw
open PySem PySem.Spec PyProof.Rows L2 Sr Pv Rg
variable {A0 : Addr}
open Mt (movedR followR MemOk MemV endA memR)
/-! ### the laws' own comparison -/
def qE : Nat → D → D → Bool
  | 0, _, _ => false
  | _ + 1, .non, .non => true
  | _ + 1, .bl a, .bl b => decide (a = b)
  | _ + 1, .int a, .int b => decide (a = b)
  | _ + 1, .str a, .str b => decide (a = b) && PyData.strOk b
  | k + 1, .lst xs, .lst ys => decide (xs.length = ys.length ∧ ys.length ≤ 100000) && (List.range ys.length).all fun i => qE k (xs.getD i .non) (ys.getD i .non)
  | k + 1, .tup xs, .tup ys => decide (xs.length = ys.length ∧ ys.length ≤ 100000) && (List.range ys.length).all fun i => qE k (xs.getD i .non) (ys.getD i .non)
  | k + 1, .arm xs, .tup ys => decide (xs.length = ys.length ∧ ys.length ≤ 100000) && (List.range ys.length).all fun i => qE k (xs.getD i .non) (ys.getD i .non)
  | k + 1, .arm xs, .arm ys => decide (xs.length = ys.length ∧ ys.length ≤ 100000) && (List.range ys.length).all fun i => qE k (xs.getD i .non) (ys.getD i .non)
  | _ + 1, _, _ => false
theorem eqD_int {i j : Int} {R : Rs} : dEqD false (.int i) (.int j) R = .ok (.bl (decide (i = j))) R := by
  have e : PyData.eqv (.int i) (.int j) = decide (i = j) := by show (i == j) = _; by_cases h : i = j <;> simp [h]
  simp only [dEqD, D.pd, e, SeqAt.shaped, PyData.canLay0, PyData.depth, Bool.false_xor]
  rfl
theorem eqD_bl {i j : Bool} {R : Rs} : dEqD false (.bl i) (.bl j) R = .ok (.bl (decide (i = j))) R := by
  have e : PyData.eqv (.bool i) (.bool j) = decide (i = j) := by cases i <;> cases j <;> rfl
  simp only [dEqD, D.pd, e, SeqAt.shaped, PyData.canLay0, PyData.depth, Bool.false_xor]
  rfl
theorem eqD_str {i j : Str} {R : Rs} (h1 : PyData.strOk i = true) (h2 : PyData.strOk j = true) : dEqD false (.str i) (.str j) R = .ok (.bl (decide (i = j))) R := by
  have e : PyData.eqv (.str i) (.str j) = decide (i = j) := by show (i == j) = _; by_cases h : i = j <;> simp [h]
  simp only [dEqD, D.pd, e, SeqAt.shaped, PyData.canLay0, PyData.depth, Bool.false_xor, h1, h2]
  rfl
theorem isK_bb {b : Bool} {R : Rs} : dIsK .bl [.bl b, .ty "bool"] R = .ok (.bl true) R := rfl
theorem isK_bi {b : Int} {R : Rs} : dIsK .bl [.int b, .ty "bool"] R = .ok (.bl false) R := rfl
theorem isK_bs {b : Str} {R : Rs} : dIsK .bl [.str b, .ty "bool"] R = .ok (.bl false) R := rfl
theorem isK_ii {b : Int} {R : Rs} : dIsK .int [.int b, .ty "int"] R = .ok (.bl true) R := rfl
theorem isK_is {b : Str} {R : Rs} : dIsK .int [.str b, .ty "int"] R = .ok (.bl false) R := rfl
theorem isK_ss {b : Str} {R : Rs} : dIsK .str [.str b, .ty "str"] R = .ok (.bl true) R := rfl
theorem inB_small {n : Nat} (h : n ≤ 100000) : inB (n : Int) = true := inB_iff.mpr ⟨by omega, by omega⟩
theorem rng1_ok {j : Int} {R : Rs} (h0 : 0 ≤ j) (h1 : j ≤ 100000) : rng1 [.int j] R = .ok (rngD 0 j.toNat) R := by
  rw [rng1_ap]; exact if_pos (inB_iff.mpr ⟨by omega, by omega⟩)
theorem rng1_nat {n : Nat} {R : Rs} (h : n ≤ 100000) : rng1 [.int (n : Int)] R = .ok (rngD 0 n) R := by
  rw [rng1_ok (by omega) (by omega)]; rfl
theorem at_getD {xs : List D} {i : Nat} (h : i < xs.length) : atI xs (i : Int) = some (xs.getD i .non) := by
  rw [atI_nat, List.getElem?_eq_getElem h]; simp [List.getD, h]
theorem lc_equal {k : Nat} (ih : ∀ x y, qE k x y = true → r_L_equal k [x, y] [] = .ok (.bl true) []) {x y : D} {xs ys : List D} (hx : ∀ i R, dIx x (.int i) R = (match atI xs i with | some d => .ok d R | none => .bad)) (hy : ∀ i R, dIx y (.int i) R = (match atI ys i with | some d => .ok d R | none => .bad)) (il1 : x.isLoc = false) (il2 : y.isLoc = false) (hl : xs.length = ys.length)
    (h : ∀ i < ys.length, qE k (xs.getD i .non) (ys.getD i .non) = true) : lcG (dName 2) gYes (gCall 2 (r_L_equal k) (Pv.gCons (gOp dIx (gVar 0) (gVar 2)) (Pv.gCons (gOp dIx (gVar 1) (gVar 2)) Pv.gNil))) (rngD 0 ys.length) [some x, some y, none] [] = .ok ((List.range ys.length).map fun _ => .bl true) [] := by
  unfold rngD
  refine lcG_map (fun i : Nat => D.int (0 + (i : Int))) (fun _ => .bl true) fun i hi => ⟨_, rfl, ?_⟩
  have hi := List.mem_range.mp hi
  have e : (0 : Int) + (i : Int) = i := by omega
  have := ih _ _ (h i hi)
  simp only [raise_ap, raiseI_ap, calmF_ap, le_line, lt_line, var_ap, c_ap, op_ap, un_ap, b_ap, and_ap, or_ap, not_ap, if_ap, andV_ap, orV_ap, ch_ap, nil_ap, cons_ap, star_ap, tup_ap, lst_ap, arm_ap, cb_ap, noPart_ap, part_ap, sl_ap, slL_ap, call_ap, callL_ap, mk_ap, fld_ap, prop_ap, meth_ap, callI_ap, get2_ap, dnew_ap, it_ap, itA_ap, yes_ap, next_ap, seq_ap, set_ap, setO_ap, drop_ap, ret_ap, retN_ap, brk_ap, cnt_ap, never_ap, ifS_ap, aug_ap, app_ap, ext_ap, pop_ap, par_ap, asg_ap, dset_ap, stF_ap, stF2_ap, fldL_ap, see_f, see_g, okM_f, okM_g, okR_f, okR_g, okO_f, okO_g, hide_nil, hide_cons, setAll_cons, setAll_nil, wipe_nil, wipe_cons, runB_ap, runL_ap, startL_ap, startD_ap, out1_nx, out1_rt, dName_ap, dGTup_ap, dGLst_ap, dGCons_ap, dGNil_ap, dAdd_ap, dSub_ap, dMul_ap, dFdiv_ap, dMod_ap, dLt_ap, dLe_ap, dGt_ap, dGe_ap, bOf_ap, dNeg_ap, dNot_ap, eqS_int, eqS_bl, eqS_str, dInt1_ap, dInt1_bl, dMax2_ap, dMin2_ap, dAbs_ap, dSum_ap, dAny_ap, dAll_ap, dLen_l, dLen_t, dLen_a, dIx_l, dIx_t, dIx_a, dTup_ap, dLst_ap, dArm_ap, dList_l, dList_t, dTupl_ap, dTupA_ap, lstOf_ap, tupOf_t, tupOf_a, itemsOf_t, itemsOf_l, dSl_l, dSl_t, dSlL_ap, dCatL_ap, dIsN_ap, rng1_ap, rng2_ap, dRange_1, dRange_2, dRange3_ap, ownB_ap, ownT_ap, ownN_ap, eqI_ap, isC_y, il_int, il_bl, il_str, il_non, il_tup, il_lst, il_armD, il_ins, il_dic, il_ar, il_rig, Bool.false_eq_true, if_false, if_true, Res.bind_ok, Res.bind_bad, Res.out_ok, Res.out_bad, Res.calm_ok, List.map_cons, List.map_nil, List.length_cons, List.length_nil, Nat.reduceAdd, Nat.reduceSub, List.replicate, List.cons_append, List.nil_append, List.getElem?_cons_zero, List.getElem?_cons_succ, List.set_cons_succ, List.set_cons_zero, Bool.true_and, Bool.and_true, Bool.not_false, Bool.not_true, List.contains_nil, Option.bind_some, for_ap, lc_ap, Nat.reduceEqDiff, Nat.reduceLeDiff, Bool.false_xor, Bool.true_xor, and_self, decide_true, decide_false, List.lookup, List.all_cons, List.all_nil, List.contains_cons, Nat.reduceBEq, Bool.or_false, Bool.false_or, Bool.or_true, Bool.true_or, beq_self_eq_true, List.contains_nil, il1, il2, hx, hy, e, at_getD (show i < xs.length by omega), at_getD hi, this]
theorem all_true (n : Nat) : blsOf ((List.range n).map fun _ => D.bl true) = some ((List.range n).map fun _ => true) := blsOf_of (fun _ => true) _
theorem lst_ok2 {a b : D} {R : Rs} : dLst [a, b] R = .ok (.lst [a, b]) R := lst_ok (line60 (by show 2 ≤ 100000; decide))
theorem lst_ok1 {a : D} {R : Rs} : dLst [a] R = .ok (.lst [a]) R := lst_ok (line60 (by show 1 ≤ 100000; decide))
theorem lst_ok3 {a b c : D} {R : Rs} : dLst [a, b, c] R = .ok (.lst [a, b, c]) R := lst_ok (line60 (by show 3 ≤ 100000; decide))
theorem lst_ok0 {R : Rs} : dLst [] R = .ok (.lst []) R := lst_ok (line60 (by show 0 ≤ 100000; decide))
theorem lst_true {n : Nat} {R : Rs} (h : n ≤ 100000) : dLst ((List.range n).map fun _ => D.bl true) R = .ok (.lst ((List.range n).map fun _ => D.bl true)) R := lst_ok (by rw [List.length_map, List.length_range]; exact line60 h)
theorem ifs_no {t : GT} {g1 g2 : GS} {ρ : PEnv} {R : Rs} (h : t ρ R = .ok false R) : gSeq (gIfS .f [] t g1 gNext) g2 ρ R = g2 ρ R := by
  simp only [seq_ap, ifS_ap, see_f, hide_nil, h, Res.out_ok, okR_f, next_ap, if_true]
theorem lc_of {vs : List Nat} {it : PEnv → Rs → Res (List D)} {T : TD} {t : GT} {g : G} {ρ : PEnv} {R R1 R2 : Rs} {ds xs : List D} {d : D} (h1 : it ρ R = .ok ds R1) (h2 : lcG T t g ds (wipeD ρ vs) R1 = .ok xs R2) (h3 : dLst xs R2 = .ok d R2) : gLc vs it T t g ρ R = .ok d R2 := by
  rw [lc_ap, h1, Res.bind_ok, h2, Res.calm_ok, Res.bind_ok, h3]
theorem cb_of {f : List D → Rs → Res D} {g : G} {ρ : PEnv} {R R1 : Rs} {x : D} (h : g ρ R = .ok x R1) : gCB f (Pv.gCons g Pv.gNil) ρ R = f [x] R1 := by
  rw [cb_ap, cons_ap, h, Res.bind_ok, nil_ap, Res.bind_ok, Res.bind_ok]
theorem ita_of {f : List D → Rs → Res (List D)} {g : G} {ρ : PEnv} {R R1 : Rs} {x : D} (h : g ρ R = .ok x R1) : gItA f (Pv.gCons g Pv.gNil) ρ R = f [x] R1 := by
  rw [itA_ap, cons_ap, h, Res.bind_ok, nil_ap, Res.bind_ok, Res.bind_ok]
theorem var_of {i : Nat} {ρ : PEnv} {R : Rs} {d : D} (h : ρ[i]? = some (some d)) (hl : d.isLoc = false) : gVar i ρ R = .ok d R := by
  rw [var_ap, h]; simp [hl]
theorem ret_of {g : G} {ρ : PEnv} {R R1 : Rs} {d : D} (h : g ρ R = .ok d R1) : gRet g ρ R = .rt d R1 := by rw [ret_ap, h, Res.out_ok]
theorem e_equal_seq {k : Nat} (ih : ∀ x y, qE k x y = true → r_L_equal k [x, y] [] = .ok (.bl true) []) {x y : D} {xs ys : List D} (hx : ∀ i R, dIx x (.int i) R = (match atI xs i with | some d => .ok d R | none => .bad)) (hy : ∀ i R, dIx y (.int i) R = (match atI ys i with | some d => .ok d R | none => .bad)) (il1 : x.isLoc = false) (il2 : y.isLoc = false) (hl : xs.length = ys.length) (h2 : ys.length ≤ 100000)
    (h : ∀ i < ys.length, qE k (xs.getD i .non) (ys.getD i .non) = true) (n1 : ∀ R, dIsN false y R = .ok (.bl false) R) (n2 : ∀ R, dIsK .bl [y, .ty "bool"] R = .ok (.bl false) R) (n3 : ∀ R, dIsK .int [y, .ty "int"] R = .ok (.bl false) R) (n4 : ∀ R, dIsK .str [y, .ty "str"] R = .ok (.bl false) R)
    (c1 : Bool) (n5 : ∀ R, dIsK .tup [y, .ty "tuple"] R = .ok (.bl c1) R) (n6 : ∀ R, dIsK .tup [x, .ty "tuple"] R = .ok (.bl c1) R) (c2 : Bool) (n7 : ∀ R, dIsK .lst [y, .ty "list"] R = .ok (.bl c2) R) (n8 : ∀ R, dIsK .lst [x, .ty "list"] R = .ok (.bl c2) R)
    (n9 : ∀ R, dLen [x] R = .ok (.int ys.length) R) (n10 : ∀ R, dLen [y] R = .ok (.int ys.length) R) : r_L_equal (k + 1) [x, y] [] = .ok (.bl true) [] := by
  unfold r_L_equal m_L_equal
  have hi := inB_small h2
  have hh : decide ((ys.length : Int) = ys.length) = true := by simp
  have h3 : decide (c1 = c1) = true := by simp
  have h4 : decide (c2 = c2) = true := by simp
  have hc := lc_equal ih hx hy il1 il2 hl h
  generalize hn : ys.length = n at *
  have e0 : startD 3 [x, y] = [some x, some y, none] := rfl
  have s1 : gB (gUn (dIsN false) (gVar 1)) [some x, some y, none] [] = .ok false [] := by simp only [raise_ap, raiseI_ap, calmF_ap, le_line, lt_line, var_ap, c_ap, op_ap, un_ap, b_ap, and_ap, or_ap, not_ap, if_ap, andV_ap, orV_ap, ch_ap, nil_ap, cons_ap, star_ap, tup_ap, lst_ap, arm_ap, cb_ap, noPart_ap, part_ap, sl_ap, slL_ap, call_ap, callL_ap, mk_ap, fld_ap, prop_ap, meth_ap, callI_ap, get2_ap, dnew_ap, it_ap, itA_ap, yes_ap, next_ap, seq_ap, set_ap, setO_ap, drop_ap, ret_ap, retN_ap, brk_ap, cnt_ap, never_ap, ifS_ap, aug_ap, app_ap, ext_ap, pop_ap, par_ap, asg_ap, dset_ap, stF_ap, stF2_ap, fldL_ap, see_f, see_g, okM_f, okM_g, okR_f, okR_g, okO_f, okO_g, hide_nil, hide_cons, setAll_cons, setAll_nil, wipe_nil, wipe_cons, runB_ap, runL_ap, startL_ap, startD_ap, out1_nx, out1_rt, dName_ap, dGTup_ap, dGLst_ap, dGCons_ap, dGNil_ap, dAdd_ap, dSub_ap, dMul_ap, dFdiv_ap, dMod_ap, dLt_ap, dLe_ap, dGt_ap, dGe_ap, bOf_ap, dNeg_ap, dNot_ap, eqS_int, eqS_bl, eqS_str, dInt1_ap, dInt1_bl, dMax2_ap, dMin2_ap, dAbs_ap, dSum_ap, dAny_ap, dAll_ap, dLen_l, dLen_t, dLen_a, dIx_l, dIx_t, dIx_a, dTup_ap, dArm_ap, dList_l, dList_t, dTupl_ap, dTupA_ap, lstOf_ap, tupOf_t, tupOf_a, itemsOf_t, itemsOf_l, dSl_l, dSl_t, dSlL_ap, dCatL_ap, rng2_ap, dRange_1, dRange_2, dRange3_ap, ownB_ap, ownT_ap, ownN_ap, eqI_ap, isC_y, il_int, il_bl, il_str, il_non, il_tup, il_lst, il_armD, il_ins, il_dic, il_ar, il_rig, Bool.false_eq_true, if_false, if_true, Res.bind_ok, Res.bind_bad, Res.out_ok, Res.out_bad, Res.calm_ok, List.map_cons, List.map_nil, List.length_cons, List.length_nil, Nat.reduceAdd, Nat.reduceSub, List.replicate, List.cons_append, List.nil_append, List.getElem?_cons_zero, List.getElem?_cons_succ, List.set_cons_succ, List.set_cons_zero, Bool.true_and, Bool.and_true, Bool.not_false, Bool.not_true, List.contains_nil, Option.bind_some, for_ap, lc_ap, Nat.reduceEqDiff, Nat.reduceLeDiff, Bool.false_xor, Bool.true_xor, and_self, decide_true, decide_false, List.lookup, List.all_cons, List.all_nil, List.contains_cons, Nat.reduceBEq, Bool.or_false, Bool.false_or, Bool.or_true, Bool.true_or, beq_self_eq_true, List.contains_nil, il2, n1]
  have s2 : gB (gCB (dIsK .bl) (Pv.gCons (gVar 1) (Pv.gCons (gC (.ty "bool")) Pv.gNil))) [some x, some y, none] [] = .ok false [] := by simp only [raise_ap, raiseI_ap, calmF_ap, le_line, lt_line, var_ap, c_ap, op_ap, un_ap, b_ap, and_ap, or_ap, not_ap, if_ap, andV_ap, orV_ap, ch_ap, nil_ap, cons_ap, star_ap, tup_ap, lst_ap, arm_ap, cb_ap, noPart_ap, part_ap, sl_ap, slL_ap, call_ap, callL_ap, mk_ap, fld_ap, prop_ap, meth_ap, callI_ap, get2_ap, dnew_ap, it_ap, itA_ap, yes_ap, next_ap, seq_ap, set_ap, setO_ap, drop_ap, ret_ap, retN_ap, brk_ap, cnt_ap, never_ap, ifS_ap, aug_ap, app_ap, ext_ap, pop_ap, par_ap, asg_ap, dset_ap, stF_ap, stF2_ap, fldL_ap, see_f, see_g, okM_f, okM_g, okR_f, okR_g, okO_f, okO_g, hide_nil, hide_cons, setAll_cons, setAll_nil, wipe_nil, wipe_cons, runB_ap, runL_ap, startL_ap, startD_ap, out1_nx, out1_rt, dName_ap, dGTup_ap, dGLst_ap, dGCons_ap, dGNil_ap, dAdd_ap, dSub_ap, dMul_ap, dFdiv_ap, dMod_ap, dLt_ap, dLe_ap, dGt_ap, dGe_ap, bOf_ap, dNeg_ap, dNot_ap, eqS_int, eqS_bl, eqS_str, dInt1_ap, dInt1_bl, dMax2_ap, dMin2_ap, dAbs_ap, dSum_ap, dAny_ap, dAll_ap, dLen_l, dLen_t, dLen_a, dIx_l, dIx_t, dIx_a, dTup_ap, dArm_ap, dList_l, dList_t, dTupl_ap, dTupA_ap, lstOf_ap, tupOf_t, tupOf_a, itemsOf_t, itemsOf_l, dSl_l, dSl_t, dSlL_ap, dCatL_ap, rng2_ap, dRange_1, dRange_2, dRange3_ap, ownB_ap, ownT_ap, ownN_ap, eqI_ap, isC_y, il_int, il_bl, il_str, il_non, il_tup, il_lst, il_armD, il_ins, il_dic, il_ar, il_rig, Bool.false_eq_true, if_false, if_true, Res.bind_ok, Res.bind_bad, Res.out_ok, Res.out_bad, Res.calm_ok, List.map_cons, List.map_nil, List.length_cons, List.length_nil, Nat.reduceAdd, Nat.reduceSub, List.replicate, List.cons_append, List.nil_append, List.getElem?_cons_zero, List.getElem?_cons_succ, List.set_cons_succ, List.set_cons_zero, Bool.true_and, Bool.and_true, Bool.not_false, Bool.not_true, List.contains_nil, Option.bind_some, for_ap, lc_ap, Nat.reduceEqDiff, Nat.reduceLeDiff, Bool.false_xor, Bool.true_xor, and_self, decide_true, decide_false, List.lookup, List.all_cons, List.all_nil, List.contains_cons, Nat.reduceBEq, Bool.or_false, Bool.false_or, Bool.or_true, Bool.true_or, beq_self_eq_true, List.contains_nil, il2, n2]
  have s3 : gB (gCB (dIsK .int) (Pv.gCons (gVar 1) (Pv.gCons (gC (.ty "int")) Pv.gNil))) [some x, some y, none] [] = .ok false [] := by simp only [raise_ap, raiseI_ap, calmF_ap, le_line, lt_line, var_ap, c_ap, op_ap, un_ap, b_ap, and_ap, or_ap, not_ap, if_ap, andV_ap, orV_ap, ch_ap, nil_ap, cons_ap, star_ap, tup_ap, lst_ap, arm_ap, cb_ap, noPart_ap, part_ap, sl_ap, slL_ap, call_ap, callL_ap, mk_ap, fld_ap, prop_ap, meth_ap, callI_ap, get2_ap, dnew_ap, it_ap, itA_ap, yes_ap, next_ap, seq_ap, set_ap, setO_ap, drop_ap, ret_ap, retN_ap, brk_ap, cnt_ap, never_ap, ifS_ap, aug_ap, app_ap, ext_ap, pop_ap, par_ap, asg_ap, dset_ap, stF_ap, stF2_ap, fldL_ap, see_f, see_g, okM_f, okM_g, okR_f, okR_g, okO_f, okO_g, hide_nil, hide_cons, setAll_cons, setAll_nil, wipe_nil, wipe_cons, runB_ap, runL_ap, startL_ap, startD_ap, out1_nx, out1_rt, dName_ap, dGTup_ap, dGLst_ap, dGCons_ap, dGNil_ap, dAdd_ap, dSub_ap, dMul_ap, dFdiv_ap, dMod_ap, dLt_ap, dLe_ap, dGt_ap, dGe_ap, bOf_ap, dNeg_ap, dNot_ap, eqS_int, eqS_bl, eqS_str, dInt1_ap, dInt1_bl, dMax2_ap, dMin2_ap, dAbs_ap, dSum_ap, dAny_ap, dAll_ap, dLen_l, dLen_t, dLen_a, dIx_l, dIx_t, dIx_a, dTup_ap, dArm_ap, dList_l, dList_t, dTupl_ap, dTupA_ap, lstOf_ap, tupOf_t, tupOf_a, itemsOf_t, itemsOf_l, dSl_l, dSl_t, dSlL_ap, dCatL_ap, rng2_ap, dRange_1, dRange_2, dRange3_ap, ownB_ap, ownT_ap, ownN_ap, eqI_ap, isC_y, il_int, il_bl, il_str, il_non, il_tup, il_lst, il_armD, il_ins, il_dic, il_ar, il_rig, Bool.false_eq_true, if_false, if_true, Res.bind_ok, Res.bind_bad, Res.out_ok, Res.out_bad, Res.calm_ok, List.map_cons, List.map_nil, List.length_cons, List.length_nil, Nat.reduceAdd, Nat.reduceSub, List.replicate, List.cons_append, List.nil_append, List.getElem?_cons_zero, List.getElem?_cons_succ, List.set_cons_succ, List.set_cons_zero, Bool.true_and, Bool.and_true, Bool.not_false, Bool.not_true, List.contains_nil, Option.bind_some, for_ap, lc_ap, Nat.reduceEqDiff, Nat.reduceLeDiff, Bool.false_xor, Bool.true_xor, and_self, decide_true, decide_false, List.lookup, List.all_cons, List.all_nil, List.contains_cons, Nat.reduceBEq, Bool.or_false, Bool.false_or, Bool.or_true, Bool.true_or, beq_self_eq_true, List.contains_nil, il2, n3]
  have s4 : gB (gCB (dIsK .str) (Pv.gCons (gVar 1) (Pv.gCons (gC (.ty "str")) Pv.gNil))) [some x, some y, none] [] = .ok false [] := by simp only [raise_ap, raiseI_ap, calmF_ap, le_line, lt_line, var_ap, c_ap, op_ap, un_ap, b_ap, and_ap, or_ap, not_ap, if_ap, andV_ap, orV_ap, ch_ap, nil_ap, cons_ap, star_ap, tup_ap, lst_ap, arm_ap, cb_ap, noPart_ap, part_ap, sl_ap, slL_ap, call_ap, callL_ap, mk_ap, fld_ap, prop_ap, meth_ap, callI_ap, get2_ap, dnew_ap, it_ap, itA_ap, yes_ap, next_ap, seq_ap, set_ap, setO_ap, drop_ap, ret_ap, retN_ap, brk_ap, cnt_ap, never_ap, ifS_ap, aug_ap, app_ap, ext_ap, pop_ap, par_ap, asg_ap, dset_ap, stF_ap, stF2_ap, fldL_ap, see_f, see_g, okM_f, okM_g, okR_f, okR_g, okO_f, okO_g, hide_nil, hide_cons, setAll_cons, setAll_nil, wipe_nil, wipe_cons, runB_ap, runL_ap, startL_ap, startD_ap, out1_nx, out1_rt, dName_ap, dGTup_ap, dGLst_ap, dGCons_ap, dGNil_ap, dAdd_ap, dSub_ap, dMul_ap, dFdiv_ap, dMod_ap, dLt_ap, dLe_ap, dGt_ap, dGe_ap, bOf_ap, dNeg_ap, dNot_ap, eqS_int, eqS_bl, eqS_str, dInt1_ap, dInt1_bl, dMax2_ap, dMin2_ap, dAbs_ap, dSum_ap, dAny_ap, dAll_ap, dLen_l, dLen_t, dLen_a, dIx_l, dIx_t, dIx_a, dTup_ap, dArm_ap, dList_l, dList_t, dTupl_ap, dTupA_ap, lstOf_ap, tupOf_t, tupOf_a, itemsOf_t, itemsOf_l, dSl_l, dSl_t, dSlL_ap, dCatL_ap, rng2_ap, dRange_1, dRange_2, dRange3_ap, ownB_ap, ownT_ap, ownN_ap, eqI_ap, isC_y, il_int, il_bl, il_str, il_non, il_tup, il_lst, il_armD, il_ins, il_dic, il_ar, il_rig, Bool.false_eq_true, if_false, if_true, Res.bind_ok, Res.bind_bad, Res.out_ok, Res.out_bad, Res.calm_ok, List.map_cons, List.map_nil, List.length_cons, List.length_nil, Nat.reduceAdd, Nat.reduceSub, List.replicate, List.cons_append, List.nil_append, List.getElem?_cons_zero, List.getElem?_cons_succ, List.set_cons_succ, List.set_cons_zero, Bool.true_and, Bool.and_true, Bool.not_false, Bool.not_true, List.contains_nil, Option.bind_some, for_ap, lc_ap, Nat.reduceEqDiff, Nat.reduceLeDiff, Bool.false_xor, Bool.true_xor, and_self, decide_true, decide_false, List.lookup, List.all_cons, List.all_nil, List.contains_cons, Nat.reduceBEq, Bool.or_false, Bool.false_or, Bool.or_true, Bool.true_or, beq_self_eq_true, List.contains_nil, il2, n4]
  have s5 : gB (gOp (dEqS true) (gCB (dIsK .tup) (Pv.gCons (gVar 1) (Pv.gCons (gC (.ty "tuple")) Pv.gNil))) (gCB (dIsK .tup) (Pv.gCons (gVar 0) (Pv.gCons (gC (.ty "tuple")) Pv.gNil)))) [some x, some y, none] [] = .ok false [] := by simp only [raise_ap, raiseI_ap, calmF_ap, le_line, lt_line, var_ap, c_ap, op_ap, un_ap, b_ap, and_ap, or_ap, not_ap, if_ap, andV_ap, orV_ap, ch_ap, nil_ap, cons_ap, star_ap, tup_ap, lst_ap, arm_ap, cb_ap, noPart_ap, part_ap, sl_ap, slL_ap, call_ap, callL_ap, mk_ap, fld_ap, prop_ap, meth_ap, callI_ap, get2_ap, dnew_ap, it_ap, itA_ap, yes_ap, next_ap, seq_ap, set_ap, setO_ap, drop_ap, ret_ap, retN_ap, brk_ap, cnt_ap, never_ap, ifS_ap, aug_ap, app_ap, ext_ap, pop_ap, par_ap, asg_ap, dset_ap, stF_ap, stF2_ap, fldL_ap, see_f, see_g, okM_f, okM_g, okR_f, okR_g, okO_f, okO_g, hide_nil, hide_cons, setAll_cons, setAll_nil, wipe_nil, wipe_cons, runB_ap, runL_ap, startL_ap, startD_ap, out1_nx, out1_rt, dName_ap, dGTup_ap, dGLst_ap, dGCons_ap, dGNil_ap, dAdd_ap, dSub_ap, dMul_ap, dFdiv_ap, dMod_ap, dLt_ap, dLe_ap, dGt_ap, dGe_ap, bOf_ap, dNeg_ap, dNot_ap, eqS_int, eqS_bl, eqS_str, dInt1_ap, dInt1_bl, dMax2_ap, dMin2_ap, dAbs_ap, dSum_ap, dAny_ap, dAll_ap, dLen_l, dLen_t, dLen_a, dIx_l, dIx_t, dIx_a, dTup_ap, dArm_ap, dList_l, dList_t, dTupl_ap, dTupA_ap, lstOf_ap, tupOf_t, tupOf_a, itemsOf_t, itemsOf_l, dSl_l, dSl_t, dSlL_ap, dCatL_ap, rng2_ap, dRange_1, dRange_2, dRange3_ap, ownB_ap, ownT_ap, ownN_ap, eqI_ap, isC_y, il_int, il_bl, il_str, il_non, il_tup, il_lst, il_armD, il_ins, il_dic, il_ar, il_rig, Bool.false_eq_true, if_false, if_true, Res.bind_ok, Res.bind_bad, Res.out_ok, Res.out_bad, Res.calm_ok, List.map_cons, List.map_nil, List.length_cons, List.length_nil, Nat.reduceAdd, Nat.reduceSub, List.replicate, List.cons_append, List.nil_append, List.getElem?_cons_zero, List.getElem?_cons_succ, List.set_cons_succ, List.set_cons_zero, Bool.true_and, Bool.and_true, Bool.not_false, Bool.not_true, List.contains_nil, Option.bind_some, for_ap, lc_ap, Nat.reduceEqDiff, Nat.reduceLeDiff, Bool.false_xor, Bool.true_xor, and_self, decide_true, decide_false, List.lookup, List.all_cons, List.all_nil, List.contains_cons, Nat.reduceBEq, Bool.or_false, Bool.false_or, Bool.or_true, Bool.true_or, beq_self_eq_true, List.contains_nil, il1, il2, n5, n6, h3]
  have s6 : gB (gOp (dEqS true) (gCB (dIsK .lst) (Pv.gCons (gVar 1) (Pv.gCons (gC (.ty "list")) Pv.gNil))) (gCB (dIsK .lst) (Pv.gCons (gVar 0) (Pv.gCons (gC (.ty "list")) Pv.gNil)))) [some x, some y, none] [] = .ok false [] := by simp only [raise_ap, raiseI_ap, calmF_ap, le_line, lt_line, var_ap, c_ap, op_ap, un_ap, b_ap, and_ap, or_ap, not_ap, if_ap, andV_ap, orV_ap, ch_ap, nil_ap, cons_ap, star_ap, tup_ap, lst_ap, arm_ap, cb_ap, noPart_ap, part_ap, sl_ap, slL_ap, call_ap, callL_ap, mk_ap, fld_ap, prop_ap, meth_ap, callI_ap, get2_ap, dnew_ap, it_ap, itA_ap, yes_ap, next_ap, seq_ap, set_ap, setO_ap, drop_ap, ret_ap, retN_ap, brk_ap, cnt_ap, never_ap, ifS_ap, aug_ap, app_ap, ext_ap, pop_ap, par_ap, asg_ap, dset_ap, stF_ap, stF2_ap, fldL_ap, see_f, see_g, okM_f, okM_g, okR_f, okR_g, okO_f, okO_g, hide_nil, hide_cons, setAll_cons, setAll_nil, wipe_nil, wipe_cons, runB_ap, runL_ap, startL_ap, startD_ap, out1_nx, out1_rt, dName_ap, dGTup_ap, dGLst_ap, dGCons_ap, dGNil_ap, dAdd_ap, dSub_ap, dMul_ap, dFdiv_ap, dMod_ap, dLt_ap, dLe_ap, dGt_ap, dGe_ap, bOf_ap, dNeg_ap, dNot_ap, eqS_int, eqS_bl, eqS_str, dInt1_ap, dInt1_bl, dMax2_ap, dMin2_ap, dAbs_ap, dSum_ap, dAny_ap, dAll_ap, dLen_l, dLen_t, dLen_a, dIx_l, dIx_t, dIx_a, dTup_ap, dArm_ap, dList_l, dList_t, dTupl_ap, dTupA_ap, lstOf_ap, tupOf_t, tupOf_a, itemsOf_t, itemsOf_l, dSl_l, dSl_t, dSlL_ap, dCatL_ap, rng2_ap, dRange_1, dRange_2, dRange3_ap, ownB_ap, ownT_ap, ownN_ap, eqI_ap, isC_y, il_int, il_bl, il_str, il_non, il_tup, il_lst, il_armD, il_ins, il_dic, il_ar, il_rig, Bool.false_eq_true, if_false, if_true, Res.bind_ok, Res.bind_bad, Res.out_ok, Res.out_bad, Res.calm_ok, List.map_cons, List.map_nil, List.length_cons, List.length_nil, Nat.reduceAdd, Nat.reduceSub, List.replicate, List.cons_append, List.nil_append, List.getElem?_cons_zero, List.getElem?_cons_succ, List.set_cons_succ, List.set_cons_zero, Bool.true_and, Bool.and_true, Bool.not_false, Bool.not_true, List.contains_nil, Option.bind_some, for_ap, lc_ap, Nat.reduceEqDiff, Nat.reduceLeDiff, Bool.false_xor, Bool.true_xor, and_self, decide_true, decide_false, List.lookup, List.all_cons, List.all_nil, List.contains_cons, Nat.reduceBEq, Bool.or_false, Bool.false_or, Bool.or_true, Bool.true_or, beq_self_eq_true, List.contains_nil, il1, il2, n7, n8, h4]
  have s7 : gB (gOp (dEqS true) (gCB dLen (Pv.gCons (gVar 0) Pv.gNil)) (gCB dLen (Pv.gCons (gVar 1) Pv.gNil))) [some x, some y, none] [] = .ok false [] := by simp only [raise_ap, raiseI_ap, calmF_ap, le_line, lt_line, var_ap, c_ap, op_ap, un_ap, b_ap, and_ap, or_ap, not_ap, if_ap, andV_ap, orV_ap, ch_ap, nil_ap, cons_ap, star_ap, tup_ap, lst_ap, arm_ap, cb_ap, noPart_ap, part_ap, sl_ap, slL_ap, call_ap, callL_ap, mk_ap, fld_ap, prop_ap, meth_ap, callI_ap, get2_ap, dnew_ap, it_ap, itA_ap, yes_ap, next_ap, seq_ap, set_ap, setO_ap, drop_ap, ret_ap, retN_ap, brk_ap, cnt_ap, never_ap, ifS_ap, aug_ap, app_ap, ext_ap, pop_ap, par_ap, asg_ap, dset_ap, stF_ap, stF2_ap, fldL_ap, see_f, see_g, okM_f, okM_g, okR_f, okR_g, okO_f, okO_g, hide_nil, hide_cons, setAll_cons, setAll_nil, wipe_nil, wipe_cons, runB_ap, runL_ap, startL_ap, startD_ap, out1_nx, out1_rt, dName_ap, dGTup_ap, dGLst_ap, dGCons_ap, dGNil_ap, dAdd_ap, dSub_ap, dMul_ap, dFdiv_ap, dMod_ap, dLt_ap, dLe_ap, dGt_ap, dGe_ap, bOf_ap, dNeg_ap, dNot_ap, eqS_int, eqS_bl, eqS_str, dInt1_ap, dInt1_bl, dMax2_ap, dMin2_ap, dAbs_ap, dSum_ap, dAny_ap, dAll_ap, dLen_l, dLen_t, dLen_a, dIx_l, dIx_t, dIx_a, dTup_ap, dArm_ap, dList_l, dList_t, dTupl_ap, dTupA_ap, lstOf_ap, tupOf_t, tupOf_a, itemsOf_t, itemsOf_l, dSl_l, dSl_t, dSlL_ap, dCatL_ap, rng2_ap, dRange_1, dRange_2, dRange3_ap, ownB_ap, ownT_ap, ownN_ap, eqI_ap, isC_y, il_int, il_bl, il_str, il_non, il_tup, il_lst, il_armD, il_ins, il_dic, il_ar, il_rig, Bool.false_eq_true, if_false, if_true, Res.bind_ok, Res.bind_bad, Res.out_ok, Res.out_bad, Res.calm_ok, List.map_cons, List.map_nil, List.length_cons, List.length_nil, Nat.reduceAdd, Nat.reduceSub, List.replicate, List.cons_append, List.nil_append, List.getElem?_cons_zero, List.getElem?_cons_succ, List.set_cons_succ, List.set_cons_zero, Bool.true_and, Bool.and_true, Bool.not_false, Bool.not_true, List.contains_nil, Option.bind_some, for_ap, lc_ap, Nat.reduceEqDiff, Nat.reduceLeDiff, Bool.false_xor, Bool.true_xor, and_self, decide_true, decide_false, List.lookup, List.all_cons, List.all_nil, List.contains_cons, Nat.reduceBEq, Bool.or_false, Bool.false_or, Bool.or_true, Bool.true_or, beq_self_eq_true, List.contains_nil, il1, il2, n9, n10, hh]
  rw [runB_ap, e0, ifs_no s1, ifs_no s2, ifs_no s3, ifs_no s4, ifs_no s5, ifs_no s6, ifs_no s7]
  have v1 : gVar 1 [some x, some y, none] [] = .ok y [] := var_of rfl il2
  rw [ret_of ((cb_of (lc_of ((ita_of ((cb_of v1).trans (n10 _))).trans (rng1_nat h2)) hc (lst_true h2))).trans (by rw [dAll_ap, all_true])), out1_rt]
  simp
theorem e_equal : ∀ (k : Nat) (x y : D), qE k x y = true → r_L_equal k [x, y] [] = .ok (.bl true) [] := by
  intro k
  induction k with
  | zero => intro x y h; simp [qE] at h
  | succ k ih =>
    intro x y h
    cases x <;> cases y <;> simp only [qE, Bool.false_eq_true, Bool.and_eq_true, decide_eq_true_eq, List.all_eq_true, List.mem_range] at h
    · unfold r_L_equal m_L_equal; simp only [raise_ap, raiseI_ap, calmF_ap, le_line, lt_line, var_ap, c_ap, op_ap, un_ap, b_ap, and_ap, or_ap, not_ap, if_ap, andV_ap, orV_ap, ch_ap, nil_ap, cons_ap, star_ap, tup_ap, lst_ap, arm_ap, cb_ap, noPart_ap, part_ap, sl_ap, slL_ap, call_ap, callL_ap, mk_ap, fld_ap, prop_ap, meth_ap, callI_ap, get2_ap, dnew_ap, it_ap, itA_ap, yes_ap, next_ap, seq_ap, set_ap, setO_ap, drop_ap, ret_ap, retN_ap, brk_ap, cnt_ap, never_ap, ifS_ap, aug_ap, app_ap, ext_ap, pop_ap, par_ap, asg_ap, dset_ap, stF_ap, stF2_ap, fldL_ap, see_f, see_g, okM_f, okM_g, okR_f, okR_g, okO_f, okO_g, hide_nil, hide_cons, setAll_cons, setAll_nil, wipe_nil, wipe_cons, runB_ap, runL_ap, startL_ap, startD_ap, out1_nx, out1_rt, dName_ap, dGTup_ap, dGLst_ap, dGCons_ap, dGNil_ap, dAdd_ap, dSub_ap, dMul_ap, dFdiv_ap, dMod_ap, dLt_ap, dLe_ap, dGt_ap, dGe_ap, bOf_ap, dNeg_ap, dNot_ap, eqS_int, eqS_bl, eqS_str, dInt1_ap, dInt1_bl, dMax2_ap, dMin2_ap, dAbs_ap, dSum_ap, dAny_ap, dAll_ap, dLen_l, dLen_t, dLen_a, dIx_l, dIx_t, dIx_a, dTup_ap, dLst_ap, dArm_ap, dList_l, dList_t, dTupl_ap, dTupA_ap, lstOf_ap, tupOf_t, tupOf_a, itemsOf_t, itemsOf_l, dSl_l, dSl_t, dSlL_ap, dCatL_ap, dIsN_ap, rng1_ap, rng2_ap, dRange_1, dRange_2, dRange3_ap, ownB_ap, ownT_ap, ownN_ap, eqI_ap, isC_y, il_int, il_bl, il_str, il_non, il_tup, il_lst, il_armD, il_ins, il_dic, il_ar, il_rig, Bool.false_eq_true, if_false, if_true, Res.bind_ok, Res.bind_bad, Res.out_ok, Res.out_bad, Res.calm_ok, List.map_cons, List.map_nil, List.length_cons, List.length_nil, Nat.reduceAdd, Nat.reduceSub, List.replicate, List.cons_append, List.nil_append, List.getElem?_cons_zero, List.getElem?_cons_succ, List.set_cons_succ, List.set_cons_zero, Bool.true_and, Bool.and_true, Bool.not_false, Bool.not_true, List.contains_nil, Option.bind_some, for_ap, lc_ap, Nat.reduceEqDiff, Nat.reduceLeDiff, Bool.false_xor, Bool.true_xor, and_self, decide_true, decide_false, List.lookup, List.all_cons, List.all_nil, List.contains_cons, Nat.reduceBEq, Bool.or_false, Bool.false_or, Bool.or_true, Bool.true_or, beq_self_eq_true, List.contains_nil]
    · subst h; unfold r_L_equal m_L_equal; simp only [raise_ap, raiseI_ap, calmF_ap, le_line, lt_line, var_ap, c_ap, op_ap, un_ap, b_ap, and_ap, or_ap, not_ap, if_ap, andV_ap, orV_ap, ch_ap, nil_ap, cons_ap, star_ap, tup_ap, lst_ap, arm_ap, cb_ap, noPart_ap, part_ap, sl_ap, slL_ap, call_ap, callL_ap, mk_ap, fld_ap, prop_ap, meth_ap, callI_ap, get2_ap, dnew_ap, it_ap, itA_ap, yes_ap, next_ap, seq_ap, set_ap, setO_ap, drop_ap, ret_ap, retN_ap, brk_ap, cnt_ap, never_ap, ifS_ap, aug_ap, app_ap, ext_ap, pop_ap, par_ap, asg_ap, dset_ap, stF_ap, stF2_ap, fldL_ap, see_f, see_g, okM_f, okM_g, okR_f, okR_g, okO_f, okO_g, hide_nil, hide_cons, setAll_cons, setAll_nil, wipe_nil, wipe_cons, runB_ap, runL_ap, startL_ap, startD_ap, out1_nx, out1_rt, dName_ap, dGTup_ap, dGLst_ap, dGCons_ap, dGNil_ap, dAdd_ap, dSub_ap, dMul_ap, dFdiv_ap, dMod_ap, dLt_ap, dLe_ap, dGt_ap, dGe_ap, bOf_ap, dNeg_ap, dNot_ap, eqS_int, eqS_bl, eqS_str, dInt1_ap, dInt1_bl, dMax2_ap, dMin2_ap, dAbs_ap, dSum_ap, dAny_ap, dAll_ap, dLen_l, dLen_t, dLen_a, dIx_l, dIx_t, dIx_a, dTup_ap, dLst_ap, dArm_ap, dList_l, dList_t, dTupl_ap, dTupA_ap, lstOf_ap, tupOf_t, tupOf_a, itemsOf_t, itemsOf_l, dSl_l, dSl_t, dSlL_ap, dCatL_ap, dIsN_ap, rng1_ap, rng2_ap, dRange_1, dRange_2, dRange3_ap, ownB_ap, ownT_ap, ownN_ap, eqI_ap, isC_y, il_int, il_bl, il_str, il_non, il_tup, il_lst, il_armD, il_ins, il_dic, il_ar, il_rig, Bool.false_eq_true, if_false, if_true, Res.bind_ok, Res.bind_bad, Res.out_ok, Res.out_bad, Res.calm_ok, List.map_cons, List.map_nil, List.length_cons, List.length_nil, Nat.reduceAdd, Nat.reduceSub, List.replicate, List.cons_append, List.nil_append, List.getElem?_cons_zero, List.getElem?_cons_succ, List.set_cons_succ, List.set_cons_zero, Bool.true_and, Bool.and_true, Bool.not_false, Bool.not_true, List.contains_nil, Option.bind_some, for_ap, lc_ap, Nat.reduceEqDiff, Nat.reduceLeDiff, Bool.false_xor, Bool.true_xor, and_self, decide_true, decide_false, List.lookup, List.all_cons, List.all_nil, List.contains_cons, Nat.reduceBEq, Bool.or_false, Bool.false_or, Bool.or_true, Bool.true_or, beq_self_eq_true, List.contains_nil, isK_bb, eqD_bl, eq_self]
    · subst h; unfold r_L_equal m_L_equal; simp only [raise_ap, raiseI_ap, calmF_ap, le_line, lt_line, var_ap, c_ap, op_ap, un_ap, b_ap, and_ap, or_ap, not_ap, if_ap, andV_ap, orV_ap, ch_ap, nil_ap, cons_ap, star_ap, tup_ap, lst_ap, arm_ap, cb_ap, noPart_ap, part_ap, sl_ap, slL_ap, call_ap, callL_ap, mk_ap, fld_ap, prop_ap, meth_ap, callI_ap, get2_ap, dnew_ap, it_ap, itA_ap, yes_ap, next_ap, seq_ap, set_ap, setO_ap, drop_ap, ret_ap, retN_ap, brk_ap, cnt_ap, never_ap, ifS_ap, aug_ap, app_ap, ext_ap, pop_ap, par_ap, asg_ap, dset_ap, stF_ap, stF2_ap, fldL_ap, see_f, see_g, okM_f, okM_g, okR_f, okR_g, okO_f, okO_g, hide_nil, hide_cons, setAll_cons, setAll_nil, wipe_nil, wipe_cons, runB_ap, runL_ap, startL_ap, startD_ap, out1_nx, out1_rt, dName_ap, dGTup_ap, dGLst_ap, dGCons_ap, dGNil_ap, dAdd_ap, dSub_ap, dMul_ap, dFdiv_ap, dMod_ap, dLt_ap, dLe_ap, dGt_ap, dGe_ap, bOf_ap, dNeg_ap, dNot_ap, eqS_int, eqS_bl, eqS_str, dInt1_ap, dInt1_bl, dMax2_ap, dMin2_ap, dAbs_ap, dSum_ap, dAny_ap, dAll_ap, dLen_l, dLen_t, dLen_a, dIx_l, dIx_t, dIx_a, dTup_ap, dLst_ap, dArm_ap, dList_l, dList_t, dTupl_ap, dTupA_ap, lstOf_ap, tupOf_t, tupOf_a, itemsOf_t, itemsOf_l, dSl_l, dSl_t, dSlL_ap, dCatL_ap, dIsN_ap, rng1_ap, rng2_ap, dRange_1, dRange_2, dRange3_ap, ownB_ap, ownT_ap, ownN_ap, eqI_ap, isC_y, il_int, il_bl, il_str, il_non, il_tup, il_lst, il_armD, il_ins, il_dic, il_ar, il_rig, Bool.false_eq_true, if_false, if_true, Res.bind_ok, Res.bind_bad, Res.out_ok, Res.out_bad, Res.calm_ok, List.map_cons, List.map_nil, List.length_cons, List.length_nil, Nat.reduceAdd, Nat.reduceSub, List.replicate, List.cons_append, List.nil_append, List.getElem?_cons_zero, List.getElem?_cons_succ, List.set_cons_succ, List.set_cons_zero, Bool.true_and, Bool.and_true, Bool.not_false, Bool.not_true, List.contains_nil, Option.bind_some, for_ap, lc_ap, Nat.reduceEqDiff, Nat.reduceLeDiff, Bool.false_xor, Bool.true_xor, and_self, decide_true, decide_false, List.lookup, List.all_cons, List.all_nil, List.contains_cons, Nat.reduceBEq, Bool.or_false, Bool.false_or, Bool.or_true, Bool.true_or, beq_self_eq_true, List.contains_nil, isK_bi, isK_ii, eqD_int, eq_self]
    · obtain ⟨h, h1⟩ := h; subst h; unfold r_L_equal m_L_equal; simp only [raise_ap, raiseI_ap, calmF_ap, le_line, lt_line, var_ap, c_ap, op_ap, un_ap, b_ap, and_ap, or_ap, not_ap, if_ap, andV_ap, orV_ap, ch_ap, nil_ap, cons_ap, star_ap, tup_ap, lst_ap, arm_ap, cb_ap, noPart_ap, part_ap, sl_ap, slL_ap, call_ap, callL_ap, mk_ap, fld_ap, prop_ap, meth_ap, callI_ap, get2_ap, dnew_ap, it_ap, itA_ap, yes_ap, next_ap, seq_ap, set_ap, setO_ap, drop_ap, ret_ap, retN_ap, brk_ap, cnt_ap, never_ap, ifS_ap, aug_ap, app_ap, ext_ap, pop_ap, par_ap, asg_ap, dset_ap, stF_ap, stF2_ap, fldL_ap, see_f, see_g, okM_f, okM_g, okR_f, okR_g, okO_f, okO_g, hide_nil, hide_cons, setAll_cons, setAll_nil, wipe_nil, wipe_cons, runB_ap, runL_ap, startL_ap, startD_ap, out1_nx, out1_rt, dName_ap, dGTup_ap, dGLst_ap, dGCons_ap, dGNil_ap, dAdd_ap, dSub_ap, dMul_ap, dFdiv_ap, dMod_ap, dLt_ap, dLe_ap, dGt_ap, dGe_ap, bOf_ap, dNeg_ap, dNot_ap, eqS_int, eqS_bl, eqS_str, dInt1_ap, dInt1_bl, dMax2_ap, dMin2_ap, dAbs_ap, dSum_ap, dAny_ap, dAll_ap, dLen_l, dLen_t, dLen_a, dIx_l, dIx_t, dIx_a, dTup_ap, dLst_ap, dArm_ap, dList_l, dList_t, dTupl_ap, dTupA_ap, lstOf_ap, tupOf_t, tupOf_a, itemsOf_t, itemsOf_l, dSl_l, dSl_t, dSlL_ap, dCatL_ap, dIsN_ap, rng1_ap, rng2_ap, dRange_1, dRange_2, dRange3_ap, ownB_ap, ownT_ap, ownN_ap, eqI_ap, isC_y, il_int, il_bl, il_str, il_non, il_tup, il_lst, il_armD, il_ins, il_dic, il_ar, il_rig, Bool.false_eq_true, if_false, if_true, Res.bind_ok, Res.bind_bad, Res.out_ok, Res.out_bad, Res.calm_ok, List.map_cons, List.map_nil, List.length_cons, List.length_nil, Nat.reduceAdd, Nat.reduceSub, List.replicate, List.cons_append, List.nil_append, List.getElem?_cons_zero, List.getElem?_cons_succ, List.set_cons_succ, List.set_cons_zero, Bool.true_and, Bool.and_true, Bool.not_false, Bool.not_true, List.contains_nil, Option.bind_some, for_ap, lc_ap, Nat.reduceEqDiff, Nat.reduceLeDiff, Bool.false_xor, Bool.true_xor, and_self, decide_true, decide_false, List.lookup, List.all_cons, List.all_nil, List.contains_cons, Nat.reduceBEq, Bool.or_false, Bool.false_or, Bool.or_true, Bool.true_or, beq_self_eq_true, List.contains_nil, isK_bs, isK_is, isK_ss, eqD_str h1 h1, eq_self]
    · obtain ⟨⟨h1, h2⟩, h3⟩ := h
      exact e_equal_seq ih (fun i R => rfl) (fun i R => rfl) rfl rfl h1 h2 h3 (fun R => rfl) (fun R => rfl) (fun R => rfl) (fun R => rfl) true (fun R => rfl) (fun R => rfl) false (fun R => rfl) (fun R => rfl) (fun R => by rw [← h1]; rfl) (fun R => rfl)
    · obtain ⟨⟨h1, h2⟩, h3⟩ := h
      exact e_equal_seq ih (fun i R => rfl) (fun i R => rfl) rfl rfl h1 h2 h3 (fun R => rfl) (fun R => rfl) (fun R => rfl) (fun R => rfl) false (fun R => rfl) (fun R => rfl) true (fun R => rfl) (fun R => rfl) (fun R => by rw [← h1]; rfl) (fun R => rfl)
    · obtain ⟨⟨h1, h2⟩, h3⟩ := h
      exact e_equal_seq ih (fun i R => rfl) (fun i R => rfl) rfl rfl h1 h2 h3 (fun R => rfl) (fun R => rfl) (fun R => rfl) (fun R => rfl) true (fun R => rfl) (fun R => rfl) false (fun R => rfl) (fun R => rfl) (fun R => by rw [← h1]; rfl) (fun R => rfl)
    · obtain ⟨⟨h1, h2⟩, h3⟩ := h
      exact e_equal_seq ih (fun i R => rfl) (fun i R => rfl) rfl rfl h1 h2 h3 (fun R => rfl) (fun R => rfl) (fun R => rfl) (fun R => rfl) true (fun R => rfl) (fun R => rfl) false (fun R => rfl) (fun R => rfl) (fun R => by rw [← h1]; rfl) (fun R => rfl)
theorem e_L_equal {x y : D} {R : Rs} (h : qE 8 x y = true) : f_L_equal [x, y] R = .ok (.bl true) R := by
  unfold f_L_equal; exact pureF_ok (e_equal 8 x y h)
theorem qE_int {k : Nat} {i : Int} : qE (k + 1) (.int i) (.int i) = true := by simp [qE]
theorem qE_lst {k : Nat} {xs ys : List D} (h : xs.length = ys.length) (h2 : ys.length ≤ 100000) (h3 : ∀ i < ys.length, qE k (xs.getD i .non) (ys.getD i .non) = true) : qE (k + 1) (.lst xs) (.lst ys) = true := by
  simp only [qE, Bool.and_eq_true, decide_eq_true_eq, List.all_eq_true, List.mem_range]
  exact ⟨⟨h, h2⟩, h3⟩
theorem qE_tup {k : Nat} {xs ys : List D} (h : xs.length = ys.length) (h2 : ys.length ≤ 100000) (h3 : ∀ i < ys.length, qE k (xs.getD i .non) (ys.getD i .non) = true) : qE (k + 1) (.tup xs) (.tup ys) = true := by
  simp only [qE, Bool.and_eq_true, decide_eq_true_eq, List.all_eq_true, List.mem_range]
  exact ⟨⟨h, h2⟩, h3⟩
theorem inD_getD {xs : List Int} {i : Nat} (h : i < xs.length) : (inD xs).getD i .non = .int (xs.getD i 0) := by simp [inD, List.getD, h]
theorem qE_in {k : Nat} {xs : List Int} (h : xs.length ≤ 100000) : qE (k + 2) (.lst (inD xs)) (.lst (inD xs)) = true := by
  refine qE_lst rfl (by rw [in_len]; exact h) fun i hi => ?_
  rw [inD_getD (by simpa [in_len] using hi)]; exact qE_int
/-! ### values of the operators -/
def callR (c : Str) (n : Nat) (h : List D → Rs → Res D) (gs : GA) (ρ : PEnv) : D → Rs → Res D := fun d R1 => match d with
  | .ins c' fs => if c' = c then (gs ρ R1).bind fun ds R2 => if ds.length + 1 = n then h (.ins c' fs :: ds) R2 else .bad
    else .bad
  | _ => .bad
theorem callR_ap {c : Str} {n : Nat} {h : List D → Rs → Res D} {g : G} {gs : GA} {ρ : PEnv} {R : Rs} : gCallI c n h g gs ρ R = (g ρ R).bind (callR c n h gs ρ) := rfl
theorem callR_rig {n : Nat} {h : List D → Rs → Res D} {gs : GA} {ρ : PEnv} {R : Rs} {a : Arms} : callR "Rig" n h gs ρ (rigD a) R = (gs ρ R).bind fun ds R2 => if ds.length + 1 = n then h (rigD a :: ds) R2 else .bad := by simp [callR, rigD]
theorem callR_mem {n : Nat} {h : List D → Rs → Res D} {gs : GA} {ρ : PEnv} {R : Rs} {a : List Int} : callR "Memory" n h gs ρ (memD a) R = (gs ρ R).bind fun ds R2 => if ds.length + 1 = n then h (memD a :: ds) R2 else .bad := by simp [callR, memD]
def methR (c k : Str) (n : Nat) (h : List D → Rs → Res D) (gs : GA) (ρ : PEnv) : D → Rs → Res D := fun d R1 => match d with
  | .ins c' fs => if c' = c ∧ fs.lookup k = none then (gs ρ R1).bind fun ds R2 => if ds.length + 1 = n then h (.ins c' fs :: ds) R2 else .bad
    else .bad
  | _ => .bad
theorem methR_ap {c k : Str} {n : Nat} {h : List D → Rs → Res D} {g : G} {gs : GA} {ρ : PEnv} {R : Rs} : gMeth c k n h g gs ρ R = (g ρ R).bind (methR c k n h gs ρ) := rfl
theorem methR_rig {k : Str} {n : Nat} {h : List D → Rs → Res D} {gs : GA} {ρ : PEnv} {R : Rs} {a : Arms} (hk : k ≠ "told") : methR "Rig" k n h gs ρ (rigD a) R = (gs ρ R).bind fun ds R2 => if ds.length + 1 = n then h (rigD a :: ds) R2 else .bad := by
  have : (k == ("told" : Str)) = false := by simpa using hk
  simp [methR, rigD, List.lookup, this]
theorem methR_at {n : Nat} {h : List D → Rs → Res D} {gs : GA} {ρ : PEnv} {R : Rs} {a : Arms} : methR "Rig" "at" n h gs ρ (rigD a) R = (gs ρ R).bind fun ds R2 => if ds.length + 1 = n then h (rigD a :: ds) R2 else .bad := methR_rig (by decide)
theorem methR_curve {n : Nat} {h : List D → Rs → Res D} {gs : GA} {ρ : PEnv} {R : Rs} {a : Arms} : methR "Rig" "curve" n h gs ρ (rigD a) R = (gs ρ R).bind fun ds R2 => if ds.length + 1 = n then h (rigD a :: ds) R2 else .bad := methR_rig (by decide)
theorem propR_mem {h : List D → Rs → Res D} {a : List Int} {R : Rs} : propR "Memory" h (memD a) R = h [memD a] R := by simp [propR, memD]
theorem eqI_mem {n : Bool} {a b : List Int} {R : Rs} : dEqI "Memory" n f_Memory_eq (memD a) (memD b) R = .ok (.bl (n ^^ decide (a = b))) R := by
  unfold memD
  rw [eqI_ap]
  have := e_mem_eq (rs := a) (gs := b) (R := R)
  unfold memD at this
  rw [this]
  rfl
def mkR (c : Str) (k : Nat → List D → Rs → Res D) (ds : List D) (R : Rs) : Res D := mkEnd c R.length (k R.length ds (R ++ [.ins c []]))
theorem mkR_ap {c : Str} {n : Nat} {k : Nat → List D → Rs → Res D} {gs : GA} {ρ : PEnv} {R : Rs} : gMk c n k gs ρ R = (gs ρ R).bind fun ds R1 => if ds.length + 1 = n then mkR c k ds R1 else .bad := rfl
theorem mkR_rest {R : Rs} : mkR "Memory" f_Memory_init [.tup [.int 0]] R = .ok (memD [0]) R := mk_mem Mt.memOk_rest
theorem mkR_rig {a : Arms} {R : Rs} : mkR "Rig" f_Rig_init [arD a] R = .ok (rigD a) R := mk_rig
theorem ix_in {xs : List Int} {i : Nat} (h : i < xs.length) : atI (inD xs) (i : Int) = some (.int (xs.getD i 0)) := by
  rw [at_getD (by rw [in_len]; exact h), inD_getD h]
/-! ### rows that are drawn -/
theorem draw_ints {P : Int → Prop} {i : Nat} {ge : G} {ρ : PEnv} (hg : ∀ (d : D) (st : List Int), stOk st = true → ∃ x st', (∀ A0 : Addr, ge (ρ.set i (some d)) [srcD st, .tab A0] = .ok (.int x) [srcD st', .tab A0]) ∧ P x ∧ stOk st' = true) : ∀ (ds : List D) (st : List Int), stOk st = true → ∃ xs st', (∀ A0 : Addr, lcG (dName i) gYes ge ds ρ [srcD st, .tab A0] = .ok (inD xs) [srcD st', .tab A0]) ∧ xs.length = ds.length ∧ (∀ x ∈ xs, P x) ∧ stOk st' = true
  | [], st, hs => ⟨[], st, fun _ => rfl, rfl, by simp, hs⟩
  | d :: ds, st, hs => by
    obtain ⟨x, st1, e1, p1, hs1⟩ := hg d st hs
    obtain ⟨xs, st2, e2, l2, p2, hs2⟩ := draw_ints hg ds st1 hs1
    refine ⟨x :: xs, st2, fun A0 => ?_, by simp [l2], ?_, hs2⟩
    · rw [lcG_yesN, e1, Res.bind_ok, e2]; rfl
    · intro y hy
      rcases List.mem_cons.mp hy with rfl | hy
      · exact p1
      · exact p2 y hy
theorem rngD_len (a : Int) (n : Nat) : (rngD a n).length = n := by simp [rngD]
theorem e_L_row {st : List Int} (hs : stOk st = true) {most far : Int} (h0 : 0 ≤ most) (h1 : most ≤ 1000) (f0 : 0 ≤ far) (f1 : far ≤ 100000) : ∃ row st', (∀ A0 : Addr, f_L_row 0 [.int most, .int far] [srcD st, .tab A0] = .ok (.lst (inD row)) [srcD st', .tab A0]) ∧ (row.length : Int) ≤ most ∧ (∀ p ∈ row, -far ≤ p ∧ p ≤ far) ∧ stOk st' = true := by
  obtain ⟨k, st1, e1, k0, k1, hs⟩ := e_bel (n := 2) hs (by decide) (by decide)
  obtain ⟨m, st2, e2, m0, m1, hs⟩ := e_bel (n := most + 1) hs (by omega) (by omega)
  have hlow : ∃ low : Int, atI [D.int 0, D.int (0 - far)] k = some (.int low) ∧ -far ≤ low ∧ low ≤ 0 := by
    rcases (show k = 0 ∨ k = 1 by omega) with rfl | rfl
    · exact ⟨0, at0, by omega, by omega⟩
    · exact ⟨0 - far, at1, by omega, by omega⟩
  obtain ⟨low, el, l0, l1⟩ := hlow
  have hB : inB m = true := inB_iff.mpr ⟨by omega, by omega⟩
  obtain ⟨row, st3, e3, r1, r2, hs⟩ := draw_ints (P := fun p => -far ≤ p ∧ p ≤ far) (i := 4) (ge := gOp dAdd (gVar 3) (gCallL 0 2 f_L_below (Pv.gCons (gOp dAdd (gOp dSub (gVar 2) (gVar 3)) (gC (.int 1))) Pv.gNil))) (ρ := [some (.loc 0), some (.int most), some (.int far), some (.int low), none]) (fun d st hs => by
    obtain ⟨x, st1, e1, x0, x1, hs⟩ := e_bel (n := far - low + 1) hs (by omega) (by omega)
    refine ⟨low + x, st1, fun A0 => ?_, by omega, hs⟩
    simp only [raise_ap, raiseI_ap, calmF_ap, le_line, lt_line, var_ap, c_ap, op_ap, un_ap, b_ap, and_ap, or_ap, not_ap, if_ap, andV_ap, orV_ap, ch_ap, nil_ap, cons_ap, star_ap, tup_ap, lst_ap, arm_ap, cb_ap, noPart_ap, part_ap, sl_ap, slL_ap, call_ap, callL_ap, mk_ap, fld_ap, prop_ap, meth_ap, callI_ap, get2_ap, dnew_ap, it_ap, itA_ap, yes_ap, next_ap, seq_ap, set_ap, setO_ap, drop_ap, ret_ap, retN_ap, brk_ap, cnt_ap, never_ap, ifS_ap, aug_ap, app_ap, ext_ap, pop_ap, par_ap, asg_ap, dset_ap, stF_ap, stF2_ap, fldL_ap, see_f, see_g, okM_f, okM_g, okR_f, okR_g, okO_f, okO_g, hide_nil, hide_cons, setAll_cons, setAll_nil, wipe_nil, wipe_cons, runB_ap, runL_ap, startL_ap, startD_ap, out1_nx, out1_rt, dName_ap, dGTup_ap, dGLst_ap, dGCons_ap, dGNil_ap, dAdd_ap, dSub_ap, dMul_ap, dFdiv_ap, dMod_ap, dLt_ap, dLe_ap, dGt_ap, dGe_ap, bOf_ap, dNeg_ap, dNot_ap, eqS_int, eqS_bl, eqS_str, dInt1_ap, dInt1_bl, dMax2_ap, dMin2_ap, dAbs_ap, dSum_ap, dAny_ap, dAll_ap, dLen_l, dLen_t, dLen_a, dIx_l, dIx_t, dIx_a, dTup_ap, dLst_ap, dArm_ap, dList_l, dList_t, dTupl_ap, dTupA_ap, lstOf_ap, tupOf_t, tupOf_a, itemsOf_t, itemsOf_l, dSl_l, dSl_t, dSlL_ap, dCatL_ap, dIsN_ap, rng1_ap, rng2_ap, dRange_1, dRange_2, dRange3_ap, ownB_ap, ownT_ap, ownN_ap, eqI_ap, isC_y, il_int, il_bl, il_str, il_non, il_tup, il_lst, il_armD, il_ins, il_dic, il_ar, il_rig, Bool.false_eq_true, if_false, if_true, Res.bind_ok, Res.bind_bad, Res.out_ok, Res.out_bad, Res.calm_ok, List.map_cons, List.map_nil, List.length_cons, List.length_nil, Nat.reduceAdd, Nat.reduceSub, List.replicate, List.cons_append, List.nil_append, List.getElem?_cons_zero, List.getElem?_cons_succ, List.set_cons_succ, List.set_cons_zero, Bool.true_and, Bool.and_true, Bool.not_false, Bool.not_true, List.contains_nil, Option.bind_some, for_ap, lc_ap, Nat.reduceEqDiff, Nat.reduceLeDiff, Bool.false_xor, Bool.true_xor, and_self, decide_true, decide_false, List.lookup, List.all_cons, List.all_nil, List.contains_cons, Nat.reduceBEq, Bool.or_false, Bool.false_or, Bool.or_true, Bool.true_or, beq_self_eq_true, List.contains_nil, e1]) (rngD 0 m.toNat) st2 hs
  refine ⟨row, st3, fun A0 => ?_, by rw [r1, rngD_len]; omega, r2, hs⟩
  unfold f_L_row m_L_row
  have hz : (inD row).length ≤ sizeLine := by rw [in_len, r1, rngD_len]; exact line60 (by omega)
  simp only [raise_ap, raiseI_ap, calmF_ap, le_line, lt_line, var_ap, c_ap, op_ap, un_ap, b_ap, and_ap, or_ap, not_ap, if_ap, andV_ap, orV_ap, ch_ap, nil_ap, cons_ap, star_ap, tup_ap, lst_ap, arm_ap, cb_ap, noPart_ap, part_ap, sl_ap, slL_ap, call_ap, callL_ap, mk_ap, fld_ap, prop_ap, meth_ap, callI_ap, get2_ap, dnew_ap, it_ap, itA_ap, yes_ap, next_ap, seq_ap, set_ap, setO_ap, drop_ap, ret_ap, retN_ap, brk_ap, cnt_ap, never_ap, ifS_ap, aug_ap, app_ap, ext_ap, pop_ap, par_ap, asg_ap, dset_ap, stF_ap, stF2_ap, fldL_ap, see_f, see_g, okM_f, okM_g, okR_f, okR_g, okO_f, okO_g, hide_nil, hide_cons, setAll_cons, setAll_nil, wipe_nil, wipe_cons, runB_ap, runL_ap, startL_ap, startD_ap, out1_nx, out1_rt, dName_ap, dGTup_ap, dGLst_ap, dGCons_ap, dGNil_ap, dAdd_ap, dSub_ap, dMul_ap, dFdiv_ap, dMod_ap, dLt_ap, dLe_ap, dGt_ap, dGe_ap, bOf_ap, dNeg_ap, dNot_ap, eqS_int, eqS_bl, eqS_str, dInt1_ap, dInt1_bl, dMax2_ap, dMin2_ap, dAbs_ap, dSum_ap, dAny_ap, dAll_ap, dLen_l, dLen_t, dLen_a, dIx_l, dIx_t, dIx_a, dTup_ap, dArm_ap, dList_l, dList_t, dTupl_ap, dTupA_ap, lstOf_ap, tupOf_t, tupOf_a, itemsOf_t, itemsOf_l, dSl_l, dSl_t, dSlL_ap, dCatL_ap, dIsN_ap, rng1_ap, rng2_ap, dRange_1, dRange_2, dRange3_ap, ownB_ap, ownT_ap, ownN_ap, eqI_ap, isC_y, il_int, il_bl, il_str, il_non, il_tup, il_lst, il_armD, il_ins, il_dic, il_ar, il_rig, Bool.false_eq_true, if_false, if_true, Res.bind_ok, Res.bind_bad, Res.out_ok, Res.out_bad, Res.calm_ok, List.map_cons, List.map_nil, List.length_cons, List.length_nil, Nat.reduceAdd, Nat.reduceSub, List.replicate, List.cons_append, List.nil_append, List.getElem?_cons_zero, List.getElem?_cons_succ, List.set_cons_succ, List.set_cons_zero, Bool.true_and, Bool.and_true, Bool.not_false, Bool.not_true, List.contains_nil, Option.bind_some, for_ap, lc_ap, Nat.reduceEqDiff, Nat.reduceLeDiff, Bool.false_xor, Bool.true_xor, and_self, decide_true, decide_false, List.lookup, List.all_cons, List.all_nil, List.contains_cons, Nat.reduceBEq, Bool.or_false, Bool.false_or, Bool.or_true, Bool.true_or, beq_self_eq_true, List.contains_nil, e1, el, e2, hB, e3, lst_ok hz, lst_ok2]
end Lw

namespace Lw
open PySem PySem.Spec PyProof.Rows L2 Sr Pv Rg
variable {A0 : Addr}
open Mt (movedR followR MemOk MemV endA memR iabs wyG wyA swL lsum trav)
/-! ### swings, ways -/
theorem abs_ia {x : Int} : (if x < 0 then -x else x) = iabs x := rfl
theorem sw_zip : ∀ (ps : List Int), List.zipWith (fun a b => D.tup [a, b]) (inD ps) (inD (ps.drop 1)) = (List.range (ps.length - 1)).map fun i : Nat => D.tup [.int (ps.getD i 0), .int (ps.getD (i + 1) 0)]
  | [] => rfl
  | [a] => rfl
  | a :: b :: r => by
    have ih := sw_zip (b :: r)
    simp only [List.drop_succ_cons, List.drop_zero, List.length_cons, Nat.add_sub_cancel] at ih ⊢
    rw [List.range_succ_eq_map, List.map_cons, List.map_map]
    show D.tup [.int a, .int b] :: List.zipWith (fun a b => D.tup [a, b]) (inD (b :: r)) (inD r) = _
    rw [ih]
    rfl
theorem sw_list : ∀ (ps : List Int), swL ps = (List.range (ps.length - 1)).map fun i : Nat => iabs (ps.getD (i + 1) 0 - ps.getD i 0)
  | [] => rfl
  | [a] => rfl
  | a :: b :: r => by
    have ih := sw_list (b :: r)
    simp only [List.length_cons, Nat.add_sub_cancel] at ih ⊢
    rw [List.range_succ_eq_map, List.map_cons, List.map_map, swL, ih]
    rfl
theorem e_swings_of {ps : List Int} {R : Rs} (hl : ps.length ≤ 2000) : f_swings_of [.tup (inD ps)] R = .ok (.lst (inD (swL ps))) R := by
  unfold f_swings_of
  refine pureF_ok ?_
  unfold m_swings_of
  simp only [raise_ap, raiseI_ap, calmF_ap, le_line, lt_line, var_ap, c_ap, op_ap, un_ap, b_ap, and_ap, or_ap, not_ap, if_ap, andV_ap, orV_ap, ch_ap, nil_ap, cons_ap, star_ap, tup_ap, lst_ap, arm_ap, cb_ap, noPart_ap, part_ap, sl_ap, slL_ap, call_ap, callL_ap, mk_ap, fld_ap, prop_ap, meth_ap, callI_ap, get2_ap, dnew_ap, it_ap, itA_ap, yes_ap, next_ap, seq_ap, set_ap, setO_ap, drop_ap, ret_ap, retN_ap, brk_ap, cnt_ap, never_ap, ifS_ap, aug_ap, app_ap, ext_ap, pop_ap, par_ap, asg_ap, dset_ap, stF_ap, stF2_ap, fldL_ap, see_f, see_g, okM_f, okM_g, okR_f, okR_g, okO_f, okO_g, hide_nil, hide_cons, setAll_cons, setAll_nil, wipe_nil, wipe_cons, runB_ap, runL_ap, startL_ap, startD_ap, out1_nx, out1_rt, dName_ap, dGTup_ap, dGLst_ap, dGCons_ap, dGNil_ap, dAdd_ap, dSub_ap, dMul_ap, dFdiv_ap, dMod_ap, dLt_ap, dLe_ap, dGt_ap, dGe_ap, bOf_ap, dNeg_ap, dNot_ap, eqS_int, eqS_bl, eqS_str, dInt1_ap, dInt1_bl, dMax2_ap, dMin2_ap, dAbs_ap, dSum_ap, dAny_ap, dAll_ap, dLen_l, dLen_t, dLen_a, dIx_l, dIx_t, dIx_a, dTup_ap, dArm_ap, dList_l, dList_t, dTupl_ap, dTupA_ap, lstOf_ap, tupOf_t, tupOf_a, itemsOf_t, itemsOf_l, dSl_l, dSl_t, dSlL_ap, dCatL_ap, dIsN_ap, rng1_ap, rng2_ap, dRange_1, dRange_2, dRange3_ap, ownB_ap, ownT_ap, ownN_ap, eqI_ap, isC_y, il_int, il_bl, il_str, il_non, il_tup, il_lst, il_armD, il_ins, il_dic, il_ar, il_rig, Bool.false_eq_true, if_false, if_true, Res.bind_ok, Res.bind_bad, Res.out_ok, Res.out_bad, Res.calm_ok, List.map_cons, List.map_nil, List.length_cons, List.length_nil, Nat.reduceAdd, Nat.reduceSub, List.replicate, List.cons_append, List.nil_append, List.getElem?_cons_zero, List.getElem?_cons_succ, List.set_cons_succ, List.set_cons_zero, Bool.true_and, Bool.and_true, Bool.not_false, Bool.not_true, List.contains_nil, Option.bind_some, for_ap, lc_ap, Nat.reduceEqDiff, Nat.reduceLeDiff, Bool.false_xor, Bool.true_xor, and_self, decide_true, decide_false, List.lookup, List.all_cons, List.all_nil, List.contains_cons, Nat.reduceBEq, Bool.or_false, Bool.false_or, Bool.or_true, Bool.true_or, beq_self_eq_true, List.contains_nil, zipD, cut_drop1]
  rw [show (inD ps).drop 1 = inD (ps.drop 1) by simp [inD], sw_zip]
  rw [lcG_map (fun i : Nat => D.tup [.int (ps.getD i 0), .int (ps.getD (i + 1) 0)]) (fun i : Nat => D.int (iabs (ps.getD (i + 1) 0 - ps.getD i 0))) (fun i hi => by
    refine ⟨_, rfl, ?_⟩
    simp only [raise_ap, raiseI_ap, calmF_ap, le_line, lt_line, var_ap, c_ap, op_ap, un_ap, b_ap, and_ap, or_ap, not_ap, if_ap, andV_ap, orV_ap, ch_ap, nil_ap, cons_ap, star_ap, tup_ap, lst_ap, arm_ap, cb_ap, noPart_ap, part_ap, sl_ap, slL_ap, call_ap, callL_ap, mk_ap, fld_ap, prop_ap, meth_ap, callI_ap, get2_ap, dnew_ap, it_ap, itA_ap, yes_ap, next_ap, seq_ap, set_ap, setO_ap, drop_ap, ret_ap, retN_ap, brk_ap, cnt_ap, never_ap, ifS_ap, aug_ap, app_ap, ext_ap, pop_ap, par_ap, asg_ap, dset_ap, stF_ap, stF2_ap, fldL_ap, see_f, see_g, okM_f, okM_g, okR_f, okR_g, okO_f, okO_g, hide_nil, hide_cons, setAll_cons, setAll_nil, wipe_nil, wipe_cons, runB_ap, runL_ap, startL_ap, startD_ap, out1_nx, out1_rt, dName_ap, dGTup_ap, dGLst_ap, dGCons_ap, dGNil_ap, dAdd_ap, dSub_ap, dMul_ap, dFdiv_ap, dMod_ap, dLt_ap, dLe_ap, dGt_ap, dGe_ap, bOf_ap, dNeg_ap, dNot_ap, eqS_int, eqS_bl, eqS_str, dInt1_ap, dInt1_bl, dMax2_ap, dMin2_ap, dAbs_ap, dSum_ap, dAny_ap, dAll_ap, dLen_l, dLen_t, dLen_a, dIx_l, dIx_t, dIx_a, dTup_ap, dLst_ap, dArm_ap, dList_l, dList_t, dTupl_ap, dTupA_ap, lstOf_ap, tupOf_t, tupOf_a, itemsOf_t, itemsOf_l, dSl_l, dSl_t, dSlL_ap, dCatL_ap, dIsN_ap, rng1_ap, rng2_ap, dRange_1, dRange_2, dRange3_ap, ownB_ap, ownT_ap, ownN_ap, eqI_ap, isC_y, il_int, il_bl, il_str, il_non, il_tup, il_lst, il_armD, il_ins, il_dic, il_ar, il_rig, Bool.false_eq_true, if_false, if_true, Res.bind_ok, Res.bind_bad, Res.out_ok, Res.out_bad, Res.calm_ok, List.map_cons, List.map_nil, List.length_cons, List.length_nil, Nat.reduceAdd, Nat.reduceSub, List.replicate, List.cons_append, List.nil_append, List.getElem?_cons_zero, List.getElem?_cons_succ, List.set_cons_succ, List.set_cons_zero, Bool.true_and, Bool.and_true, Bool.not_false, Bool.not_true, List.contains_nil, Option.bind_some, for_ap, lc_ap, Nat.reduceEqDiff, Nat.reduceLeDiff, Bool.false_xor, Bool.true_xor, and_self, decide_true, decide_false, List.lookup, List.all_cons, List.all_nil, List.contains_cons, Nat.reduceBEq, Bool.or_false, Bool.false_or, Bool.or_true, Bool.true_or, beq_self_eq_true, List.contains_nil, abs_ia])]
  rw [show (List.range (ps.length - 1)).map (fun i : Nat => D.int (iabs (ps.getD (i + 1) 0 - ps.getD i 0))) = inD (swL ps) by rw [sw_list, inD, List.map_map]; rfl]
  rw [Res.calm_ok, Res.bind_ok, lst_ok (by rw [in_len, Mt.swL_len]; exact line60 (by omega))]
  rfl
end Lw

namespace Lw
open PySem PySem.Spec PyProof.Rows L2 Sr Pv Rg
variable {A0 : Addr}
open Mt (movedR followR MemOk MemV endA memR iabs)
/-! ### one move from rest -/
/-! ### where two rigs are unlike first -/
def Unl (a b : Arms) (d : D) : Prop :=
  (∃ h : Int, 1 ≤ h ∧ d = .int h ∧ cv a h ≠ cv b h ∧ (∀ k : Int, 1 ≤ k → k < h → cv a k = cv b k) ∧ (1 < h → pull a = pull b)) ∨ (d = .int (-1) ∧ cv a 1 = cv b 1 ∧ pull a ≠ pull b) ∨ (d = .non ∧ a = b)
theorem Unl.symm {a b : Arms} {d : D} (h : Unl a b d) : Unl b a d := by
  rcases h with ⟨x, x1, rfl, x2, x3, x4⟩ | ⟨rfl, x2, x3⟩ | ⟨rfl, rfl⟩
  · exact .inl ⟨x, x1, rfl, Ne.symm x2, fun k h1 h2 => (x3 k h1 h2).symm, fun h => (x4 h).symm⟩
  · exact .inr (.inl ⟨rfl, x2.symm, Ne.symm x3⟩)
  · exact .inr (.inr ⟨rfl, rfl⟩)
theorem gs_nonneg {a : Arms} (h : Canon a) : 0 ≤ gs a := by
  unfold gs
  split
  · rename_i q hq; exact (h.2 q (List.mem_of_getLast? hq)).1
  · exact Int.le_refl 0
theorem rng_up (i : Int) (n : Nat) : rngD i n = (List.range n).map fun k : Nat => D.int (i + (k : Int)) := rfl
end Lw

namespace Lw
open PySem PySem.Spec PyProof.Rows L2 Sr Pv Rg
variable {A0 : Addr}
open Mt (movedR followR MemOk MemV endA memR iabs)
/-! ### further functions of rigs and memories -/
end Lw

namespace Lw
open PySem PySem.Spec PyProof.Rows L2 Sr Pv Rg
variable {A0 : Addr}
open Mt (movedR followR MemOk MemV endA memR iabs)
/-! ### up to a height and down again -/
theorem dnN_onS {n j : Nat} (h : j ≤ n) : dnN j (onS n) = (0, List.replicate j false ++ List.replicate (n - j) true) := by
  have := dnN_on 0 j 0 (List.replicate (n - j) true)
  simp only [List.replicate_zero, List.nil_append] at this
  rw [← this]
  unfold onS
  congr 1
  rw [List.replicate_append_replicate]
  congr 2; omega
theorem eB_dn {a : Arms} (hc : Canon a) {n j : Nat} (h : j ≤ n) : eB a (dnN j (onS n)) = cv a n - cv a j := by
  rw [dnN_onS h]
  unfold eB
  have e := sumB_rep a false j 0 (List.replicate (n - j) true)
  have e2 := sum_on a (n - j) ((0 : Int) + j)
  simp only [Bool.false_eq_true, if_false] at e
  simp only [Int.zero_mul, Int.zero_add] at *
  rw [e, e2]
  congr 1
  congr 1; omega
end Lw

namespace Lw
open PySem PySem.Spec PyProof.Rows L2 Sr Pv Rg
variable {A0 : Addr}
/-! ### the laws' own arms -/
end Lw

namespace Lw
open PySem PySem.Spec PyProof.Rows L2 Sr Pv Rg
variable {A0 : Addr}
open Mt (movedR followR MemOk MemV endA memR iabs LM trig)
/-! ### memories by their meaning -/
theorem lcG_flt {α : Type} {T : TD} {tt : GT} {ge : G} {ρ : PEnv} {R : Rs} (enc f : α → D) (p : α → Bool) : ∀ {xs : List α}, (∀ x ∈ xs, ∃ ρ1, T (enc x) ρ = some ρ1 ∧ tt ρ1 R = .ok (p x) R ∧ (p x = true → ge ρ1 R = .ok (f x) R)) → lcG T tt ge (xs.map enc) ρ R = .ok ((xs.filter p).map f) R
  | [], _ => rfl
  | x :: xs, h => by
    obtain ⟨ρ1, h1, h2, h3⟩ := h x (by simp)
    have ih := lcG_flt enc f p (xs := xs) fun y hy => h y (by simp [hy])
    rw [List.map_cons]
    unfold lcG
    simp only [h1, h2, Res.bind_ok]
    cases hp : p x with
    | false => simp only [hp, Bool.false_eq_true, not_false_iff, List.filter_cons_of_neg, ih]
    | true =>
      simp only [h3 hp, Res.bind_ok, ih, List.filter_cons, hp, if_true, List.map_cons]
theorem ints_in : ∀ xs : List Int, intsOf (inD xs) = some xs
  | [] => rfl
  | x :: xs => by
    have := ints_in xs
    unfold inD at this ⊢
    simp [intsOf, this]
theorem maxL {xs : List Int} (h : xs ≠ []) {R : Rs} : dMaxU [.lst (inD xs)] R = .ok (.int (hiI xs)) R := by
  unfold dMaxU; simp only [ints_in]; cases xs with
  | nil => exact absurd rfl h
  | cons x xs => rfl
theorem minL {xs : List Int} (h : xs ≠ []) {R : Rs} : dMinU [.lst (inD xs)] R = .ok (.int (loI xs)) R := by
  unfold dMinU; simp only [ints_in]; cases xs with
  | nil => exact absurd rfl h
  | cons x xs => rfl
theorem loI_mem : ∀ {xs : List Int}, xs ≠ [] → loI xs ∈ xs
  | [a], _ => by simp [loI]
  | a :: b :: r, _ => by
    have ih := loI_mem (xs := b :: r) (by simp)
    show min a (loI (b :: r)) ∈ _
    rcases Int.le_total a (loI (b :: r)) with h | h
    · rw [Int.min_eq_left h]; simp
    · rw [Int.min_eq_right h]; exact List.mem_cons_of_mem _ ih
theorem hiI_mem : ∀ {xs : List Int}, xs ≠ [] → hiI xs ∈ xs
  | [a], _ => by simp [hiI]
  | a :: b :: r, _ => by
    have ih := hiI_mem (xs := b :: r) (by simp)
    show max a (hiI (b :: r)) ∈ _
    rcases Int.le_total a (hiI (b :: r)) with h | h
    · rw [Int.max_eq_right h]; exact List.mem_cons_of_mem _ ih
    · rw [Int.max_eq_left h]; simp
theorem lo_le : ∀ {xs : List Int} {a : Int}, a ∈ xs → loI xs ≤ a
  | [b], a, h => by simp at h; subst h; exact Int.le_refl _
  | b :: c :: r, a, h => by
    show min b (loI (c :: r)) ≤ a
    rcases List.mem_cons.mp h with rfl | h
    · exact Int.min_le_left _ _
    · exact Int.le_trans (Int.min_le_right _ _) (lo_le h)
theorem hi_ge : ∀ {xs : List Int} {a : Int}, a ∈ xs → a ≤ hiI xs
  | [b], a, h => by simp at h; subst h; exact Int.le_refl _
  | b :: c :: r, a, h => by
    show a ≤ max b (hiI (c :: r))
    rcases List.mem_cons.mp h with rfl | h
    · exact Int.le_max_left _ _
    · exact Int.le_trans (hi_ge h) (Int.le_max_right _ _)
theorem trig_lo {xs : List Int} {a : Int} (ha : a ∈ xs) (h : ∀ x ∈ xs, trig true x a = true) : loI xs = a := by
  have hne : xs ≠ [] := fun z => by rw [z] at ha; cases ha
  have h1 := lo_le ha
  have h2 := h _ (loI_mem hne)
  simp [trig] at h2
  omega
theorem trig_hi {xs : List Int} {a : Int} (ha : a ∈ xs) (h : ∀ x ∈ xs, trig false x a = true) : hiI xs = a := by
  have hne : xs ≠ [] := fun z => by rw [z] at ha; cases ha
  have h1 := hi_ge ha
  have h2 := h _ (hiI_mem hne)
  simp [trig] at h2
  omega
/-- the indexes of a -/
theorem idx_last {u v : List Int} {a : Int} (hv : a ∉ v) : ∃ ks : List Nat, (List.range (u ++ a :: v).length).filter (fun k => decide ((u ++ a :: v).getD k 0 = a)) = ks ++ [u.length] := by
  have hl : (u ++ a :: v).length = u.length + 1 + v.length := by simp; omega
  have hr : List.range (u ++ a :: v).length = List.range u.length ++ [u.length] ++ (List.range v.length).map (fun k => u.length + 1 + k) := by
    rw [hl, List.range_add, List.range_succ]
  rw [hr, List.filter_append, List.filter_append]
  refine ⟨(List.range u.length).filter (fun k => decide ((u ++ a :: v).getD k 0 = a)), ?_⟩
  have h1 : [u.length].filter (fun k => decide ((u ++ a :: v).getD k 0 = a)) = [u.length] := by simp [List.getD]
  have h2 : ((List.range v.length).map (fun k => u.length + 1 + k)).filter (fun k => decide ((u ++ a :: v).getD k 0 = a)) = [] := by
    rw [List.filter_eq_nil_iff]
    intro k hk
    obtain ⟨m, hm, rfl⟩ := List.mem_map.mp hk
    have hm := List.mem_range.mp hm
    have e : (u ++ a :: v).getD (u.length + 1 + m) 0 = v[m] := by
      rw [List.getD, List.getElem?_append_right (by omega), show u.length + 1 + m - u.length = m + 1 by omega, List.getElem?_cons_succ, List.getElem?_eq_getElem hm]; rfl
    rw [e]
    simp
    exact fun z => hv (z ▸ List.getElem_mem hm)
  rw [h1, h2, List.append_nil]
theorem mem_loop {W : List Int} (hW : W.length ≤ 2000) {x0 : Option D} : ∀ {b : Bool} {w ps : List Int}, LM b w ps → ∀ (n k : Nat) (fs : List Int) (x5 x6 x7 : Option D), w = W.drop k → ps.length ≤ n → fs.length + ps.length ≤ 2000 →
    whlG .f [2] (gB (gC (.bl true))) (gSeq (gSet .f [2] 5 (gSl (gVar 1) (gPart (gVar 3)) gNoPart))
  (gSeq (gSet .f [2] 6 (gIf (gB (gVar 4)) (gCB dMinU (Pv.gCons (gVar 5) Pv.gNil)) (gCB dMaxU (Pv.gCons (gVar 5) Pv.gNil))))
  (gSeq (gSet .f [2] 7 (gOp dIx (gLc [8] (gItA rng1 (Pv.gCons (gCB dLen (Pv.gCons (gVar 5) Pv.gNil)) Pv.gNil)) (dName 8) (gB (gOp (dEqS false) (gOp dIx (gVar 5) (gVar 8)) (gVar 6))) (gVar 8)) (gUn dNeg (gC (.int 1)))))
  (gSeq (gApp .f [2] 2 (gVar 6))
  (gSeq (gIfS .f [2] (gB (gOp (dEqS false) (gVar 7) (gOp dSub (gCB dLen (Pv.gCons (gVar 5) Pv.gNil)) (gC (.int 1))))) (gRet (gCB dTupl (Pv.gCons (gVar 2) Pv.gNil))) gNext)
  (gPar [2] [3, 4] [false, false] (Pv.gCons (gOp dAdd (gVar 3) (gVar 7)) (Pv.gCons (gUn dNot (gVar 4)) Pv.gNil)))))))) n [x0, some (.lst (inD W)), some (.lst (inD fs)), some (.int (k : Int)), some (.bl b), x5, x6, x7, none] [] = .rt (.tup (inD (fs ++ ps))) [] := by
  have one : ∀ (b : Bool) (u v : List Int) (a : Int) (x0 : Option D) (k : Nat) (fs : List Int) (x5 x6 x7 : Option D), (∀ x ∈ u ++ a :: v, trig b x a = true) → a ∉ v → u ++ a :: v = W.drop k → fs.length ≤ 2000 → ∀ g : GS,
      (gSeq (gSet .f [2] 5 (gSl (gVar 1) (gPart (gVar 3)) gNoPart))
        (gSeq (gSet .f [2] 6 (gIf (gB (gVar 4)) (gCB dMinU (Pv.gCons (gVar 5) Pv.gNil)) (gCB dMaxU (Pv.gCons (gVar 5) Pv.gNil))))
        (gSeq (gSet .f [2] 7 (gOp dIx (gLc [8] (gItA rng1 (Pv.gCons (gCB dLen (Pv.gCons (gVar 5) Pv.gNil)) Pv.gNil)) (dName 8) (gB (gOp (dEqS false) (gOp dIx (gVar 5) (gVar 8)) (gVar 6))) (gVar 8)) (gUn dNeg (gC (.int 1)))))
        (gSeq (gApp .f [2] 2 (gVar 6)) g)))) [x0, some (.lst (inD W)), some (.lst (inD fs)), some (.int (k : Int)), some (.bl b), x5, x6, x7, none] []
      = g [x0, some (.lst (inD W)), some (.lst (inD (fs ++ [a]))), some (.int (k : Int)), some (.bl b), some (.lst (inD (u ++ a :: v))), some (.int a), some (.int (u.length : Int)), none] [] := by
    intro b u v a x0 k fs x5 x6 x7 htr hav hw hfs g
    have hwl : (u ++ a :: v).length ≤ 2000 := by rw [hw]; simp; omega
    have hne : u ++ a :: v ≠ [] := by simp
    have hmem : a ∈ u ++ a :: v := by simp
    have c1 : (inD W).drop k = inD (u ++ a :: v) := by rw [hw]; unfold inD; rw [List.map_drop]
    obtain ⟨ks, hks⟩ := idx_last (u := u) (v := v) (a := a) hav
    have hlc : ∀ (y5 : Option D), lcG (dName 8) (gB (gOp (dEqS false) (gOp dIx (gVar 5) (gVar 8)) (gVar 6))) (gVar 8) (rngD 0 (u ++ a :: v).length) [x0, some (.lst (inD W)), none, some (.int (k : Int)), some (.bl b), some (.lst (inD (u ++ a :: v))), some (.int a), x7, none] [] = .ok ((ks ++ [u.length]).map fun i : Nat => D.int (i : Int)) [] := by
      intro _
      rw [← hks, rng_up]
      exact lcG_flt (fun i : Nat => D.int (0 + (i : Int))) (fun i : Nat => D.int (i : Int)) (fun i => decide ((u ++ a :: v).getD i 0 = a)) fun i hi => by
        have hi := List.mem_range.mp hi
        refine ⟨_, rfl, ?_, fun _ => ?_⟩
        · have e0 : (0 : Int) + (i : Int) = i := by omega
          simp only [raise_ap, raiseI_ap, calmF_ap, le_line, lt_line, var_ap, c_ap, op_ap, un_ap, b_ap, and_ap, or_ap, not_ap, if_ap, andV_ap, orV_ap, ch_ap, nil_ap, cons_ap, star_ap, tup_ap, lst_ap, arm_ap, cb_ap, noPart_ap, part_ap, sl_ap, slL_ap, call_ap, callL_ap, fld_ap, get2_ap, dnew_ap, it_ap, itA_ap, yes_ap, next_ap, seq_ap, set_ap, setO_ap, drop_ap, ret_ap, retN_ap, brk_ap, cnt_ap, never_ap, ifS_ap, aug_ap, app_ap, ext_ap, pop_ap, par_ap, asg_ap, dset_ap, stF_ap, stF2_ap, fldL_ap, see_f, see_g, okM_f, okM_g, okR_f, okR_g, okO_f, okO_g, hide_nil, hide_cons, setAll_cons, setAll_nil, wipe_nil, wipe_cons, runB_ap, runL_ap, startL_ap, startD_ap, out1_nx, out1_rt, dName_ap, dGTup_ap, dGLst_ap, dGCons_ap, dGNil_ap, dAdd_ap, dSub_ap, dMul_ap, dFdiv_ap, dMod_ap, dLt_ap, dLe_ap, dGt_ap, dGe_ap, bOf_ap, dNeg_ap, dNot_ap, eqS_int, eqS_bl, eqS_str, dInt1_ap, dInt1_bl, dMax2_ap, dMin2_ap, dAbs_ap, dSum_ap, dAny_ap, dAll_ap, dLen_l, dLen_t, dLen_a, dIx_l, dIx_t, dIx_a, dTup_ap, dArm_ap, dList_l, dList_t, dTupl_ap, dTupA_ap, lstOf_ap, tupOf_t, tupOf_a, itemsOf_t, itemsOf_l, dSl_l, dSl_t, dSlL_ap, dCatL_ap, dIsN_ap, rng2_ap, dRange_1, dRange_2, dRange3_ap, isC_y, il_int, il_bl, il_str, il_non, il_tup, il_lst, il_armD, il_ins, il_dic, il_ar, il_rig, Bool.false_eq_true, if_false, if_true, Res.bind_ok, Res.bind_bad, Res.out_ok, Res.out_bad, Res.calm_ok, List.map_cons, List.map_nil, List.length_cons, List.length_nil, Nat.reduceAdd, Nat.reduceSub, List.replicate, List.cons_append, List.nil_append, List.getElem?_cons_zero, List.getElem?_cons_succ, List.set_cons_succ, List.set_cons_zero, Bool.true_and, Bool.and_true, Bool.not_false, Bool.not_true, List.contains_nil, Option.bind_some, for_ap, lc_ap, Nat.reduceEqDiff, Nat.reduceLeDiff, Bool.false_xor, Bool.true_xor, and_self, decide_true, decide_false, List.lookup, List.all_cons, List.all_nil, List.contains_cons, Nat.reduceBEq, Bool.or_false, Bool.false_or, Bool.or_true, Bool.true_or, beq_self_eq_true, List.contains_nil, propR_ap, propR_rig, ownB_rig, ownT_rig, ownN_rig, eqI_rig, e_rig_fwd, lcG_nil, lcG_yesN, eq_self, lawStart_ap, in2, in3, in4, rg2, rg3, rg4, at0, at1, at2, il_tr, Bool.xor_true, Bool.xor_false, mkR_ap, mkR_rest, mkR_rig, callR_ap, callR_rig, callR_mem, methR_ap, methR_at, methR_curve, propR_mem, eqI_mem, lst_ok0, lst_ok1, lst_ok2, lst_ok3, il_pl, il_mem, e_mem_places, e_mem_place, e_rig_arms, e0, ix_in hi]
        · have e0 : (0 : Int) + (i : Int) = i := by omega
          simp only [raise_ap, raiseI_ap, calmF_ap, le_line, lt_line, var_ap, c_ap, op_ap, un_ap, b_ap, and_ap, or_ap, not_ap, if_ap, andV_ap, orV_ap, ch_ap, nil_ap, cons_ap, star_ap, tup_ap, lst_ap, arm_ap, cb_ap, noPart_ap, part_ap, sl_ap, slL_ap, call_ap, callL_ap, fld_ap, get2_ap, dnew_ap, it_ap, itA_ap, yes_ap, next_ap, seq_ap, set_ap, setO_ap, drop_ap, ret_ap, retN_ap, brk_ap, cnt_ap, never_ap, ifS_ap, aug_ap, app_ap, ext_ap, pop_ap, par_ap, asg_ap, dset_ap, stF_ap, stF2_ap, fldL_ap, see_f, see_g, okM_f, okM_g, okR_f, okR_g, okO_f, okO_g, hide_nil, hide_cons, setAll_cons, setAll_nil, wipe_nil, wipe_cons, runB_ap, runL_ap, startL_ap, startD_ap, out1_nx, out1_rt, dName_ap, dGTup_ap, dGLst_ap, dGCons_ap, dGNil_ap, dAdd_ap, dSub_ap, dMul_ap, dFdiv_ap, dMod_ap, dLt_ap, dLe_ap, dGt_ap, dGe_ap, bOf_ap, dNeg_ap, dNot_ap, eqS_int, eqS_bl, eqS_str, dInt1_ap, dInt1_bl, dMax2_ap, dMin2_ap, dAbs_ap, dSum_ap, dAny_ap, dAll_ap, dLen_l, dLen_t, dLen_a, dIx_l, dIx_t, dIx_a, dTup_ap, dArm_ap, dList_l, dList_t, dTupl_ap, dTupA_ap, lstOf_ap, tupOf_t, tupOf_a, itemsOf_t, itemsOf_l, dSl_l, dSl_t, dSlL_ap, dCatL_ap, dIsN_ap, rng2_ap, dRange_1, dRange_2, dRange3_ap, isC_y, il_int, il_bl, il_str, il_non, il_tup, il_lst, il_armD, il_ins, il_dic, il_ar, il_rig, Bool.false_eq_true, if_false, if_true, Res.bind_ok, Res.bind_bad, Res.out_ok, Res.out_bad, Res.calm_ok, List.map_cons, List.map_nil, List.length_cons, List.length_nil, Nat.reduceAdd, Nat.reduceSub, List.replicate, List.cons_append, List.nil_append, List.getElem?_cons_zero, List.getElem?_cons_succ, List.set_cons_succ, List.set_cons_zero, Bool.true_and, Bool.and_true, Bool.not_false, Bool.not_true, List.contains_nil, Option.bind_some, for_ap, lc_ap, Nat.reduceEqDiff, Nat.reduceLeDiff, Bool.false_xor, Bool.true_xor, and_self, decide_true, decide_false, List.lookup, List.all_cons, List.all_nil, List.contains_cons, Nat.reduceBEq, Bool.or_false, Bool.false_or, Bool.or_true, Bool.true_or, beq_self_eq_true, List.contains_nil, propR_ap, propR_rig, ownB_rig, ownT_rig, ownN_rig, eqI_rig, e_rig_fwd, lcG_nil, lcG_yesN, eq_self, lawStart_ap, in2, in3, in4, rg2, rg3, rg4, at0, at1, at2, il_tr, Bool.xor_true, Bool.xor_false, mkR_ap, mkR_rest, mkR_rig, callR_ap, callR_rig, callR_mem, methR_ap, methR_at, methR_curve, propR_mem, eqI_mem, lst_ok0, lst_ok1, lst_ok2, lst_ok3, il_pl, il_mem, e_mem_places, e_mem_place, e_rig_arms, e0]
    have hz : ((ks ++ [u.length]).map fun i : Nat => D.int (i : Int)).length ≤ sizeLine := by
      rw [List.length_map, ← hks]
      exact line60 (Nat.le_trans (List.length_filter_le _ _) (by rw [List.length_range]; omega))
    have hat : atI ((ks ++ [u.length]).map fun i : Nat => D.int (i : Int)) (-1) = some (.int (u.length : Int)) := by
      rw [List.map_append]; exact at_m1 _ _
    have hR := fun R : Rs => rng1_ok (R := R) (show (0 : Int) ≤ ((u ++ a :: v).length : Int) by omega) (by omega)
    have hfz : fs.length < sizeLine := by exact Nat.lt_of_lt_of_le (Nat.lt_succ_self _) (line60 (by omega))
    have hap : inD fs ++ [D.int a] = inD (fs ++ [a]) := by simp [inD]
    cases b with
    | true =>
      have hlo := trig_lo hmem htr
      simp only [raise_ap, raiseI_ap, calmF_ap, le_line, lt_line, var_ap, c_ap, op_ap, un_ap, b_ap, and_ap, or_ap, not_ap, if_ap, andV_ap, orV_ap, ch_ap, nil_ap, cons_ap, star_ap, tup_ap, lst_ap, arm_ap, cb_ap, noPart_ap, part_ap, sl_ap, slL_ap, call_ap, callL_ap, fld_ap, get2_ap, dnew_ap, it_ap, itA_ap, yes_ap, next_ap, seq_ap, set_ap, setO_ap, drop_ap, ret_ap, retN_ap, brk_ap, cnt_ap, never_ap, ifS_ap, aug_ap, app_ap, ext_ap, pop_ap, par_ap, asg_ap, dset_ap, stF_ap, stF2_ap, fldL_ap, see_f, see_g, okM_f, okM_g, okR_f, okR_g, okO_f, okO_g, hide_nil, hide_cons, setAll_cons, setAll_nil, wipe_nil, wipe_cons, runB_ap, runL_ap, startL_ap, startD_ap, out1_nx, out1_rt, dName_ap, dGTup_ap, dGLst_ap, dGCons_ap, dGNil_ap, dAdd_ap, dSub_ap, dMul_ap, dFdiv_ap, dMod_ap, dLt_ap, dLe_ap, dGt_ap, dGe_ap, bOf_ap, dNeg_ap, dNot_ap, eqS_int, eqS_bl, eqS_str, dInt1_ap, dInt1_bl, dMax2_ap, dMin2_ap, dAbs_ap, dSum_ap, dAny_ap, dAll_ap, dLen_l, dLen_t, dLen_a, dIx_l, dIx_t, dIx_a, dTup_ap, dArm_ap, dList_l, dList_t, dTupl_ap, dTupA_ap, lstOf_ap, tupOf_t, tupOf_a, itemsOf_t, itemsOf_l, dSl_l, dSl_t, dSlL_ap, dCatL_ap, dIsN_ap, rng2_ap, dRange_1, dRange_2, dRange3_ap, isC_y, il_int, il_bl, il_str, il_non, il_tup, il_lst, il_armD, il_ins, il_dic, il_ar, il_rig, Bool.false_eq_true, if_false, if_true, Res.bind_ok, Res.bind_bad, Res.out_ok, Res.out_bad, Res.calm_ok, List.map_cons, List.map_nil, List.length_cons, List.length_nil, Nat.reduceAdd, Nat.reduceSub, List.replicate, List.cons_append, List.nil_append, List.getElem?_cons_zero, List.getElem?_cons_succ, List.set_cons_succ, List.set_cons_zero, Bool.true_and, Bool.and_true, Bool.not_false, Bool.not_true, List.contains_nil, Option.bind_some, for_ap, lc_ap, Nat.reduceEqDiff, Nat.reduceLeDiff, Bool.false_xor, Bool.true_xor, and_self, decide_true, decide_false, List.lookup, List.all_cons, List.all_nil, List.contains_cons, Nat.reduceBEq, Bool.or_false, Bool.false_or, Bool.or_true, Bool.true_or, beq_self_eq_true, List.contains_nil, propR_ap, propR_rig, ownB_rig, ownT_rig, ownN_rig, eqI_rig, e_rig_fwd, lcG_nil, lcG_yesN, eq_self, lawStart_ap, in2, in3, in4, rg2, rg3, rg4, at0, at1, at2, il_tr, Bool.xor_true, Bool.xor_false, mkR_ap, mkR_rest, mkR_rig, callR_ap, callR_rig, callR_mem, methR_ap, methR_at, methR_curve, propR_mem, eqI_mem, lst_ok0, lst_ok1, lst_ok2, lst_ok3, il_pl, il_mem, e_mem_places, e_mem_place, e_rig_arms, cut_drop, c1, minL hne, hlo, in_len, hR, Int.toNat_natCast, hlc none, lst_ok hz, hat, hap, decide_eq_true hfz]
    | false =>
      have hlo := trig_hi hmem htr
      simp only [raise_ap, raiseI_ap, calmF_ap, le_line, lt_line, var_ap, c_ap, op_ap, un_ap, b_ap, and_ap, or_ap, not_ap, if_ap, andV_ap, orV_ap, ch_ap, nil_ap, cons_ap, star_ap, tup_ap, lst_ap, arm_ap, cb_ap, noPart_ap, part_ap, sl_ap, slL_ap, call_ap, callL_ap, fld_ap, get2_ap, dnew_ap, it_ap, itA_ap, yes_ap, next_ap, seq_ap, set_ap, setO_ap, drop_ap, ret_ap, retN_ap, brk_ap, cnt_ap, never_ap, ifS_ap, aug_ap, app_ap, ext_ap, pop_ap, par_ap, asg_ap, dset_ap, stF_ap, stF2_ap, fldL_ap, see_f, see_g, okM_f, okM_g, okR_f, okR_g, okO_f, okO_g, hide_nil, hide_cons, setAll_cons, setAll_nil, wipe_nil, wipe_cons, runB_ap, runL_ap, startL_ap, startD_ap, out1_nx, out1_rt, dName_ap, dGTup_ap, dGLst_ap, dGCons_ap, dGNil_ap, dAdd_ap, dSub_ap, dMul_ap, dFdiv_ap, dMod_ap, dLt_ap, dLe_ap, dGt_ap, dGe_ap, bOf_ap, dNeg_ap, dNot_ap, eqS_int, eqS_bl, eqS_str, dInt1_ap, dInt1_bl, dMax2_ap, dMin2_ap, dAbs_ap, dSum_ap, dAny_ap, dAll_ap, dLen_l, dLen_t, dLen_a, dIx_l, dIx_t, dIx_a, dTup_ap, dArm_ap, dList_l, dList_t, dTupl_ap, dTupA_ap, lstOf_ap, tupOf_t, tupOf_a, itemsOf_t, itemsOf_l, dSl_l, dSl_t, dSlL_ap, dCatL_ap, dIsN_ap, rng2_ap, dRange_1, dRange_2, dRange3_ap, isC_y, il_int, il_bl, il_str, il_non, il_tup, il_lst, il_armD, il_ins, il_dic, il_ar, il_rig, Bool.false_eq_true, if_false, if_true, Res.bind_ok, Res.bind_bad, Res.out_ok, Res.out_bad, Res.calm_ok, List.map_cons, List.map_nil, List.length_cons, List.length_nil, Nat.reduceAdd, Nat.reduceSub, List.replicate, List.cons_append, List.nil_append, List.getElem?_cons_zero, List.getElem?_cons_succ, List.set_cons_succ, List.set_cons_zero, Bool.true_and, Bool.and_true, Bool.not_false, Bool.not_true, List.contains_nil, Option.bind_some, for_ap, lc_ap, Nat.reduceEqDiff, Nat.reduceLeDiff, Bool.false_xor, Bool.true_xor, and_self, decide_true, decide_false, List.lookup, List.all_cons, List.all_nil, List.contains_cons, Nat.reduceBEq, Bool.or_false, Bool.false_or, Bool.or_true, Bool.true_or, beq_self_eq_true, List.contains_nil, propR_ap, propR_rig, ownB_rig, ownT_rig, ownN_rig, eqI_rig, e_rig_fwd, lcG_nil, lcG_yesN, eq_self, lawStart_ap, in2, in3, in4, rg2, rg3, rg4, at0, at1, at2, il_tr, Bool.xor_true, Bool.xor_false, mkR_ap, mkR_rest, mkR_rig, callR_ap, callR_rig, callR_mem, methR_ap, methR_at, methR_curve, propR_mem, eqI_mem, lst_ok0, lst_ok1, lst_ok2, lst_ok3, il_pl, il_mem, e_mem_places, e_mem_place, e_rig_arms, cut_drop, c1, maxL hne, hlo, in_len, hR, Int.toNat_natCast, hlc none, lst_ok hz, hat, hap, decide_eq_true hfz]
  intro b w ps h
  induction h with
  | @stop low u a hh =>
    intro n k fs x5 x6 x7 hw hn hf
    obtain ⟨n, rfl⟩ : ∃ m, n = m + 1 := ⟨n - 1, by simp at hn; omega⟩
    unfold whlG
    have hl2 : ((u ++ [a]).length : Int) - 1 = (u.length : Int) := by simp
    simp only [b_ap, c_ap, bOf_ap, see_f, Res.bind_ok, Res.out_ok, okR_f, if_true]
    rw [one low u [] a x0 k fs x5 x6 x7 hh (by simp) hw (by simp at hf; omega)]
    simp only [raise_ap, raiseI_ap, calmF_ap, le_line, lt_line, var_ap, c_ap, op_ap, un_ap, b_ap, and_ap, or_ap, not_ap, if_ap, andV_ap, orV_ap, ch_ap, nil_ap, cons_ap, star_ap, tup_ap, lst_ap, arm_ap, cb_ap, noPart_ap, part_ap, sl_ap, slL_ap, call_ap, callL_ap, fld_ap, get2_ap, dnew_ap, it_ap, itA_ap, yes_ap, next_ap, seq_ap, set_ap, setO_ap, drop_ap, ret_ap, retN_ap, brk_ap, cnt_ap, never_ap, ifS_ap, aug_ap, app_ap, ext_ap, pop_ap, par_ap, asg_ap, dset_ap, stF_ap, stF2_ap, fldL_ap, see_f, see_g, okM_f, okM_g, okR_f, okR_g, okO_f, okO_g, hide_nil, hide_cons, setAll_cons, setAll_nil, wipe_nil, wipe_cons, runB_ap, runL_ap, startL_ap, startD_ap, out1_nx, out1_rt, dName_ap, dGTup_ap, dGLst_ap, dGCons_ap, dGNil_ap, dAdd_ap, dSub_ap, dMul_ap, dFdiv_ap, dMod_ap, dLt_ap, dLe_ap, dGt_ap, dGe_ap, bOf_ap, dNeg_ap, dNot_ap, eqS_int, eqS_bl, eqS_str, dInt1_ap, dInt1_bl, dMax2_ap, dMin2_ap, dAbs_ap, dSum_ap, dAny_ap, dAll_ap, dLen_l, dLen_t, dLen_a, dIx_l, dIx_t, dIx_a, dTup_ap, dArm_ap, dList_l, dList_t, dTupl_ap, dTupA_ap, lstOf_ap, tupOf_t, tupOf_a, itemsOf_t, itemsOf_l, dSl_l, dSl_t, dSlL_ap, dCatL_ap, dIsN_ap, rng2_ap, dRange_1, dRange_2, dRange3_ap, isC_y, il_int, il_bl, il_str, il_non, il_tup, il_lst, il_armD, il_ins, il_dic, il_ar, il_rig, Bool.false_eq_true, if_false, if_true, Res.bind_ok, Res.bind_bad, Res.out_ok, Res.out_bad, Res.calm_ok, List.map_cons, List.map_nil, List.length_cons, List.length_nil, Nat.reduceAdd, Nat.reduceSub, List.replicate, List.cons_append, List.nil_append, List.getElem?_cons_zero, List.getElem?_cons_succ, List.set_cons_succ, List.set_cons_zero, Bool.true_and, Bool.and_true, Bool.not_false, Bool.not_true, List.contains_nil, Option.bind_some, for_ap, lc_ap, Nat.reduceEqDiff, Nat.reduceLeDiff, Bool.false_xor, Bool.true_xor, and_self, decide_true, decide_false, List.lookup, List.all_cons, List.all_nil, List.contains_cons, Nat.reduceBEq, Bool.or_false, Bool.false_or, Bool.or_true, Bool.true_or, beq_self_eq_true, List.contains_nil, propR_ap, propR_rig, ownB_rig, ownT_rig, ownN_rig, eqI_rig, e_rig_fwd, lcG_nil, lcG_yesN, eq_self, lawStart_ap, in2, in3, in4, rg2, rg3, rg4, at0, at1, at2, il_tr, Bool.xor_true, Bool.xor_false, mkR_ap, mkR_rest, mkR_rig, callR_ap, callR_rig, callR_mem, methR_ap, methR_at, methR_curve, propR_mem, eqI_mem, lst_ok0, lst_ok1, lst_ok2, lst_ok3, il_pl, il_mem, e_mem_places, e_mem_place, e_rig_arms, in_len, hl2, eq_self]
  | @go low u v a ps hh hv hn2 r ih =>
    intro n k fs x5 x6 x7 hw hn hf
    obtain ⟨n, rfl⟩ : ∃ m, n = m + 1 := ⟨n - 1, by simp at hn; omega⟩
    unfold whlG
    have hvl : 0 < v.length := List.length_pos_iff.mpr hv
    have hl2 : ¬ ((u.length : Int) = ((u ++ a :: v).length : Int) - 1) := by simp; omega
    have hfl : (flOk [2] [3, 4] [false, false] && decide ([3, 4] : List Nat).Nodup) = true := rfl
    simp only [b_ap, c_ap, bOf_ap, see_f, Res.bind_ok, Res.out_ok, okR_f, if_true]
    rw [one low u v a x0 k fs x5 x6 x7 hh hn2 hw (by simp at hf; omega)]
    have hk : (k : Int) + (u.length : Int) = ((k + u.length : Nat) : Int) := by omega
    have hd : a :: v = W.drop (k + u.length) := by
      rw [← List.drop_drop, ← hw]; simp
    have := ih n (k + u.length) (fs ++ [a]) (some (.lst (inD (u ++ a :: v)))) (some (.int a)) (some (.int (u.length : Int))) hd (by simp at hn; omega) (by simp at hf ⊢; omega)
    simp only [raise_ap, raiseI_ap, calmF_ap, le_line, lt_line, var_ap, c_ap, op_ap, un_ap, b_ap, and_ap, or_ap, not_ap, if_ap, andV_ap, orV_ap, ch_ap, nil_ap, cons_ap, star_ap, tup_ap, lst_ap, arm_ap, cb_ap, noPart_ap, part_ap, sl_ap, slL_ap, call_ap, callL_ap, fld_ap, get2_ap, dnew_ap, it_ap, itA_ap, yes_ap, next_ap, seq_ap, set_ap, setO_ap, drop_ap, ret_ap, retN_ap, brk_ap, cnt_ap, never_ap, ifS_ap, aug_ap, app_ap, ext_ap, pop_ap, par_ap, asg_ap, dset_ap, stF_ap, stF2_ap, fldL_ap, see_f, see_g, okM_f, okM_g, okR_f, okR_g, okO_f, okO_g, hide_nil, hide_cons, setAll_cons, setAll_nil, wipe_nil, wipe_cons, runB_ap, runL_ap, startL_ap, startD_ap, out1_nx, out1_rt, dName_ap, dGTup_ap, dGLst_ap, dGCons_ap, dGNil_ap, dAdd_ap, dSub_ap, dMul_ap, dFdiv_ap, dMod_ap, dLt_ap, dLe_ap, dGt_ap, dGe_ap, bOf_ap, dNeg_ap, dNot_ap, eqS_int, eqS_bl, eqS_str, dInt1_ap, dInt1_bl, dMax2_ap, dMin2_ap, dAbs_ap, dSum_ap, dAny_ap, dAll_ap, dLen_l, dLen_t, dLen_a, dIx_l, dIx_t, dIx_a, dTup_ap, dArm_ap, dList_l, dList_t, dTupl_ap, dTupA_ap, lstOf_ap, tupOf_t, tupOf_a, itemsOf_t, itemsOf_l, dSl_l, dSl_t, dSlL_ap, dCatL_ap, dIsN_ap, rng2_ap, dRange_1, dRange_2, dRange3_ap, isC_y, il_int, il_bl, il_str, il_non, il_tup, il_lst, il_armD, il_ins, il_dic, il_ar, il_rig, Bool.false_eq_true, if_false, if_true, Res.bind_ok, Res.bind_bad, Res.out_ok, Res.out_bad, Res.calm_ok, List.map_cons, List.map_nil, List.length_cons, List.length_nil, Nat.reduceAdd, Nat.reduceSub, List.replicate, List.cons_append, List.nil_append, List.getElem?_cons_zero, List.getElem?_cons_succ, List.set_cons_succ, List.set_cons_zero, Bool.true_and, Bool.and_true, Bool.not_false, Bool.not_true, List.contains_nil, Option.bind_some, for_ap, lc_ap, Nat.reduceEqDiff, Nat.reduceLeDiff, Bool.false_xor, Bool.true_xor, and_self, decide_true, decide_false, List.lookup, List.all_cons, List.all_nil, List.contains_cons, Nat.reduceBEq, Bool.or_false, Bool.false_or, Bool.or_true, Bool.true_or, beq_self_eq_true, List.contains_nil, propR_ap, propR_rig, ownB_rig, ownT_rig, ownN_rig, eqI_rig, e_rig_fwd, lcG_nil, lcG_yesN, eq_self, lawStart_ap, in2, in3, in4, rg2, rg3, rg4, at0, at1, at2, il_tr, Bool.xor_true, Bool.xor_false, mkR_ap, mkR_rest, mkR_rig, callR_ap, callR_rig, callR_mem, methR_ap, methR_at, methR_curve, propR_mem, eqI_mem, lst_ok0, lst_ok1, lst_ok2, lst_ok3, il_pl, il_mem, e_mem_places, e_mem_place, e_rig_arms, in_len, hl2, hk, hfl]
    rw [this]
    simp
theorem e_L_memory {row : List Int} {R : Rs} (hl : row.length ≤ 900) (hp : ∀ p ∈ row, FarP p) : f_L_memory [.lst (inD row)] R = .ok (plD (memR row)) R := by
  have hLM := Mt.memR_LM row.length rfl hp
  have hlen := Mt.memR_len row
  unfold f_L_memory
  refine pureF_ok ?_
  unfold m_L_memory
  have hcat : [D.int 0].length + (inD row).length ≤ sizeLine := by rw [in_len]; exact line60 (by simp; omega)
  have hc : D.int 0 :: inD row = inD (0 :: row) := rfl
  have hfl : (flOk [2] [1, 2, 3, 4] [false, true, false, false] && decide ([1, 2, 3, 4] : List Nat).Nodup) = true := rfl
  have hw := mem_loop (W := 0 :: row) (by simp; omega) (x0 := some (.lst (inD row))) hLM 1000 0 [] none none none rfl (by simp; omega) (by simp; omega)
  rw [show D.lst (inD ([] : List Int)) = .lst [] from rfl, show ((0 : Nat) : Int) = 0 from rfl] at hw
  simp only [raise_ap, raiseI_ap, calmF_ap, le_line, lt_line, var_ap, c_ap, op_ap, un_ap, b_ap, and_ap, or_ap, not_ap, if_ap, andV_ap, orV_ap, ch_ap, nil_ap, cons_ap, star_ap, tup_ap, lst_ap, arm_ap, cb_ap, noPart_ap, part_ap, sl_ap, slL_ap, call_ap, callL_ap, fld_ap, get2_ap, dnew_ap, it_ap, itA_ap, yes_ap, next_ap, seq_ap, set_ap, setO_ap, drop_ap, ret_ap, retN_ap, brk_ap, cnt_ap, never_ap, ifS_ap, aug_ap, app_ap, ext_ap, pop_ap, par_ap, asg_ap, dset_ap, stF_ap, stF2_ap, fldL_ap, see_f, see_g, okM_f, okM_g, okR_f, okR_g, okO_f, okO_g, hide_nil, hide_cons, setAll_cons, setAll_nil, wipe_nil, wipe_cons, runB_ap, runL_ap, startL_ap, startD_ap, out1_nx, out1_rt, dName_ap, dGTup_ap, dGLst_ap, dGCons_ap, dGNil_ap, dAdd_ap, dSub_ap, dMul_ap, dFdiv_ap, dMod_ap, dLt_ap, dLe_ap, dGt_ap, dGe_ap, bOf_ap, dNeg_ap, dNot_ap, eqS_int, eqS_bl, eqS_str, dInt1_ap, dInt1_bl, dMax2_ap, dMin2_ap, dAbs_ap, dSum_ap, dAny_ap, dAll_ap, dLen_l, dLen_t, dLen_a, dIx_l, dIx_t, dIx_a, dTup_ap, dArm_ap, dList_l, dList_t, dTupl_ap, dTupA_ap, lstOf_ap, tupOf_t, tupOf_a, itemsOf_t, itemsOf_l, dSl_l, dSl_t, dSlL_ap, dCatL_ap, dIsN_ap, rng2_ap, dRange_1, dRange_2, dRange3_ap, isC_y, il_int, il_bl, il_str, il_non, il_tup, il_lst, il_armD, il_ins, il_dic, il_ar, il_rig, Bool.false_eq_true, if_false, if_true, Res.bind_ok, Res.bind_bad, Res.out_ok, Res.out_bad, Res.calm_ok, List.map_cons, List.map_nil, List.length_cons, List.length_nil, Nat.reduceAdd, Nat.reduceSub, List.replicate, List.cons_append, List.nil_append, List.getElem?_cons_zero, List.getElem?_cons_succ, List.set_cons_succ, List.set_cons_zero, Bool.true_and, Bool.and_true, Bool.not_false, Bool.not_true, List.contains_nil, Option.bind_some, for_ap, lc_ap, Nat.reduceEqDiff, Nat.reduceLeDiff, Bool.false_xor, Bool.true_xor, and_self, decide_true, decide_false, List.lookup, List.all_cons, List.all_nil, List.contains_cons, Nat.reduceBEq, Bool.or_false, Bool.false_or, Bool.or_true, Bool.true_or, beq_self_eq_true, List.contains_nil, propR_ap, propR_rig, ownB_rig, ownT_rig, ownN_rig, eqI_rig, e_rig_fwd, lcG_nil, lcG_yesN, eq_self, lawStart_ap, in2, in3, in4, rg2, rg3, rg4, at0, at1, at2, il_tr, Bool.xor_true, Bool.xor_false, mkR_ap, mkR_rest, mkR_rig, callR_ap, callR_rig, callR_mem, methR_ap, methR_at, methR_curve, propR_mem, eqI_mem, lst_ok0, lst_ok1, lst_ok2, lst_ok3, il_pl, il_mem, e_mem_places, e_mem_place, e_rig_arms, lst_ok1, lst_ok0, catL_ok hcat, hc, hfl, whl_ap]
  rw [hw, plD_in]
  simp
  rfl
end Lw

namespace Lw
open PySem PySem.Spec PyProof.Rows L2 Sr Pv Rg
variable {A0 : Addr}
open Mt (movedR followR MemOk MemV endA memR iabs swings isNextR)
/-! ### max of rows of numbers -/
theorem maxR_mem : ∀ (xs : List (List Int)) (x : List Int), maxR x xs ∈ x :: xs
  | [], x => by simp [maxR]
  | y :: xs, x => by
    have ih := maxR_mem xs (if ltL x y then y else x)
    have e : maxR x (y :: xs) = maxR (if ltL x y then y else x) xs := rfl
    rw [e]
    rcases List.mem_cons.mp ih with h | h
    · rw [h]; split <;> simp
    · simp [h]
theorem ltL_hd {x y : List Int} (hx : x ≠ []) (hy : y ≠ []) : (ltL x y = true → x.getD 0 0 ≤ y.getD 0 0) ∧ (ltL x y = false → y.getD 0 0 ≤ x.getD 0 0) := by
  cases x with
  | nil => exact absurd rfl hx
  | cons a x =>
    cases y with
    | nil => exact absurd rfl hy
    | cons b y =>
      unfold ltL
      simp only [List.getD_cons_zero, decide_eq_true_eq, decide_eq_false_iff_not, List.cons_lt_cons_iff]
      exact ⟨fun h => by rcases h with h | h <;> omega, fun h => by omega⟩
theorem maxR_ge : ∀ (xs : List (List Int)) (x : List Int), (∀ y ∈ x :: xs, y ≠ []) → ∀ y ∈ x :: xs, y.getD 0 0 ≤ (maxR x xs).getD 0 0
  | [], x, _, y, hy => by
    simp at hy
    subst hy
    exact Int.le_refl _
  | z :: xs, x, hn, y, hy => by
    have hx := hn x (by simp)
    have hz := hn z (by simp)
    have hq := ltL_hd hx hz
    have e : maxR x (z :: xs) = maxR (if ltL x z then z else x) xs := rfl
    have hm : ∀ w ∈ (if ltL x z then z else x) :: xs, w ≠ [] := fun w hw => by
      rcases List.mem_cons.mp hw with h | h
      · rw [h]; split
        · exact hz
        · exact hx
      · exact hn w (by simp [h])
    have ih := maxR_ge xs (if ltL x z then z else x) hm
    rw [e]
    have h0 := ih _ (List.mem_cons_self)
    rcases List.mem_cons.mp hy with h | h
    · subst h
      refine Int.le_trans ?_ h0
      split
      · rename_i q; exact hq.1 q
      · exact Int.le_refl _
    · rcases List.mem_cons.mp h with h | h
      · subst h
        refine Int.le_trans ?_ h0
        split
        · exact Int.le_refl _
        · rename_i q; exact hq.2 (by simpa using q)
      · exact ih y (by simp [h])
/-! ### the best swings, by parts -/
def bsF (c : Int → Int) (sg : Int) (ps : List (List Int)) (k : Nat) : List (List Int) := (List.range k).map fun j : Nat => [(ps.getD (j + 1) []).getD 0 0 + sg * c (1 + (j : Int)), 1 + (j : Int)]
def bsP (c : Int → Int) : Nat → List (List Int) × List (List Int)
  | 0 => ([[0, 0]], [[0, 0]])
  | k + 1 => ((bsP c k).1 ++ [maxR [0, 0] (bsF c (-1) (bsP c k).2 k)],
      (bsP c k).2 ++ [maxR [0, 0] (bsF c 1 ((bsP c k).1 ++ [maxR [0, 0] (bsF c (-1) (bsP c k).2 k)]) k)])
theorem bsP_len (c : Int → Int) : ∀ k, (bsP c k).1.length = k + 1 ∧ (bsP c k).2.length = k + 1
  | 0 => ⟨rfl, rfl⟩
  | k + 1 => by
    have ih := bsP_len c k
    unfold bsP
    simp [ih.1, ih.2]
def two (r : List Int) : Prop := ∃ a b, r = [a, b]
/-! ### what the best swings are worth -/
theorem bs_at (c : Int → Int) {j : Nat} : ∀ {k : Nat}, j ≤ k → (bsP c k).1.getD j [] = (bsP c j).1.getD j [] ∧ (bsP c k).2.getD j [] = (bsP c j).2.getD j []
  | 0, h => by rw [show j = 0 by omega]; exact ⟨rfl, rfl⟩
  | k + 1, h => by
    by_cases e : j = k + 1
    · subst e; exact ⟨rfl, rfl⟩
    · have ih := bs_at c (j := j) (k := k) (by omega)
      obtain ⟨l1, l2⟩ := bsP_len c k
      have a1 : (bsP c (k + 1)).1.getD j [] = (bsP c k).1.getD j [] := by
        show ((bsP c k).1 ++ _).getD j [] = _
        simp only [List.getD, List.getElem?_append_left (show j < (bsP c k).1.length by omega)]
      have a2 : (bsP c (k + 1)).2.getD j [] = (bsP c k).2.getD j [] := by
        show ((bsP c k).2 ++ _).getD j [] = _
        simp only [List.getD, List.getElem?_append_left (show j < (bsP c k).2.length by omega)]
      rw [a1, a2]
      exact ih
def uR (c : Int → Int) (h : Nat) : List Int := (bsP c h).1.getD h []
def dR (c : Int → Int) (h : Nat) : List Int := (bsP c h).2.getD h []
theorem getD_last {xs : List (List Int)} {m : List Int} {k : Nat} (h : xs.length = k) : (xs ++ [m]).getD k [] = m := by
  subst h
  simp [List.getD]
theorem uR_succ (c : Int → Int) (k : Nat) : uR c (k + 1) = maxR [0, 0] (bsF c (-1) (bsP c k).2 k) := by
  unfold uR
  exact getD_last (bsP_len c k).1
theorem dR_succ (c : Int → Int) (k : Nat) : dR c (k + 1) = maxR [0, 0] (bsF c 1 (bsP c (k + 1)).1 k) := by
  unfold dR
  exact getD_last (bsP_len c k).2
theorem bsF_ne {c : Int → Int} {sg : Int} {ps : List (List Int)} {k : Nat} : ∀ y ∈ [0, 0] :: bsF c sg ps k, y ≠ [] := fun y hy => by
  rcases List.mem_cons.mp hy with h | h
  · rw [h]; simp
  · unfold bsF at h
    obtain ⟨j, _, e⟩ := List.mem_map.mp h
    rw [← e]; simp
abbrev uV (c : Int → Int) (h : Nat) : Int := (uR c h).getD 0 0
abbrev dV (c : Int → Int) (h : Nat) : Int := (dR c h).getD 0 0
theorem u_facts (c : Int → Int) : ∀ h : Nat, 0 ≤ uV c h ∧ (∀ p : Nat, 1 ≤ p → p < h → dV c p - c p ≤ uV c h) ∧ (uR c h = [0, 0] ∨ ∃ p : Nat, 1 ≤ p ∧ p < h ∧ uR c h = [dV c p - c p, (p : Int)])
  | 0 => ⟨Int.le_refl 0, fun p h1 h2 => by omega, .inl rfl⟩
  | k + 1 => by
    have hg := maxR_ge (bsF c (-1) (bsP c k).2 k) [0, 0] bsF_ne
    have hm := maxR_mem (bsF c (-1) (bsP c k).2 k) [0, 0]
    have hv : ∀ j : Nat, j < k → ((bsP c k).2.getD (j + 1) []).getD 0 0 + -1 * c (1 + (j : Int)) = dV c (j + 1) - c ((j + 1 : Nat) : Int) := fun j hj => by
      rw [(bs_at c (show j + 1 ≤ k by omega)).2, show ((j + 1 : Nat) : Int) = 1 + (j : Int) by omega]
      show dV c (j + 1) + _ = _
      omega
    unfold uV
    rw [uR_succ]
    refine ⟨hg [0, 0] (by simp), fun p h1 h2 => ?_, ?_⟩
    · obtain ⟨j, rfl⟩ : ∃ j, p = j + 1 := ⟨p - 1, by omega⟩
      have := hg [((bsP c k).2.getD (j + 1) []).getD 0 0 + -1 * c (1 + (j : Int)), 1 + (j : Int)] (by
        refine List.mem_cons_of_mem _ ?_
        unfold bsF
        exact List.mem_map.mpr ⟨j, List.mem_range.mpr (by omega), rfl⟩)
      rw [List.getD_cons_zero, hv j (by omega)] at this
      exact this
    · rcases List.mem_cons.mp hm with h | h
      · exact .inl h
      · unfold bsF at h
        obtain ⟨j, hj, e⟩ := List.mem_map.mp h
        have hj := List.mem_range.mp hj
        refine .inr ⟨j + 1, by omega, by omega, ?_⟩
        rw [← hv j hj, show ((j + 1 : Nat) : Int) = 1 + (j : Int) by omega]
        unfold bsF
        exact e.symm
theorem d_facts (c : Int → Int) : ∀ h : Nat, 0 ≤ dV c h ∧ (∀ p : Nat, 1 ≤ p → p < h → uV c p + c p ≤ dV c h) ∧ (dR c h = [0, 0] ∨ ∃ p : Nat, 1 ≤ p ∧ p < h ∧ dR c h = [uV c p + c p, (p : Int)])
  | 0 => ⟨Int.le_refl 0, fun p h1 h2 => by omega, .inl rfl⟩
  | k + 1 => by
    have hg := maxR_ge (bsF c 1 (bsP c (k + 1)).1 k) [0, 0] bsF_ne
    have hm := maxR_mem (bsF c 1 (bsP c (k + 1)).1 k) [0, 0]
    have hv : ∀ j : Nat, j < k → ((bsP c (k + 1)).1.getD (j + 1) []).getD 0 0 + 1 * c (1 + (j : Int)) = uV c (j + 1) + c ((j + 1 : Nat) : Int) := fun j hj => by
      rw [(bs_at c (show j + 1 ≤ k + 1 by omega)).1, show ((j + 1 : Nat) : Int) = 1 + (j : Int) by omega]
      show uV c (j + 1) + _ = _
      omega
    unfold dV
    rw [dR_succ]
    refine ⟨hg [0, 0] (by simp), fun p h1 h2 => ?_, ?_⟩
    · obtain ⟨j, rfl⟩ : ∃ j, p = j + 1 := ⟨p - 1, by omega⟩
      have := hg [((bsP c (k + 1)).1.getD (j + 1) []).getD 0 0 + 1 * c (1 + (j : Int)), 1 + (j : Int)] (by
        refine List.mem_cons_of_mem _ ?_
        unfold bsF
        exact List.mem_map.mpr ⟨j, List.mem_range.mpr (by omega), rfl⟩)
      rw [List.getD_cons_zero, hv j (by omega)] at this
      exact this
    · rcases List.mem_cons.mp hm with h | h
      · exact .inl h
      · unfold bsF at h
        obtain ⟨j, hj, e⟩ := List.mem_map.mp h
        have hj := List.mem_range.mp hj
        refine .inr ⟨j + 1, by omega, by omega, ?_⟩
        rw [← hv j hj, show ((j + 1 : Nat) : Int) = 1 + (j : Int) by omega]
        unfold bsF
        exact e.symm
/-! ### ends by heights of swings -/
def alt (c : Int → Int) : Bool → List Int → Int
  | _, [] => 0
  | b, h :: r => (if b then c h else -c h) + alt c (!b) r
/-! ### greatest_end -/
theorem swings_snoc (a : Arms) : ∀ (l : List Int) (sg q z : Int), swings a sg (l ++ [q, z]) = swings a sg (l ++ [q]) + (if l.length % 2 = 0 then sg else 0 - sg) * Mt.curveA a (iabs (z - q))
  | [], sg, q, z => by
    show sg * Mt.curveA a (iabs (z - q)) + 0 = 0 + _
    simp
  | [x], sg, q, z => by
    show sg * Mt.curveA a (iabs (q - x)) + ((0 - sg) * Mt.curveA a (iabs (z - q)) + 0) = sg * Mt.curveA a (iabs (q - x)) + 0 + _
    simp
  | x :: y :: l, sg, q, z => by
    have ih := swings_snoc a (y :: l) (0 - sg) q z
    show sg * Mt.curveA a (iabs (y - x)) + swings a (0 - sg) (y :: (l ++ [q, z])) = sg * Mt.curveA a (iabs (y - x)) + swings a (0 - sg) (y :: (l ++ [q])) + _
    rw [show y :: (l ++ [q, z]) = (y :: l) ++ [q, z] from rfl, ih, show (y :: l) ++ [q] = y :: (l ++ [q]) from rfl]
    have : (if (y :: l).length % 2 = 0 then (0 - sg) else (0 - (0 - sg))) = (if (x :: y :: l).length % 2 = 0 then sg else 0 - sg) := by
      simp only [List.length_cons]
      by_cases h : l.length % 2 = 0
      · rw [if_neg (by omega), if_pos (by omega)]; omega
      · rw [if_pos (by omega), if_neg (by omega)]
    rw [this]
    omega
theorem endA_snoc (a : Arms) {rs : List Int} {q z : Int} {tl : List Int} (h : rs = q :: tl) : endA a (z :: rs).reverse = endA a rs.reverse + (if rs.length % 2 = 1 then 1 else 0 - 1) * cv a (iabs (z - q)) := by
  subst h
  have e1 : (z :: q :: tl).reverse = tl.reverse ++ [q, z] := by simp
  have e2 : (q :: tl).reverse = tl.reverse ++ [q] := by simp
  rw [e1, e2]
  unfold endA
  rw [swings_snoc, Mt.cv_eq, List.length_reverse]
  have e3 : (tl.reverse ++ [q, z]).getD 0 0 = (tl.reverse ++ [q]).getD 0 0 := by
    cases tl.reverse <;> rfl
  have e4 : (if tl.length % 2 = 0 then (1 : Int) else 0 - 1) = (if (q :: tl).length % 2 = 1 then 1 else 0 - 1) := by
    simp only [List.length_cons]
    by_cases h : tl.length % 2 = 0
    · rw [if_pos h, if_pos (by omega)]
    · rw [if_neg h, if_neg (by omega)]
  rw [e3, e4]
  omega
/-- what the rest of a way is worth -/
def gain (c : Int → Int) (b : Bool) (h : Nat) : Int := if h = 0 then 0 else if b then c h + uV c h else -c h + dV c h
theorem gain_u (c : Int → Int) (h : Nat) : ∃ p : Nat, (p = 0 ∨ p < h) ∧ uR c h = [uV c h, (p : Int)] ∧ gain c false p = uV c h := by
  rcases (u_facts c h).2.2 with e | ⟨p, h1, h2, e⟩
  · refine ⟨0, .inl rfl, ?_, ?_⟩
    · unfold uV; rw [e]; rfl
    · unfold uV; rw [e]; rfl
  · refine ⟨p, .inr h2, ?_, ?_⟩
    · unfold uV; rw [e]; rfl
    · unfold gain uV
      rw [if_neg (by omega), e]
      simp
      omega
theorem gain_d (c : Int → Int) (h : Nat) : ∃ p : Nat, (p = 0 ∨ p < h) ∧ dR c h = [dV c h, (p : Int)] ∧ gain c true p = dV c h := by
  rcases (d_facts c h).2.2 with e | ⟨p, h1, h2, e⟩
  · refine ⟨0, .inl rfl, ?_, ?_⟩
    · unfold dV; rw [e]; rfl
    · unfold dV; rw [e]; rfl
  · refine ⟨p, .inr h2, ?_, ?_⟩
    · unfold dV; rw [e]; rfl
    · unfold gain dV
      rw [if_neg (by omega), e]
      simp
      omega
structure GInv (a : Arms) (low high e : Int) (rs : List Int) (b : Bool) (h : Nat) : Prop where
  m : MemOk rs
  bd : ∀ x ∈ rs, low ≤ x ∧ x ≤ high
  par : (rs.length % 2 = 1 ↔ b = true)
  nx : 0 < h → ∃ q tl, rs = q :: tl ∧ isNextR rs (if b then q + h else q - h) = true ∧ low ≤ (if b then q + (h : Int) else q - h) ∧ (if b then q + (h : Int) else q - h) ≤ high
  val : endA a rs.reverse + gain (cv a) b h = e
theorem GInv.step {a : Arms} {low high e : Int} (h0 : -200 ≤ low) (h1 : high ≤ 200) {rs : List Int} {b : Bool} {h : Nat} (I : GInv a low high e rs b h) (hp : 0 < h) : ∃ q tl p, rs = q :: tl ∧ p < h ∧
    (if b then uR (cv a) h else dR (cv a) h) = [if b then uV (cv a) h else dV (cv a) h, (p : Int)] ∧ GInv a low high e ((if b then q + h else q - h) :: rs) (!b) p := by
  obtain ⟨q, tl, er, n1, n2, n3⟩ := I.nx hp
  have hz : iabs ((if b then q + (h : Int) else q - h) - q) = h := by cases b <;> simp <;> unfold iabs <;> split <;> omega
  have key : ∃ p : Nat, (p = 0 ∨ p < h) ∧ (if b then uR (cv a) h else dR (cv a) h) = [if b then uV (cv a) h else dV (cv a) h, (p : Int)] ∧ gain (cv a) (!b) p = if b then uV (cv a) h else dV (cv a) h := by
    cases b
    · exact gain_d (cv a) h
    · exact gain_u (cv a) h
  obtain ⟨p, hp1, hp2, hp3⟩ := key
  have hph : p < h := by rcases hp1 with x | x <;> omega
  refine ⟨q, tl, p, er, hph, hp2, ⟨by simp, ?_⟩, fun x hx => ?_, ?_, fun hpp => ?_, ?_⟩
  · exact ⟨⟨by omega, by omega⟩, n1, I.m.2⟩
  · rcases List.mem_cons.mp hx with h | h
    · rw [h]; exact ⟨n2, n3⟩
    · exact I.bd x h
  · have := I.par
    rw [List.length_cons]
    cases b <;> simp at this ⊢ <;> omega
  · have hq := I.bd q (by rw [er]; simp)
    refine ⟨_, rs, rfl, ?_, ?_, ?_⟩
    · rw [er]
      cases b <;> simp [isNextR] <;> omega
    · cases b <;> simp at n2 n3 ⊢ <;> omega
    · cases b <;> simp at n2 n3 ⊢ <;> omega
  · have hg : gain (cv a) b h = if b then cv a h + uV (cv a) h else -cv a h + dV (cv a) h := by
      unfold gain
      rw [if_neg (show ¬ h = 0 by omega)]
    rw [endA_snoc a er, hz, hp3, ← I.val, hg]
    have hpar := I.par
    cases b
    · have : ¬ rs.length % 2 = 1 := fun x => by have := hpar.mp x; cases this
      rw [if_neg this, if_neg (by decide), if_neg (by decide)]
      omega
    · have : rs.length % 2 = 1 := hpar.mpr rfl
      rw [if_pos this, if_pos rfl, if_pos rfl]
      omega
/-! ### ends of forward rigs -/
end Lw

namespace Lw
open PySem PySem.Spec PyProof.Rows L2 Sr Pv Rg
variable {A0 : Addr}
open Mt (movedR followR MemOk MemV endA memR iabs SE)
/-! ### rows that are repeated -/
/-! ### so many passes -/
end Lw

namespace Lw
open PySem PySem.Spec PyProof.Rows L2 Sr Pv Rg
variable {A0 : Addr}
open Mt (movedR followR MemOk MemV endA memR iabs SE wyA swL lsum)
/-! ### how far the end goes in later passes -/
end Lw

namespace Lw
open PySem PySem.Spec PyProof.Rows L2 Sr Pv Rg
variable {A0 : Addr}
open Mt (movedR followR MemOk MemV endA memR iabs wyA wyG swL lsum)
/-! ### loops that are counted -/
theorem dicOf_app {f : List (Key × D) → List D} {kvs : List (Key × D)} {R : Rs} : dicOf f (.dic kvs) R = .ok (f kvs) R := rfl
def cntD (hs : List Int) : List (Key × D) := (sortU hs).map fun h => (.inl h, .int (hs.count h))
theorem keys_cnt (hs : List Int) : keysD (cntD hs) = inD (sortU hs) := by
  unfold keysD cntD inD
  rw [List.map_map]; rfl
theorem val_map {f : Int → D} : ∀ {ks : List Int} {h : Int}, h ∈ ks → valD (ks.map fun h => ((.inl h : Key), f h)) (.inl h) = some (f h)
  | [], h, hm => by simp at hm
  | k :: ks, h, hm => by
    unfold valD
    rw [List.map_cons, List.find?_cons]
    by_cases e : k = h
    · subst e; simp
    · have e' : decide ((Sum.inl k : Key) = .inl h) = false := decide_eq_false fun z => e (Sum.inl.inj z)
      simp only [e']
      exact val_map (ks := ks) (by rcases List.mem_cons.mp hm with z | z; exact absurd z.symm e; exact z)
theorem dget_cnt {hs : List Int} {h : Int} {R : Rs} (hm : h ∈ hs) : dDGet (.dic (cntD hs)) (.int h) R = .ok (.int (hs.count h)) R := by
  have := val_map (f := fun h => D.int (hs.count h)) (mem_sortU.mpr hm)
  have e : valD (cntD hs) (.inl h) = some (.int (hs.count h)) := this
  unfold dDGet
  show (match valD (cntD hs) (.inl h) with
    | some d => Res.ok d R
    | none => .bad) = _
  rw [e]
/-- a dict whose keys are new ones -/
theorem dc_fresh {T : TD} {tt : GT} {gk gv : G} {ρ : PEnv} {R : Rs} {enc : Int → D} : ∀ (ks pre : List Int), (pre ++ ks).Nodup → (pre ++ ks).length ≤ sizeLine →
    (∀ k ∈ ks, ∃ ρ1, T (.int k) ρ = some ρ1 ∧ tt ρ1 R = .ok true R ∧ gk ρ1 R = .ok (.int k) R ∧ gv ρ1 R = .ok (enc k) R) →
    dcG T tt gk gv (inD ks) ρ (pre.map fun k => (.inl k, enc k)) R = .ok ((pre ++ ks).map fun k => (.inl k, enc k)) R
  | [], pre, _, _, _ => by rw [List.append_nil]; rfl
  | k :: ks, pre, hn, hl, h => by
    obtain ⟨ρ1, h1, h2, h3, h4⟩ := h k (by simp)
    have hk : k ∉ pre := fun z => by
      rw [List.nodup_append] at hn
      exact hn.2.2 k z k (by simp) rfl
    have hput : putD (pre.map fun k => ((.inl k : Key), enc k)) (.inl k) (enc k) = (pre ++ [k]).map fun k => (.inl k, enc k) := by
      unfold putD
      rw [if_neg, List.map_append]; rfl
      rw [List.any_eq_true]
      rintro ⟨p, hp, e⟩
      obtain ⟨x, hx, rfl⟩ := List.mem_map.mp hp
      exact hk (by rw [← Sum.inl.inj (of_decide_eq_true e)]; exact hx)
    have ih := dc_fresh ks (pre ++ [k]) (by simpa using hn) (by simpa using hl) fun x hx => h x (by simp [hx])
    have hlen : (pre.map fun k => ((.inl k : Key), enc k)).length < sizeLine := by
      rw [List.length_map]
      rw [List.length_append, List.length_cons] at hl
      exact Nat.lt_of_lt_of_le (by omega) hl
    show dcG T tt gk gv (.int k :: inD ks) ρ _ R = _
    unfold dcG
    simp only [h1, h2, h3, h4, Res.bind_ok]
    show (if _ then dcG T tt gk gv (inD ks) ρ (putD _ (.inl k) (enc k)) R else Res.bad) = _
    rw [if_pos hlen, hput, ih, List.append_assoc]; rfl
theorem e_counted {hs : List Int} {R : Rs} (hl : hs.length ≤ 60) : f_counted [.lst (inD hs)] R = .ok (.dic (cntD hs)) R := by
  unfold f_counted
  refine pureF_ok ?_
  unfold m_counted
  have hlen := sortU_len hs
  have hd := dc_fresh (T := dName 1) (tt := gYes) (gk := gVar 1) (gv := gBML dCount (gVar 0) (Pv.gCons (gVar 1) Pv.gNil)) (ρ := [some (.lst (inD hs)), none]) (R := []) (enc := fun h => .int (hs.count h)) (sortU hs) [] (asc_nodup (sortU_asc hs)) (line60 (by show (sortU hs).length ≤ 100000; omega)) fun k hk => by
    refine ⟨_, rfl, rfl, rfl, ?_⟩
    show dCount (.lst (inD hs)) [.int k] [] = .ok (.int (hs.count k)) []
    unfold dCount inD
    simp only [intsOf_map]
  have hd : dcG (dName 1) gYes (gVar 1) (gBML dCount (gVar 0) (Pv.gCons (gVar 1) Pv.gNil)) (inD (sortU hs)) [some (.lst (inD hs)), none] [] [] = .ok (cntD hs) [] := hd
  have hs' : dSortSet [.lst (inD hs)] [] = .ok (.lst (inD (sortU hs))) [] := sortSet_ap hl
  simp only [raise_ap, raiseI_ap, calmF_ap, le_line, lt_line, var_ap, c_ap, op_ap, un_ap, b_ap, and_ap, or_ap, not_ap, if_ap, andV_ap, orV_ap, ch_ap, nil_ap, cons_ap, star_ap, tup_ap, lst_ap, arm_ap, cb_ap, noPart_ap, part_ap, sl_ap, slL_ap, call_ap, callL_ap, fld_ap, get2_ap, dnew_ap, it_ap, itA_ap, yes_ap, next_ap, seq_ap, set_ap, setO_ap, drop_ap, ret_ap, retN_ap, brk_ap, cnt_ap, never_ap, ifS_ap, aug_ap, app_ap, ext_ap, pop_ap, par_ap, asg_ap, dset_ap, stF_ap, stF2_ap, fldL_ap, see_f, see_g, okM_f, okM_g, okR_f, okR_g, okO_f, okO_g, hide_nil, hide_cons, setAll_cons, setAll_nil, wipe_nil, wipe_cons, runB_ap, runL_ap, startL_ap, startD_ap, out1_nx, out1_rt, dName_ap, dGTup_ap, dGLst_ap, dGCons_ap, dGNil_ap, dAdd_ap, dSub_ap, dMul_ap, dFdiv_ap, dMod_ap, dLt_ap, dLe_ap, dGt_ap, dGe_ap, bOf_ap, dNeg_ap, dNot_ap, eqS_int, eqS_bl, eqS_str, dInt1_ap, dInt1_bl, dMax2_ap, dMin2_ap, dAbs_ap, dSum_ap, dAny_ap, dAll_ap, dLen_l, dLen_t, dLen_a, dIx_l, dIx_t, dIx_a, dTup_ap, dArm_ap, dList_l, dList_t, dTupl_ap, dTupA_ap, lstOf_ap, tupOf_t, tupOf_a, itemsOf_t, itemsOf_l, dSl_l, dSl_t, dSlL_ap, dCatL_ap, dIsN_ap, rng2_ap, dRange_1, dRange_2, dRange3_ap, isC_y, il_int, il_bl, il_str, il_non, il_tup, il_lst, il_armD, il_ins, il_dic, il_ar, il_rig, Bool.false_eq_true, if_false, if_true, Res.bind_ok, Res.bind_bad, Res.out_ok, Res.out_bad, Res.calm_ok, List.map_cons, List.map_nil, List.length_cons, List.length_nil, Nat.reduceAdd, Nat.reduceSub, List.replicate, List.cons_append, List.nil_append, List.getElem?_cons_zero, List.getElem?_cons_succ, List.set_cons_succ, List.set_cons_zero, Bool.true_and, Bool.and_true, Bool.not_false, Bool.not_true, List.contains_nil, Option.bind_some, for_ap, lc_ap, Nat.reduceEqDiff, Nat.reduceLeDiff, Bool.false_xor, Bool.true_xor, and_self, decide_true, decide_false, List.lookup, List.all_cons, List.all_nil, List.contains_cons, Nat.reduceBEq, Bool.or_false, Bool.false_or, Bool.or_true, Bool.true_or, beq_self_eq_true, List.contains_nil, propR_ap, propR_rig, ownB_rig, ownT_rig, ownN_rig, eqI_rig, e_rig_fwd, lcG_nil, lcG_yesN, eq_self, lawStart_ap, in2, in3, in4, rg2, rg3, rg4, at0, at1, at2, il_tr, Bool.xor_true, Bool.xor_false, mkR_ap, mkR_rest, mkR_rig, callR_ap, callR_rig, callR_mem, methR_ap, methR_at, methR_curve, propR_mem, eqI_mem, lst_ok0, lst_ok1, lst_ok2, lst_ok3, il_pl, il_mem, e_mem_places, e_mem_place, e_rig_arms, dc_ap, hs', hd, dDicOf_ap]
theorem loops_len0 (row : List Int) : (followR [0] row).2.length ≤ row.length := by
  have := Mt.follow_cnt row [0]
  have h : 1 ≤ (followR [0] row).1.length := List.length_pos_iff.mpr (Mt.follow_ne row [0] (by simp))
  simp at this; omega
theorem e_loops {row : List Int} {R : Rs} (hl : row.length ≤ 60) (hp : ∀ p ∈ row, FarP p) : f_loops [.lst (inD row)] R = .ok (.dic (cntD (followR [0] row).2)) R := by
  unfold f_loops
  refine pureF_ok ?_
  unfold m_loops
  have ef := e_followed (rs := [0]) (row := row) (R := []) (by simp) (by simp; omega)
  rw [show plD [0] = D.tup [.int 0] from rfl] at ef
  have hc := loops_len0 row
  simp only [raise_ap, raiseI_ap, calmF_ap, le_line, lt_line, var_ap, c_ap, op_ap, un_ap, b_ap, and_ap, or_ap, not_ap, if_ap, andV_ap, orV_ap, ch_ap, nil_ap, cons_ap, star_ap, tup_ap, lst_ap, arm_ap, cb_ap, noPart_ap, part_ap, sl_ap, slL_ap, call_ap, callL_ap, fld_ap, get2_ap, dnew_ap, it_ap, itA_ap, yes_ap, next_ap, seq_ap, set_ap, setO_ap, drop_ap, ret_ap, retN_ap, brk_ap, cnt_ap, never_ap, ifS_ap, aug_ap, app_ap, ext_ap, pop_ap, par_ap, asg_ap, dset_ap, stF_ap, stF2_ap, fldL_ap, see_f, see_g, okM_f, okM_g, okR_f, okR_g, okO_f, okO_g, hide_nil, hide_cons, setAll_cons, setAll_nil, wipe_nil, wipe_cons, runB_ap, runL_ap, startL_ap, startD_ap, out1_nx, out1_rt, dName_ap, dGTup_ap, dGLst_ap, dGCons_ap, dGNil_ap, dAdd_ap, dSub_ap, dMul_ap, dFdiv_ap, dMod_ap, dLt_ap, dLe_ap, dGt_ap, dGe_ap, bOf_ap, dNeg_ap, dNot_ap, eqS_int, eqS_bl, eqS_str, dInt1_ap, dInt1_bl, dMax2_ap, dMin2_ap, dAbs_ap, dSum_ap, dAny_ap, dAll_ap, dLen_l, dLen_t, dLen_a, dIx_l, dIx_t, dIx_a, dTup_ap, dArm_ap, dList_l, dList_t, dTupl_ap, dTupA_ap, lstOf_ap, tupOf_t, tupOf_a, itemsOf_t, itemsOf_l, dSl_l, dSl_t, dSlL_ap, dCatL_ap, dIsN_ap, rng2_ap, dRange_1, dRange_2, dRange3_ap, isC_y, il_int, il_bl, il_str, il_non, il_tup, il_lst, il_armD, il_ins, il_dic, il_ar, il_rig, Bool.false_eq_true, if_false, if_true, Res.bind_ok, Res.bind_bad, Res.out_ok, Res.out_bad, Res.calm_ok, List.map_cons, List.map_nil, List.length_cons, List.length_nil, Nat.reduceAdd, Nat.reduceSub, List.replicate, List.cons_append, List.nil_append, List.getElem?_cons_zero, List.getElem?_cons_succ, List.set_cons_succ, List.set_cons_zero, Bool.true_and, Bool.and_true, Bool.not_false, Bool.not_true, List.contains_nil, Option.bind_some, for_ap, lc_ap, Nat.reduceEqDiff, Nat.reduceLeDiff, Bool.false_xor, Bool.true_xor, and_self, decide_true, decide_false, List.lookup, List.all_cons, List.all_nil, List.contains_cons, Nat.reduceBEq, Bool.or_false, Bool.false_or, Bool.or_true, Bool.true_or, beq_self_eq_true, List.contains_nil, propR_ap, propR_rig, ownB_rig, ownT_rig, ownN_rig, eqI_rig, e_rig_fwd, lcG_nil, lcG_yesN, eq_self, lawStart_ap, in2, in3, in4, rg2, rg3, rg4, at0, at1, at2, il_tr, Bool.xor_true, Bool.xor_false, mkR_ap, mkR_rest, mkR_rig, callR_ap, callR_rig, callR_mem, methR_ap, methR_at, methR_curve, propR_mem, eqI_mem, lst_ok0, lst_ok1, lst_ok2, lst_ok3, il_pl, il_mem, e_mem_places, e_mem_place, e_rig_arms, e_check_row (show row.length ≤ 1000 by omega) hp, ef, e_counted (show (followR [0] row).2.length ≤ 60 by omega)]
theorem e_open_swings {rs : List Int} {R : Rs} (hl : rs.length ≤ 2000) : f_open_swings [memD rs] R = .ok (.lst (inD (swL rs.reverse))) R := by
  unfold f_open_swings
  refine pureF_ok ?_
  unfold m_open_swings
  simp only [raise_ap, raiseI_ap, calmF_ap, le_line, lt_line, var_ap, c_ap, op_ap, un_ap, b_ap, and_ap, or_ap, not_ap, if_ap, andV_ap, orV_ap, ch_ap, nil_ap, cons_ap, star_ap, tup_ap, lst_ap, arm_ap, cb_ap, noPart_ap, part_ap, sl_ap, slL_ap, call_ap, callL_ap, fld_ap, get2_ap, dnew_ap, it_ap, itA_ap, yes_ap, next_ap, seq_ap, set_ap, setO_ap, drop_ap, ret_ap, retN_ap, brk_ap, cnt_ap, never_ap, ifS_ap, aug_ap, app_ap, ext_ap, pop_ap, par_ap, asg_ap, dset_ap, stF_ap, stF2_ap, fldL_ap, see_f, see_g, okM_f, okM_g, okR_f, okR_g, okO_f, okO_g, hide_nil, hide_cons, setAll_cons, setAll_nil, wipe_nil, wipe_cons, runB_ap, runL_ap, startL_ap, startD_ap, out1_nx, out1_rt, dName_ap, dGTup_ap, dGLst_ap, dGCons_ap, dGNil_ap, dAdd_ap, dSub_ap, dMul_ap, dFdiv_ap, dMod_ap, dLt_ap, dLe_ap, dGt_ap, dGe_ap, bOf_ap, dNeg_ap, dNot_ap, eqS_int, eqS_bl, eqS_str, dInt1_ap, dInt1_bl, dMax2_ap, dMin2_ap, dAbs_ap, dSum_ap, dAny_ap, dAll_ap, dLen_l, dLen_t, dLen_a, dIx_l, dIx_t, dIx_a, dTup_ap, dArm_ap, dList_l, dList_t, dTupl_ap, dTupA_ap, lstOf_ap, tupOf_t, tupOf_a, itemsOf_t, itemsOf_l, dSl_l, dSl_t, dSlL_ap, dCatL_ap, dIsN_ap, rng2_ap, dRange_1, dRange_2, dRange3_ap, isC_y, il_int, il_bl, il_str, il_non, il_tup, il_lst, il_armD, il_ins, il_dic, il_ar, il_rig, Bool.false_eq_true, if_false, if_true, Res.bind_ok, Res.bind_bad, Res.out_ok, Res.out_bad, Res.calm_ok, List.map_cons, List.map_nil, List.length_cons, List.length_nil, Nat.reduceAdd, Nat.reduceSub, List.replicate, List.cons_append, List.nil_append, List.getElem?_cons_zero, List.getElem?_cons_succ, List.set_cons_succ, List.set_cons_zero, Bool.true_and, Bool.and_true, Bool.not_false, Bool.not_true, List.contains_nil, Option.bind_some, for_ap, lc_ap, Nat.reduceEqDiff, Nat.reduceLeDiff, Bool.false_xor, Bool.true_xor, and_self, decide_true, decide_false, List.lookup, List.all_cons, List.all_nil, List.contains_cons, Nat.reduceBEq, Bool.or_false, Bool.false_or, Bool.or_true, Bool.true_or, beq_self_eq_true, List.contains_nil, propR_ap, propR_rig, ownB_rig, ownT_rig, ownN_rig, eqI_rig, e_rig_fwd, lcG_nil, lcG_yesN, eq_self, lawStart_ap, in2, in3, in4, rg2, rg3, rg4, at0, at1, at2, il_tr, Bool.xor_true, Bool.xor_false, mkR_ap, mkR_rest, mkR_rig, callR_ap, callR_rig, callR_mem, methR_ap, methR_at, methR_curve, propR_mem, eqI_mem, lst_ok0, lst_ok1, lst_ok2, lst_ok3, il_pl, il_mem, e_mem_places, e_mem_place, e_rig_arms]
  rw [plD_in, e_swings_of (by rw [List.length_reverse]; exact hl)]
  rfl
/-! ### sums over a dict's keys -/
/-! ### swings of ends that only go up -/
/-! ### how far ends go -/
end Lw

namespace Lw
open PySem PySem.Spec PyProof.Rows L2 Sr Pv Rg
variable {A0 : Addr}
open Mt (movedR followR MemOk MemV endA memR iabs unitH loopsU)
/-! ### the laws' own loops, step by step -/
def stU (p q : Int) : List Int := if p < q then (List.range (q - p).toNat).map fun k : Nat => p + 1 + (k : Int) else (List.range (p - q).toNat).map fun k : Nat => p - 1 - (k : Int)
theorem e_stepsU {p q : Int} {R : Rs} (h1 : -8000000 ≤ p ∧ p ≤ 8000000) (h2 : -8000000 ≤ q ∧ q ≤ 8000000) : f_L_steps [.int p, .int q] R = .ok (.lst (inD (stU p q))) R := by
  unfold stU
  by_cases h : p < q
  · rw [if_pos h, e_steps_u h1.1 (by omega) h2.2]
    unfold Lw.upL inD; rw [List.map_map]; rfl
  · rw [if_neg h, e_steps_d h2.1 (by omega) h1.2]
    unfold dnLi inD; rw [List.map_map]; rfl
theorem stU_ok {a p : Int} {r : List Int} (m : MemV (a :: r)) (hp : -1000000 ≤ p ∧ p ≤ 1000000) : loopsU (a :: r) (stU a p) = (movedR (a :: r) p).2 ∧ (followR (a :: r) (stU a p)).1 = (movedR (a :: r) p).1 := by
  unfold stU
  by_cases h : a < p
  · rw [if_pos h]
    have := Mt.units_up m (p - a).toNat (by omega)
    rw [show a + ((p - a).toNat : Int) = p by omega] at this
    have e : (fun k : Nat => a + 1 + (k : Int)) = fun i : Nat => a + (i : Int) + 1 := by funext k; omega
    rw [e]; exact this
  · rw [if_neg h]
    have := Mt.units_dn m (a - p).toNat (by omega)
    rw [show a - ((a - p).toNat : Int) = p by omega] at this
    have e : (fun k : Nat => a - 1 - (k : Int)) = fun i : Nat => a - (i : Int) - 1 := by funext k; omega
    rw [e]; exact this
theorem stU_len (a p : Int) : (stU a p).length ≤ (p - a).toNat + (a - p).toNat := by
  unfold stU
  split <;> simp <;> omega
theorem stU_far {a p : Int} (ha : -1000000 ≤ a ∧ a ≤ 1000000) (hp : -1000000 ≤ p ∧ p ≤ 1000000) : ∀ x ∈ stU a p, FarP x := by
  intro x hx
  unfold stU at hx
  split at hx
  · obtain ⟨k, hk, rfl⟩ := List.mem_map.mp hx
    have := List.mem_range.mp hk
    exact ⟨by omega, by omega⟩
  · obtain ⟨k, hk, rfl⟩ := List.mem_map.mp hx
    have := List.mem_range.mp hk
    exact ⟨by omega, by omega⟩
theorem row_fstU {x : List Int} (m : MemOk x) : ∃ a, (∀ R, dIx (plD x) (.int 0) R = .ok (.int a) R) ∧ (if a = 0 then cutD (inD x.reverse) (some 1) none else inD x.reverse) = inD (Mt.rowOf x) := by
  cases h : x.reverse with
  | nil => exact absurd (by simpa using congrArg List.reverse h) m.1
  | cons a t =>
    refine ⟨a, fun R => ?_, ?_⟩
    · rw [plD_in, h, dIx_t]
      rw [show inD (a :: t) = D.int a :: inD t from rfl, at0]
    · unfold Mt.rowOf
      rw [h]
      by_cases e : a = 0
      · subst e
        rw [if_pos rfl, cut_drop1]
        rfl
      · rw [if_neg e, if_neg (by simpa using e)]
theorem at_m3 {α : Type} (xs : List α) (c b a : α) : atI (xs ++ [c, b, a]) (-3) = some c := by
  unfold atI ixN
  rw [if_neg (by omega), if_pos (by simp; omega)]
  simp only [Option.bind_some]
  rw [show (-3 + ((xs ++ [c, b, a]).length : Int)).toNat = xs.length by simp; omega]
  simp
theorem at_23 : ∀ {rs : List Int}, 3 ≤ rs.length → (∀ R, dIx (plD rs) (.int (-2)) R = .ok (.int (rs.getD 1 0)) R) ∧ ∀ R, dIx (plD rs) (.int (-3)) R = .ok (.int (rs.getD 2 0)) R
  | u :: v :: w :: t, _ => by
    refine ⟨fun R => ?_, fun R => ?_⟩
    · rw [plD_in, dIx_t, show inD (u :: v :: w :: t).reverse = (inD t.reverse ++ [.int w]) ++ [.int v, .int u] by simp [inD], at_m2]
      rfl
    · rw [plD_in, dIx_t, show inD (u :: v :: w :: t).reverse = inD t.reverse ++ [.int w, .int v, .int u] by simp [inD], at_m3]
      rfl
theorem un_step {x0 x1 x2 x5 x7 : Option D} {rs fs : List Int} {p : Int} {R : Rs} (m : MemOk rs) (hp : -1000000 ≤ p ∧ p ≤ 1000000) (hl : rs.length ≤ 800) (hf : fs.length ≤ 100000) :
    (gSeq (gSet .f [4] 2 (gOp dCatL (gCB dList (Pv.gCons (gIf (gB (gOp (dEqS false) (gOp dIx (gVar 3) (gC (.int 0))) (gC (.int 0)))) (gSl (gVar 3) (gPart (gC (.int 1))) gNoPart) (gVar 3)) Pv.gNil)) (gLst (Pv.gCons (gVar 6) Pv.gNil))))
  (gSeq (gSet .f [4] 7 (gCall 1 f_L_memory (Pv.gCons (gVar 2) Pv.gNil)))
  (gSeq (gIfS .f [4] (gB (gOp (dEqS false) (gCB dLen (Pv.gCons (gVar 7) Pv.gNil)) (gOp dSub (gCB dLen (Pv.gCons (gVar 3) Pv.gNil)) (gC (.int 2))))) (gApp .f [4] 4 (gCB dAbs (Pv.gCons (gOp dSub (gOp dIx (gVar 3) (gUn dNeg (gC (.int 2)))) (gOp dIx (gVar 3) (gUn dNeg (gC (.int 3))))) Pv.gNil))) gNext)
  (gSeq (gIfS .f [4] (gB (gOp (dEqS false) (gCB dLen (Pv.gCons (gVar 7) Pv.gNil)) (gOp dSub (gCB dLen (Pv.gCons (gVar 3) Pv.gNil)) (gC (.int 1))))) (gApp .f [4] 4 (gC (.int 1))) gNext)
  (gSet .f [4] 3 (gVar 7)))))) [x0, x1, x2, some (plD rs), some (.lst (inD fs)), x5, some (.int p), x7] R
    = .nx [x0, x1, some (.lst (inD (Mt.rowOf rs ++ [p]))), some (plD (movedR rs p).1), some (.lst (inD (fs ++ unitH rs (movedR rs p).1))), x5, some (.int p), some (plD (movedR rs p).1)] R := by
  obtain ⟨a, ha, hrow⟩ := row_fstU m
  have hbd := memV_bd m.2
  have hrl : (Mt.rowOf rs).length ≤ 800 := by
    unfold Mt.rowOf
    split <;> simp <;> omega
  have hrf : ∀ y ∈ Mt.rowOf rs ++ [p], FarP y := fun y hy => by
    rcases List.mem_append.mp hy with h | h
    · have := hbd y (Mt.rowOf_mem h); exact ⟨by omega, by omega⟩
    · simp at h; subst h; exact ⟨by omega, by omega⟩
  have hmem : memR (Mt.rowOf rs ++ [p]) = (movedR rs p).1 := by
    show (followR [0] (Mt.rowOf rs ++ [p])).1 = _
    rw [Mt.follow_append, show (followR [0] (Mt.rowOf rs)).1 = rs from Mt.memR_row m]
    rfl
  have em : ∀ R, f_L_memory [.lst (inD (Mt.rowOf rs ++ [p]))] R = .ok (plD (movedR rs p).1) R := fun R => by
    rw [e_L_memory (by simp; omega) hrf, hmem]
  have cat : ∀ R, dCatL (.lst (inD (Mt.rowOf rs))) (.lst [.int p]) R = .ok (.lst (inD (Mt.rowOf rs ++ [p]))) R := fun R => by
    rw [show D.lst [.int p] = D.lst (inD [p]) from rfl, catL_ok (by rw [in_len, in_len]; exact line60 (by simp; omega))]; simp [inD]
  have h0 := Mt.moved_ne rs p
  have hc := Mt.moved_cnt rs p
  generalize hy : (movedR rs p).1 = y at em h0 hc ⊢
  have hy0 : 0 < y.length := List.length_pos_iff.mpr h0
  have ilp : ∀ x, (plD x).isLoc = false := fun _ => rfl
  have lp : ∀ x R, dLen [plD x] R = .ok (.int x.length) R := fun x R => by
    rw [plD_in]; simp only [raise_ap, raiseI_ap, calmF_ap, le_line, lt_line, var_ap, c_ap, op_ap, un_ap, b_ap, and_ap, or_ap, not_ap, if_ap, andV_ap, orV_ap, ch_ap, nil_ap, cons_ap, star_ap, tup_ap, lst_ap, arm_ap, cb_ap, noPart_ap, part_ap, sl_ap, slL_ap, call_ap, callL_ap, fld_ap, get2_ap, dnew_ap, it_ap, itA_ap, yes_ap, next_ap, seq_ap, set_ap, setO_ap, drop_ap, ret_ap, retN_ap, brk_ap, cnt_ap, never_ap, ifS_ap, aug_ap, app_ap, ext_ap, pop_ap, par_ap, asg_ap, dset_ap, stF_ap, stF2_ap, fldL_ap, see_f, see_g, okM_f, okM_g, okR_f, okR_g, okO_f, okO_g, hide_nil, hide_cons, setAll_cons, setAll_nil, wipe_nil, wipe_cons, runB_ap, runL_ap, startL_ap, startD_ap, out1_nx, out1_rt, dName_ap, dGTup_ap, dGLst_ap, dGCons_ap, dGNil_ap, dAdd_ap, dSub_ap, dMul_ap, dFdiv_ap, dMod_ap, dLt_ap, dLe_ap, dGt_ap, dGe_ap, bOf_ap, dNeg_ap, dNot_ap, eqS_int, eqS_bl, eqS_str, dInt1_ap, dInt1_bl, dMax2_ap, dMin2_ap, dAbs_ap, dSum_ap, dAny_ap, dAll_ap, dLen_l, dLen_t, dLen_a, dIx_l, dIx_t, dIx_a, dTup_ap, dArm_ap, dList_l, dList_t, dTupl_ap, dTupA_ap, lstOf_ap, tupOf_t, tupOf_a, itemsOf_t, itemsOf_l, dSl_l, dSl_t, dSlL_ap, dCatL_ap, dIsN_ap, rng2_ap, dRange_1, dRange_2, dRange3_ap, isC_y, il_int, il_bl, il_str, il_non, il_tup, il_lst, il_armD, il_ins, il_dic, il_ar, il_rig, Bool.false_eq_true, if_false, if_true, Res.bind_ok, Res.bind_bad, Res.out_ok, Res.out_bad, Res.calm_ok, List.map_cons, List.map_nil, List.length_cons, List.length_nil, Nat.reduceAdd, Nat.reduceSub, List.replicate, List.cons_append, List.nil_append, List.getElem?_cons_zero, List.getElem?_cons_succ, List.set_cons_succ, List.set_cons_zero, Bool.true_and, Bool.and_true, Bool.not_false, Bool.not_true, List.contains_nil, Option.bind_some, for_ap, lc_ap, Nat.reduceEqDiff, Nat.reduceLeDiff, Bool.false_xor, Bool.true_xor, and_self, decide_true, decide_false, List.lookup, List.all_cons, List.all_nil, List.contains_cons, Nat.reduceBEq, Bool.or_false, Bool.false_or, Bool.or_true, Bool.true_or, beq_self_eq_true, List.contains_nil, propR_ap, propR_rig, ownB_rig, ownT_rig, ownN_rig, eqI_rig, e_rig_fwd, lcG_nil, lcG_yesN, eq_self, lawStart_ap, in2, in3, in4, rg2, rg3, rg4, at0, at1, at2, il_tr, Bool.xor_true, Bool.xor_false, mkR_ap, mkR_rest, mkR_rig, callR_ap, callR_rig, callR_mem, methR_ap, methR_at, methR_curve, propR_mem, eqI_mem, lst_ok0, lst_ok1, lst_ok2, lst_ok3, il_pl, il_mem, e_mem_places, e_mem_place, e_rig_arms, in_len, List.length_reverse]
  have hfz : decide ((inD fs).length < sizeLine) = true := decide_eq_true (by rw [in_len]; exact Nat.lt_of_lt_of_le (Nat.lt_succ_self _) (show fs.length + 1 ≤ sizeLine from Nat.le_trans (show fs.length + 1 ≤ 200000 by omega) (by decide)))
  have lsz : (inD (Mt.rowOf rs)).length ≤ sizeLine := by rw [in_len]; exact line60 (by omega)
  have hap : ∀ z, inD fs ++ [D.int z] = inD (fs ++ [z]) := fun z => by simp [inD]
  have tail : ∀ (Rz : Rs), (gSeq (gIfS .f [4] (gB (gOp (dEqS false) (gCB dLen (Pv.gCons (gVar 7) Pv.gNil)) (gOp dSub (gCB dLen (Pv.gCons (gVar 3) Pv.gNil)) (gC (.int 2))))) (gApp .f [4] 4 (gCB dAbs (Pv.gCons (gOp dSub (gOp dIx (gVar 3) (gUn dNeg (gC (.int 2)))) (gOp dIx (gVar 3) (gUn dNeg (gC (.int 3))))) Pv.gNil))) gNext)
  (gSeq (gIfS .f [4] (gB (gOp (dEqS false) (gCB dLen (Pv.gCons (gVar 7) Pv.gNil)) (gOp dSub (gCB dLen (Pv.gCons (gVar 3) Pv.gNil)) (gC (.int 1))))) (gApp .f [4] 4 (gC (.int 1))) gNext)
  (gSet .f [4] 3 (gVar 7)))) [x0, x1, some (.lst (inD (Mt.rowOf rs ++ [p]))), some (plD rs), some (.lst (inD fs)), x5, some (.int p), some (plD y)] Rz
    = .nx [x0, x1, some (.lst (inD (Mt.rowOf rs ++ [p]))), some (plD y), some (.lst (inD (fs ++ unitH rs y))), x5, some (.int p), some (plD y)] Rz := by
    intro Rz
    by_cases c2 : y.length + 2 = rs.length
    · have d1 : decide ((y.length : Int) = (rs.length : Int) - 2) = true := decide_eq_true (by omega)
      have d2 : decide ((y.length : Int) = (rs.length : Int) - 1) = false := decide_eq_false (by omega)
      obtain ⟨i2, i3⟩ := at_23 (rs := rs) (by omega)
      rw [Mt.unitH_2 c2]
      simp only [raise_ap, raiseI_ap, calmF_ap, le_line, lt_line, var_ap, c_ap, op_ap, un_ap, b_ap, and_ap, or_ap, not_ap, if_ap, andV_ap, orV_ap, ch_ap, nil_ap, cons_ap, star_ap, tup_ap, lst_ap, arm_ap, cb_ap, noPart_ap, part_ap, sl_ap, slL_ap, call_ap, callL_ap, fld_ap, get2_ap, dnew_ap, it_ap, itA_ap, yes_ap, next_ap, seq_ap, set_ap, setO_ap, drop_ap, ret_ap, retN_ap, brk_ap, cnt_ap, never_ap, ifS_ap, aug_ap, app_ap, ext_ap, pop_ap, par_ap, asg_ap, dset_ap, stF_ap, stF2_ap, fldL_ap, see_f, see_g, okM_f, okM_g, okR_f, okR_g, okO_f, okO_g, hide_nil, hide_cons, setAll_cons, setAll_nil, wipe_nil, wipe_cons, runB_ap, runL_ap, startL_ap, startD_ap, out1_nx, out1_rt, dName_ap, dGTup_ap, dGLst_ap, dGCons_ap, dGNil_ap, dAdd_ap, dSub_ap, dMul_ap, dFdiv_ap, dMod_ap, dLt_ap, dLe_ap, dGt_ap, dGe_ap, bOf_ap, dNeg_ap, dNot_ap, eqS_int, eqS_bl, eqS_str, dInt1_ap, dInt1_bl, dMax2_ap, dMin2_ap, dAbs_ap, dSum_ap, dAny_ap, dAll_ap, dLen_l, dLen_t, dLen_a, dIx_l, dIx_a, dTup_ap, dArm_ap, dList_l, dList_t, dTupl_ap, dTupA_ap, lstOf_ap, tupOf_t, tupOf_a, itemsOf_t, itemsOf_l, dSl_l, dSl_t, dSlL_ap, dCatL_ap, dIsN_ap, rng2_ap, dRange_1, dRange_2, dRange3_ap, isC_y, il_int, il_bl, il_str, il_non, il_tup, il_lst, il_armD, il_ins, il_dic, il_ar, il_rig, Bool.false_eq_true, if_false, if_true, Res.bind_ok, Res.bind_bad, Res.out_ok, Res.out_bad, Res.calm_ok, List.map_cons, List.map_nil, List.length_cons, List.length_nil, Nat.reduceAdd, Nat.reduceSub, List.replicate, List.cons_append, List.nil_append, List.getElem?_cons_zero, List.getElem?_cons_succ, List.set_cons_succ, List.set_cons_zero, Bool.true_and, Bool.and_true, Bool.not_false, Bool.not_true, List.contains_nil, Option.bind_some, for_ap, lc_ap, Nat.reduceEqDiff, Nat.reduceLeDiff, Bool.false_xor, Bool.true_xor, and_self, decide_true, decide_false, List.lookup, List.all_cons, List.all_nil, List.contains_cons, Nat.reduceBEq, Bool.or_false, Bool.false_or, Bool.or_true, Bool.true_or, beq_self_eq_true, List.contains_nil, propR_ap, propR_rig, ownB_rig, ownT_rig, ownN_rig, eqI_rig, e_rig_fwd, lcG_nil, lcG_yesN, lawStart_ap, in2, in3, in4, rg2, rg3, rg4, at0, at1, at2, il_tr, Bool.xor_true, Bool.xor_false, mkR_ap, mkR_rest, mkR_rig, callR_ap, callR_rig, callR_mem, methR_ap, methR_at, methR_curve, propR_mem, eqI_mem, lst_ok0, lst_ok1, lst_ok2, lst_ok3, il_pl, il_mem, e_mem_places, e_mem_place, e_rig_arms, ilp, lp, d1, d2, i2, i3, abs_ia, hfz, hap]
    · have d1 : decide ((y.length : Int) = (rs.length : Int) - 2) = false := decide_eq_false (by omega)
      by_cases c1 : y.length + 1 = rs.length
      · have d2 : decide ((y.length : Int) = (rs.length : Int) - 1) = true := decide_eq_true (by omega)
        rw [Mt.unitH_1 c1]
        simp only [raise_ap, raiseI_ap, calmF_ap, le_line, lt_line, var_ap, c_ap, op_ap, un_ap, b_ap, and_ap, or_ap, not_ap, if_ap, andV_ap, orV_ap, ch_ap, nil_ap, cons_ap, star_ap, tup_ap, lst_ap, arm_ap, cb_ap, noPart_ap, part_ap, sl_ap, slL_ap, call_ap, callL_ap, fld_ap, get2_ap, dnew_ap, it_ap, itA_ap, yes_ap, next_ap, seq_ap, set_ap, setO_ap, drop_ap, ret_ap, retN_ap, brk_ap, cnt_ap, never_ap, ifS_ap, aug_ap, app_ap, ext_ap, pop_ap, par_ap, asg_ap, dset_ap, stF_ap, stF2_ap, fldL_ap, see_f, see_g, okM_f, okM_g, okR_f, okR_g, okO_f, okO_g, hide_nil, hide_cons, setAll_cons, setAll_nil, wipe_nil, wipe_cons, runB_ap, runL_ap, startL_ap, startD_ap, out1_nx, out1_rt, dName_ap, dGTup_ap, dGLst_ap, dGCons_ap, dGNil_ap, dAdd_ap, dSub_ap, dMul_ap, dFdiv_ap, dMod_ap, dLt_ap, dLe_ap, dGt_ap, dGe_ap, bOf_ap, dNeg_ap, dNot_ap, eqS_int, eqS_bl, eqS_str, dInt1_ap, dInt1_bl, dMax2_ap, dMin2_ap, dAbs_ap, dSum_ap, dAny_ap, dAll_ap, dLen_l, dLen_t, dLen_a, dIx_l, dIx_a, dTup_ap, dArm_ap, dList_l, dList_t, dTupl_ap, dTupA_ap, lstOf_ap, tupOf_t, tupOf_a, itemsOf_t, itemsOf_l, dSl_l, dSl_t, dSlL_ap, dCatL_ap, dIsN_ap, rng2_ap, dRange_1, dRange_2, dRange3_ap, isC_y, il_int, il_bl, il_str, il_non, il_tup, il_lst, il_armD, il_ins, il_dic, il_ar, il_rig, Bool.false_eq_true, if_false, if_true, Res.bind_ok, Res.bind_bad, Res.out_ok, Res.out_bad, Res.calm_ok, List.map_cons, List.map_nil, List.length_cons, List.length_nil, Nat.reduceAdd, Nat.reduceSub, List.replicate, List.cons_append, List.nil_append, List.getElem?_cons_zero, List.getElem?_cons_succ, List.set_cons_succ, List.set_cons_zero, Bool.true_and, Bool.and_true, Bool.not_false, Bool.not_true, List.contains_nil, Option.bind_some, for_ap, lc_ap, Nat.reduceEqDiff, Nat.reduceLeDiff, Bool.false_xor, Bool.true_xor, and_self, decide_true, decide_false, List.lookup, List.all_cons, List.all_nil, List.contains_cons, Nat.reduceBEq, Bool.or_false, Bool.false_or, Bool.or_true, Bool.true_or, beq_self_eq_true, List.contains_nil, propR_ap, propR_rig, ownB_rig, ownT_rig, ownN_rig, eqI_rig, e_rig_fwd, lcG_nil, lcG_yesN, lawStart_ap, in2, in3, in4, rg2, rg3, rg4, at0, at1, at2, il_tr, Bool.xor_true, Bool.xor_false, mkR_ap, mkR_rest, mkR_rig, callR_ap, callR_rig, callR_mem, methR_ap, methR_at, methR_curve, propR_mem, eqI_mem, lst_ok0, lst_ok1, lst_ok2, lst_ok3, il_pl, il_mem, e_mem_places, e_mem_place, e_rig_arms, ilp, lp, d1, d2, hfz, hap]
      · have d2 : decide ((y.length : Int) = (rs.length : Int) - 1) = false := decide_eq_false (by omega)
        have e : unitH rs y = [] := by unfold unitH; rw [if_neg c2, if_neg c1]; rfl
        rw [e, List.append_nil]
        simp only [raise_ap, raiseI_ap, calmF_ap, le_line, lt_line, var_ap, c_ap, op_ap, un_ap, b_ap, and_ap, or_ap, not_ap, if_ap, andV_ap, orV_ap, ch_ap, nil_ap, cons_ap, star_ap, tup_ap, lst_ap, arm_ap, cb_ap, noPart_ap, part_ap, sl_ap, slL_ap, call_ap, callL_ap, fld_ap, get2_ap, dnew_ap, it_ap, itA_ap, yes_ap, next_ap, seq_ap, set_ap, setO_ap, drop_ap, ret_ap, retN_ap, brk_ap, cnt_ap, never_ap, ifS_ap, aug_ap, app_ap, ext_ap, pop_ap, par_ap, asg_ap, dset_ap, stF_ap, stF2_ap, fldL_ap, see_f, see_g, okM_f, okM_g, okR_f, okR_g, okO_f, okO_g, hide_nil, hide_cons, setAll_cons, setAll_nil, wipe_nil, wipe_cons, runB_ap, runL_ap, startL_ap, startD_ap, out1_nx, out1_rt, dName_ap, dGTup_ap, dGLst_ap, dGCons_ap, dGNil_ap, dAdd_ap, dSub_ap, dMul_ap, dFdiv_ap, dMod_ap, dLt_ap, dLe_ap, dGt_ap, dGe_ap, bOf_ap, dNeg_ap, dNot_ap, eqS_int, eqS_bl, eqS_str, dInt1_ap, dInt1_bl, dMax2_ap, dMin2_ap, dAbs_ap, dSum_ap, dAny_ap, dAll_ap, dLen_l, dLen_t, dLen_a, dIx_l, dIx_a, dTup_ap, dArm_ap, dList_l, dList_t, dTupl_ap, dTupA_ap, lstOf_ap, tupOf_t, tupOf_a, itemsOf_t, itemsOf_l, dSl_l, dSl_t, dSlL_ap, dCatL_ap, dIsN_ap, rng2_ap, dRange_1, dRange_2, dRange3_ap, isC_y, il_int, il_bl, il_str, il_non, il_tup, il_lst, il_armD, il_ins, il_dic, il_ar, il_rig, Bool.false_eq_true, if_false, if_true, Res.bind_ok, Res.bind_bad, Res.out_ok, Res.out_bad, Res.calm_ok, List.map_cons, List.map_nil, List.length_cons, List.length_nil, Nat.reduceAdd, Nat.reduceSub, List.replicate, List.cons_append, List.nil_append, List.getElem?_cons_zero, List.getElem?_cons_succ, List.set_cons_succ, List.set_cons_zero, Bool.true_and, Bool.and_true, Bool.not_false, Bool.not_true, List.contains_nil, Option.bind_some, for_ap, lc_ap, Nat.reduceEqDiff, Nat.reduceLeDiff, Bool.false_xor, Bool.true_xor, and_self, decide_true, decide_false, List.lookup, List.all_cons, List.all_nil, List.contains_cons, Nat.reduceBEq, Bool.or_false, Bool.false_or, Bool.or_true, Bool.true_or, beq_self_eq_true, List.contains_nil, propR_ap, propR_rig, ownB_rig, ownT_rig, ownN_rig, eqI_rig, e_rig_fwd, lcG_nil, lcG_yesN, lawStart_ap, in2, in3, in4, rg2, rg3, rg4, at0, at1, at2, il_tr, Bool.xor_true, Bool.xor_false, mkR_ap, mkR_rest, mkR_rig, callR_ap, callR_rig, callR_mem, methR_ap, methR_at, methR_curve, propR_mem, eqI_mem, lst_ok0, lst_ok1, lst_ok2, lst_ok3, il_pl, il_mem, e_mem_places, e_mem_place, e_rig_arms, ilp, lp, d1, d2]
  by_cases e : a = 0
  · rw [if_pos e] at hrow
    have d1 : decide (a = 0) = true := decide_eq_true e
    have hsl : ∀ R, dSl (plD rs) (some 1) none R = .ok (.tup (inD (Mt.rowOf rs))) R := fun R => by rw [plD_in, dSl_t, hrow]
    rw [← tail R]
    simp only [raise_ap, raiseI_ap, calmF_ap, le_line, lt_line, var_ap, c_ap, op_ap, un_ap, b_ap, and_ap, or_ap, not_ap, if_ap, andV_ap, orV_ap, ch_ap, nil_ap, cons_ap, star_ap, tup_ap, lst_ap, arm_ap, cb_ap, noPart_ap, part_ap, sl_ap, slL_ap, call_ap, callL_ap, fld_ap, get2_ap, dnew_ap, it_ap, itA_ap, yes_ap, next_ap, seq_ap, set_ap, setO_ap, drop_ap, ret_ap, retN_ap, brk_ap, cnt_ap, never_ap, aug_ap, app_ap, ext_ap, pop_ap, par_ap, asg_ap, dset_ap, stF_ap, stF2_ap, fldL_ap, see_f, see_g, okM_f, okM_g, okR_f, okR_g, okO_f, okO_g, hide_nil, hide_cons, setAll_cons, setAll_nil, wipe_nil, wipe_cons, runB_ap, runL_ap, startL_ap, startD_ap, out1_nx, out1_rt, dName_ap, dGTup_ap, dGLst_ap, dGCons_ap, dGNil_ap, dAdd_ap, dSub_ap, dMul_ap, dFdiv_ap, dMod_ap, dLt_ap, dLe_ap, dGt_ap, dGe_ap, bOf_ap, dNeg_ap, dNot_ap, eqS_int, eqS_bl, eqS_str, dInt1_ap, dInt1_bl, dMax2_ap, dMin2_ap, dAbs_ap, dSum_ap, dAny_ap, dAll_ap, dLen_l, dLen_t, dLen_a, dIx_a, dTup_ap, dArm_ap, dList_l, dList_t, dTupl_ap, dTupA_ap, lstOf_ap, tupOf_t, tupOf_a, itemsOf_t, itemsOf_l, dSl_l, dSlL_ap, dIsN_ap, rng2_ap, dRange_1, dRange_2, dRange3_ap, isC_y, il_int, il_bl, il_str, il_non, il_tup, il_lst, il_armD, il_ins, il_dic, il_ar, il_rig, Bool.false_eq_true, if_false, if_true, Res.bind_ok, Res.bind_bad, Res.out_ok, Res.out_bad, Res.calm_ok, List.map_cons, List.map_nil, List.length_cons, List.length_nil, Nat.reduceAdd, Nat.reduceSub, List.replicate, List.cons_append, List.nil_append, List.getElem?_cons_zero, List.getElem?_cons_succ, List.set_cons_succ, List.set_cons_zero, Bool.true_and, Bool.and_true, Bool.not_false, Bool.not_true, List.contains_nil, Option.bind_some, for_ap, lc_ap, Nat.reduceEqDiff, Nat.reduceLeDiff, Bool.false_xor, Bool.true_xor, and_self, decide_true, decide_false, List.lookup, List.all_cons, List.all_nil, List.contains_cons, Nat.reduceBEq, Bool.or_false, Bool.false_or, Bool.or_true, Bool.true_or, beq_self_eq_true, List.contains_nil, propR_ap, propR_rig, ownB_rig, ownT_rig, ownN_rig, eqI_rig, e_rig_fwd, lcG_nil, lcG_yesN, eq_self, lawStart_ap, in2, in3, in4, rg2, rg3, rg4, at0, at1, at2, il_tr, Bool.xor_true, Bool.xor_false, mkR_ap, mkR_rest, mkR_rig, callR_ap, callR_rig, callR_mem, methR_ap, methR_at, methR_curve, propR_mem, eqI_mem, lst_ok0, lst_ok1, lst_ok2, lst_ok3, il_pl, il_mem, e_mem_places, e_mem_place, e_rig_arms, ilp, ha, d1, hsl, lst_ok lsz, lst_ok1, cat, em]
  · rw [if_neg e] at hrow
    have d1 : decide (a = 0) = false := decide_eq_false e
    have hls : ∀ R, dList [plD rs] R = .ok (.lst (inD (Mt.rowOf rs))) R := fun R => by rw [plD_in, dList_t, hrow]
    rw [← tail R]
    simp only [raise_ap, raiseI_ap, calmF_ap, le_line, lt_line, var_ap, c_ap, op_ap, un_ap, b_ap, and_ap, or_ap, not_ap, if_ap, andV_ap, orV_ap, ch_ap, nil_ap, cons_ap, star_ap, tup_ap, lst_ap, arm_ap, cb_ap, noPart_ap, part_ap, sl_ap, slL_ap, call_ap, callL_ap, fld_ap, get2_ap, dnew_ap, it_ap, itA_ap, yes_ap, next_ap, seq_ap, set_ap, setO_ap, drop_ap, ret_ap, retN_ap, brk_ap, cnt_ap, never_ap, aug_ap, app_ap, ext_ap, pop_ap, par_ap, asg_ap, dset_ap, stF_ap, stF2_ap, fldL_ap, see_f, see_g, okM_f, okM_g, okR_f, okR_g, okO_f, okO_g, hide_nil, hide_cons, setAll_cons, setAll_nil, wipe_nil, wipe_cons, runB_ap, runL_ap, startL_ap, startD_ap, out1_nx, out1_rt, dName_ap, dGTup_ap, dGLst_ap, dGCons_ap, dGNil_ap, dAdd_ap, dSub_ap, dMul_ap, dFdiv_ap, dMod_ap, dLt_ap, dLe_ap, dGt_ap, dGe_ap, bOf_ap, dNeg_ap, dNot_ap, eqS_int, eqS_bl, eqS_str, dInt1_ap, dInt1_bl, dMax2_ap, dMin2_ap, dAbs_ap, dSum_ap, dAny_ap, dAll_ap, dLen_l, dLen_t, dLen_a, dIx_a, dTup_ap, dArm_ap, dList_l, dTupl_ap, dTupA_ap, lstOf_ap, tupOf_t, tupOf_a, itemsOf_t, itemsOf_l, dSl_l, dSl_t, dSlL_ap, dIsN_ap, rng2_ap, dRange_1, dRange_2, dRange3_ap, isC_y, il_int, il_bl, il_str, il_non, il_tup, il_lst, il_armD, il_ins, il_dic, il_ar, il_rig, Bool.false_eq_true, if_false, if_true, Res.bind_ok, Res.bind_bad, Res.out_ok, Res.out_bad, Res.calm_ok, List.map_cons, List.map_nil, List.length_cons, List.length_nil, Nat.reduceAdd, Nat.reduceSub, List.replicate, List.cons_append, List.nil_append, List.getElem?_cons_zero, List.getElem?_cons_succ, List.set_cons_succ, List.set_cons_zero, Bool.true_and, Bool.and_true, Bool.not_false, Bool.not_true, List.contains_nil, Option.bind_some, for_ap, lc_ap, Nat.reduceEqDiff, Nat.reduceLeDiff, Bool.false_xor, Bool.true_xor, and_self, decide_true, decide_false, List.lookup, List.all_cons, List.all_nil, List.contains_cons, Nat.reduceBEq, Bool.or_false, Bool.false_or, Bool.or_true, Bool.true_or, beq_self_eq_true, List.contains_nil, propR_ap, propR_rig, ownB_rig, ownT_rig, ownN_rig, eqI_rig, e_rig_fwd, lcG_nil, lcG_yesN, eq_self, lawStart_ap, in2, in3, in4, rg2, rg3, rg4, at0, at1, at2, il_tr, Bool.xor_true, Bool.xor_false, mkR_ap, mkR_rest, mkR_rig, callR_ap, callR_rig, callR_mem, methR_ap, methR_at, methR_curve, propR_mem, eqI_mem, lst_ok0, lst_ok1, lst_ok2, lst_ok3, il_pl, il_mem, e_mem_places, e_mem_place, e_rig_arms, ilp, ha, d1, hls, lst_ok lsz, lst_ok1, cat, em]
/-- the steps of one move -/
theorem un_steps {x0 x1 x5 : Option D} {R : Rs} {b : GS} (hb : b = (gSeq (gSet .f [4] 2 (gOp dCatL (gCB dList (Pv.gCons (gIf (gB (gOp (dEqS false) (gOp dIx (gVar 3) (gC (.int 0))) (gC (.int 0)))) (gSl (gVar 3) (gPart (gC (.int 1))) gNoPart) (gVar 3)) Pv.gNil)) (gLst (Pv.gCons (gVar 6) Pv.gNil))))
  (gSeq (gSet .f [4] 7 (gCall 1 f_L_memory (Pv.gCons (gVar 2) Pv.gNil)))
  (gSeq (gIfS .f [4] (gB (gOp (dEqS false) (gCB dLen (Pv.gCons (gVar 7) Pv.gNil)) (gOp dSub (gCB dLen (Pv.gCons (gVar 3) Pv.gNil)) (gC (.int 2))))) (gApp .f [4] 4 (gCB dAbs (Pv.gCons (gOp dSub (gOp dIx (gVar 3) (gUn dNeg (gC (.int 2)))) (gOp dIx (gVar 3) (gUn dNeg (gC (.int 3))))) Pv.gNil))) gNext)
  (gSeq (gIfS .f [4] (gB (gOp (dEqS false) (gCB dLen (Pv.gCons (gVar 7) Pv.gNil)) (gOp dSub (gCB dLen (Pv.gCons (gVar 3) Pv.gNil)) (gC (.int 1))))) (gApp .f [4] 4 (gC (.int 1))) gNext)
  (gSet .f [4] 3 (gVar 7))))))) : ∀ (ps rs fs : List Int) (x2 x6 x7 : Option D), MemOk rs → (∀ p ∈ ps, FarP p) → rs.length + ps.length ≤ 800 → fs.length + ps.length ≤ 100000 →
    ∃ x2' x6' x7', loopG (dName 6) b (inD ps) [x0, x1, x2, some (plD rs), some (.lst (inD fs)), x5, x6, x7] R = .nx [x0, x1, x2', some (plD (followR rs ps).1), some (.lst (inD (fs ++ loopsU rs ps))), x5, x6', x7'] R
  | [], rs, fs, x2, x6, x7, m, hp, hl, hf => ⟨x2, x6, x7, by simp [loopsU, followR, inD, loopG]⟩
  | p :: ps, rs, fs, x2, x6, x7, m, hp, hl, hf => by
    have fp := hp p (by simp)
    have hpp : -1000000 ≤ p ∧ p ≤ 1000000 := ⟨by have := fp.1; omega, by have := fp.2; omega⟩
    have hc := Mt.moved_cnt rs p
    have hu : (unitH rs (movedR rs p).1).length ≤ 1 := by
      unfold unitH
      split <;> split <;> first | omega | (exfalso; omega) | simp
    simp only [List.length_cons] at hl hf
    have s := un_step (x0 := x0) (x1 := x1) (x2 := x2) (x5 := x5) (x7 := x7) (R := R) m hpp (by omega) (fs := fs) (by omega)
    rw [← hb] at s
    obtain ⟨y2, y6, y7, e⟩ := un_steps (x0 := x0) (x1 := x1) (x5 := x5) (R := R) hb ps (movedR rs p).1 (fs ++ unitH rs (movedR rs p).1) (some (.lst (inD (Mt.rowOf rs ++ [p])))) (some (.int p)) (some (plD (movedR rs p).1)) ⟨Mt.moved_ne rs p, Mt.memV_moved m.2 m.1 hpp⟩ (fun q hq => hp q (by simp [hq])) (by omega) (by rw [List.length_append]; omega)
    refine ⟨y2, y6, y7, ?_⟩
    show loopG (dName 6) b (D.int p :: inD ps) _ R = _
    unfold loopG
    have d6 : dName 6 (.int p) [x0, x1, x2, some (plD rs), some (.lst (inD fs)), x5, x6, x7] = some [x0, x1, x2, some (plD rs), some (.lst (inD fs)), x5, some (.int p), x7] := rfl
    rw [d6]
    simp only [s, e, loopsU, followR, List.append_assoc]
/-- the moves of a row -/
theorem un_row {x0 : Option D} {R : Rs} {b : GS} (hb : b = (gSeq (gFor .f [4] [6] (gIt lstOf (gCall 2 f_L_steps (Pv.gCons (gVar 1) (Pv.gCons (gVar 5) Pv.gNil)))) (dName 6) (gSeq (gSet .f [4] 2 (gOp dCatL (gCB dList (Pv.gCons (gIf (gB (gOp (dEqS false) (gOp dIx (gVar 3) (gC (.int 0))) (gC (.int 0)))) (gSl (gVar 3) (gPart (gC (.int 1))) gNoPart) (gVar 3)) Pv.gNil)) (gLst (Pv.gCons (gVar 6) Pv.gNil))))
  (gSeq (gSet .f [4] 7 (gCall 1 f_L_memory (Pv.gCons (gVar 2) Pv.gNil)))
  (gSeq (gIfS .f [4] (gB (gOp (dEqS false) (gCB dLen (Pv.gCons (gVar 7) Pv.gNil)) (gOp dSub (gCB dLen (Pv.gCons (gVar 3) Pv.gNil)) (gC (.int 2))))) (gApp .f [4] 4 (gCB dAbs (Pv.gCons (gOp dSub (gOp dIx (gVar 3) (gUn dNeg (gC (.int 2)))) (gOp dIx (gVar 3) (gUn dNeg (gC (.int 3))))) Pv.gNil))) gNext)
  (gSeq (gIfS .f [4] (gB (gOp (dEqS false) (gCB dLen (Pv.gCons (gVar 7) Pv.gNil)) (gOp dSub (gCB dLen (Pv.gCons (gVar 3) Pv.gNil)) (gC (.int 1))))) (gApp .f [4] 4 (gC (.int 1))) gNext)
  (gSet .f [4] 3 (gVar 7)))))))
  (gSet .f [4] 1 (gVar 5)))) : ∀ (row rs fs : List Int) (a : Int) (x2 x5 x6 x7 : Option D), MemOk rs → rs.head? = some a → (-100 ≤ a ∧ a ≤ 100) → (∀ p ∈ row, -100 ≤ p ∧ p ≤ 100) → rs.length + row.length ≤ 400 → fs.length + 2 * (rs.length + row.length) ≤ 10000 →
    ∃ x1' x2' x5' x6' x7', loopG (dName 5) b (inD row) [x0, some (.int a), x2, some (plD rs), some (.lst (inD fs)), x5, x6, x7] R = .nx [x0, x1', x2', some (plD (followR rs row).1), some (.lst (inD (fs ++ (followR rs row).2))), x5', x6', x7'] R
  | [], rs, fs, a, x2, x5, x6, x7, m, ha, hb1, hp, hl, hf => ⟨some (.int a), x2, x5, x6, x7, by simp [followR, inD, loopG]⟩
  | p :: row, rs, fs, a, x2, x5, x6, x7, m, ha, hb1, hp, hl, hf => by
    have fp := hp p (by simp)
    have hpp : -1000000 ≤ p ∧ p ≤ 1000000 := ⟨by have := fp.1; omega, by have := fp.2; omega⟩
    obtain ⟨r, rfl⟩ : ∃ r, rs = a :: r := by
      cases rs with
      | nil => exact absurd rfl m.1
      | cons b r => simp at ha; exact ⟨r, by rw [ha]⟩
    have hc := Mt.moved_cnt (a :: r) p
    simp only [List.length_cons] at hl hf
    have hsl := stU_len a p
    have hsf := stU_far (a := a) (p := p) ⟨by omega, by omega⟩ hpp
    obtain ⟨y2, y6, y7, e⟩ := un_steps (x0 := x0) (x1 := some (.int a)) (x5 := some (.int p)) (R := R) rfl (stU a p) (a :: r) fs x2 x6 x7 m hsf (by simp only [List.length_cons]; omega) (by omega)
    obtain ⟨k1, k2⟩ := stU_ok m.2 hpp
    rw [k1, k2] at e
    obtain ⟨t, ht⟩ := Mt.moved_head (a :: r) p
    obtain ⟨z1, z2, z5, z6, z7, e2⟩ := un_row (x0 := x0) (R := R) hb row (movedR (a :: r) p).1 (fs ++ (movedR (a :: r) p).2) p y2 (some (.int p)) y6 y7 ⟨Mt.moved_ne _ p, Mt.memV_moved m.2 m.1 hpp⟩ (by rw [ht]; rfl) fp (fun q hq => hp q (by simp [hq])) (by simp at hc; omega) (by rw [List.length_append]; simp at hc; omega)
    refine ⟨z1, z2, z5, z6, z7, ?_⟩
    show loopG (dName 5) b (D.int p :: inD row) _ R = _
    unfold loopG
    have d5 : dName 5 (.int p) [x0, some (.int a), x2, some (plD (a :: r)), some (.lst (inD fs)), x5, x6, x7] = some [x0, some (.int a), x2, some (plD (a :: r)), some (.lst (inD fs)), some (.int p), x6, x7] := rfl
    rw [d5]
    have hst := e_stepsU (p := a) (q := p) (R := R) ⟨by omega, by omega⟩ ⟨by omega, by omega⟩
    have hB : b [x0, some (.int a), x2, some (plD (a :: r)), some (.lst (inD fs)), some (.int p), x6, x7] R = .nx [x0, some (.int p), y2, some (plD (movedR (a :: r) p).1), some (.lst (inD (fs ++ (movedR (a :: r) p).2))), some (.int p), y6, y7] R := by
      rw [hb]
      have hv : (List.all [6] fun i => !List.contains [4] i) = true := rfl
      simp only [raise_ap, raiseI_ap, calmF_ap, le_line, lt_line, var_ap, c_ap, op_ap, un_ap, b_ap, and_ap, or_ap, not_ap, if_ap, andV_ap, orV_ap, ch_ap, nil_ap, cons_ap, star_ap, tup_ap, lst_ap, arm_ap, cb_ap, noPart_ap, part_ap, sl_ap, slL_ap, call_ap, callL_ap, fld_ap, get2_ap, dnew_ap, it_ap, itA_ap, yes_ap, next_ap, seq_ap, set_ap, setO_ap, drop_ap, ret_ap, retN_ap, brk_ap, cnt_ap, never_ap, ifS_ap, aug_ap, app_ap, ext_ap, pop_ap, par_ap, asg_ap, dset_ap, stF_ap, stF2_ap, fldL_ap, see_f, see_g, okM_f, okM_g, okR_f, okR_g, okO_f, okO_g, hide_nil, hide_cons, setAll_cons, setAll_nil, wipe_nil, wipe_cons, runB_ap, runL_ap, startL_ap, startD_ap, out1_nx, out1_rt, dName_ap, dGTup_ap, dGLst_ap, dGCons_ap, dGNil_ap, dAdd_ap, dSub_ap, dMul_ap, dFdiv_ap, dMod_ap, dLt_ap, dLe_ap, dGt_ap, dGe_ap, bOf_ap, dNeg_ap, dNot_ap, eqS_int, eqS_bl, eqS_str, dInt1_ap, dInt1_bl, dMax2_ap, dMin2_ap, dAbs_ap, dSum_ap, dAny_ap, dAll_ap, dLen_l, dLen_t, dLen_a, dIx_l, dIx_t, dIx_a, dTup_ap, dArm_ap, dList_l, dList_t, dTupl_ap, dTupA_ap, lstOf_ap, tupOf_t, tupOf_a, itemsOf_t, itemsOf_l, dSl_l, dSl_t, dSlL_ap, dCatL_ap, dIsN_ap, rng2_ap, dRange_1, dRange_2, dRange3_ap, isC_y, il_int, il_bl, il_str, il_non, il_tup, il_lst, il_armD, il_ins, il_dic, il_ar, il_rig, Bool.false_eq_true, if_false, if_true, Res.bind_ok, Res.bind_bad, Res.out_ok, Res.out_bad, Res.calm_ok, List.map_cons, List.map_nil, List.length_cons, List.length_nil, Nat.reduceAdd, Nat.reduceSub, List.replicate, List.cons_append, List.nil_append, List.getElem?_cons_zero, List.getElem?_cons_succ, List.set_cons_succ, List.set_cons_zero, Bool.true_and, Bool.and_true, Bool.not_false, Bool.not_true, List.contains_nil, Option.bind_some, for_ap, lc_ap, Nat.reduceEqDiff, Nat.reduceLeDiff, Bool.false_xor, Bool.true_xor, and_self, decide_true, decide_false, List.lookup, List.all_cons, List.all_nil, List.contains_cons, Nat.reduceBEq, Bool.or_false, Bool.false_or, Bool.or_true, Bool.true_or, beq_self_eq_true, List.contains_nil, propR_ap, propR_rig, ownB_rig, ownT_rig, ownN_rig, eqI_rig, e_rig_fwd, lcG_nil, lcG_yesN, eq_self, lawStart_ap, in2, in3, in4, rg2, rg3, rg4, at0, at1, at2, il_tr, Bool.xor_true, Bool.xor_false, mkR_ap, mkR_rest, mkR_rig, callR_ap, callR_rig, callR_mem, methR_ap, methR_at, methR_curve, propR_mem, eqI_mem, lst_ok0, lst_ok1, lst_ok2, lst_ok3, il_pl, il_mem, e_mem_places, e_mem_place, e_rig_arms, hst, hv]
      rw [e]
      simp only [raise_ap, raiseI_ap, calmF_ap, le_line, lt_line, var_ap, c_ap, op_ap, un_ap, b_ap, and_ap, or_ap, not_ap, if_ap, andV_ap, orV_ap, ch_ap, nil_ap, cons_ap, star_ap, tup_ap, lst_ap, arm_ap, cb_ap, noPart_ap, part_ap, sl_ap, slL_ap, call_ap, callL_ap, fld_ap, get2_ap, dnew_ap, it_ap, itA_ap, yes_ap, next_ap, seq_ap, set_ap, setO_ap, drop_ap, ret_ap, retN_ap, brk_ap, cnt_ap, never_ap, ifS_ap, aug_ap, app_ap, ext_ap, pop_ap, par_ap, asg_ap, dset_ap, stF_ap, stF2_ap, fldL_ap, see_f, see_g, okM_f, okM_g, okR_f, okR_g, okO_f, okO_g, hide_nil, hide_cons, setAll_cons, setAll_nil, wipe_nil, wipe_cons, runB_ap, runL_ap, startL_ap, startD_ap, out1_nx, out1_rt, dName_ap, dGTup_ap, dGLst_ap, dGCons_ap, dGNil_ap, dAdd_ap, dSub_ap, dMul_ap, dFdiv_ap, dMod_ap, dLt_ap, dLe_ap, dGt_ap, dGe_ap, bOf_ap, dNeg_ap, dNot_ap, eqS_int, eqS_bl, eqS_str, dInt1_ap, dInt1_bl, dMax2_ap, dMin2_ap, dAbs_ap, dSum_ap, dAny_ap, dAll_ap, dLen_l, dLen_t, dLen_a, dIx_l, dIx_t, dIx_a, dTup_ap, dArm_ap, dList_l, dList_t, dTupl_ap, dTupA_ap, lstOf_ap, tupOf_t, tupOf_a, itemsOf_t, itemsOf_l, dSl_l, dSl_t, dSlL_ap, dCatL_ap, dIsN_ap, rng2_ap, dRange_1, dRange_2, dRange3_ap, isC_y, il_int, il_bl, il_str, il_non, il_tup, il_lst, il_armD, il_ins, il_dic, il_ar, il_rig, Bool.false_eq_true, if_false, if_true, Res.bind_ok, Res.bind_bad, Res.out_ok, Res.out_bad, Res.calm_ok, List.map_cons, List.map_nil, List.length_cons, List.length_nil, Nat.reduceAdd, Nat.reduceSub, List.replicate, List.cons_append, List.nil_append, List.getElem?_cons_zero, List.getElem?_cons_succ, List.set_cons_succ, List.set_cons_zero, Bool.true_and, Bool.and_true, Bool.not_false, Bool.not_true, List.contains_nil, Option.bind_some, for_ap, lc_ap, Nat.reduceEqDiff, Nat.reduceLeDiff, Bool.false_xor, Bool.true_xor, and_self, decide_true, decide_false, List.lookup, List.all_cons, List.all_nil, List.contains_cons, Nat.reduceBEq, Bool.or_false, Bool.false_or, Bool.or_true, Bool.true_or, beq_self_eq_true, List.contains_nil, propR_ap, propR_rig, ownB_rig, ownT_rig, ownN_rig, eqI_rig, e_rig_fwd, lcG_nil, lcG_yesN, eq_self, lawStart_ap, in2, in3, in4, rg2, rg3, rg4, at0, at1, at2, il_tr, Bool.xor_true, Bool.xor_false, mkR_ap, mkR_rest, mkR_rig, callR_ap, callR_rig, callR_mem, methR_ap, methR_at, methR_curve, propR_mem, eqI_mem, lst_ok0, lst_ok1, lst_ok2, lst_ok3, il_pl, il_mem, e_mem_places, e_mem_place, e_rig_arms]
    simp only [hB, e2, followR, List.append_assoc]
theorem e_L_loops {row : List Int} {R : Rs} (hl : row.length ≤ 100) (hp : ∀ p ∈ row, -100 ≤ p ∧ p ≤ 100) : f_L_loops [.lst (inD row)] R = .ok (.lst (inD (followR [0] row).2)) R := by
  unfold f_L_loops
  refine pureF_ok ?_
  unfold m_L_loops
  have m0 : MemOk [0] := ⟨by simp, by decide, by decide, trivial⟩
  obtain ⟨z1, z2, z5, z6, z7, e⟩ := un_row (x0 := some (.lst (inD row))) (R := []) rfl row [0] [] 0 (some (.lst [])) none none none m0 rfl (by decide) hp (by simp; omega) (by simp; omega)
  have hfl : (flOk [4] [1, 2, 3, 4] [false, false, false, true] && decide ([1, 2, 3, 4] : List Nat).Nodup) = true := rfl
  have hv : (List.all [5] fun i => !List.contains [4] i) = true := rfl
  rw [show plD [0] = D.tup [.int 0] from rfl, show D.lst (inD ([] : List Int)) = .lst [] from rfl] at e
  simp only [raise_ap, raiseI_ap, calmF_ap, le_line, lt_line, var_ap, c_ap, op_ap, un_ap, b_ap, and_ap, or_ap, not_ap, if_ap, andV_ap, orV_ap, ch_ap, nil_ap, cons_ap, star_ap, tup_ap, lst_ap, arm_ap, cb_ap, noPart_ap, part_ap, sl_ap, slL_ap, call_ap, callL_ap, fld_ap, get2_ap, dnew_ap, it_ap, itA_ap, yes_ap, next_ap, seq_ap, set_ap, setO_ap, drop_ap, ret_ap, retN_ap, brk_ap, cnt_ap, never_ap, ifS_ap, aug_ap, app_ap, ext_ap, pop_ap, par_ap, asg_ap, dset_ap, stF_ap, stF2_ap, fldL_ap, see_f, see_g, okM_f, okM_g, okR_f, okR_g, okO_f, okO_g, hide_nil, hide_cons, setAll_cons, setAll_nil, wipe_nil, wipe_cons, runB_ap, runL_ap, startL_ap, startD_ap, out1_nx, out1_rt, dName_ap, dGTup_ap, dGLst_ap, dGCons_ap, dGNil_ap, dAdd_ap, dSub_ap, dMul_ap, dFdiv_ap, dMod_ap, dLt_ap, dLe_ap, dGt_ap, dGe_ap, bOf_ap, dNeg_ap, dNot_ap, eqS_int, eqS_bl, eqS_str, dInt1_ap, dInt1_bl, dMax2_ap, dMin2_ap, dAbs_ap, dSum_ap, dAny_ap, dAll_ap, dLen_l, dLen_t, dLen_a, dIx_l, dIx_t, dIx_a, dTup_ap, dArm_ap, dList_l, dList_t, dTupl_ap, dTupA_ap, lstOf_ap, tupOf_t, tupOf_a, itemsOf_t, itemsOf_l, dSl_l, dSl_t, dSlL_ap, dCatL_ap, dIsN_ap, rng2_ap, dRange_1, dRange_2, dRange3_ap, isC_y, il_int, il_bl, il_str, il_non, il_tup, il_lst, il_armD, il_ins, il_dic, il_ar, il_rig, Bool.false_eq_true, if_false, if_true, Res.bind_ok, Res.bind_bad, Res.out_ok, Res.out_bad, Res.calm_ok, List.map_cons, List.map_nil, List.length_cons, List.length_nil, Nat.reduceAdd, Nat.reduceSub, List.replicate, List.cons_append, List.nil_append, List.getElem?_cons_zero, List.getElem?_cons_succ, List.set_cons_succ, List.set_cons_zero, Bool.true_and, Bool.and_true, Bool.not_false, Bool.not_true, List.contains_nil, Option.bind_some, for_ap, lc_ap, Nat.reduceEqDiff, Nat.reduceLeDiff, Bool.false_xor, Bool.true_xor, and_self, decide_true, decide_false, List.lookup, List.all_cons, List.all_nil, List.contains_cons, Nat.reduceBEq, Bool.or_false, Bool.false_or, Bool.or_true, Bool.true_or, beq_self_eq_true, List.contains_nil, propR_ap, propR_rig, ownB_rig, ownT_rig, ownN_rig, eqI_rig, e_rig_fwd, lcG_nil, lcG_yesN, eq_self, lawStart_ap, in2, in3, in4, rg2, rg3, rg4, at0, at1, at2, il_tr, Bool.xor_true, Bool.xor_false, mkR_ap, mkR_rest, mkR_rig, callR_ap, callR_rig, callR_mem, methR_ap, methR_at, methR_curve, propR_mem, eqI_mem, lst_ok0, lst_ok1, lst_ok2, lst_ok3, il_pl, il_mem, e_mem_places, e_mem_place, e_rig_arms, lst_ok0, hfl, hv]
  rw [e]
  simp only [raise_ap, raiseI_ap, calmF_ap, le_line, lt_line, var_ap, c_ap, op_ap, un_ap, b_ap, and_ap, or_ap, not_ap, if_ap, andV_ap, orV_ap, ch_ap, nil_ap, cons_ap, star_ap, tup_ap, lst_ap, arm_ap, cb_ap, noPart_ap, part_ap, sl_ap, slL_ap, call_ap, callL_ap, fld_ap, get2_ap, dnew_ap, it_ap, itA_ap, yes_ap, next_ap, seq_ap, set_ap, setO_ap, drop_ap, ret_ap, retN_ap, brk_ap, cnt_ap, never_ap, ifS_ap, aug_ap, app_ap, ext_ap, pop_ap, par_ap, asg_ap, dset_ap, stF_ap, stF2_ap, fldL_ap, see_f, see_g, okM_f, okM_g, okR_f, okR_g, okO_f, okO_g, hide_nil, hide_cons, setAll_cons, setAll_nil, wipe_nil, wipe_cons, runB_ap, runL_ap, startL_ap, startD_ap, out1_nx, out1_rt, dName_ap, dGTup_ap, dGLst_ap, dGCons_ap, dGNil_ap, dAdd_ap, dSub_ap, dMul_ap, dFdiv_ap, dMod_ap, dLt_ap, dLe_ap, dGt_ap, dGe_ap, bOf_ap, dNeg_ap, dNot_ap, eqS_int, eqS_bl, eqS_str, dInt1_ap, dInt1_bl, dMax2_ap, dMin2_ap, dAbs_ap, dSum_ap, dAny_ap, dAll_ap, dLen_l, dLen_t, dLen_a, dIx_l, dIx_t, dIx_a, dTup_ap, dArm_ap, dList_l, dList_t, dTupl_ap, dTupA_ap, lstOf_ap, tupOf_t, tupOf_a, itemsOf_t, itemsOf_l, dSl_l, dSl_t, dSlL_ap, dCatL_ap, dIsN_ap, rng2_ap, dRange_1, dRange_2, dRange3_ap, isC_y, il_int, il_bl, il_str, il_non, il_tup, il_lst, il_armD, il_ins, il_dic, il_ar, il_rig, Bool.false_eq_true, if_false, if_true, Res.bind_ok, Res.bind_bad, Res.out_ok, Res.out_bad, Res.calm_ok, List.map_cons, List.map_nil, List.length_cons, List.length_nil, Nat.reduceAdd, Nat.reduceSub, List.replicate, List.cons_append, List.nil_append, List.getElem?_cons_zero, List.getElem?_cons_succ, List.set_cons_succ, List.set_cons_zero, Bool.true_and, Bool.and_true, Bool.not_false, Bool.not_true, List.contains_nil, Option.bind_some, for_ap, lc_ap, Nat.reduceEqDiff, Nat.reduceLeDiff, Bool.false_xor, Bool.true_xor, and_self, decide_true, decide_false, List.lookup, List.all_cons, List.all_nil, List.contains_cons, Nat.reduceBEq, Bool.or_false, Bool.false_or, Bool.or_true, Bool.true_or, beq_self_eq_true, List.contains_nil, propR_ap, propR_rig, ownB_rig, ownT_rig, ownN_rig, eqI_rig, e_rig_fwd, lcG_nil, lcG_yesN, eq_self, lawStart_ap, in2, in3, in4, rg2, rg3, rg4, at0, at1, at2, il_tr, Bool.xor_true, Bool.xor_false, mkR_ap, mkR_rest, mkR_rig, callR_ap, callR_rig, callR_mem, methR_ap, methR_at, methR_curve, propR_mem, eqI_mem, lst_ok0, lst_ok1, lst_ok2, lst_ok3, il_pl, il_mem, e_mem_places, e_mem_place, e_rig_arms, List.nil_append]
def cntL (hs : List Int) : List D := (sortU hs).map fun h => .tup [.int h, .int (hs.count h)]
theorem e_L_told {hs : List Int} {R : Rs} (hl : hs.length ≤ 60) : f_L_told [.lst (inD hs)] R = .ok (.lst (cntL hs)) R := by
  unfold f_L_told
  refine pureF_ok ?_
  unfold m_L_told
  have hlen := sortU_len hs
  have hs' : dSortSet [.lst (inD hs)] [] = .ok (.lst (inD (sortU hs))) [] := sortSet_ap hl
  simp only [raise_ap, raiseI_ap, calmF_ap, le_line, lt_line, var_ap, c_ap, op_ap, un_ap, b_ap, and_ap, or_ap, not_ap, if_ap, andV_ap, orV_ap, ch_ap, nil_ap, cons_ap, star_ap, tup_ap, lst_ap, arm_ap, cb_ap, noPart_ap, part_ap, sl_ap, slL_ap, call_ap, callL_ap, fld_ap, get2_ap, dnew_ap, it_ap, itA_ap, yes_ap, next_ap, seq_ap, set_ap, setO_ap, drop_ap, ret_ap, retN_ap, brk_ap, cnt_ap, never_ap, ifS_ap, aug_ap, app_ap, ext_ap, pop_ap, par_ap, asg_ap, dset_ap, stF_ap, stF2_ap, fldL_ap, see_f, see_g, okM_f, okM_g, okR_f, okR_g, okO_f, okO_g, hide_nil, hide_cons, setAll_cons, setAll_nil, wipe_nil, wipe_cons, runB_ap, runL_ap, startL_ap, startD_ap, out1_nx, out1_rt, dName_ap, dGTup_ap, dGLst_ap, dGCons_ap, dGNil_ap, dAdd_ap, dSub_ap, dMul_ap, dFdiv_ap, dMod_ap, dLt_ap, dLe_ap, dGt_ap, dGe_ap, bOf_ap, dNeg_ap, dNot_ap, eqS_int, eqS_bl, eqS_str, dInt1_ap, dInt1_bl, dMax2_ap, dMin2_ap, dAbs_ap, dSum_ap, dAny_ap, dAll_ap, dLen_l, dLen_t, dLen_a, dIx_l, dIx_t, dIx_a, dTup_ap, dArm_ap, dList_l, dList_t, dTupl_ap, dTupA_ap, lstOf_ap, tupOf_t, tupOf_a, itemsOf_t, itemsOf_l, dSl_l, dSl_t, dSlL_ap, dCatL_ap, dIsN_ap, rng2_ap, dRange_1, dRange_2, dRange3_ap, isC_y, il_int, il_bl, il_str, il_non, il_tup, il_lst, il_armD, il_ins, il_dic, il_ar, il_rig, Bool.false_eq_true, if_false, if_true, Res.bind_ok, Res.bind_bad, Res.out_ok, Res.out_bad, Res.calm_ok, List.map_cons, List.map_nil, List.length_cons, List.length_nil, Nat.reduceAdd, Nat.reduceSub, List.replicate, List.cons_append, List.nil_append, List.getElem?_cons_zero, List.getElem?_cons_succ, List.set_cons_succ, List.set_cons_zero, Bool.true_and, Bool.and_true, Bool.not_false, Bool.not_true, List.contains_nil, Option.bind_some, for_ap, lc_ap, Nat.reduceEqDiff, Nat.reduceLeDiff, Bool.false_xor, Bool.true_xor, and_self, decide_true, decide_false, List.lookup, List.all_cons, List.all_nil, List.contains_cons, Nat.reduceBEq, Bool.or_false, Bool.false_or, Bool.or_true, Bool.true_or, beq_self_eq_true, List.contains_nil, propR_ap, propR_rig, ownB_rig, ownT_rig, ownN_rig, eqI_rig, e_rig_fwd, lcG_nil, lcG_yesN, eq_self, lawStart_ap, in2, in3, in4, rg2, rg3, rg4, at0, at1, at2, il_tr, Bool.xor_true, Bool.xor_false, mkR_ap, mkR_rest, mkR_rig, callR_ap, callR_rig, callR_mem, methR_ap, methR_at, methR_curve, propR_mem, eqI_mem, lst_ok0, lst_ok1, lst_ok2, lst_ok3, il_pl, il_mem, e_mem_places, e_mem_place, e_rig_arms, hs']
  rw [show inD (sortU hs) = (sortU hs).map D.int from rfl, lcG_map (T := dName 1) D.int (fun h => D.tup [.int h, .int (hs.count h)]) (fun h hh => by
    refine ⟨_, rfl, ?_⟩
    have hc : dCount (.lst (inD hs)) [.int h] [] = .ok (.int (hs.count h)) [] := by unfold dCount inD; simp only [intsOf_map]
    simp only [raise_ap, raiseI_ap, calmF_ap, le_line, lt_line, var_ap, c_ap, op_ap, un_ap, b_ap, and_ap, or_ap, not_ap, if_ap, andV_ap, orV_ap, ch_ap, nil_ap, cons_ap, star_ap, tup_ap, lst_ap, arm_ap, cb_ap, noPart_ap, part_ap, sl_ap, slL_ap, call_ap, callL_ap, fld_ap, get2_ap, dnew_ap, it_ap, itA_ap, yes_ap, next_ap, seq_ap, set_ap, setO_ap, drop_ap, ret_ap, retN_ap, brk_ap, cnt_ap, never_ap, ifS_ap, aug_ap, app_ap, ext_ap, pop_ap, par_ap, asg_ap, dset_ap, stF_ap, stF2_ap, fldL_ap, see_f, see_g, okM_f, okM_g, okR_f, okR_g, okO_f, okO_g, hide_nil, hide_cons, setAll_cons, setAll_nil, wipe_nil, wipe_cons, runB_ap, runL_ap, startL_ap, startD_ap, out1_nx, out1_rt, dName_ap, dGTup_ap, dGLst_ap, dGCons_ap, dGNil_ap, dAdd_ap, dSub_ap, dMul_ap, dFdiv_ap, dMod_ap, dLt_ap, dLe_ap, dGt_ap, dGe_ap, bOf_ap, dNeg_ap, dNot_ap, eqS_int, eqS_bl, eqS_str, dInt1_ap, dInt1_bl, dMax2_ap, dMin2_ap, dAbs_ap, dSum_ap, dAny_ap, dAll_ap, dLen_l, dLen_t, dLen_a, dIx_l, dIx_t, dIx_a, dTup_ap, dArm_ap, dList_l, dList_t, dTupl_ap, dTupA_ap, lstOf_ap, tupOf_t, tupOf_a, itemsOf_t, itemsOf_l, dSl_l, dSl_t, dSlL_ap, dCatL_ap, dIsN_ap, rng2_ap, dRange_1, dRange_2, dRange3_ap, isC_y, il_int, il_bl, il_str, il_non, il_tup, il_lst, il_armD, il_ins, il_dic, il_ar, il_rig, Bool.false_eq_true, if_false, if_true, Res.bind_ok, Res.bind_bad, Res.out_ok, Res.out_bad, Res.calm_ok, List.map_cons, List.map_nil, List.length_cons, List.length_nil, Nat.reduceAdd, Nat.reduceSub, List.replicate, List.cons_append, List.nil_append, List.getElem?_cons_zero, List.getElem?_cons_succ, List.set_cons_succ, List.set_cons_zero, Bool.true_and, Bool.and_true, Bool.not_false, Bool.not_true, List.contains_nil, Option.bind_some, for_ap, lc_ap, Nat.reduceEqDiff, Nat.reduceLeDiff, Bool.false_xor, Bool.true_xor, and_self, decide_true, decide_false, List.lookup, List.all_cons, List.all_nil, List.contains_cons, Nat.reduceBEq, Bool.or_false, Bool.false_or, Bool.or_true, Bool.true_or, beq_self_eq_true, List.contains_nil, propR_ap, propR_rig, ownB_rig, ownT_rig, ownN_rig, eqI_rig, e_rig_fwd, lcG_nil, lcG_yesN, eq_self, lawStart_ap, in2, in3, in4, rg2, rg3, rg4, at0, at1, at2, il_tr, Bool.xor_true, Bool.xor_false, mkR_ap, mkR_rest, mkR_rig, callR_ap, callR_rig, callR_mem, methR_ap, methR_at, methR_curve, propR_mem, eqI_mem, lst_ok0, lst_ok1, lst_ok2, lst_ok3, il_pl, il_mem, e_mem_places, e_mem_place, e_rig_arms, bml_ap, hc])]
  rw [Res.calm_ok, Res.bind_ok, lst_ok (by rw [List.length_map]; exact line60 (by omega))]
  rfl
theorem e_L_pairs {hs : List Int} {R : Rs} (hl : hs.length ≤ 60) : f_L_pairs [.dic (cntD hs)] R = .ok (.lst (cntL hs)) R := by
  unfold f_L_pairs
  refine pureF_ok ?_
  unfold m_L_pairs
  have hlen := sortU_len hs
  have ild : (D.dic (cntD hs)).isLoc = false := rfl
  have hk : dIsK .dct [.dic (cntD hs), .ty "dict"] [] = .ok (.bl true) [] := rfl
  simp only [raise_ap, raiseI_ap, calmF_ap, le_line, lt_line, var_ap, c_ap, op_ap, un_ap, b_ap, and_ap, or_ap, not_ap, if_ap, andV_ap, orV_ap, ch_ap, nil_ap, cons_ap, star_ap, tup_ap, lst_ap, arm_ap, cb_ap, noPart_ap, part_ap, sl_ap, slL_ap, call_ap, callL_ap, fld_ap, get2_ap, dnew_ap, it_ap, itA_ap, yes_ap, next_ap, seq_ap, set_ap, setO_ap, drop_ap, ret_ap, retN_ap, brk_ap, cnt_ap, never_ap, ifS_ap, aug_ap, app_ap, ext_ap, pop_ap, par_ap, asg_ap, dset_ap, stF_ap, stF2_ap, fldL_ap, see_f, see_g, okM_f, okM_g, okR_f, okR_g, okO_f, okO_g, hide_nil, hide_cons, setAll_cons, setAll_nil, wipe_nil, wipe_cons, runB_ap, runL_ap, startL_ap, startD_ap, out1_nx, out1_rt, dName_ap, dGTup_ap, dGLst_ap, dGCons_ap, dGNil_ap, dAdd_ap, dSub_ap, dMul_ap, dFdiv_ap, dMod_ap, dLt_ap, dLe_ap, dGt_ap, dGe_ap, bOf_ap, dNeg_ap, dNot_ap, eqS_int, eqS_bl, eqS_str, dInt1_ap, dInt1_bl, dMax2_ap, dMin2_ap, dAbs_ap, dSum_ap, dAny_ap, dAll_ap, dLen_l, dLen_t, dLen_a, dIx_l, dIx_t, dIx_a, dTup_ap, dArm_ap, dList_l, dList_t, dTupl_ap, dTupA_ap, lstOf_ap, tupOf_t, tupOf_a, itemsOf_t, itemsOf_l, dSl_l, dSl_t, dSlL_ap, dCatL_ap, dIsN_ap, rng2_ap, dRange_1, dRange_2, dRange3_ap, isC_y, il_int, il_bl, il_str, il_non, il_tup, il_lst, il_armD, il_ins, il_dic, il_ar, il_rig, Bool.false_eq_true, if_false, if_true, Res.bind_ok, Res.bind_bad, Res.out_ok, Res.out_bad, Res.calm_ok, List.map_cons, List.map_nil, List.length_cons, List.length_nil, Nat.reduceAdd, Nat.reduceSub, List.replicate, List.cons_append, List.nil_append, List.getElem?_cons_zero, List.getElem?_cons_succ, List.set_cons_succ, List.set_cons_zero, Bool.true_and, Bool.and_true, Bool.not_false, Bool.not_true, List.contains_nil, Option.bind_some, for_ap, lc_ap, Nat.reduceEqDiff, Nat.reduceLeDiff, Bool.false_xor, Bool.true_xor, and_self, decide_true, decide_false, List.lookup, List.all_cons, List.all_nil, List.contains_cons, Nat.reduceBEq, Bool.or_false, Bool.false_or, Bool.or_true, Bool.true_or, beq_self_eq_true, List.contains_nil, propR_ap, propR_rig, ownB_rig, ownT_rig, ownN_rig, eqI_rig, e_rig_fwd, lcG_nil, lcG_yesN, eq_self, lawStart_ap, in2, in3, in4, rg2, rg3, rg4, at0, at1, at2, il_tr, Bool.xor_true, Bool.xor_false, mkR_ap, mkR_rest, mkR_rig, callR_ap, callR_rig, callR_mem, methR_ap, methR_at, methR_curve, propR_mem, eqI_mem, lst_ok0, lst_ok1, lst_ok2, lst_ok3, il_pl, il_mem, e_mem_places, e_mem_place, e_rig_arms, ild, hk, dicOf_app, keys_cnt]
  rw [show inD (sortU hs) = (sortU hs).map D.int from rfl, lcG_map (T := dName 1) D.int (fun h => D.tup [.int h, .int (hs.count h)]) (fun h hh => by
    refine ⟨_, rfl, ?_⟩
    have hg := fun R : Rs => dget_cnt (R := R) (mem_sortU.mp hh)
    simp only [raise_ap, raiseI_ap, calmF_ap, le_line, lt_line, var_ap, c_ap, op_ap, un_ap, b_ap, and_ap, or_ap, not_ap, if_ap, andV_ap, orV_ap, ch_ap, nil_ap, cons_ap, star_ap, tup_ap, lst_ap, arm_ap, cb_ap, noPart_ap, part_ap, sl_ap, slL_ap, call_ap, callL_ap, fld_ap, get2_ap, dnew_ap, it_ap, itA_ap, yes_ap, next_ap, seq_ap, set_ap, setO_ap, drop_ap, ret_ap, retN_ap, brk_ap, cnt_ap, never_ap, ifS_ap, aug_ap, app_ap, ext_ap, pop_ap, par_ap, asg_ap, dset_ap, stF_ap, stF2_ap, fldL_ap, see_f, see_g, okM_f, okM_g, okR_f, okR_g, okO_f, okO_g, hide_nil, hide_cons, setAll_cons, setAll_nil, wipe_nil, wipe_cons, runB_ap, runL_ap, startL_ap, startD_ap, out1_nx, out1_rt, dName_ap, dGTup_ap, dGLst_ap, dGCons_ap, dGNil_ap, dAdd_ap, dSub_ap, dMul_ap, dFdiv_ap, dMod_ap, dLt_ap, dLe_ap, dGt_ap, dGe_ap, bOf_ap, dNeg_ap, dNot_ap, eqS_int, eqS_bl, eqS_str, dInt1_ap, dInt1_bl, dMax2_ap, dMin2_ap, dAbs_ap, dSum_ap, dAny_ap, dAll_ap, dLen_l, dLen_t, dLen_a, dIx_l, dIx_t, dIx_a, dTup_ap, dArm_ap, dList_l, dList_t, dTupl_ap, dTupA_ap, lstOf_ap, tupOf_t, tupOf_a, itemsOf_t, itemsOf_l, dSl_l, dSl_t, dSlL_ap, dCatL_ap, dIsN_ap, rng2_ap, dRange_1, dRange_2, dRange3_ap, isC_y, il_int, il_bl, il_str, il_non, il_tup, il_lst, il_armD, il_ins, il_dic, il_ar, il_rig, Bool.false_eq_true, if_false, if_true, Res.bind_ok, Res.bind_bad, Res.out_ok, Res.out_bad, Res.calm_ok, List.map_cons, List.map_nil, List.length_cons, List.length_nil, Nat.reduceAdd, Nat.reduceSub, List.replicate, List.cons_append, List.nil_append, List.getElem?_cons_zero, List.getElem?_cons_succ, List.set_cons_succ, List.set_cons_zero, Bool.true_and, Bool.and_true, Bool.not_false, Bool.not_true, List.contains_nil, Option.bind_some, for_ap, lc_ap, Nat.reduceEqDiff, Nat.reduceLeDiff, Bool.false_xor, Bool.true_xor, and_self, decide_true, decide_false, List.lookup, List.all_cons, List.all_nil, List.contains_cons, Nat.reduceBEq, Bool.or_false, Bool.false_or, Bool.or_true, Bool.true_or, beq_self_eq_true, List.contains_nil, propR_ap, propR_rig, ownB_rig, ownT_rig, ownN_rig, eqI_rig, e_rig_fwd, lcG_nil, lcG_yesN, eq_self, lawStart_ap, in2, in3, in4, rg2, rg3, rg4, at0, at1, at2, il_tr, Bool.xor_true, Bool.xor_false, mkR_ap, mkR_rest, mkR_rig, callR_ap, callR_rig, callR_mem, methR_ap, methR_at, methR_curve, propR_mem, eqI_mem, lst_ok0, lst_ok1, lst_ok2, lst_ok3, il_pl, il_mem, e_mem_places, e_mem_place, e_rig_arms, ild, hg])]
  rw [Res.calm_ok, Res.bind_ok, lst_ok (by rw [List.length_map]; exact line60 (by omega))]
  rfl
theorem e_countedX {hs : List Int} {R : Rs} (hl : hs.length ≤ 60) : f_countedX [.lst (inD hs)] R = .ok (.dic (cntD hs)) R := by
  unfold f_countedX
  refine pureF_ok ?_
  unfold m_countedX
  have hlen := sortU_len hs
  have hd := dc_fresh (T := dName 1) (tt := gYes) (gk := gVar 1) (gv := gBML dCount (gVar 0) (Pv.gCons (gVar 1) Pv.gNil)) (ρ := [some (.lst (inD hs)), none]) (R := []) (enc := fun h => .int (hs.count h)) (sortU hs) [] (asc_nodup (sortU_asc hs)) (line60 (by show (sortU hs).length ≤ 100000; omega)) fun k hk => by
    refine ⟨_, rfl, rfl, rfl, ?_⟩
    show dCount (.lst (inD hs)) [.int k] [] = .ok (.int (hs.count k)) []
    unfold dCount inD
    simp only [intsOf_map]
  have hd : dcG (dName 1) gYes (gVar 1) (gBML dCount (gVar 0) (Pv.gCons (gVar 1) Pv.gNil)) (inD (sortU hs)) [some (.lst (inD hs)), none] [] [] = .ok (cntD hs) [] := hd
  have hs' : dSortSet [.lst (inD hs)] [] = .ok (.lst (inD (sortU hs))) [] := sortSet_ap hl
  simp only [raise_ap, raiseI_ap, calmF_ap, le_line, lt_line, var_ap, c_ap, op_ap, un_ap, b_ap, and_ap, or_ap, not_ap, if_ap, andV_ap, orV_ap, ch_ap, nil_ap, cons_ap, star_ap, tup_ap, lst_ap, arm_ap, cb_ap, noPart_ap, part_ap, sl_ap, slL_ap, call_ap, callL_ap, fld_ap, get2_ap, dnew_ap, it_ap, itA_ap, yes_ap, next_ap, seq_ap, set_ap, setO_ap, drop_ap, ret_ap, retN_ap, brk_ap, cnt_ap, never_ap, ifS_ap, aug_ap, app_ap, ext_ap, pop_ap, par_ap, asg_ap, dset_ap, stF_ap, stF2_ap, fldL_ap, see_f, see_g, okM_f, okM_g, okR_f, okR_g, okO_f, okO_g, hide_nil, hide_cons, setAll_cons, setAll_nil, wipe_nil, wipe_cons, runB_ap, runL_ap, startL_ap, startD_ap, out1_nx, out1_rt, dName_ap, dGTup_ap, dGLst_ap, dGCons_ap, dGNil_ap, dAdd_ap, dSub_ap, dMul_ap, dFdiv_ap, dMod_ap, dLt_ap, dLe_ap, dGt_ap, dGe_ap, bOf_ap, dNeg_ap, dNot_ap, eqS_int, eqS_bl, eqS_str, dInt1_ap, dInt1_bl, dMax2_ap, dMin2_ap, dAbs_ap, dSum_ap, dAny_ap, dAll_ap, dLen_l, dLen_t, dLen_a, dIx_l, dIx_t, dIx_a, dTup_ap, dArm_ap, dList_l, dList_t, dTupl_ap, dTupA_ap, lstOf_ap, tupOf_t, tupOf_a, itemsOf_t, itemsOf_l, dSl_l, dSl_t, dSlL_ap, dCatL_ap, dIsN_ap, rng2_ap, dRange_1, dRange_2, dRange3_ap, isC_y, il_int, il_bl, il_str, il_non, il_tup, il_lst, il_armD, il_ins, il_dic, il_ar, il_rig, Bool.false_eq_true, if_false, if_true, Res.bind_ok, Res.bind_bad, Res.out_ok, Res.out_bad, Res.calm_ok, List.map_cons, List.map_nil, List.length_cons, List.length_nil, Nat.reduceAdd, Nat.reduceSub, List.replicate, List.cons_append, List.nil_append, List.getElem?_cons_zero, List.getElem?_cons_succ, List.set_cons_succ, List.set_cons_zero, Bool.true_and, Bool.and_true, Bool.not_false, Bool.not_true, List.contains_nil, Option.bind_some, for_ap, lc_ap, Nat.reduceEqDiff, Nat.reduceLeDiff, Bool.false_xor, Bool.true_xor, and_self, decide_true, decide_false, List.lookup, List.all_cons, List.all_nil, List.contains_cons, Nat.reduceBEq, Bool.or_false, Bool.false_or, Bool.or_true, Bool.true_or, beq_self_eq_true, List.contains_nil, propR_ap, propR_rig, ownB_rig, ownT_rig, ownN_rig, eqI_rig, e_rig_fwd, lcG_nil, lcG_yesN, eq_self, lawStart_ap, in2, in3, in4, rg2, rg3, rg4, at0, at1, at2, il_tr, Bool.xor_true, Bool.xor_false, mkR_ap, mkR_rest, mkR_rig, callR_ap, callR_rig, callR_mem, methR_ap, methR_at, methR_curve, propR_mem, eqI_mem, lst_ok0, lst_ok1, lst_ok2, lst_ok3, il_pl, il_mem, e_mem_places, e_mem_place, e_rig_arms, runBF_ap, retX_ap, outF_rf, dc_ap, hs', hd, dDicOf_ap]
theorem e_loopsX {row : List Int} {R : Rs} (hl : row.length ≤ 60) (hp : ∀ p ∈ row, FarP p) : f_loopsX [.lst (inD row)] R = .ok (.dic (cntD (followR [0] row).2)) R := by
  unfold f_loopsX
  refine pureF_ok ?_
  unfold m_loopsX
  have ef := e_followed (rs := [0]) (row := row) (R := []) (by simp) (by simp; omega)
  rw [show plD [0] = D.tup [.int 0] from rfl] at ef
  have hc := loops_len0 row
  simp only [raise_ap, raiseI_ap, calmF_ap, le_line, lt_line, var_ap, c_ap, op_ap, un_ap, b_ap, and_ap, or_ap, not_ap, if_ap, andV_ap, orV_ap, ch_ap, nil_ap, cons_ap, star_ap, tup_ap, lst_ap, arm_ap, cb_ap, noPart_ap, part_ap, sl_ap, slL_ap, call_ap, callL_ap, fld_ap, get2_ap, dnew_ap, it_ap, itA_ap, yes_ap, next_ap, seq_ap, set_ap, setO_ap, drop_ap, ret_ap, retN_ap, brk_ap, cnt_ap, never_ap, ifS_ap, aug_ap, app_ap, ext_ap, pop_ap, par_ap, asg_ap, dset_ap, stF_ap, stF2_ap, fldL_ap, see_f, see_g, okM_f, okM_g, okR_f, okR_g, okO_f, okO_g, hide_nil, hide_cons, setAll_cons, setAll_nil, wipe_nil, wipe_cons, runB_ap, runL_ap, startL_ap, startD_ap, out1_nx, out1_rt, dName_ap, dGTup_ap, dGLst_ap, dGCons_ap, dGNil_ap, dAdd_ap, dSub_ap, dMul_ap, dFdiv_ap, dMod_ap, dLt_ap, dLe_ap, dGt_ap, dGe_ap, bOf_ap, dNeg_ap, dNot_ap, eqS_int, eqS_bl, eqS_str, dInt1_ap, dInt1_bl, dMax2_ap, dMin2_ap, dAbs_ap, dSum_ap, dAny_ap, dAll_ap, dLen_l, dLen_t, dLen_a, dIx_l, dIx_t, dIx_a, dTup_ap, dArm_ap, dList_l, dList_t, dTupl_ap, dTupA_ap, lstOf_ap, tupOf_t, tupOf_a, itemsOf_t, itemsOf_l, dSl_l, dSl_t, dSlL_ap, dCatL_ap, dIsN_ap, rng2_ap, dRange_1, dRange_2, dRange3_ap, isC_y, il_int, il_bl, il_str, il_non, il_tup, il_lst, il_armD, il_ins, il_dic, il_ar, il_rig, Bool.false_eq_true, if_false, if_true, Res.bind_ok, Res.bind_bad, Res.out_ok, Res.out_bad, Res.calm_ok, List.map_cons, List.map_nil, List.length_cons, List.length_nil, Nat.reduceAdd, Nat.reduceSub, List.replicate, List.cons_append, List.nil_append, List.getElem?_cons_zero, List.getElem?_cons_succ, List.set_cons_succ, List.set_cons_zero, Bool.true_and, Bool.and_true, Bool.not_false, Bool.not_true, List.contains_nil, Option.bind_some, for_ap, lc_ap, Nat.reduceEqDiff, Nat.reduceLeDiff, Bool.false_xor, Bool.true_xor, and_self, decide_true, decide_false, List.lookup, List.all_cons, List.all_nil, List.contains_cons, Nat.reduceBEq, Bool.or_false, Bool.false_or, Bool.or_true, Bool.true_or, beq_self_eq_true, List.contains_nil, propR_ap, propR_rig, ownB_rig, ownT_rig, ownN_rig, eqI_rig, e_rig_fwd, lcG_nil, lcG_yesN, eq_self, lawStart_ap, in2, in3, in4, rg2, rg3, rg4, at0, at1, at2, il_tr, Bool.xor_true, Bool.xor_false, mkR_ap, mkR_rest, mkR_rig, callR_ap, callR_rig, callR_mem, methR_ap, methR_at, methR_curve, propR_mem, eqI_mem, lst_ok0, lst_ok1, lst_ok2, lst_ok3, il_pl, il_mem, e_mem_places, e_mem_place, e_rig_arms, runBF_ap, retX_ap, outF_rf, e_check_row (show row.length ≤ 1000 by omega) hp, ef, e_countedX (show (followR [0] row).2.length ≤ 60 by omega)]
theorem e_swings_ofX {ps : List Int} {R : Rs} (hl : ps.length ≤ 2000) : f_swings_ofX [.tup (inD ps)] R = .ok (.lst (inD (Mt.swL ps))) R := by
  unfold f_swings_ofX
  refine pureF_ok ?_
  unfold m_swings_ofX
  simp only [raise_ap, raiseI_ap, calmF_ap, le_line, lt_line, var_ap, c_ap, op_ap, un_ap, b_ap, and_ap, or_ap, not_ap, if_ap, andV_ap, orV_ap, ch_ap, nil_ap, cons_ap, star_ap, tup_ap, lst_ap, arm_ap, cb_ap, noPart_ap, part_ap, sl_ap, slL_ap, call_ap, callL_ap, mk_ap, fld_ap, prop_ap, meth_ap, callI_ap, get2_ap, dnew_ap, it_ap, itA_ap, yes_ap, next_ap, seq_ap, set_ap, setO_ap, drop_ap, ret_ap, retN_ap, brk_ap, cnt_ap, never_ap, ifS_ap, aug_ap, app_ap, ext_ap, pop_ap, par_ap, asg_ap, dset_ap, stF_ap, stF2_ap, fldL_ap, see_f, see_g, okM_f, okM_g, okR_f, okR_g, okO_f, okO_g, hide_nil, hide_cons, setAll_cons, setAll_nil, wipe_nil, wipe_cons, runB_ap, runL_ap, startL_ap, startD_ap, out1_nx, out1_rt, dName_ap, dGTup_ap, dGLst_ap, dGCons_ap, dGNil_ap, dAdd_ap, dSub_ap, dMul_ap, dFdiv_ap, dMod_ap, dLt_ap, dLe_ap, dGt_ap, dGe_ap, bOf_ap, dNeg_ap, dNot_ap, eqS_int, eqS_bl, eqS_str, dInt1_ap, dInt1_bl, dMax2_ap, dMin2_ap, dAbs_ap, dSum_ap, dAny_ap, dAll_ap, dLen_l, dLen_t, dLen_a, dIx_l, dIx_t, dIx_a, dTup_ap, dArm_ap, dList_l, dList_t, dTupl_ap, dTupA_ap, lstOf_ap, tupOf_t, tupOf_a, itemsOf_t, itemsOf_l, dSl_l, dSl_t, dSlL_ap, dCatL_ap, dIsN_ap, rng1_ap, rng2_ap, dRange_1, dRange_2, dRange3_ap, ownB_ap, ownT_ap, ownN_ap, eqI_ap, isC_y, il_int, il_bl, il_str, il_non, il_tup, il_lst, il_armD, il_ins, il_dic, il_ar, il_rig, Bool.false_eq_true, if_false, if_true, Res.bind_ok, Res.bind_bad, Res.out_ok, Res.out_bad, Res.calm_ok, List.map_cons, List.map_nil, List.length_cons, List.length_nil, Nat.reduceAdd, Nat.reduceSub, List.replicate, List.cons_append, List.nil_append, List.getElem?_cons_zero, List.getElem?_cons_succ, List.set_cons_succ, List.set_cons_zero, Bool.true_and, Bool.and_true, Bool.not_false, Bool.not_true, List.contains_nil, Option.bind_some, for_ap, lc_ap, Nat.reduceEqDiff, Nat.reduceLeDiff, Bool.false_xor, Bool.true_xor, and_self, decide_true, decide_false, List.lookup, List.all_cons, List.all_nil, List.contains_cons, Nat.reduceBEq, Bool.or_false, Bool.false_or, Bool.or_true, Bool.true_or, beq_self_eq_true, List.contains_nil, runBF_ap, retX_ap, outF_rf, zipD, cut_drop1]
  rw [show (inD ps).drop 1 = inD (ps.drop 1) by simp [inD], sw_zip]
  rw [lcG_map (fun i : Nat => D.tup [.int (ps.getD i 0), .int (ps.getD (i + 1) 0)]) (fun i : Nat => D.int (iabs (ps.getD (i + 1) 0 - ps.getD i 0))) (fun i hi => by
    refine ⟨_, rfl, ?_⟩
    simp only [raise_ap, raiseI_ap, calmF_ap, le_line, lt_line, var_ap, c_ap, op_ap, un_ap, b_ap, and_ap, or_ap, not_ap, if_ap, andV_ap, orV_ap, ch_ap, nil_ap, cons_ap, star_ap, tup_ap, lst_ap, arm_ap, cb_ap, noPart_ap, part_ap, sl_ap, slL_ap, call_ap, callL_ap, mk_ap, fld_ap, prop_ap, meth_ap, callI_ap, get2_ap, dnew_ap, it_ap, itA_ap, yes_ap, next_ap, seq_ap, set_ap, setO_ap, drop_ap, ret_ap, retN_ap, brk_ap, cnt_ap, never_ap, ifS_ap, aug_ap, app_ap, ext_ap, pop_ap, par_ap, asg_ap, dset_ap, stF_ap, stF2_ap, fldL_ap, see_f, see_g, okM_f, okM_g, okR_f, okR_g, okO_f, okO_g, hide_nil, hide_cons, setAll_cons, setAll_nil, wipe_nil, wipe_cons, runB_ap, runL_ap, startL_ap, startD_ap, out1_nx, out1_rt, dName_ap, dGTup_ap, dGLst_ap, dGCons_ap, dGNil_ap, dAdd_ap, dSub_ap, dMul_ap, dFdiv_ap, dMod_ap, dLt_ap, dLe_ap, dGt_ap, dGe_ap, bOf_ap, dNeg_ap, dNot_ap, eqS_int, eqS_bl, eqS_str, dInt1_ap, dInt1_bl, dMax2_ap, dMin2_ap, dAbs_ap, dSum_ap, dAny_ap, dAll_ap, dLen_l, dLen_t, dLen_a, dIx_l, dIx_t, dIx_a, dTup_ap, dLst_ap, dArm_ap, dList_l, dList_t, dTupl_ap, dTupA_ap, lstOf_ap, tupOf_t, tupOf_a, itemsOf_t, itemsOf_l, dSl_l, dSl_t, dSlL_ap, dCatL_ap, dIsN_ap, rng1_ap, rng2_ap, dRange_1, dRange_2, dRange3_ap, ownB_ap, ownT_ap, ownN_ap, eqI_ap, isC_y, il_int, il_bl, il_str, il_non, il_tup, il_lst, il_armD, il_ins, il_dic, il_ar, il_rig, Bool.false_eq_true, if_false, if_true, Res.bind_ok, Res.bind_bad, Res.out_ok, Res.out_bad, Res.calm_ok, List.map_cons, List.map_nil, List.length_cons, List.length_nil, Nat.reduceAdd, Nat.reduceSub, List.replicate, List.cons_append, List.nil_append, List.getElem?_cons_zero, List.getElem?_cons_succ, List.set_cons_succ, List.set_cons_zero, Bool.true_and, Bool.and_true, Bool.not_false, Bool.not_true, List.contains_nil, Option.bind_some, for_ap, lc_ap, Nat.reduceEqDiff, Nat.reduceLeDiff, Bool.false_xor, Bool.true_xor, and_self, decide_true, decide_false, List.lookup, List.all_cons, List.all_nil, List.contains_cons, Nat.reduceBEq, Bool.or_false, Bool.false_or, Bool.or_true, Bool.true_or, beq_self_eq_true, List.contains_nil, abs_ia])]
  rw [show (List.range (ps.length - 1)).map (fun i : Nat => D.int (iabs (ps.getD (i + 1) 0 - ps.getD i 0))) = inD (Mt.swL ps) by rw [sw_list, inD, List.map_map]; rfl]
  rw [Res.calm_ok, Res.bind_ok, lst_ok (by rw [in_len, Mt.swL_len]; exact line60 (by omega))]
  rfl
theorem e_open_swingsX {rs : List Int} {R : Rs} (hl : rs.length ≤ 2000) : f_open_swingsX [memD rs] R = .ok (.lst (inD (Mt.swL rs.reverse))) R := by
  unfold f_open_swingsX
  refine pureF_ok ?_
  unfold m_open_swingsX
  simp only [raise_ap, raiseI_ap, calmF_ap, le_line, lt_line, var_ap, c_ap, op_ap, un_ap, b_ap, and_ap, or_ap, not_ap, if_ap, andV_ap, orV_ap, ch_ap, nil_ap, cons_ap, star_ap, tup_ap, lst_ap, arm_ap, cb_ap, noPart_ap, part_ap, sl_ap, slL_ap, call_ap, callL_ap, fld_ap, get2_ap, dnew_ap, it_ap, itA_ap, yes_ap, next_ap, seq_ap, set_ap, setO_ap, drop_ap, ret_ap, retN_ap, brk_ap, cnt_ap, never_ap, ifS_ap, aug_ap, app_ap, ext_ap, pop_ap, par_ap, asg_ap, dset_ap, stF_ap, stF2_ap, fldL_ap, see_f, see_g, okM_f, okM_g, okR_f, okR_g, okO_f, okO_g, hide_nil, hide_cons, setAll_cons, setAll_nil, wipe_nil, wipe_cons, runB_ap, runL_ap, startL_ap, startD_ap, out1_nx, out1_rt, dName_ap, dGTup_ap, dGLst_ap, dGCons_ap, dGNil_ap, dAdd_ap, dSub_ap, dMul_ap, dFdiv_ap, dMod_ap, dLt_ap, dLe_ap, dGt_ap, dGe_ap, bOf_ap, dNeg_ap, dNot_ap, eqS_int, eqS_bl, eqS_str, dInt1_ap, dInt1_bl, dMax2_ap, dMin2_ap, dAbs_ap, dSum_ap, dAny_ap, dAll_ap, dLen_l, dLen_t, dLen_a, dIx_l, dIx_t, dIx_a, dTup_ap, dArm_ap, dList_l, dList_t, dTupl_ap, dTupA_ap, lstOf_ap, tupOf_t, tupOf_a, itemsOf_t, itemsOf_l, dSl_l, dSl_t, dSlL_ap, dCatL_ap, dIsN_ap, rng2_ap, dRange_1, dRange_2, dRange3_ap, isC_y, il_int, il_bl, il_str, il_non, il_tup, il_lst, il_armD, il_ins, il_dic, il_ar, il_rig, Bool.false_eq_true, if_false, if_true, Res.bind_ok, Res.bind_bad, Res.out_ok, Res.out_bad, Res.calm_ok, List.map_cons, List.map_nil, List.length_cons, List.length_nil, Nat.reduceAdd, Nat.reduceSub, List.replicate, List.cons_append, List.nil_append, List.getElem?_cons_zero, List.getElem?_cons_succ, List.set_cons_succ, List.set_cons_zero, Bool.true_and, Bool.and_true, Bool.not_false, Bool.not_true, List.contains_nil, Option.bind_some, for_ap, lc_ap, Nat.reduceEqDiff, Nat.reduceLeDiff, Bool.false_xor, Bool.true_xor, and_self, decide_true, decide_false, List.lookup, List.all_cons, List.all_nil, List.contains_cons, Nat.reduceBEq, Bool.or_false, Bool.false_or, Bool.or_true, Bool.true_or, beq_self_eq_true, List.contains_nil, propR_ap, propR_rig, ownB_rig, ownT_rig, ownN_rig, eqI_rig, e_rig_fwd, lcG_nil, lcG_yesN, eq_self, lawStart_ap, in2, in3, in4, rg2, rg3, rg4, at0, at1, at2, il_tr, Bool.xor_true, Bool.xor_false, mkR_ap, mkR_rest, mkR_rig, callR_ap, callR_rig, callR_mem, methR_ap, methR_at, methR_curve, propR_mem, eqI_mem, lst_ok0, lst_ok1, lst_ok2, lst_ok3, il_pl, il_mem, e_mem_places, e_mem_place, e_rig_arms, runBF_ap, retX_ap, outF_rf]
  rw [plD_in, e_swings_ofX (by rw [List.length_reverse]; exact hl)]
  rfl
end Lw

namespace Lw
open PySem PySem.Spec PyProof.Rows L2 Sr Pv Rg
variable {A0 : Addr}
open Mt (movedR followR MemOk MemV endA memR iabs swL)
theorem qE_cnt {k : Nat} {hs : List Int} (h : hs.length ≤ 60) : qE (k + 3) (.lst (cntL hs)) (.lst (cntL hs)) = true := by
  have := sortU_len hs
  refine qE_lst rfl (by unfold cntL; rw [List.length_map]; omega) fun i hi => ?_
  unfold cntL at hi ⊢
  rw [List.length_map] at hi
  rw [show ((sortU hs).map fun h => D.tup [.int h, .int (hs.count h)]).getD i .non = .tup [.int (sortU hs)[i], .int (hs.count (sortU hs)[i])] by simp [List.getD, hi]]
  refine qE_tup rfl (by show 2 ≤ 100000; decide) fun i hi => ?_
  match i, hi with
  | 0, _ => exact qE_int
  | 1, _ => exact qE_int
theorem cnt5 : (followR [0] [9, 4, 6, 4, 0]).2 = [2, 9] := by decide
theorem eqDc5 : eqDcB (cntD [2, 9]) (putD (putD [] (.inl 2) (.int 1)) (.inl 9) (.int 1)) = true := by decide
theorem pick2 {c : Int} (h0 : 0 ≤ c) (h1 : c < 2) : ∃ n : Int, (∀ R, dIx (.lst [.int 9, .int 16]) (.int c) R = .ok (.int n) R) ∧ 0 ≤ n ∧ n ≤ 16 := by
  rcases (show c = 0 ∨ c = 1 by omega) with rfl | rfl
  · exact ⟨9, fun R => rfl, by decide, by decide⟩
  · exact ⟨16, fun R => rfl, by decide, by decide⟩
theorem pick3 {c : Int} (h0 : 0 ≤ c) (h1 : c < 3) : ∃ n : Int, (∀ R, dIx (.lst [.int 3, .int 7, .int 12]) (.int c) R = .ok (.int n) R) ∧ 0 ≤ n ∧ n ≤ 12 := by
  rcases (show c = 0 ∨ c = 1 ∨ c = 2 by omega) with rfl | rfl | rfl
  · exact ⟨3, fun R => rfl, by decide, by decide⟩
  · exact ⟨7, fun R => rfl, by decide, by decide⟩
  · exact ⟨12, fun R => rfl, by decide, by decide⟩
theorem lst_ok5x {a b c d e : D} {R : Rs} : dLst [a, b, c, d, e] R = .ok (.lst [a, b, c, d, e]) R := lst_ok (line60 (by show 5 ≤ 100000; decide))
theorem hlaw (st : List Int) (hs : stOk st = true) : ∃ R', m_law (lawStart 9) [srcD st, .tab A0] = .rt (.bl true) R' := by
  unfold m_law ml166
  simp only [raise_ap, raiseI_ap, calmF_ap, le_line, lt_line, var_ap, c_ap, op_ap, un_ap, b_ap, and_ap, or_ap, not_ap, if_ap, andV_ap, orV_ap, ch_ap, nil_ap, cons_ap, star_ap, tup_ap, lst_ap, arm_ap, cb_ap, noPart_ap, part_ap, sl_ap, slL_ap, call_ap, callL_ap, fld_ap, get2_ap, dnew_ap, it_ap, itA_ap, yes_ap, next_ap, seq_ap, set_ap, setO_ap, drop_ap, ret_ap, retN_ap, brk_ap, cnt_ap, never_ap, ifS_ap, aug_ap, app_ap, ext_ap, pop_ap, par_ap, asg_ap, dset_ap, stF_ap, stF2_ap, fldL_ap, see_f, see_g, okM_f, okM_g, okR_f, okR_g, okO_f, okO_g, hide_nil, hide_cons, setAll_cons, setAll_nil, wipe_nil, wipe_cons, runB_ap, runL_ap, startL_ap, startD_ap, out1_nx, out1_rt, dName_ap, dGTup_ap, dGLst_ap, dGCons_ap, dGNil_ap, dAdd_ap, dSub_ap, dMul_ap, dFdiv_ap, dMod_ap, dLt_ap, dLe_ap, dGt_ap, dGe_ap, bOf_ap, dNeg_ap, dNot_ap, eqS_int, eqS_bl, eqS_str, dInt1_ap, dInt1_bl, dMax2_ap, dMin2_ap, dAbs_ap, dSum_ap, dAny_ap, dAll_ap, dLen_l, dLen_t, dLen_a, dIx_l, dIx_t, dIx_a, dTup_ap, dArm_ap, dList_l, dList_t, dTupl_ap, dTupA_ap, lstOf_ap, tupOf_t, tupOf_a, itemsOf_t, itemsOf_l, dSl_l, dSl_t, dSlL_ap, dCatL_ap, dIsN_ap, rng2_ap, dRange_1, dRange_2, dRange3_ap, isC_y, il_int, il_bl, il_str, il_non, il_tup, il_lst, il_armD, il_ins, il_dic, il_ar, il_rig, Bool.false_eq_true, if_false, if_true, Res.bind_ok, Res.bind_bad, Res.out_ok, Res.out_bad, Res.calm_ok, List.map_cons, List.map_nil, List.length_cons, List.length_nil, Nat.reduceAdd, Nat.reduceSub, List.replicate, List.cons_append, List.nil_append, List.getElem?_cons_zero, List.getElem?_cons_succ, List.set_cons_succ, List.set_cons_zero, Bool.true_and, Bool.and_true, Bool.not_false, Bool.not_true, List.contains_nil, Option.bind_some, for_ap, lc_ap, Nat.reduceEqDiff, Nat.reduceLeDiff, Bool.false_xor, Bool.true_xor, and_self, decide_true, decide_false, List.lookup, List.all_cons, List.all_nil, List.contains_cons, Nat.reduceBEq, Bool.or_false, Bool.false_or, Bool.or_true, Bool.true_or, beq_self_eq_true, List.contains_nil, propR_ap, propR_rig, ownB_rig, ownT_rig, ownN_rig, eqI_rig, e_rig_fwd, lcG_nil, lcG_yesN, eq_self, lawStart_ap, in2, in3, in4, rg2, rg3, rg4, at0, at1, at2, il_tr, Bool.xor_true, Bool.xor_false, mkR_ap, mkR_rest, mkR_rig, callR_ap, callR_rig, callR_mem, methR_ap, methR_at, methR_curve, propR_mem, eqI_mem, lst_ok0, lst_ok1, lst_ok2, lst_ok3, il_pl, il_mem, e_mem_places, e_mem_place, e_rig_arms, rng1_ok (show (0 : Int) ≤ 3 by decide) (by decide)]
  generalize hL : loopG _ _ _ _ _ = o
  have hI := loop_inv hL (fun ρ R => ∃ st, R = [srcD st, .tab A0] ∧ stOk st = true ∧ ∃ u2 u3 u4 u5 u6 u7 u8, ρ = [none, some (.loc 0), u2, u3, u4, u5, u6, u7, u8]) ⟨_, rfl, hs, _, _, _, _, _, _, _, rfl⟩
  suffices hh : _ by
    obtain ⟨ρ2, R2, rfl, _⟩ := hI hh
    have h5 := fun R : Rs => e_loops (R := R) (row := [9, 4, 6, 4, 0]) (by decide) (by intro p hp; simp at hp; unfold FarP; omega)
    have h0 := fun R : Rs => e_loops (R := R) (row := []) (by decide) (by intro p hp; simp at hp)
    rw [cnt5] at h5
    have q5 : ∀ R, dEqDc (.dic (cntD [2, 9])) (.dic (putD (putD [] (.inl 2) (.int 1)) (.inl 9) (.int 1))) R = .ok (.bl true) R := fun R => by unfold dEqDc; exact if_pos eqDc5
    have q0 : ∀ R, dEqDc (.dic (cntD (followR [0] []).2)) (.dic []) R = .ok (.bl true) R := fun R => rfl
    rw [show inD [9, 4, 6, 4, 0] = [.int 9, .int 4, .int 6, .int 4, .int 0] from rfl] at h5
    rw [show inD ([] : List Int) = [] from rfl] at h0
    simp only [raise_ap, raiseI_ap, calmF_ap, le_line, lt_line, var_ap, c_ap, op_ap, un_ap, b_ap, and_ap, or_ap, not_ap, if_ap, andV_ap, orV_ap, ch_ap, nil_ap, cons_ap, star_ap, tup_ap, lst_ap, arm_ap, cb_ap, noPart_ap, part_ap, sl_ap, slL_ap, call_ap, callL_ap, fld_ap, get2_ap, dnew_ap, it_ap, itA_ap, yes_ap, next_ap, seq_ap, set_ap, setO_ap, drop_ap, ret_ap, retN_ap, brk_ap, cnt_ap, never_ap, ifS_ap, aug_ap, app_ap, ext_ap, pop_ap, par_ap, asg_ap, dset_ap, stF_ap, stF2_ap, fldL_ap, see_f, see_g, okM_f, okM_g, okR_f, okR_g, okO_f, okO_g, hide_nil, hide_cons, setAll_cons, setAll_nil, wipe_nil, wipe_cons, runB_ap, runL_ap, startL_ap, startD_ap, out1_nx, out1_rt, dName_ap, dGTup_ap, dGLst_ap, dGCons_ap, dGNil_ap, dAdd_ap, dSub_ap, dMul_ap, dFdiv_ap, dMod_ap, dLt_ap, dLe_ap, dGt_ap, dGe_ap, bOf_ap, dNeg_ap, dNot_ap, eqS_int, eqS_bl, eqS_str, dInt1_ap, dInt1_bl, dMax2_ap, dMin2_ap, dAbs_ap, dSum_ap, dAny_ap, dAll_ap, dLen_l, dLen_t, dLen_a, dIx_l, dIx_t, dIx_a, dTup_ap, dArm_ap, dList_l, dList_t, dTupl_ap, dTupA_ap, lstOf_ap, tupOf_t, tupOf_a, itemsOf_t, itemsOf_l, dSl_l, dSl_t, dSlL_ap, dCatL_ap, dIsN_ap, rng2_ap, dRange_1, dRange_2, dRange3_ap, isC_y, il_int, il_bl, il_str, il_non, il_tup, il_lst, il_armD, il_ins, il_dic, il_ar, il_rig, Bool.false_eq_true, if_false, if_true, Res.bind_ok, Res.bind_bad, Res.out_ok, Res.out_bad, Res.calm_ok, List.map_cons, List.map_nil, List.length_cons, List.length_nil, Nat.reduceAdd, Nat.reduceSub, List.replicate, List.cons_append, List.nil_append, List.getElem?_cons_zero, List.getElem?_cons_succ, List.set_cons_succ, List.set_cons_zero, Bool.true_and, Bool.and_true, Bool.not_false, Bool.not_true, List.contains_nil, Option.bind_some, for_ap, lc_ap, Nat.reduceEqDiff, Nat.reduceLeDiff, Bool.false_xor, Bool.true_xor, and_self, decide_true, decide_false, List.lookup, List.all_cons, List.all_nil, List.contains_cons, Nat.reduceBEq, Bool.or_false, Bool.false_or, Bool.or_true, Bool.true_or, beq_self_eq_true, List.contains_nil, propR_ap, propR_rig, ownB_rig, ownT_rig, ownN_rig, eqI_rig, e_rig_fwd, lcG_nil, lcG_yesN, eq_self, lawStart_ap, in2, in3, in4, rg2, rg3, rg4, at0, at1, at2, il_tr, Bool.xor_true, Bool.xor_false, mkR_ap, mkR_rest, mkR_rig, callR_ap, callR_rig, callR_mem, methR_ap, methR_at, methR_curve, propR_mem, eqI_mem, lst_ok0, lst_ok1, lst_ok2, lst_ok3, il_pl, il_mem, e_mem_places, e_mem_place, e_rig_arms, lst_ok0, lst_ok5x, h5, h0, disp2_ap, q5, q0]
    exact ⟨_, rfl⟩
  clear hI hL
  rintro d' hd ρ R ⟨st, rfl, hs, u2, u3, u4, u5, u6, u7, u8, rfl⟩
  refine ⟨_, rfl, ?_⟩
  obtain ⟨c, st1, e1, c0, c1, hs⟩ := e_bel (n := 2) hs (by decide) (by decide)
  obtain ⟨c', st2, e2, c0', c1', hs⟩ := e_bel (n := 3) hs (by decide) (by decide)
  obtain ⟨n, en, n0, n1⟩ := pick2 c0 c1
  obtain ⟨f, ef, f0, f1⟩ := pick3 c0' c1'
  obtain ⟨row, st3, e3, r1, r2, hs⟩ := e_L_row hs (most := n) (far := f) n0 (by omega) f0 (by omega)
  have hl : row.length ≤ 16 := by omega
  have hp : ∀ p ∈ row, FarP p := fun p hp => by have := r2 p hp; exact ⟨by omega, by omega⟩
  have hc := loops_len0 row
  have hlp : ∀ R, f_L_loops [.lst (inD row)] R = .ok (.lst (inD (followR [0] row).2)) R := fun R => e_L_loops (by omega) fun p hp => by have := r2 p hp; exact ⟨by omega, by omega⟩
  generalize hH : (followR [0] row).2 = H at hc hlp
  have hX : ∀ R, f_loopsX [.lst (inD row)] R = .ok (.dic (cntD H)) R := fun R => by rw [e_loopsX (by omega) hp, hH]
  have hm : ∀ R, f_memory_of [.lst (inD row)] R = .ok (memD (memR row)) R := fun R => e_memory_of (by omega) hp
  have ilr : (D.lst (inD row)).isLoc = false := rfl
  have ild : (D.dic (cntD H)).isLoc = false := rfl
  have hfl : (flOk [4] [4, 5] [true, false] && decide ([4, 5] : List Nat).Nodup) = true := rfl
  unfold ml167
  simp only [raise_ap, raiseI_ap, calmF_ap, le_line, lt_line, var_ap, c_ap, op_ap, un_ap, b_ap, and_ap, or_ap, not_ap, if_ap, andV_ap, orV_ap, ch_ap, nil_ap, cons_ap, star_ap, tup_ap, lst_ap, arm_ap, cb_ap, noPart_ap, part_ap, sl_ap, slL_ap, call_ap, callL_ap, fld_ap, get2_ap, dnew_ap, it_ap, itA_ap, yes_ap, next_ap, seq_ap, set_ap, setO_ap, drop_ap, ret_ap, retN_ap, brk_ap, cnt_ap, never_ap, ifS_ap, aug_ap, app_ap, ext_ap, pop_ap, par_ap, asg_ap, dset_ap, stF_ap, stF2_ap, fldL_ap, see_f, see_g, okM_f, okM_g, okR_f, okR_g, okO_f, okO_g, hide_nil, hide_cons, setAll_cons, setAll_nil, wipe_nil, wipe_cons, runB_ap, runL_ap, startL_ap, startD_ap, out1_nx, out1_rt, dName_ap, dGTup_ap, dGLst_ap, dGCons_ap, dGNil_ap, dAdd_ap, dSub_ap, dMul_ap, dFdiv_ap, dMod_ap, dLt_ap, dLe_ap, dGt_ap, dGe_ap, bOf_ap, dNeg_ap, dNot_ap, eqS_int, eqS_bl, eqS_str, dInt1_ap, dInt1_bl, dMax2_ap, dMin2_ap, dAbs_ap, dSum_ap, dAny_ap, dAll_ap, dLen_l, dLen_t, dLen_a, dIx_t, dIx_a, dTup_ap, dArm_ap, dList_l, dList_t, dTupl_ap, dTupA_ap, lstOf_ap, tupOf_t, tupOf_a, itemsOf_t, itemsOf_l, dSl_l, dSl_t, dSlL_ap, dCatL_ap, dIsN_ap, rng2_ap, dRange_1, dRange_2, dRange3_ap, isC_y, il_int, il_bl, il_str, il_non, il_tup, il_lst, il_armD, il_ins, il_dic, il_ar, il_rig, Bool.false_eq_true, if_false, if_true, Res.bind_ok, Res.bind_bad, Res.out_ok, Res.out_bad, Res.calm_ok, List.map_cons, List.map_nil, List.length_cons, List.length_nil, Nat.reduceAdd, Nat.reduceSub, List.replicate, List.cons_append, List.nil_append, List.getElem?_cons_zero, List.getElem?_cons_succ, List.set_cons_succ, List.set_cons_zero, Bool.true_and, Bool.and_true, Bool.not_false, Bool.not_true, List.contains_nil, Option.bind_some, for_ap, lc_ap, Nat.reduceEqDiff, Nat.reduceLeDiff, Bool.false_xor, Bool.true_xor, and_self, decide_true, decide_false, List.lookup, List.all_cons, List.all_nil, List.contains_cons, Nat.reduceBEq, Bool.or_false, Bool.false_or, Bool.or_true, Bool.true_or, beq_self_eq_true, List.contains_nil, propR_ap, propR_rig, ownB_rig, ownT_rig, ownN_rig, eqI_rig, e_rig_fwd, lcG_nil, lcG_yesN, eq_self, lawStart_ap, in2, in3, in4, rg2, rg3, rg4, at0, at1, at2, il_tr, Bool.xor_true, Bool.xor_false, mkR_ap, mkR_rest, mkR_rig, callR_ap, callR_rig, callR_mem, methR_ap, methR_at, methR_curve, propR_mem, eqI_mem, lst_ok0, lst_ok1, lst_ok2, lst_ok3, il_pl, il_mem, e_mem_places, e_mem_place, e_rig_arms, lst_ok2, lst_ok3, e1, e2, en, ef, e3]
  unfold ml168
  simp only [raise_ap, raiseI_ap, calmF_ap, le_line, lt_line, var_ap, c_ap, op_ap, un_ap, b_ap, and_ap, or_ap, not_ap, if_ap, andV_ap, orV_ap, ch_ap, nil_ap, cons_ap, star_ap, tup_ap, lst_ap, arm_ap, cb_ap, noPart_ap, part_ap, sl_ap, slL_ap, call_ap, callL_ap, fld_ap, get2_ap, dnew_ap, it_ap, itA_ap, yes_ap, next_ap, seq_ap, set_ap, setO_ap, drop_ap, ret_ap, retN_ap, brk_ap, cnt_ap, never_ap, ifS_ap, aug_ap, app_ap, ext_ap, pop_ap, par_ap, asg_ap, dset_ap, stF_ap, stF2_ap, fldL_ap, see_f, see_g, okM_f, okM_g, okR_f, okR_g, okO_f, okO_g, hide_nil, hide_cons, setAll_cons, setAll_nil, wipe_nil, wipe_cons, runB_ap, runL_ap, startL_ap, startD_ap, out1_nx, out1_rt, dName_ap, dGTup_ap, dGLst_ap, dGCons_ap, dGNil_ap, dAdd_ap, dSub_ap, dMul_ap, dFdiv_ap, dMod_ap, dLt_ap, dLe_ap, dGt_ap, dGe_ap, bOf_ap, dNeg_ap, dNot_ap, eqS_int, eqS_bl, eqS_str, dInt1_ap, dInt1_bl, dMax2_ap, dMin2_ap, dAbs_ap, dSum_ap, dAny_ap, dAll_ap, dLen_l, dLen_t, dLen_a, dIx_t, dIx_a, dTup_ap, dArm_ap, dList_l, dList_t, dTupl_ap, dTupA_ap, lstOf_ap, tupOf_t, tupOf_a, itemsOf_t, itemsOf_l, dSl_l, dSl_t, dSlL_ap, dCatL_ap, dIsN_ap, rng2_ap, dRange_1, dRange_2, dRange3_ap, isC_y, il_int, il_bl, il_str, il_non, il_tup, il_lst, il_armD, il_ins, il_dic, il_ar, il_rig, Bool.false_eq_true, if_false, if_true, Res.bind_ok, Res.bind_bad, Res.out_ok, Res.out_bad, Res.calm_ok, List.map_cons, List.map_nil, List.length_cons, List.length_nil, Nat.reduceAdd, Nat.reduceSub, List.replicate, List.cons_append, List.nil_append, List.getElem?_cons_zero, List.getElem?_cons_succ, List.set_cons_succ, List.set_cons_zero, Bool.true_and, Bool.and_true, Bool.not_false, Bool.not_true, List.contains_nil, Option.bind_some, for_ap, lc_ap, Nat.reduceEqDiff, Nat.reduceLeDiff, Bool.false_xor, Bool.true_xor, and_self, decide_true, decide_false, List.lookup, List.all_cons, List.all_nil, List.contains_cons, Nat.reduceBEq, Bool.or_false, Bool.false_or, Bool.or_true, Bool.true_or, beq_self_eq_true, List.contains_nil, propR_ap, propR_rig, ownB_rig, ownT_rig, ownN_rig, eqI_rig, e_rig_fwd, lcG_nil, lcG_yesN, eq_self, lawStart_ap, in2, in3, in4, rg2, rg3, rg4, at0, at1, at2, il_tr, Bool.xor_true, Bool.xor_false, mkR_ap, mkR_rest, mkR_rig, callR_ap, callR_rig, callR_mem, methR_ap, methR_at, methR_curve, propR_mem, eqI_mem, lst_ok0, lst_ok1, lst_ok2, lst_ok3, il_pl, il_mem, e_mem_places, e_mem_place, e_rig_arms, hX, hm, hfl]
  unfold ml169
  have him : ∀ st : List Int, List.all [srcD st, .tab A0] immO = true := fun st => by simp [srcD, immO]
  have hP := fun R : Rs => e_L_pairs (R := R) (show H.length ≤ 60 by omega)
  have hT := fun R : Rs => e_L_told (R := R) (show H.length ≤ 60 by omega)
  simp only [raise_ap, raiseI_ap, calmF_ap, le_line, lt_line, var_ap, c_ap, op_ap, un_ap, b_ap, and_ap, or_ap, not_ap, if_ap, andV_ap, orV_ap, ch_ap, nil_ap, cons_ap, star_ap, tup_ap, lst_ap, arm_ap, cb_ap, noPart_ap, part_ap, sl_ap, slL_ap, call_ap, callL_ap, fld_ap, get2_ap, dnew_ap, it_ap, itA_ap, yes_ap, next_ap, seq_ap, set_ap, setO_ap, drop_ap, ret_ap, retN_ap, brk_ap, cnt_ap, never_ap, ifS_ap, aug_ap, app_ap, ext_ap, pop_ap, par_ap, asg_ap, dset_ap, stF_ap, stF2_ap, fldL_ap, see_f, see_g, okM_f, okM_g, okR_f, okR_g, okO_f, okO_g, hide_nil, hide_cons, setAll_cons, setAll_nil, wipe_nil, wipe_cons, runB_ap, runL_ap, startL_ap, startD_ap, out1_nx, out1_rt, dName_ap, dGTup_ap, dGLst_ap, dGCons_ap, dGNil_ap, dAdd_ap, dSub_ap, dMul_ap, dFdiv_ap, dMod_ap, dLt_ap, dLe_ap, dGt_ap, dGe_ap, bOf_ap, dNeg_ap, dNot_ap, eqS_int, eqS_bl, eqS_str, dInt1_ap, dInt1_bl, dMax2_ap, dMin2_ap, dAbs_ap, dSum_ap, dAny_ap, dAll_ap, dLen_l, dLen_t, dLen_a, dIx_t, dIx_a, dTup_ap, dArm_ap, dList_l, dList_t, dTupl_ap, dTupA_ap, lstOf_ap, tupOf_t, tupOf_a, itemsOf_t, itemsOf_l, dSl_l, dSl_t, dSlL_ap, dCatL_ap, dIsN_ap, rng2_ap, dRange_1, dRange_2, dRange3_ap, isC_y, il_int, il_bl, il_str, il_non, il_tup, il_lst, il_armD, il_ins, il_dic, il_ar, il_rig, Bool.false_eq_true, if_false, if_true, Res.bind_ok, Res.bind_bad, Res.out_ok, Res.out_bad, Res.calm_ok, List.map_cons, List.map_nil, List.length_cons, List.length_nil, Nat.reduceAdd, Nat.reduceSub, List.replicate, List.cons_append, List.nil_append, List.getElem?_cons_zero, List.getElem?_cons_succ, List.set_cons_succ, List.set_cons_zero, Bool.true_and, Bool.and_true, Bool.not_false, Bool.not_true, List.contains_nil, Option.bind_some, for_ap, lc_ap, Nat.reduceEqDiff, Nat.reduceLeDiff, Bool.false_xor, Bool.true_xor, and_self, decide_true, decide_false, List.lookup, List.all_cons, List.all_nil, List.contains_cons, Nat.reduceBEq, Bool.or_false, Bool.false_or, Bool.or_true, Bool.true_or, beq_self_eq_true, List.contains_nil, propR_ap, propR_rig, ownB_rig, ownT_rig, ownN_rig, eqI_rig, e_rig_fwd, lcG_nil, lcG_yesN, eq_self, lawStart_ap, in2, in3, in4, rg2, rg3, rg4, at0, at1, at2, il_tr, Bool.xor_true, Bool.xor_false, mkR_ap, mkR_rest, mkR_rig, callR_ap, callR_rig, callR_mem, methR_ap, methR_at, methR_curve, propR_mem, eqI_mem, lst_ok0, lst_ok1, lst_ok2, lst_ok3, il_pl, il_mem, e_mem_places, e_mem_place, e_rig_arms, hlp, ild, hP, hT, e_L_equal (qE_cnt (k := 5) (show H.length ≤ 60 by omega)), him]
  have hM := fun R : Rs => e_L_memory (R := R) (show row.length ≤ 900 by omega) hp
  have hml := Mt.memR_len row
  have ilp : (plD (memR row)).isLoc = false := rfl
  have hne : 0 < (memR row).length := List.length_pos_iff.mpr (Mt.follow_ne row [0] (by simp))
  obtain ⟨q, hq⟩ : ∃ q, (memR row).reverse.length = q + 1 := ⟨(memR row).length - 1, by simp; omega⟩
  unfold ml171
  simp only [raise_ap, raiseI_ap, calmF_ap, le_line, lt_line, var_ap, c_ap, op_ap, un_ap, b_ap, and_ap, or_ap, not_ap, if_ap, andV_ap, orV_ap, ch_ap, nil_ap, cons_ap, star_ap, tup_ap, lst_ap, arm_ap, cb_ap, noPart_ap, part_ap, sl_ap, slL_ap, call_ap, callL_ap, fld_ap, get2_ap, dnew_ap, it_ap, itA_ap, yes_ap, next_ap, seq_ap, set_ap, setO_ap, drop_ap, ret_ap, retN_ap, brk_ap, cnt_ap, never_ap, ifS_ap, aug_ap, app_ap, ext_ap, pop_ap, par_ap, asg_ap, dset_ap, stF_ap, stF2_ap, fldL_ap, see_f, see_g, okM_f, okM_g, okR_f, okR_g, okO_f, okO_g, hide_nil, hide_cons, setAll_cons, setAll_nil, wipe_nil, wipe_cons, runB_ap, runL_ap, startL_ap, startD_ap, out1_nx, out1_rt, dName_ap, dGTup_ap, dGLst_ap, dGCons_ap, dGNil_ap, dAdd_ap, dSub_ap, dMul_ap, dFdiv_ap, dMod_ap, dLt_ap, dLe_ap, dGt_ap, dGe_ap, bOf_ap, dNeg_ap, dNot_ap, eqS_int, eqS_bl, eqS_str, dInt1_ap, dInt1_bl, dMax2_ap, dMin2_ap, dAbs_ap, dSum_ap, dAny_ap, dAll_ap, dLen_l, dLen_t, dLen_a, dIx_a, dTup_ap, dArm_ap, dList_l, dList_t, dTupl_ap, dTupA_ap, lstOf_ap, tupOf_t, tupOf_a, itemsOf_t, itemsOf_l, dSl_l, dSl_t, dSlL_ap, dCatL_ap, dIsN_ap, rng2_ap, dRange_1, dRange_2, dRange3_ap, isC_y, il_int, il_bl, il_str, il_non, il_tup, il_lst, il_armD, il_ins, il_dic, il_ar, il_rig, Bool.false_eq_true, if_false, if_true, Res.bind_ok, Res.bind_bad, Res.out_ok, Res.out_bad, Res.calm_ok, List.map_cons, List.map_nil, List.length_cons, List.length_nil, Nat.reduceAdd, Nat.reduceSub, List.replicate, List.cons_append, List.nil_append, List.getElem?_cons_zero, List.getElem?_cons_succ, List.set_cons_succ, List.set_cons_zero, Bool.true_and, Bool.and_true, Bool.not_false, Bool.not_true, List.contains_nil, Option.bind_some, for_ap, lc_ap, Nat.reduceEqDiff, Nat.reduceLeDiff, Bool.false_xor, Bool.true_xor, and_self, decide_true, decide_false, List.lookup, List.all_cons, List.all_nil, List.contains_cons, Nat.reduceBEq, Bool.or_false, Bool.false_or, Bool.or_true, Bool.true_or, beq_self_eq_true, List.contains_nil, propR_ap, propR_rig, ownB_rig, ownT_rig, ownN_rig, eqI_rig, e_rig_fwd, lcG_nil, lcG_yesN, eq_self, lawStart_ap, in2, in3, in4, rg2, rg3, rg4, at0, at1, at2, il_tr, Bool.xor_true, Bool.xor_false, mkR_ap, mkR_rest, mkR_rig, callR_ap, callR_rig, callR_mem, methR_ap, methR_at, methR_curve, propR_mem, eqI_mem, lst_ok0, lst_ok1, lst_ok2, lst_ok3, il_pl, il_mem, e_mem_places, e_mem_place, e_rig_arms, hM, ilp]
  rw [plD_in]
  unfold ml172
  simp only [raise_ap, raiseI_ap, calmF_ap, le_line, lt_line, var_ap, c_ap, op_ap, un_ap, b_ap, and_ap, or_ap, not_ap, if_ap, andV_ap, orV_ap, ch_ap, nil_ap, cons_ap, star_ap, tup_ap, lst_ap, arm_ap, cb_ap, noPart_ap, part_ap, sl_ap, slL_ap, call_ap, callL_ap, fld_ap, get2_ap, dnew_ap, it_ap, itA_ap, yes_ap, next_ap, seq_ap, set_ap, setO_ap, drop_ap, ret_ap, retN_ap, brk_ap, cnt_ap, never_ap, ifS_ap, aug_ap, app_ap, ext_ap, pop_ap, par_ap, asg_ap, dset_ap, stF_ap, stF2_ap, fldL_ap, see_f, see_g, okM_f, okM_g, okR_f, okR_g, okO_f, okO_g, hide_nil, hide_cons, setAll_cons, setAll_nil, wipe_nil, wipe_cons, runB_ap, runL_ap, startL_ap, startD_ap, out1_nx, out1_rt, dName_ap, dGTup_ap, dGLst_ap, dGCons_ap, dGNil_ap, dAdd_ap, dSub_ap, dMul_ap, dFdiv_ap, dMod_ap, dLt_ap, dLe_ap, dGt_ap, dGe_ap, bOf_ap, dNeg_ap, dNot_ap, eqS_int, eqS_bl, eqS_str, dInt1_ap, dInt1_bl, dMax2_ap, dMin2_ap, dAbs_ap, dSum_ap, dAny_ap, dAll_ap, dLen_l, dLen_t, dLen_a, dIx_a, dTup_ap, dArm_ap, dList_l, dList_t, dTupl_ap, dTupA_ap, lstOf_ap, tupOf_t, tupOf_a, itemsOf_t, itemsOf_l, dSl_l, dSl_t, dSlL_ap, dCatL_ap, dIsN_ap, rng2_ap, dRange_1, dRange_2, dRange3_ap, isC_y, il_int, il_bl, il_str, il_non, il_tup, il_lst, il_armD, il_ins, il_dic, il_ar, il_rig, Bool.false_eq_true, if_false, if_true, Res.bind_ok, Res.bind_bad, Res.out_ok, Res.out_bad, Res.calm_ok, List.map_cons, List.map_nil, List.length_cons, List.length_nil, Nat.reduceAdd, Nat.reduceSub, List.replicate, List.cons_append, List.nil_append, List.getElem?_cons_zero, List.getElem?_cons_succ, List.set_cons_succ, List.set_cons_zero, Bool.true_and, Bool.and_true, Bool.not_false, Bool.not_true, List.contains_nil, Option.bind_some, for_ap, lc_ap, Nat.reduceEqDiff, Nat.reduceLeDiff, Bool.false_xor, Bool.true_xor, and_self, decide_true, decide_false, List.lookup, List.all_cons, List.all_nil, List.contains_cons, Nat.reduceBEq, Bool.or_false, Bool.false_or, Bool.or_true, Bool.true_or, beq_self_eq_true, List.contains_nil, propR_ap, propR_rig, ownB_rig, ownT_rig, ownN_rig, eqI_rig, e_rig_fwd, lcG_nil, lcG_yesN, eq_self, lawStart_ap, in2, in3, in4, rg2, rg3, rg4, at0, at1, at2, il_tr, Bool.xor_true, Bool.xor_false, mkR_ap, mkR_rest, mkR_rig, callR_ap, callR_rig, callR_mem, methR_ap, methR_at, methR_curve, propR_mem, eqI_mem, lst_ok0, lst_ok1, lst_ok2, lst_ok3, il_pl, il_mem, e_mem_places, e_mem_place, e_rig_arms, in_len, hq]
  rw [show ((q + 1 : Nat) : Int) - 1 = (q : Int) by omega, rng1_nat (show q ≤ 100000 by simp at hq; omega), Res.bind_ok]
  generalize hps : (memR row).reverse = ps at hq ⊢
  have hLC : ∀ (x1 x2 x3 x5 x7 : Option D) (R : Rs), lcG (dName 8) gYes (gCB dAbs (Pv.gCons (gOp dSub (gOp dIx (gVar 6) (gOp dAdd (gVar 8) (gC (.int 1)))) (gOp dIx (gVar 6) (gVar 8))) Pv.gNil)) (rngD 0 q) [none, x1, x2, x3, none, x5, some (.tup (inD ps)), x7, none] R = .ok (inD (swL ps)) R := by
    intro x1 x2 x3 x5 x7 R
    rw [rng_up, lcG_map (T := dName 8) (fun k : Nat => D.int (0 + (k : Int))) (fun i : Nat => D.int (iabs (ps.getD (i + 1) 0 - ps.getD i 0))) (fun k hk => by
      have hk := List.mem_range.mp hk
      refine ⟨_, rfl, ?_⟩
      have e1 : (0 : Int) + (k : Int) = k := by omega
      have e2 : (k : Int) + 1 = ((k + 1 : Nat) : Int) := by omega
      simp only [raise_ap, raiseI_ap, calmF_ap, le_line, lt_line, var_ap, c_ap, op_ap, un_ap, b_ap, and_ap, or_ap, not_ap, if_ap, andV_ap, orV_ap, ch_ap, nil_ap, cons_ap, star_ap, tup_ap, lst_ap, arm_ap, cb_ap, noPart_ap, part_ap, sl_ap, slL_ap, call_ap, callL_ap, fld_ap, get2_ap, dnew_ap, it_ap, itA_ap, yes_ap, next_ap, seq_ap, set_ap, setO_ap, drop_ap, ret_ap, retN_ap, brk_ap, cnt_ap, never_ap, ifS_ap, aug_ap, app_ap, ext_ap, pop_ap, par_ap, asg_ap, dset_ap, stF_ap, stF2_ap, fldL_ap, see_f, see_g, okM_f, okM_g, okR_f, okR_g, okO_f, okO_g, hide_nil, hide_cons, setAll_cons, setAll_nil, wipe_nil, wipe_cons, runB_ap, runL_ap, startL_ap, startD_ap, out1_nx, out1_rt, dName_ap, dGTup_ap, dGLst_ap, dGCons_ap, dGNil_ap, dAdd_ap, dSub_ap, dMul_ap, dFdiv_ap, dMod_ap, dLt_ap, dLe_ap, dGt_ap, dGe_ap, bOf_ap, dNeg_ap, dNot_ap, eqS_int, eqS_bl, eqS_str, dInt1_ap, dInt1_bl, dMax2_ap, dMin2_ap, dAbs_ap, dSum_ap, dAny_ap, dAll_ap, dLen_l, dLen_t, dLen_a, dIx_l, dIx_t, dIx_a, dTup_ap, dArm_ap, dList_l, dList_t, dTupl_ap, dTupA_ap, lstOf_ap, tupOf_t, tupOf_a, itemsOf_t, itemsOf_l, dSl_l, dSl_t, dSlL_ap, dCatL_ap, dIsN_ap, rng2_ap, dRange_1, dRange_2, dRange3_ap, isC_y, il_int, il_bl, il_str, il_non, il_tup, il_lst, il_armD, il_ins, il_dic, il_ar, il_rig, Bool.false_eq_true, if_false, if_true, Res.bind_ok, Res.bind_bad, Res.out_ok, Res.out_bad, Res.calm_ok, List.map_cons, List.map_nil, List.length_cons, List.length_nil, Nat.reduceAdd, Nat.reduceSub, List.replicate, List.cons_append, List.nil_append, List.getElem?_cons_zero, List.getElem?_cons_succ, List.set_cons_succ, List.set_cons_zero, Bool.true_and, Bool.and_true, Bool.not_false, Bool.not_true, List.contains_nil, Option.bind_some, for_ap, lc_ap, Nat.reduceEqDiff, Nat.reduceLeDiff, Bool.false_xor, Bool.true_xor, and_self, decide_true, decide_false, List.lookup, List.all_cons, List.all_nil, List.contains_cons, Nat.reduceBEq, Bool.or_false, Bool.false_or, Bool.or_true, Bool.true_or, beq_self_eq_true, List.contains_nil, propR_ap, propR_rig, ownB_rig, ownT_rig, ownN_rig, eqI_rig, e_rig_fwd, lcG_nil, lcG_yesN, eq_self, lawStart_ap, in2, in3, in4, rg2, rg3, rg4, at0, at1, at2, il_tr, Bool.xor_true, Bool.xor_false, mkR_ap, mkR_rest, mkR_rig, callR_ap, callR_rig, callR_mem, methR_ap, methR_at, methR_curve, propR_mem, eqI_mem, lst_ok0, lst_ok1, lst_ok2, lst_ok3, il_pl, il_mem, e_mem_places, e_mem_place, e_rig_arms, e1]
      rw [e2]
      simp only [ix_in (show k + 1 < ps.length by omega), ix_in (show k < ps.length by omega), raise_ap, raiseI_ap, calmF_ap, le_line, lt_line, var_ap, c_ap, op_ap, un_ap, b_ap, and_ap, or_ap, not_ap, if_ap, andV_ap, orV_ap, ch_ap, nil_ap, cons_ap, star_ap, tup_ap, lst_ap, arm_ap, cb_ap, noPart_ap, part_ap, sl_ap, slL_ap, call_ap, callL_ap, fld_ap, get2_ap, dnew_ap, it_ap, itA_ap, yes_ap, next_ap, seq_ap, set_ap, setO_ap, drop_ap, ret_ap, retN_ap, brk_ap, cnt_ap, never_ap, ifS_ap, aug_ap, app_ap, ext_ap, pop_ap, par_ap, asg_ap, dset_ap, stF_ap, stF2_ap, fldL_ap, see_f, see_g, okM_f, okM_g, okR_f, okR_g, okO_f, okO_g, hide_nil, hide_cons, setAll_cons, setAll_nil, wipe_nil, wipe_cons, runB_ap, runL_ap, startL_ap, startD_ap, out1_nx, out1_rt, dName_ap, dGTup_ap, dGLst_ap, dGCons_ap, dGNil_ap, dAdd_ap, dSub_ap, dMul_ap, dFdiv_ap, dMod_ap, dLt_ap, dLe_ap, dGt_ap, dGe_ap, bOf_ap, dNeg_ap, dNot_ap, eqS_int, eqS_bl, eqS_str, dInt1_ap, dInt1_bl, dMax2_ap, dMin2_ap, dAbs_ap, dSum_ap, dAny_ap, dAll_ap, dLen_l, dLen_t, dLen_a, dIx_l, dIx_a, dTup_ap, dArm_ap, dList_l, dList_t, dTupl_ap, dTupA_ap, lstOf_ap, tupOf_t, tupOf_a, itemsOf_t, itemsOf_l, dSl_l, dSl_t, dSlL_ap, dCatL_ap, dIsN_ap, rng2_ap, dRange_1, dRange_2, dRange3_ap, isC_y, il_int, il_bl, il_str, il_non, il_tup, il_lst, il_armD, il_ins, il_dic, il_ar, il_rig, Bool.false_eq_true, if_false, if_true, Res.bind_ok, Res.bind_bad, Res.out_ok, Res.out_bad, Res.calm_ok, List.map_cons, List.map_nil, List.length_cons, List.length_nil, Nat.reduceAdd, Nat.reduceSub, List.replicate, List.cons_append, List.nil_append, List.getElem?_cons_zero, List.getElem?_cons_succ, List.set_cons_succ, List.set_cons_zero, Bool.true_and, Bool.and_true, Bool.not_false, Bool.not_true, List.contains_nil, Option.bind_some, for_ap, lc_ap, Nat.reduceEqDiff, Nat.reduceLeDiff, Bool.false_xor, Bool.true_xor, and_self, decide_true, decide_false, List.lookup, List.all_cons, List.all_nil, List.contains_cons, Nat.reduceBEq, Bool.or_false, Bool.false_or, Bool.or_true, Bool.true_or, beq_self_eq_true, List.contains_nil, propR_ap, propR_rig, ownB_rig, ownT_rig, ownN_rig, eqI_rig, e_rig_fwd, lcG_nil, lcG_yesN, eq_self, lawStart_ap, in2, in3, in4, rg2, rg3, rg4, at0, at1, at2, il_tr, Bool.xor_true, Bool.xor_false, mkR_ap, mkR_rest, mkR_rig, callR_ap, callR_rig, callR_mem, methR_ap, methR_at, methR_curve, propR_mem, eqI_mem, lst_ok0, lst_ok1, lst_ok2, lst_ok3, il_pl, il_mem, e_mem_places, e_mem_place, e_rig_arms, abs_ia]), sw_list, hq, inD, List.map_map]
    rfl
  have hsl : (swL ps).length = q := by rw [Mt.swL_len]; omega
  have hqr : q ≤ 100 := by rw [← hps] at hq; simp at hq; omega
  have hO := fun R : Rs => e_open_swings (R := R) (show (memR row).length ≤ 2000 by omega)
  have hOX := fun R : Rs => e_open_swingsX (R := R) (show (memR row).length ≤ 2000 by omega)
  rw [hps] at hO hOX
  simp only [hLC, raise_ap, raiseI_ap, calmF_ap, le_line, lt_line, var_ap, c_ap, op_ap, un_ap, b_ap, and_ap, or_ap, not_ap, if_ap, andV_ap, orV_ap, ch_ap, nil_ap, cons_ap, star_ap, tup_ap, lst_ap, arm_ap, cb_ap, noPart_ap, part_ap, sl_ap, slL_ap, call_ap, callL_ap, fld_ap, get2_ap, dnew_ap, it_ap, itA_ap, yes_ap, next_ap, seq_ap, set_ap, setO_ap, drop_ap, ret_ap, retN_ap, brk_ap, cnt_ap, never_ap, ifS_ap, aug_ap, app_ap, ext_ap, pop_ap, par_ap, asg_ap, dset_ap, stF_ap, stF2_ap, fldL_ap, see_f, see_g, okM_f, okM_g, okR_f, okR_g, okO_f, okO_g, hide_nil, hide_cons, setAll_cons, setAll_nil, wipe_nil, wipe_cons, runB_ap, runL_ap, startL_ap, startD_ap, out1_nx, out1_rt, dName_ap, dGTup_ap, dGLst_ap, dGCons_ap, dGNil_ap, dAdd_ap, dSub_ap, dMul_ap, dFdiv_ap, dMod_ap, dLt_ap, dLe_ap, dGt_ap, dGe_ap, bOf_ap, dNeg_ap, dNot_ap, eqS_int, eqS_bl, eqS_str, dInt1_ap, dInt1_bl, dMax2_ap, dMin2_ap, dAbs_ap, dSum_ap, dAny_ap, dAll_ap, dLen_l, dLen_t, dLen_a, dIx_a, dTup_ap, dArm_ap, dList_l, dList_t, dTupl_ap, dTupA_ap, lstOf_ap, tupOf_t, tupOf_a, itemsOf_t, itemsOf_l, dSl_l, dSl_t, dSlL_ap, dCatL_ap, dIsN_ap, rng2_ap, dRange_1, dRange_2, dRange3_ap, isC_y, il_int, il_bl, il_str, il_non, il_tup, il_lst, il_armD, il_ins, il_dic, il_ar, il_rig, Bool.false_eq_true, if_false, if_true, Res.bind_ok, Res.bind_bad, Res.out_ok, Res.out_bad, Res.calm_ok, List.map_cons, List.map_nil, List.length_cons, List.length_nil, Nat.reduceAdd, Nat.reduceSub, List.replicate, List.cons_append, List.nil_append, List.getElem?_cons_zero, List.getElem?_cons_succ, List.set_cons_succ, List.set_cons_zero, Bool.true_and, Bool.and_true, Bool.not_false, Bool.not_true, List.contains_nil, Option.bind_some, for_ap, lc_ap, Nat.reduceEqDiff, Nat.reduceLeDiff, Bool.false_xor, Bool.true_xor, and_self, decide_true, decide_false, List.lookup, List.all_cons, List.all_nil, List.contains_cons, Nat.reduceBEq, Bool.or_false, Bool.false_or, Bool.or_true, Bool.true_or, beq_self_eq_true, List.contains_nil, propR_ap, propR_rig, ownB_rig, ownT_rig, ownN_rig, eqI_rig, e_rig_fwd, lcG_nil, lcG_yesN, eq_self, lawStart_ap, in2, in3, in4, rg2, rg3, rg4, at0, at1, at2, il_tr, Bool.xor_true, Bool.xor_false, mkR_ap, mkR_rest, mkR_rig, callR_ap, callR_rig, callR_mem, methR_ap, methR_at, methR_curve, propR_mem, eqI_mem, lst_ok0, lst_ok1, lst_ok2, lst_ok3, il_pl, il_mem, e_mem_places, e_mem_place, e_rig_arms, lst_ok (show (inD (swL ps)).length ≤ sizeLine by rw [in_len]; exact line60 (by omega))]
  unfold ml173
  simp only [raise_ap, raiseI_ap, calmF_ap, le_line, lt_line, var_ap, c_ap, op_ap, un_ap, b_ap, and_ap, or_ap, not_ap, if_ap, andV_ap, orV_ap, ch_ap, nil_ap, cons_ap, star_ap, tup_ap, lst_ap, arm_ap, cb_ap, noPart_ap, part_ap, sl_ap, slL_ap, call_ap, callL_ap, fld_ap, get2_ap, dnew_ap, it_ap, itA_ap, yes_ap, next_ap, seq_ap, set_ap, setO_ap, drop_ap, ret_ap, retN_ap, brk_ap, cnt_ap, never_ap, ifS_ap, aug_ap, app_ap, ext_ap, pop_ap, par_ap, asg_ap, dset_ap, stF_ap, stF2_ap, fldL_ap, see_f, see_g, okM_f, okM_g, okR_f, okR_g, okO_f, okO_g, hide_nil, hide_cons, setAll_cons, setAll_nil, wipe_nil, wipe_cons, runB_ap, runL_ap, startL_ap, startD_ap, out1_nx, out1_rt, dName_ap, dGTup_ap, dGLst_ap, dGCons_ap, dGNil_ap, dAdd_ap, dSub_ap, dMul_ap, dFdiv_ap, dMod_ap, dLt_ap, dLe_ap, dGt_ap, dGe_ap, bOf_ap, dNeg_ap, dNot_ap, eqS_int, eqS_bl, eqS_str, dInt1_ap, dInt1_bl, dMax2_ap, dMin2_ap, dAbs_ap, dSum_ap, dAny_ap, dAll_ap, dLen_l, dLen_t, dLen_a, dIx_a, dTup_ap, dArm_ap, dList_l, dList_t, dTupl_ap, dTupA_ap, lstOf_ap, tupOf_t, tupOf_a, itemsOf_t, itemsOf_l, dSl_l, dSl_t, dSlL_ap, dCatL_ap, dIsN_ap, rng2_ap, dRange_1, dRange_2, dRange3_ap, isC_y, il_int, il_bl, il_str, il_non, il_tup, il_lst, il_armD, il_ins, il_dic, il_ar, il_rig, Bool.false_eq_true, if_false, if_true, Res.bind_ok, Res.bind_bad, Res.out_ok, Res.out_bad, Res.calm_ok, List.map_cons, List.map_nil, List.length_cons, List.length_nil, Nat.reduceAdd, Nat.reduceSub, List.replicate, List.cons_append, List.nil_append, List.getElem?_cons_zero, List.getElem?_cons_succ, List.set_cons_succ, List.set_cons_zero, Bool.true_and, Bool.and_true, Bool.not_false, Bool.not_true, List.contains_nil, Option.bind_some, for_ap, lc_ap, Nat.reduceEqDiff, Nat.reduceLeDiff, Bool.false_xor, Bool.true_xor, and_self, decide_true, decide_false, List.lookup, List.all_cons, List.all_nil, List.contains_cons, Nat.reduceBEq, Bool.or_false, Bool.false_or, Bool.or_true, Bool.true_or, beq_self_eq_true, List.contains_nil, propR_ap, propR_rig, ownB_rig, ownT_rig, ownN_rig, eqI_rig, e_rig_fwd, lcG_nil, lcG_yesN, eq_self, lawStart_ap, in2, in3, in4, rg2, rg3, rg4, at0, at1, at2, il_tr, Bool.xor_true, Bool.xor_false, mkR_ap, mkR_rest, mkR_rig, callR_ap, callR_rig, callR_mem, methR_ap, methR_at, methR_curve, propR_mem, eqI_mem, lst_ok0, lst_ok1, lst_ok2, lst_ok3, il_pl, il_mem, e_mem_places, e_mem_place, e_rig_arms, hO, e_L_equal (qE_in (k := 6) (show (swL ps).length ≤ 100000 by omega))]
  unfold ml175
  have hcl : (cntD H).length < sizeLine := by
    have := sortU_len H
    unfold cntD
    rw [List.length_map]
    exact Nat.lt_of_lt_of_le (show (sortU H).length < 1000 by omega) (by decide)
  have hsz : (inD (swL ps)).length < sizeLine := by rw [in_len, hsl]; exact Nat.lt_of_lt_of_le (show q < 1000 by omega) (by decide)
  simp only [raise_ap, raiseI_ap, calmF_ap, le_line, lt_line, var_ap, c_ap, op_ap, un_ap, b_ap, and_ap, or_ap, not_ap, if_ap, andV_ap, orV_ap, ch_ap, nil_ap, cons_ap, star_ap, tup_ap, lst_ap, arm_ap, cb_ap, noPart_ap, part_ap, sl_ap, slL_ap, call_ap, callL_ap, fld_ap, get2_ap, dnew_ap, it_ap, itA_ap, yes_ap, next_ap, seq_ap, set_ap, setO_ap, drop_ap, ret_ap, retN_ap, brk_ap, cnt_ap, never_ap, ifS_ap, aug_ap, app_ap, ext_ap, pop_ap, par_ap, asg_ap, dset_ap, stF_ap, stF2_ap, fldL_ap, see_f, see_g, okM_f, okM_g, okR_f, okR_g, okO_f, okO_g, hide_nil, hide_cons, setAll_cons, setAll_nil, wipe_nil, wipe_cons, runB_ap, runL_ap, startL_ap, startD_ap, out1_nx, out1_rt, dName_ap, dGTup_ap, dGLst_ap, dGCons_ap, dGNil_ap, dAdd_ap, dSub_ap, dMul_ap, dFdiv_ap, dMod_ap, dLt_ap, dLe_ap, dGt_ap, dGe_ap, bOf_ap, dNeg_ap, dNot_ap, eqS_int, eqS_bl, eqS_str, dInt1_ap, dInt1_bl, dMax2_ap, dMin2_ap, dAbs_ap, dSum_ap, dAny_ap, dAll_ap, dLen_l, dLen_t, dLen_a, dIx_a, dTup_ap, dArm_ap, dList_l, dList_t, dTupl_ap, dTupA_ap, lstOf_ap, tupOf_t, tupOf_a, itemsOf_t, itemsOf_l, dSl_l, dSl_t, dSlL_ap, dCatL_ap, dIsN_ap, rng2_ap, dRange_1, dRange_2, dRange3_ap, isC_y, il_int, il_bl, il_str, il_non, il_tup, il_lst, il_armD, il_ins, il_dic, il_ar, il_rig, Bool.false_eq_true, if_false, if_true, Res.bind_ok, Res.bind_bad, Res.out_ok, Res.out_bad, Res.calm_ok, List.map_cons, List.map_nil, List.length_cons, List.length_nil, Nat.reduceAdd, Nat.reduceSub, List.replicate, List.cons_append, List.nil_append, List.getElem?_cons_zero, List.getElem?_cons_succ, List.set_cons_succ, List.set_cons_zero, Bool.true_and, Bool.and_true, Bool.not_false, Bool.not_true, List.contains_nil, Option.bind_some, for_ap, lc_ap, Nat.reduceEqDiff, Nat.reduceLeDiff, Bool.false_xor, Bool.true_xor, and_self, decide_true, decide_false, List.lookup, List.all_cons, List.all_nil, List.contains_cons, Nat.reduceBEq, Bool.or_false, Bool.false_or, Bool.or_true, Bool.true_or, beq_self_eq_true, List.contains_nil, propR_ap, propR_rig, ownB_rig, ownT_rig, ownN_rig, eqI_rig, e_rig_fwd, lcG_nil, lcG_yesN, eq_self, lawStart_ap, in2, in3, in4, rg2, rg3, rg4, at0, at1, at2, il_tr, Bool.xor_true, Bool.xor_false, mkR_ap, mkR_rest, mkR_rig, callR_ap, callR_rig, callR_mem, methR_ap, methR_at, methR_curve, propR_mem, eqI_mem, lst_ok0, lst_ok1, lst_ok2, lst_ok3, il_pl, il_mem, e_mem_places, e_mem_place, e_rig_arms, keyOf_int, hcl, decide_true, appX_ap, hOX, hsz]
  exact ⟨_, _, .inl rfl, _, rfl, hs, _, _, _, _, _, _, _, rfl⟩
end Lw

namespace Lw
section
open PySem PySem.Spec PyProof.Rows L2 Sr Pv
variable {P : Program} [PfOk P] {w : World} {K : PySem.W.Frag} {mg : Str → Option Value} {base : Heap}
theorem sc_L_random : FnScope ["_law_script", "_law_salt", "_law_seed", "_law_cell"] ["_law_script", "_law_salt"] (defScope s_L_random) := ⟨rfl, rfl, rfl, by decide +kernel, rfl, by decide +kernel, by decide +kernel⟩
theorem fn0_L_random (S : SayL K mg) : Fn P w K mg base CX0 1 "_law_random" ["_law_script", "_law_salt"] (spRandomX K) := by
  refine fn_mk s_L_random S 17 20 rfl rfl sc_L_random (fun _ _ _ _ _ _ us hl => match us, hl with | [_, _], _ => rfl) (fun vs H Q E h => ?_) (fun f cdv A outer s H vs Q E hr h => ?_)
  · obtain ⟨_, _, _, rfl, _⟩ := h; rfl
  · have hr0 := hr
    have hu := hu_of hr
    refine ⟨_, (pss_cons (ps_set (i := 2) sc_L_random.nd rfl (by first | exact Or.inl rfl | exact Or.inr rfl) (pv 1))
      (pss_cons (ps_for PassesOwn.never rfl (pi_list (pv 0)) (pg_name (i := 3) sc_L_random.nd rfl (by first | exact Or.inl rfl | exact Or.inr rfl)) (pss_one (ps_set (i := 2) sc_L_random.nd rfl (by first | exact Or.inl rfl | exact Or.inr rfl) (pe_op op_mod (pe_callTy call_int1 (by rfl) (S_int S) (by decide +kernel) (pa_cons (pe_op op_add (pe_op op_mul (pv 2) pe_int) (pe_callB call_abs (by rfl) (S_abs S) (by decide +kernel) (pa_cons (pv 3) pa_nil))) pa_nil)) pe_int))))
      (pss_one (ps_ret (pe_op op_cat (pe_lst (pa_cons (pv 2) (pa_cons pe_int pa_nil))) (pe_lc (own := [("_law_cell", 3)]) rfl sc_L_random.nd (pi_list (pv 0)) (blkOk_by (N := ["_law_script", "_law_salt", "_law_seed", "_law_cell"]) (sc := defScope s_L_random) (by decide +kernel)) (fun _ _ _ _ _ => (pg_name (i := 3) sc_L_random.nd rfl (by first | exact Or.inl rfl | exact Or.inr rfl))) (fun _ _ _ _ _ => (pts_one (pt_cmpR op_ge (pv 3) (pe_op op_pow pe_int pe_int) (nomark _)))) (fun _ _ _ _ _ => (pv 3)))))))), ?_⟩
    obtain ⟨a, ns, n, rfl, ha, hl, hn, k⟩ := h
    simp only [L2.start, List.map_cons, List.map_nil, List.length_cons, List.length_nil, List.replicate, Nat.reduceAdd, Nat.reduceSub, List.cons_append, List.nil_append]
    rw [tSeq_ap, tAsg_ap]
    simp only [tOp, tUn, tVar, tC, tAnd, tOr, tNot, tTest, tB, tCB, tCons, tNil, tBM, tBM0, tBML, tBML0, tAndV, tOrV, tNotV, tIf, tIfT, tChain, tPart, tNoPart, tSl, tTup, tLst, tYes, tIsN, tNotN, tCall, StX.tStar, rI, rI0, rU, rIxU, rLenU, rListU, rTupU, rSlLU, rIsK, kdOf, isK, rEq, rNe, rAppend, rExtend, rPopG, List.getLast?_map, List.getLast?_reverse, List.head?_cons, dropLast_rev, rPopAt, rSetL, rCat, gSub, gName, ipI, scal_int, scal_bl, scal_str, CMul, CDiv, CPow, List.getElem?_cons_succ, List.getElem?_cons_zero, List.set_cons_succ, List.set_cons_zero, List.append_nil, Option.some.injEq, V.int.injEq, V.bl.injEq, V.ref.injEq, V.str.injEq, HO.lst.injEq, HO.tup.injEq, List.cons.injEq, List.cons_ne_nil, and_true, true_and, exists_eq_left, exists_eq_left', exists_and_left, exists_eq', exists_eq, exists_const, reduceCtorEq, false_or, or_false, false_and, and_false, exists_false, seqH, List.length_cons, List.length_nil, List.length_map, List.length_reverse, cx_K, atI_tr1, atI_tr2, cutV_tr2, Option.map_some, upd_same, upd_upd]
    rw [tSeq_ap]
    refine ⟨_, rfl, a, rfl, ⟨_, ha⟩, for_it (walk_list (xs := ns.map V.int)) (RaW H a n) ⟨n, _, rfl, hn, rfl⟩ (fun i σ' H' _ p => by obtain ⟨_, _, _, _, rfl⟩ := p; exact ha) ?_ ?_⟩
    · rintro i x σ' H' H2 hi ⟨z, u, rfl, hz, rfl⟩ ⟨rfl, hx⟩
      rw [List.length_map] at hi
      rw [List.getElem?_map, List.getElem?_eq_getElem hi] at hx
      cases hx
      simp only [gName]
      rw [tAsg_ap]
      simp only [tOp, tUn, tVar, tC, tAnd, tOr, tNot, tTest, tB, tCB, tCons, tNil, tBM, tBM0, tBML, tBML0, tAndV, tOrV, tNotV, tIf, tIfT, tChain, tPart, tNoPart, tSl, tTup, tLst, tYes, tIsN, tNotN, tCall, StX.tStar, rI, rI0, rU, rIxU, rLenU, rListU, rTupU, rSlLU, rIsK, kdOf, isK, rEq, rNe, rAppend, rExtend, rPopG, List.getLast?_map, List.getLast?_reverse, List.head?_cons, dropLast_rev, rPopAt, rSetL, rCat, gSub, gName, ipI, scal_int, scal_bl, scal_str, CMul, CDiv, CPow, List.getElem?_cons_succ, List.getElem?_cons_zero, List.set_cons_succ, List.set_cons_zero, List.append_nil, Option.some.injEq, V.int.injEq, V.bl.injEq, V.ref.injEq, V.str.injEq, HO.lst.injEq, HO.tup.injEq, List.cons.injEq, List.cons_ne_nil, and_true, true_and, exists_eq_left, exists_eq_left', exists_and_left, exists_eq', exists_eq, exists_const, reduceCtorEq, false_or, or_false, false_and, and_false, exists_false, seqH, List.length_cons, List.length_nil, List.length_map, List.length_reverse, cx_K, atI_tr1, atI_tr2, cutV_tr2, Option.map_some, upd_same, upd_upd]
      exact ⟨.inr ⟨by decide, by decide⟩, by decide, _, _, rfl, Int.emod_nonneg _ (by decide), rfl⟩
    · rintro σ' H' ⟨z, u, rfl, hz, rfl⟩
      dsimp only
      rw [tRet_ap]
      simp only [tOp, tLst, tCons, tNil, tVar, tC, List.getElem?_cons_zero, List.getElem?_cons_succ, Option.some.injEq, exists_eq_left']
      refine ⟨by simp [sizeLine], fun p hp => ?_⟩
      have e1 : Same H' (upd H' p (.lst [.int z, .int 0])) := same_upd hp
      have hp1 : upd H' p (.lst [.int z, .int 0]) p = some (.lst [.int z, .int 0]) := upd_same
      have ha1 := e1.seq ha
      generalize upd H' p (.lst [.int z, .int 0]) = H1 at *
      refine ⟨_, rfl, a, rfl, ⟨_, ha1⟩, fun D hD => lc_it (walk_list (xs := ns.map V.int)) (RaC H1 D) ⟨same_upd hD, [], upd_same, by simp, by simp⟩ (fun i H' _ p => p.1.seq ha1) ?_ ?_⟩
      · rintro i x H2 H3 hi ⟨e2, acc, hacc, hlen, hpos⟩ ⟨rfl, hx⟩
        rw [List.length_map] at hi
        rw [List.getElem?_map, List.getElem?_eq_getElem hi] at hx
        cases hx
        simp only [wipe, List.map_cons, List.map_nil, tOp, tUn, tVar, tC, tAnd, tOr, tNot, tTest, tB, tCB, tCons, tNil, tBM, tBM0, tBML, tBML0, tAndV, tOrV, tNotV, tIf, tIfT, tChain, tPart, tNoPart, tSl, tTup, tLst, tYes, tIsN, tNotN, tCall, StX.tStar, rI, rI0, rU, rIxU, rLenU, rListU, rTupU, rSlLU, rIsK, kdOf, isK, rEq, rNe, rAppend, rExtend, rPopG, List.getLast?_map, List.getLast?_reverse, List.head?_cons, dropLast_rev, rPopAt, rSetL, rCat, gSub, gName, ipI, scal_int, scal_bl, scal_str, CMul, CDiv, CPow, List.getElem?_cons_succ, List.getElem?_cons_zero, List.set_cons_succ, List.set_cons_zero, List.append_nil, Option.some.injEq, V.int.injEq, V.bl.injEq, V.ref.injEq, V.str.injEq, HO.lst.injEq, HO.tup.injEq, List.cons.injEq, List.cons_ne_nil, and_true, true_and, exists_eq_left, exists_eq_left', exists_and_left, exists_eq', exists_eq, exists_const, reduceCtorEq, false_or, or_false, false_and, and_false, exists_false, seqH, List.length_cons, List.length_nil, List.length_map, List.length_reverse, cx_K, atI_tr1, atI_tr2, cutV_tr2, Option.map_some, upd_same, upd_upd]
        refine ⟨by decide, ?_⟩
        split
        · rename_i c
          have c' : (10 : Int) ^ (18 : Int).toNat ≤ ns[i] := of_decide_eq_true c
          simp only [tOp, tUn, tVar, tC, tAnd, tOr, tNot, tTest, tB, tCB, tCons, tNil, tBM, tBM0, tBML, tBML0, tAndV, tOrV, tNotV, tIf, tIfT, tChain, tPart, tNoPart, tSl, tTup, tLst, tYes, tIsN, tNotN, tCall, StX.tStar, rI, rI0, rU, rIxU, rLenU, rListU, rTupU, rSlLU, rIsK, kdOf, isK, rEq, rNe, rAppend, rExtend, rPopG, List.getLast?_map, List.getLast?_reverse, List.head?_cons, dropLast_rev, rPopAt, rSetL, rCat, gSub, gName, ipI, scal_int, scal_bl, scal_str, CMul, CDiv, CPow, List.getElem?_cons_succ, List.getElem?_cons_zero, List.set_cons_succ, List.set_cons_zero, List.append_nil, Option.some.injEq, V.int.injEq, V.bl.injEq, V.ref.injEq, V.str.injEq, HO.lst.injEq, HO.tup.injEq, List.cons.injEq, List.cons_ne_nil, and_true, true_and, exists_eq_left, exists_eq_left', exists_and_left, exists_eq', exists_eq, exists_const, reduceCtorEq, false_or, or_false, false_and, and_false, exists_false, seqH, List.length_cons, List.length_nil, List.length_map, List.length_reverse, cx_K, atI_tr1, atI_tr2, cutV_tr2, Option.map_some, upd_same, upd_upd, hacc]
          refine ⟨by simp [sizeLine]; omega, e2.updN hD, acc ++ [ns[i]], by rw [upd_same]; simp, by simp; omega, ?_⟩
          intro x hx
          rcases List.mem_append.mp hx with hx | hx
          · exact hpos x hx
          · have : x = ns[i] := by simpa using hx
            rw [this]
            have : (0 : Int) ≤ 10 ^ (18 : Int).toNat := by decide
            omega
        · exact ⟨e2, acc, hacc, by omega, hpos⟩
      · rintro H2 ⟨e2, acc, hacc, hlen, hpos⟩
        rw [List.length_map] at hlen
        refine ⟨p, D, _, _, rfl, rfl, e2 _ _ hp1, hacc, by simp [sizeLine]; omega, fun q hq => ?_⟩
        refine k q (z :: 0 :: acc) _ ((e1.trans e2).new hq) ((e1.trans e2).free hq) ?_ (stOk_cons.mpr ⟨hz, by decide, hpos⟩)
        rw [upd_same]
        rfl
theorem fn_L_random (S : SayL K mg) : Fn P w K mg base CX0 1 "_law_random" ["_law_script", "_law_salt"] (spRandomX K) := fn0_L_random S
theorem sc_L_below : FnScope ["_law_d", "_law_limit", "_law_result"] ["_law_d", "_law_limit"] (defScope s_L_below) := ⟨rfl, rfl, rfl, by decide +kernel, rfl, by decide +kernel, by decide +kernel⟩
theorem fn0_L_below (S : SayL K mg) : Fn P w K mg base CX0 1 "_law_below" ["_law_d", "_law_limit"] spBelowX := by
  refine fn_mk s_L_below S 18 21 rfl rfl sc_L_below (fun _ _ _ _ _ _ us hl => match us, hl with | [_, _], _ => rfl) (fun vs H Q E h => ?_) (fun f cdv A outer s H vs Q E hr h => ?_)
  · obtain ⟨_, _, _, rfl, _⟩ := h; rfl
  · have hr0 := hr
    have hu := hu_of hr
    refine ⟨_, (pss_cut (ps_if (PW.pt (pw_and (pt_cmpR op_eq (pe_ix ix_u (pv 0) pe_int (fun _ _ => rfl)) pe_int (nomark _)) (pw_and1 (pt_cmpR op_gt (pe_callB call_len_u (by rfl) (S_len S) (by decide +kernel) (pa_cons (pv 0) pa_nil)) pe_int (nomark _))))) (pss_one (ps_asg (pe_bmL PySem.F.slot_list_pop PySem.F.type_list_pop mt_popAt (pv 0) (pa_cons pe_int pa_nil)) (pg_sub (pv 0) pe_int set_list))) pss_nil)
      (pss_cons (ps_if (pt_cmpR op_gt (pe_ix ix_u (pv 0) pe_int (fun _ _ => rfl)) pe_int (nomark _)) (pss_cons (ps_set (i := 2) sc_L_below.nd rfl (by first | exact Or.inl rfl | exact Or.inr rfl) (pe_op op_mod (pe_callTy call_int1 (by rfl) (S_int S) (by decide +kernel) (pa_cons (pe_ix ix_u (pv 0) pe_int (fun _ _ => rfl)) pa_nil)) (pv 1)))
      (pss_cons (ps_asg (pe_op op_fdivW (pe_ix ix_u (pv 0) pe_int (fun _ _ => rfl)) (pv 1)) (pg_sub (pv 0) pe_int set_list))
      (pss_one (ps_ret (pv 2))))) pss_nil)
      (pss_cons (ps_asg (pe_op op_mod (pe_callTy call_int1 (by rfl) (S_int S) (by decide +kernel) (pa_cons (pe_op op_add (pe_op op_mul (pe_ix ix_u (pv 0) pe_int (fun _ _ => rfl)) pe_int) pe_int) pa_nil)) pe_int) (pg_sub (pv 0) pe_int set_list))
      (pss_one (ps_ret (pe_op op_mod (pe_callTy call_int1 (by rfl) (S_int S) (by decide +kernel) (pa_cons (pe_op op_fdiv (pe_ix ix_u (pv 0) pe_int (fun _ _ => rfl)) pe_int) pa_nil)) (pv 1))))))), ?_⟩
    obtain ⟨d, st, n, rfl, hd, hst, h0, h1, k⟩ := h
    obtain ⟨a, b, r, rfl⟩ : ∃ a b r, st = a :: b :: r := by
      match st, hst with
      | a :: b :: r, _ => exact ⟨a, b, r, rfl⟩
    have e1 : ∀ m : Nat, ixN (m + 1 + 1) 1 = some 1 := fun m => by unfold ixN; rw [if_pos (by omega), if_pos (by omega)]; rfl
    have e0 : ∀ m : Nat, ixN (m + 1 + 1) 0 = some 0 := fun m => by unfold ixN; rw [if_pos (by omega), if_pos (by omega)]; rfl
    have e2 : ∀ m : Nat, seqIndex? 2 (m + 1 + 1 + 1) = some 2 := fun m => by unfold seqIndex?; simp; omega
    simp only [L2.start, List.map_cons, List.map_nil, List.length_cons, List.length_nil, List.replicate, Nat.reduceAdd, Nat.reduceSub, List.cons_append, List.nil_append]
    refine ⟨fun σ' H' => σ' = [some (.ref d), some (.int n), none] ∧ H' = upd H d (.lst ((a :: (midB b r).1 :: (midB b r).2).map V.int)), ?_, ?_⟩
    · rw [tIfS_ap]
      simp only [tOp, tUn, tVar, tC, tAnd, tOr, tNot, tTest, tB, tCB, tCons, tNil, tBM, tBM0, tBML, tBML0, tAndV, tOrV, tNotV, tIf, tIfT, tChain, tPart, tNoPart, tSl, tTup, tLst, tYes, tIsN, tNotN, tCall, StX.tStar, rI, rI0, rU, rIxU, rLenU, rListU, rTupU, rSlLU, rIsK, kdOf, isK, rEq, rNe, rAppend, rExtend, rPopG, List.getLast?_map, List.getLast?_reverse, List.head?_cons, dropLast_rev, rPopAt, rSetL, rCat, gSub, gName, ipI, scal_int, scal_bl, scal_str, CMul, CDiv, CDivW, CPow, List.getElem?_cons_succ, List.getElem?_cons_zero, List.set_cons_succ, List.set_cons_zero, List.append_nil, Option.some.injEq, V.int.injEq, V.bl.injEq, V.ref.injEq, V.str.injEq, HO.lst.injEq, HO.tup.injEq, List.cons.injEq, List.cons_ne_nil, and_true, true_and, exists_eq_left, exists_eq_left', exists_and_left, exists_eq', exists_eq, exists_const, reduceCtorEq, false_or, or_false, false_and, and_false, exists_false, seqH, List.length_cons, List.length_nil, List.length_map, List.length_reverse, cx_K, atI_tr1, atI_tr2, cutV_tr2, Option.map_some, upd_same, upd_upd, hd, List.map_cons, atI_one, decide_eq_true_eq]
      by_cases hb0 : b = 0
      · rw [if_pos hb0]
        cases r with
        | nil =>
          rw [if_neg (by simp), tNext_ap]
          refine ⟨rfl, ?_⟩
          simp only [midB, hb0, if_true]
          rw [hb0] at hd
          exact (upd_self H d).symm
        | cons c r =>
          rw [if_pos (by simp; omega), tAsg_ap]
          simp only [tOp, tUn, tVar, tC, tAnd, tOr, tNot, tTest, tB, tCB, tCons, tNil, tBM, tBM0, tBML, tBML0, tAndV, tOrV, tNotV, tIf, tIfT, tChain, tPart, tNoPart, tSl, tTup, tLst, tYes, tIsN, tNotN, tCall, StX.tStar, rI, rI0, rU, rIxU, rLenU, rListU, rTupU, rSlLU, rIsK, kdOf, isK, rEq, rNe, rAppend, rExtend, rPopG, List.getLast?_map, List.getLast?_reverse, List.head?_cons, dropLast_rev, rPopAt, rSetL, rCat, gSub, gName, ipI, scal_int, scal_bl, scal_str, CMul, CDiv, CDivW, CPow, List.getElem?_cons_succ, List.getElem?_cons_zero, List.set_cons_succ, List.set_cons_zero, List.append_nil, Option.some.injEq, V.int.injEq, V.bl.injEq, V.ref.injEq, V.str.injEq, HO.lst.injEq, HO.tup.injEq, List.cons.injEq, List.cons_ne_nil, and_true, true_and, exists_eq_left, exists_eq_left', exists_and_left, exists_eq', exists_eq, exists_const, reduceCtorEq, false_or, or_false, false_and, and_false, exists_false, seqH, List.length_cons, List.length_nil, List.length_map, List.length_reverse, cx_K, atI_tr1, atI_tr2, cutV_tr2, Option.map_some, upd_same, upd_upd, hd, List.map_cons, e1, e2, List.eraseIdx_cons_succ, List.eraseIdx_cons_zero]
          refine ⟨by decide, by decide, ?_⟩
          simp [midB, hb0]
      · rw [if_neg hb0, if_neg id, tNext_ap]
        refine ⟨rfl, ?_⟩
        simp only [midB, hb0, if_false]
        exact (upd_self H d).symm
    · rintro σ' H' ⟨rfl, rfl⟩
      have hk : ∀ x y, below (a :: b :: r) n = (x, y) → Q (.int x) (upd H d (.lst (y.map V.int))) := fun x y e => by rw [e] at k; exact k
      have ek : below (a :: b :: r) n = if 0 < (midB b r).1 then ((midB b r).1 % n, a :: (midB b r).1 / n :: (midB b r).2) else (((a * 48271 + 11) % 2147483647 / 64) % n, (a * 48271 + 11) % 2147483647 :: (midB b r).1 :: (midB b r).2) := rfl
      generalize (midB b r).1 = b1 at *
      generalize (midB b r).2 = r1 at *
      rw [tSeq_ap, tIfS_ap]
      simp only [tOp, tUn, tVar, tC, tAnd, tOr, tNot, tTest, tB, tCB, tCons, tNil, tBM, tBM0, tBML, tBML0, tAndV, tOrV, tNotV, tIf, tIfT, tChain, tPart, tNoPart, tSl, tTup, tLst, tYes, tIsN, tNotN, tCall, StX.tStar, rI, rI0, rU, rIxU, rLenU, rListU, rTupU, rSlLU, rIsK, kdOf, isK, rEq, rNe, rAppend, rExtend, rPopG, List.getLast?_map, List.getLast?_reverse, List.head?_cons, dropLast_rev, rPopAt, rSetL, rCat, gSub, gName, ipI, scal_int, scal_bl, scal_str, CMul, CDiv, CDivW, CPow, List.getElem?_cons_succ, List.getElem?_cons_zero, List.set_cons_succ, List.set_cons_zero, List.append_nil, Option.some.injEq, V.int.injEq, V.bl.injEq, V.ref.injEq, V.str.injEq, HO.lst.injEq, HO.tup.injEq, List.cons.injEq, List.cons_ne_nil, and_true, true_and, exists_eq_left, exists_eq_left', exists_and_left, exists_eq', exists_eq, exists_const, reduceCtorEq, false_or, or_false, false_and, and_false, exists_false, seqH, List.length_cons, List.length_nil, List.length_map, List.length_reverse, cx_K, atI_tr1, atI_tr2, cutV_tr2, Option.map_some, upd_same, upd_upd, List.map_cons, atI_one, decide_eq_true_eq]
      split
      · rename_i hp
        rw [if_pos hp] at ek
        rw [tSeq_ap, tAsg_ap]
        simp only [tOp, tUn, tVar, tC, tAnd, tOr, tNot, tTest, tB, tCB, tCons, tNil, tBM, tBM0, tBML, tBML0, tAndV, tOrV, tNotV, tIf, tIfT, tChain, tPart, tNoPart, tSl, tTup, tLst, tYes, tIsN, tNotN, tCall, StX.tStar, rI, rI0, rU, rIxU, rLenU, rListU, rTupU, rSlLU, rIsK, kdOf, isK, rEq, rNe, rAppend, rExtend, rPopG, List.getLast?_map, List.getLast?_reverse, List.head?_cons, dropLast_rev, rPopAt, rSetL, rCat, gSub, gName, ipI, scal_int, scal_bl, scal_str, CMul, CDiv, CDivW, CPow, List.getElem?_cons_succ, List.getElem?_cons_zero, List.set_cons_succ, List.set_cons_zero, List.append_nil, Option.some.injEq, V.int.injEq, V.bl.injEq, V.ref.injEq, V.str.injEq, HO.lst.injEq, HO.tup.injEq, List.cons.injEq, List.cons_ne_nil, and_true, true_and, exists_eq_left, exists_eq_left', exists_and_left, exists_eq', exists_eq, exists_const, reduceCtorEq, false_or, or_false, false_and, and_false, exists_false, seqH, List.length_cons, List.length_nil, List.length_map, List.length_reverse, cx_K, atI_tr1, atI_tr2, cutV_tr2, Option.map_some, upd_same, upd_upd, List.map_cons, atI_one]
        refine ⟨h0, ?_⟩
        rw [tSeq_ap, tAsg_ap]
        simp only [tOp, tUn, tVar, tC, tAnd, tOr, tNot, tTest, tB, tCB, tCons, tNil, tBM, tBM0, tBML, tBML0, tAndV, tOrV, tNotV, tIf, tIfT, tChain, tPart, tNoPart, tSl, tTup, tLst, tYes, tIsN, tNotN, tCall, StX.tStar, rI, rI0, rU, rIxU, rLenU, rListU, rTupU, rSlLU, rIsK, kdOf, isK, rEq, rNe, rAppend, rExtend, rPopG, List.getLast?_map, List.getLast?_reverse, List.head?_cons, dropLast_rev, rPopAt, rSetL, rCat, gSub, gName, ipI, scal_int, scal_bl, scal_str, CMul, CDiv, CDivW, CPow, List.getElem?_cons_succ, List.getElem?_cons_zero, List.set_cons_succ, List.set_cons_zero, List.append_nil, Option.some.injEq, V.int.injEq, V.bl.injEq, V.ref.injEq, V.str.injEq, HO.lst.injEq, HO.tup.injEq, List.cons.injEq, List.cons_ne_nil, and_true, true_and, exists_eq_left, exists_eq_left', exists_and_left, exists_eq', exists_eq, exists_const, reduceCtorEq, false_or, or_false, false_and, and_false, exists_false, seqH, List.length_cons, List.length_nil, List.length_map, List.length_reverse, cx_K, atI_tr1, atI_tr2, cutV_tr2, Option.map_some, upd_same, upd_upd, List.map_cons, atI_one, e1]
        refine ⟨⟨h0, h1⟩, ?_⟩
        rw [tRet_ap]
        simp only [tOp, tUn, tVar, tC, tAnd, tOr, tNot, tTest, tB, tCB, tCons, tNil, tBM, tBM0, tBML, tBML0, tAndV, tOrV, tNotV, tIf, tIfT, tChain, tPart, tNoPart, tSl, tTup, tLst, tYes, tIsN, tNotN, tCall, StX.tStar, rI, rI0, rU, rIxU, rLenU, rListU, rTupU, rSlLU, rIsK, kdOf, isK, rEq, rNe, rAppend, rExtend, rPopG, List.getLast?_map, List.getLast?_reverse, List.head?_cons, dropLast_rev, rPopAt, rSetL, rCat, gSub, gName, ipI, scal_int, scal_bl, scal_str, CMul, CDiv, CDivW, CPow, List.getElem?_cons_succ, List.getElem?_cons_zero, List.set_cons_succ, List.set_cons_zero, List.append_nil, Option.some.injEq, V.int.injEq, V.bl.injEq, V.ref.injEq, V.str.injEq, HO.lst.injEq, HO.tup.injEq, List.cons.injEq, List.cons_ne_nil, and_true, true_and, exists_eq_left, exists_eq_left', exists_and_left, exists_eq', exists_eq, exists_const, reduceCtorEq, false_or, or_false, false_and, and_false, exists_false, seqH, List.length_cons, List.length_nil, List.length_map, List.length_reverse, cx_K, atI_tr1, atI_tr2, cutV_tr2, Option.map_some, upd_same, upd_upd]
        exact hk _ _ ek
      · rename_i hp
        rw [if_neg hp] at ek
        rw [tNext_ap]
        dsimp only
        rw [tSeq_ap, tAsg_ap]
        simp only [tOp, tUn, tVar, tC, tAnd, tOr, tNot, tTest, tB, tCB, tCons, tNil, tBM, tBM0, tBML, tBML0, tAndV, tOrV, tNotV, tIf, tIfT, tChain, tPart, tNoPart, tSl, tTup, tLst, tYes, tIsN, tNotN, tCall, StX.tStar, rI, rI0, rU, rIxU, rLenU, rListU, rTupU, rSlLU, rIsK, kdOf, isK, rEq, rNe, rAppend, rExtend, rPopG, List.getLast?_map, List.getLast?_reverse, List.head?_cons, dropLast_rev, rPopAt, rSetL, rCat, gSub, gName, ipI, scal_int, scal_bl, scal_str, CMul, CDiv, CDivW, CPow, List.getElem?_cons_succ, List.getElem?_cons_zero, List.set_cons_succ, List.set_cons_zero, List.append_nil, Option.some.injEq, V.int.injEq, V.bl.injEq, V.ref.injEq, V.str.injEq, HO.lst.injEq, HO.tup.injEq, List.cons.injEq, List.cons_ne_nil, and_true, true_and, exists_eq_left, exists_eq_left', exists_and_left, exists_eq', exists_eq, exists_const, reduceCtorEq, false_or, or_false, false_and, and_false, exists_false, seqH, List.length_cons, List.length_nil, List.length_map, List.length_reverse, cx_K, atI_tr1, atI_tr2, cutV_tr2, Option.map_some, upd_same, upd_upd, List.map_cons, atI_zero, e0]
        refine ⟨.inr ⟨by decide, by decide⟩, by decide, ?_⟩
        rw [tRet_ap]
        simp only [tOp, tUn, tVar, tC, tAnd, tOr, tNot, tTest, tB, tCB, tCons, tNil, tBM, tBM0, tBML, tBML0, tAndV, tOrV, tNotV, tIf, tIfT, tChain, tPart, tNoPart, tSl, tTup, tLst, tYes, tIsN, tNotN, tCall, StX.tStar, rI, rI0, rU, rIxU, rLenU, rListU, rTupU, rSlLU, rIsK, kdOf, isK, rEq, rNe, rAppend, rExtend, rPopG, List.getLast?_map, List.getLast?_reverse, List.head?_cons, dropLast_rev, rPopAt, rSetL, rCat, gSub, gName, ipI, scal_int, scal_bl, scal_str, CMul, CDiv, CDivW, CPow, List.getElem?_cons_succ, List.getElem?_cons_zero, List.set_cons_succ, List.set_cons_zero, List.append_nil, Option.some.injEq, V.int.injEq, V.bl.injEq, V.ref.injEq, V.str.injEq, HO.lst.injEq, HO.tup.injEq, List.cons.injEq, List.cons_ne_nil, and_true, true_and, exists_eq_left, exists_eq_left', exists_and_left, exists_eq', exists_eq, exists_const, reduceCtorEq, false_or, or_false, false_and, and_false, exists_false, seqH, List.length_cons, List.length_nil, List.length_map, List.length_reverse, cx_K, atI_tr1, atI_tr2, cutV_tr2, Option.map_some, upd_same, upd_upd, List.map_cons, atI_zero]
        exact ⟨⟨by decide, by decide⟩, h0, hk _ _ ek⟩
theorem fn_L_below (S : SayL K mg) : Fn P w K mg base (L2.CX P w) 1 "_law_below" ["_law_d", "_law_limit"] (spL K 2 f_L_below) := (fn0_L_below S).cx0.imp below_imp
theorem sc_L_row : FnScope ["_law_d", "_law_most", "_law_far", "_law_low", "_law_k"] ["_law_d", "_law_most", "_law_far"] (defScope s_L_row) := ⟨rfl, rfl, rfl, by decide +kernel, rfl, by decide +kernel, by decide +kernel⟩
theorem fn_L_row (S : SayL K mg) : Fn P w K mg base (L2.CX P w) 3 "_law_row" ["_law_d", "_law_most", "_law_far"] (spL K 3 f_L_row) := by
  have F_L_below := fn_L_below (P := P) (w := w) (base := base) S
  refine fnL (own := []) (own' := []) (g := m_L_row) s_L_row S 19 22 rfl rfl sc_L_row (fun _ _ _ _ _ _ us hl => match us, hl with | [_, _, _], _ => rfl) rfl (by decide) (by decide) (fun f cdv A outer s H E hr => ?_)
  have hu := hu_of hr
  have hr_L_below : Room 1 _ := hr.mono (by decide)
  have hr1_L_below : Room 2 _ := hr.mono (by decide)
  exact (sts_cons (st_set .f (i := 3) sc_L_row.nd rfl (by first | exact Or.inl rfl | exact Or.inr rfl) (ev_ix o_ix (EvF.ev (evf_lst (eva_cons (ev_int pe_int) (eva_cons (ev_op o_sub (ev_int pe_int) (ev_var (pv 2))) eva_nil)))) (ev_fnL F_L_below hr_L_below (pass_x rfl rfl rfl rfl) (pv 0) (eva_cons (ev_int pe_int) eva_nil)) (fun _ _ => rfl)))
      (sts_one (st_ret (EvF.ev (evf_lc (own := [("_law_k", 4)]) rfl rfl sc_L_row.nd (evi_of (evi_rng1 (by rfl) (S_range S) (eva_cons (ev_fnL F_L_below hr_L_below (pass_x rfl rfl rfl rfl) (pv 0) (eva_cons (ev_op o_add (ev_var (pv 1)) (ev_int pe_int)) eva_nil)) eva_nil))) (blkOk_by (N := ["_law_d", "_law_most", "_law_far", "_law_low", "_law_k"]) (sc := defScope s_L_row) (by decide +kernel)) (fun _ _ _ _ _ => (pg_name (i := 4) sc_L_row.nd rfl (by first | exact Or.inl rfl | exact Or.inr rfl))) (tg_name (by decide)) (fun _ _ _ _ _ => pts_yes) (fun _ _ _ _ _ => (ev_op o_add (ev_var (pv 3)) (ev_fnL F_L_below hr_L_below pass_no (pv 0) (eva_cons (ev_op o_add (ev_op o_sub (ev_var (pv 2)) (ev_var (pv 3))) (ev_int pe_int)) eva_nil)))))))))
theorem sc_is_int : FnScope ["value"] ["value"] (defScope s_is_int) := ⟨rfl, rfl, rfl, by decide +kernel, rfl, by decide +kernel, by decide +kernel⟩
theorem fn_is_int (S : SayL K mg) : Fn P w K mg base (L2.CX P w) 1 "is_int" ["value"] (spP K 1 f_is_int) := by
  refine (fnP (own := []) (own' := []) (g := m_is_int) s_is_int S 0 6 rfl rfl sc_is_int (fun _ _ _ _ _ _ us hl => match us, hl with | [_], _ => rfl) rfl (by decide) (fun f cdv A outer s H E hr => ?_)).imp pure_imp
  have hu := hu_of hr
  exact (sts_one (st_ret (ev_and (ev_b (c_isK Kd.int (by decide)) (by rfl) (S_isinstance S) (by decide +kernel) (eva_cons (ev_var (pv 0)) (eva_cons (ev_cst (pe_bltn (v := .ty "int") rfl (S_int S) (by decide +kernel) rfl) (fun _ => .ty _)) eva_nil))) (ev_one (ev_not (ev_b (c_isK Kd.bl (by decide)) (by rfl) (S_isinstance S) (by decide +kernel) (eva_cons (ev_var (pv 0)) (eva_cons (ev_cst (pe_bltn (v := .ty "bool") rfl (S_bool S) (by decide +kernel) rfl) (fun _ => .ty _)) eva_nil))))))))
theorem sc_is_int_in : FnScope ["value", "low", "high"] ["value", "low", "high"] (defScope s_is_int_in) := ⟨rfl, rfl, rfl, by decide +kernel, rfl, by decide +kernel, by decide +kernel⟩
theorem fn_is_int_in (S : SayL K mg) : Fn P w K mg base (L2.CX P w) 3 "is_int_in" ["value", "low", "high"] (spP K 3 f_is_int_in) := by
  have F_is_int := fn_is_int (P := P) (w := w) (base := base) S
  refine (fnP (own := []) (own' := []) (g := m_is_int_in) s_is_int_in S 1 7 rfl rfl sc_is_int_in (fun _ _ _ _ _ _ us hl => match us, hl with | [_, _, _], _ => rfl) rfl (by decide) (fun f cdv A outer s H E hr => ?_)).imp pure_imp
  have hu := hu_of hr
  have hr_is_int : Room 1 _ := hr.mono (by decide)
  have hr1_is_int : Room 2 _ := hr.mono (by decide)
  exact (sts_one (st_ret (ev_and (ev_fn F_is_int hr_is_int (pass_x rfl rfl rfl rfl) (eva_cons (ev_var (pv 0)) eva_nil)) (ev_one (ev_chain o_le o_le (ev_var (pv 1)) (ev_var (pv 0)) (ev_var (pv 2)))))))
theorem sc_is_place : FnScope ["value"] ["value"] (defScope s_is_place) := ⟨rfl, rfl, rfl, by decide +kernel, rfl, by decide +kernel, by decide +kernel⟩
theorem fn_is_place (S : SayL K mg) : Fn P w K mg base (L2.CX P w) 5 "is_place" ["value"] (spP K 1 f_is_place) := by
  have F_is_int_in := fn_is_int_in (P := P) (w := w) (base := base) S
  refine (fnP (own := []) (own' := []) (g := m_is_place) s_is_place S 2 8 rfl rfl sc_is_place (fun _ _ _ _ _ _ us hl => match us, hl with | [_], _ => rfl) rfl (by decide) (fun f cdv A outer s H E hr => ?_)).imp pure_imp
  have hu := hu_of hr
  have hr_is_int_in : Room 3 _ := hr.mono (by decide)
  have hr1_is_int_in : Room 4 _ := hr.mono (by decide)
  exact (sts_one (st_ret (ev_fn F_is_int_in hr_is_int_in (pass_x rfl rfl rfl rfl) (eva_cons (ev_var (pv 0)) (eva_cons (ev_neg (ev_int (pe_gint (S_FAR S)))) (eva_cons (ev_int (pe_gint (S_FAR S))) eva_nil))))))
theorem sc_check_row : FnScope ["row", "index", "place"] ["row"] (defScope s_check_row) := ⟨rfl, rfl, rfl, by decide +kernel, rfl, by decide +kernel, by decide +kernel⟩
theorem fn_check_row (S : SayL K mg) : Fn P w K mg base (L2.CX P w) 7 "check_row" ["row"] (spP K 1 f_check_row) := by
  have F_is_place := fn_is_place (P := P) (w := w) (base := base) S
  refine (fnP (own := []) (own' := []) (g := m_check_row) s_check_row S 4 10 rfl rfl sc_check_row (fun _ _ _ _ _ _ us hl => match us, hl with | [_], _ => rfl) rfl (by decide) (fun f cdv A outer s H E hr => ?_)).imp pure_imp
  have hu := hu_of hr
  have hr_exi : Room 2 _ := hr.mono (by decide)
  have hr_is_place : Room 5 _ := hr.mono (by decide)
  have hr1_is_place : Room 6 _ := hr.mono (by decide)
  exact (sts_cons (st_if .f (evt_not (evt_val (ev_b (c_isK Kd.lst (by decide)) (by rfl) (S_isinstance S) (by decide +kernel) (eva_cons (ev_var (pv 0)) (eva_cons (ev_cst (pe_bltn (v := .ty "list") rfl (S_list S) (by decide +kernel) rfl) (fun _ => .ty _)) eva_nil))))) (sts_one (st_raiseI rfl rfl rfl rfl rfl (inferInstanceAs (PfOk P)) (exiB_ok (X_exi_InvalidRow S)) (by decide) (.inl rfl) (S_super S) hr_exi (S_InvalidRow S) (ev_int pe_int))) sts_nil)
      (sts_one (st_for (vs := [1, 2]) (passes_of rfl) rfl (evi_enum (by rfl) (S_enumerate S) (eva_cons (ev_var (pv 0)) eva_nil)) ⟨(pg_tup (n := 2) rfl (pgs_cons (pg_name (i := 1) sc_check_row.nd rfl (by first | exact Or.inl rfl | exact Or.inr rfl)) (pgs_cons (pg_name (i := 2) sc_check_row.nd rfl (by first | exact Or.inl rfl | exact Or.inr rfl)) pgs_nil))), (tg_tup (tgs_cons (tg_name (by decide)) (tgs_cons (tg_name (by decide)) tgs_nil)))⟩ (sts_one (st_if .f (evt_w (evw_or (evt_cmp o_eqS (ev_var (pv 1)) (ev_int (pe_gint (S_MAX_ROW S))) (nomark _)) (evw_or1 (evt_not (evt_val (ev_fn F_is_place hr_is_place (pass_x rfl rfl rfl rfl) (eva_cons (ev_var (pv 2)) eva_nil))))))) (sts_one (st_raiseI rfl rfl rfl rfl rfl (inferInstanceAs (PfOk P)) (exiB_ok (X_exi_InvalidRow S)) (by decide) (.inl rfl) (S_super S) hr_exi (S_InvalidRow S) (ev_var (pv 1)))) sts_nil)))))
theorem sc_is_next : FnScope ["places", "place"] ["places", "place"] (defScope s_is_next) := ⟨rfl, rfl, rfl, by decide +kernel, rfl, by decide +kernel, by decide +kernel⟩
theorem fn_is_next (S : SayL K mg) : Fn P w K mg base (L2.CX P w) 1 "is_next" ["places", "place"] (spP K 2 f_is_next) := by
  refine (fnP (own := []) (own' := []) (g := m_is_next) s_is_next S 5 11 rfl rfl sc_is_next (fun _ _ _ _ _ _ us hl => match us, hl with | [_, _], _ => rfl) rfl (by decide) (fun f cdv A outer s H E hr => ?_)).imp pure_imp
  have hu := hu_of hr
  exact (sts_cons (st_if .f (evt_cmp (o_eqD hr.units) (ev_var (pv 0)) (ev_tup eva_nil) (nomark _)) (sts_one (st_ret (ev_cmp o_le (ev_var (pv 1)) (ev_int pe_int) (nomark _)))) sts_nil)
      (sts_cons (st_if .f (evt_cmp o_eqS (ev_b c_len (by rfl) (S_len S) (by decide +kernel) (eva_cons (ev_var (pv 0)) eva_nil)) (ev_int pe_int) (nomark _)) (sts_one (st_ret (ev_cmp o_gt (ev_var (pv 1)) (ev_ix o_ix (ev_var (pv 0)) (ev_int pe_int) (fun _ _ => rfl)) (nomark _)))) sts_nil)
      (sts_one (st_ret (ev_chain o_lt o_lt (ev_b (c_minU rfl) (by rfl) (S_min S) (by decide +kernel) (eva_cons (ev_sl (ev_var (pv 0)) (evo_some (ev_neg (ev_int pe_int))) evo_none) eva_nil)) (ev_var (pv 1)) (ev_b (c_maxU rfl) (by rfl) (S_max S) (by decide +kernel) (eva_cons (ev_sl (ev_var (pv 0)) (evo_some (ev_neg (ev_int pe_int))) evo_none) eva_nil)))))))
theorem sc_Memory_init : FnScope ["self", "places", "index", "place"] ["self", "places"] (defScope s_Memory_init) := ⟨rfl, rfl, rfl, by decide +kernel, rfl, by decide +kernel, by decide +kernel⟩
theorem fn_Memory_init (S : SayL K mg) : MeB P w K mg base (L2.CX P w) 7 (He.ga K "Memory") "__init__" ["self", "places"] (spL K 2 f_Memory_init) := by
  have F_is_next := fn_is_next (P := P) (w := w) (base := base) S
  have F_is_place := fn_is_place (P := P) (w := w) (base := base) S
  refine meL (own := []) (own' := []) (g := m_Memory_init) s_Memory_init S 7 52 rfl rfl sc_Memory_init (fun _ _ _ _ _ _ us hl => match us, hl with | [_, _], _ => rfl) rfl (by decide) (by decide) (fun f cdv A outer s H E hr => ?_)
  have hu := hu_of hr
  have hr_exi : Room 2 _ := hr.mono (by decide)
  have hr_is_next : Room 1 _ := hr.mono (by decide)
  have hr1_is_next : Room 2 _ := hr.mono (by decide)
  have hr_is_place : Room 5 _ := hr.mono (by decide)
  have hr1_is_place : Room 6 _ := hr.mono (by decide)
  exact (sts_cons (st_if .f (evt_w (evw_or (evt_not (evt_val (ev_b (c_isK Kd.tup (by decide)) (by rfl) (S_isinstance S) (by decide +kernel) (eva_cons (ev_var (pv 1)) (eva_cons (ev_cst (pe_bltn (v := .ty "tuple") rfl (S_tuple S) (by decide +kernel) rfl) (fun _ => .ty _)) eva_nil))))) (evw_or1 (evt_cmp (o_eqD hr.units) (ev_var (pv 1)) (ev_tup eva_nil) (nomark _))))) (sts_one (st_raiseI rfl rfl rfl rfl rfl (inferInstanceAs (PfOk P)) (exiB_ok (X_exi_InvalidMemory S)) (by decide) (.inl rfl) (S_super S) hr_exi (S_InvalidMemory S) (ev_int pe_int))) sts_nil)
      (sts_cons (st_for (vs := [2, 3]) (passes_of rfl) rfl (evi_enumT (by rfl) (S_enumerate S) (eva_cons (ev_var (pv 1)) eva_nil)) ⟨(pg_tup (n := 2) rfl (pgs_cons (pg_name (i := 2) sc_Memory_init.nd rfl (by first | exact Or.inl rfl | exact Or.inr rfl)) (pgs_cons (pg_name (i := 3) sc_Memory_init.nd rfl (by first | exact Or.inl rfl | exact Or.inr rfl)) pgs_nil))), (tg_tup (tgs_cons (tg_name (by decide)) (tgs_cons (tg_name (by decide)) tgs_nil)))⟩ (sts_one (st_if .f (evt_w (evw_or (evt_not (evt_val (ev_fn F_is_place hr_is_place (pass_x rfl rfl rfl rfl) (eva_cons (ev_var (pv 3)) eva_nil)))) (evw_or1 (evt_not (evt_val (ev_fn F_is_next hr_is_next (pass_x rfl rfl rfl rfl) (eva_cons (ev_sl (ev_var (pv 1)) evo_none (evo_some (ev_var (pv 2)))) (eva_cons (ev_var (pv 3)) eva_nil)))))))) (sts_one (st_raiseI rfl rfl rfl rfl rfl (inferInstanceAs (PfOk P)) (exiB_ok (X_exi_InvalidMemory S)) (by decide) (.inl rfl) (S_super S) hr_exi (S_InvalidMemory S) (ev_var (pv 2)))) sts_nil)))
      (sts_one (st_stF .f (i := 0) (C_Memory S) (N_Memory_told S) (pv 0) (ev_var (pv 1))))))
theorem sc_moved : FnScope ["places", "place", "found", "heights", "is_up"] ["places", "place"] (defScope s_moved) := ⟨rfl, rfl, rfl, by decide +kernel, rfl, by decide +kernel, by decide +kernel⟩
theorem fn_moved (S : SayL K mg) : Fn P w K mg base (L2.CX P w) 1 "moved" ["places", "place"] (spP K 2 f_moved) := by
  refine (fnP (own := [2, 3]) (own' := [2]) (g := m_moved) s_moved S 6 12 rfl rfl sc_moved (fun _ _ _ _ _ _ us hl => match us, hl with | [_, _], _ => rfl) rfl (by decide) (fun f cdv A outer s H E hr => ?_)).imp pure_imp
  have hu := hu_of hr
  exact (sts_cons (st_if .f (evt_cmp o_eqS (ev_var (pv 1)) (ev_ix o_ix (ev_var (pv 0)) (ev_neg (ev_int pe_int)) (fun _ _ => rfl)) (nomark _)) (sts_one (st_ret (ev_tup (eva_cons (ev_var (pv 0)) (eva_cons (EvF.ev (evf_lst eva_nil)) eva_nil))))) sts_nil)
      (sts_cons (st_par3 (i := 2) (j := 3) (l := 4) (by rfl) sc_moved.nd rfl rfl rfl (by decide) (by decide) (by decide) rfl rfl rfl (evm_new (evf_ty cf_list (by rfl) (S_list S) (by decide +kernel) (eva_cons (ev_var (pv 0)) eva_nil)) (evm_new (evf_lst eva_nil) (evm_old (ev_cmp o_gt (ev_var (pv 1)) (ev_ix o_ix (ev_var (pv 0)) (ev_neg (ev_int pe_int)) (fun _ _ => rfl)) (nomark _)) evm_nil))) (by rfl))
      (sts_cons (st_if .g (evt_cmp o_eqS (ev_var (pv 4)) (ev_cmp o_eqS (ev_op o_mod (ev_b c_len (by rfl) (S_len S) (by decide +kernel) (eva_cons (ev_var (pv 2)) eva_nil)) (ev_int pe_int)) (ev_int pe_int) (nomark _)) (nomark _)) (sts_one (st_pop (by decide) (pv 2))) sts_nil)
      (sts_cons (st_while (fun ρ _ => 1000) .g (passes_of rfl) (evt_w (evw_and (evt_cmp o_gt (ev_b c_len (by rfl) (S_len S) (by decide +kernel) (eva_cons (ev_var (pv 2)) eva_nil)) (ev_int pe_int) (nomark _)) (evw_and1 (evt_if (evt_val (ev_var (pv 4))) (evt_cmp o_ge (ev_var (pv 1)) (ev_ix o_ix (ev_var (pv 2)) (ev_neg (ev_int pe_int)) (fun _ _ => rfl)) (nomark _)) (evt_cmp o_le (ev_var (pv 1)) (ev_ix o_ix (ev_var (pv 2)) (ev_neg (ev_int pe_int)) (fun _ _ => rfl)) (nomark _)))))) (sts_cons (st_app .g (by decide) (pv 3) (eva_cons (ev_b c_abs (by rfl) (S_abs S) (by decide +kernel) (eva_cons (ev_op o_sub (ev_ty c_int1 (by rfl) (S_int S) (by decide +kernel) (eva_cons (ev_ix o_ix (ev_var (pv 2)) (ev_neg (ev_int pe_int)) (fun _ _ => rfl)) eva_nil)) (ev_ty c_int1 (by rfl) (S_int S) (by decide +kernel) (eva_cons (ev_ix o_ix (ev_var (pv 2)) (ev_neg (ev_int pe_int)) (fun _ _ => rfl)) eva_nil))) eva_nil)) eva_nil))
      (sts_one (st_setO .g (i := 2) sc_moved.nd rfl (by first | exact Or.inl rfl | exact Or.inr rfl) (evf_sl (ev_var (pv 2)) evo_none (evo_some (ev_neg (ev_int pe_int))))))))
      (sts_frz (own2 := [2]) (by decide) (sts_one (st_ret (ev_tup (eva_cons (ev_tup (eva_star (ev_var (pv 2)) (eva_cons (ev_var (pv 1)) eva_nil))) (eva_cons (ev_var (pv 3)) eva_nil))))))))))
theorem sc_followed : FnScope ["places", "row", "found", "heights", "place", "closed"] ["places", "row"] (defScope s_followed) := ⟨rfl, rfl, rfl, by decide +kernel, rfl, by decide +kernel, by decide +kernel⟩
theorem fn_followed (S : SayL K mg) : Fn P w K mg base (L2.CX P w) 3 "followed" ["places", "row"] (spP K 2 f_followed) := by
  have F_moved := fn_moved (P := P) (w := w) (base := base) S
  refine (fnP (own := [3]) (own' := []) (g := m_followed) s_followed S 11 14 rfl rfl sc_followed (fun _ _ _ _ _ _ us hl => match us, hl with | [_, _], _ => rfl) rfl (by decide) (fun f cdv A outer s H E hr => ?_)).imp pure_imp
  have hu := hu_of hr
  have hr_moved : Room 1 _ := hr.mono (by decide)
  have hr1_moved : Room 2 _ := hr.mono (by decide)
  exact (sts_cons (st_par (i := 2) (j := 3) (by rfl) sc_followed.nd rfl rfl (by decide) rfl rfl (evm_old (ev_var (pv 0)) (evm_new (evf_lst eva_nil) evm_nil)) (by rfl))
      (sts_cons (st_for (vs := [4]) (passes_of rfl) rfl (evi_list (ev_var (pv 1))) ⟨(pg_name (i := 4) sc_followed.nd rfl (by first | exact Or.inl rfl | exact Or.inr rfl)), (tg_name (by decide))⟩ (sts_cons (st_asg .f (vs := [2, 5]) (ev_fn F_moved hr_moved (pass_x rfl rfl rfl rfl) (eva_cons (ev_var (pv 2)) (eva_cons (ev_var (pv 4)) eva_nil))) ⟨(pg_tup (n := 2) rfl (pgs_cons (pg_name (i := 2) sc_followed.nd rfl (by first | exact Or.inl rfl | exact Or.inr rfl)) (pgs_cons (pg_name (i := 5) sc_followed.nd rfl (by first | exact Or.inl rfl | exact Or.inr rfl)) pgs_nil))), (tg_tup (tgs_cons (tg_name (by decide)) (tgs_cons (tg_name (by decide)) tgs_nil)))⟩)
      (sts_one (st_ext .f (by decide) (pv 3) (eva_cons (ev_var (pv 5)) eva_nil)))))
      (sts_frz (own2 := []) (by decide) (sts_one (st_ret (ev_tup (eva_cons (ev_var (pv 2)) (eva_cons (ev_var (pv 3)) eva_nil))))))))
theorem sc_memory_of : FnScope ["row"] ["row"] (defScope s_memory_of) := ⟨rfl, rfl, rfl, by decide +kernel, rfl, by decide +kernel, by decide +kernel⟩
theorem fn_memory_of (S : SayL K mg) : Fn P w K mg base (L2.CX P w) 9 "memory_of" ["row"] (spP K 1 f_memory_of) := by
  have F_check_row := fn_check_row (P := P) (w := w) (base := base) S
  have F_Memory_init := fn_Memory_init (P := P) (w := w) (base := base) S
  have F_followed := fn_followed (P := P) (w := w) (base := base) S
  refine (fnP (own := []) (own' := []) (g := m_memory_of) s_memory_of S 12 15 rfl rfl sc_memory_of (fun _ _ _ _ _ _ us hl => match us, hl with | [_], _ => rfl) rfl (by decide) (fun f cdv A outer s H E hr => ?_)).imp pure_imp
  have hu := hu_of hr
  have hr_check_row : Room 7 _ := hr.mono (by decide)
  have hr1_check_row : Room 8 _ := hr.mono (by decide)
  have hr_Memory_init : Room 7 _ := hr.mono (by decide)
  have hr1_Memory_init : Room 8 _ := hr.mono (by decide)
  have hr_followed : Room 3 _ := hr.mono (by decide)
  have hr1_followed : Room 4 _ := hr.mono (by decide)
  exact (sts_cons (st_expr .f (ev_fn F_check_row hr_check_row (pass_x rfl rfl rfl rfl) (eva_cons (ev_var (pv 0)) eva_nil)))
      (sts_one (st_ret (ev_mk F_Memory_init (K_Memory S).makes (K_Memory S).kp (S_Memory S) hr1_Memory_init (pass_x rfl rfl rfl rfl) (eva_cons (ev_ix o_ix (ev_fn F_followed hr_followed (pass_x rfl rfl rfl rfl) (eva_cons (ev_tup (eva_cons (ev_int pe_int) eva_nil)) (eva_cons (ev_var (pv 0)) eva_nil))) (ev_int pe_int) (fun _ _ => rfl)) eva_nil)))))
theorem sc_countedX : FnScope ["heights", "height"] ["heights"] (defScope s_counted) := ⟨rfl, rfl, rfl, by decide +kernel, rfl, by decide +kernel, by decide +kernel⟩
theorem fn_countedX (S : SayL K mg) : Fn P w K mg base (L2.CX P w) 1 "counted" ["heights"] (spPF K 1 f_countedX) := by
  refine (fnPF (own := []) (own' := []) (g := m_countedX) s_counted S 13 16 rfl rfl sc_countedX (fun _ _ _ _ _ _ us hl => match us, hl with | [_], _ => rfl) rfl (by decide) (fun f cdv A outer s H E hr => ?_)).imp pure_impF
  have hu := hu_of hr
  exact (sts_one (st_retX (evf_dc (own := [("height", 1)]) rfl rfl sc_countedX.nd (evi_list (EvF.ev (evf_sortSet rfl (by rfl) (S_sorted S) (by rfl) (S_set S) (eva_cons (ev_var (pv 0)) eva_nil)))) (blkOk_by (N := ["heights", "height"]) (sc := defScope s_counted) (by decide +kernel)) (fun _ _ _ _ _ => (pg_name (i := 1) sc_countedX.nd rfl (by first | exact Or.inl rfl | exact Or.inr rfl))) (tg_name (by decide)) (fun _ _ _ _ _ => pts_yes) (fun _ _ _ _ _ => (ev_var (pv 1))) (fun _ _ _ _ _ => (ev_bml PySem.F.slot_list_count PySem.F.type_list_count m_count (ev_var (pv 0)) (eva_cons (ev_var (pv 1)) eva_nil))))))
theorem sc_loopsX : FnScope ["row"] ["row"] (defScope s_loops) := ⟨rfl, rfl, rfl, by decide +kernel, rfl, by decide +kernel, by decide +kernel⟩
theorem fn_loopsX (S : SayL K mg) : Fn P w K mg base (L2.CX P w) 9 "loops" ["row"] (spPF K 1 f_loopsX) := by
  have F_check_row := fn_check_row (P := P) (w := w) (base := base) S
  have F_countedX := fn_countedX (P := P) (w := w) (base := base) S
  have F_followed := fn_followed (P := P) (w := w) (base := base) S
  refine (fnPF (own := []) (own' := []) (g := m_loopsX) s_loops S 14 17 rfl rfl sc_loopsX (fun _ _ _ _ _ _ us hl => match us, hl with | [_], _ => rfl) rfl (by decide) (fun f cdv A outer s H E hr => ?_)).imp pure_impF
  have hu := hu_of hr
  have hr_check_row : Room 7 _ := hr.mono (by decide)
  have hr1_check_row : Room 8 _ := hr.mono (by decide)
  have hr_countedX : Room 1 _ := hr.mono (by decide)
  have hr1_countedX : Room 2 _ := hr.mono (by decide)
  have hr_followed : Room 3 _ := hr.mono (by decide)
  have hr1_followed : Room 4 _ := hr.mono (by decide)
  exact (sts_cons (st_expr .f (ev_fn F_check_row hr_check_row (pass_x rfl rfl rfl rfl) (eva_cons (ev_var (pv 0)) eva_nil)))
      (sts_one (st_retX (evf_fn F_countedX hr_countedX (pass_x rfl rfl rfl rfl) (eva_cons (ev_ix o_ix (ev_fn F_followed hr_followed (pass_x rfl rfl rfl rfl) (eva_cons (ev_tup (eva_cons (ev_int pe_int) eva_nil)) (eva_cons (ev_var (pv 0)) eva_nil))) (ev_int pe_int) (fun _ _ => rfl)) eva_nil)))))
theorem sc_L_equal : FnScope ["_law_actual", "_law_expected", "_law_k"] ["_law_actual", "_law_expected"] (defScope s_L_equal) := ⟨rfl, rfl, rfl, by decide +kernel, rfl, by decide +kernel, by decide +kernel⟩
theorem fr_L_equal (S : SayL K mg) (n : Nat) : Fn P w K mg base (L2.CX P w) (2 + 2 * n) "_law_equal" ["_law_actual", "_law_expected"] (spP K 2 (r_L_equal n)) := by
  induction n with
  | zero => exact fn_vac (k := 1) s_L_equal S 20 23 rfl rfl sc_L_equal (fun _ _ _ _ _ _ us hl => match us, hl with | [_, _], _ => rfl) spP_no
  | succ n ih =>
    have F_L_equal := ih
    refine fnP (k := 2 + 2 * n + 1) (own := []) (own' := []) (g := m_L_equal (r_L_equal n)) s_L_equal S 20 23 rfl rfl sc_L_equal (fun _ _ _ _ _ _ us hl => match us, hl with | [_, _], _ => rfl) rfl (by decide) (fun f cdv A outer s H E hr => ?_)
    have hr_L_equal : Room (2 + 2 * n) _ := hr.mono (by omega)
    have hu := hu_of hr
    exact (sts_cons (st_if .f (evt_isN (ev_var (pv 1))) (sts_one (st_ret (ev_isN (ev_var (pv 0))))) sts_nil)
      (sts_cons (st_if .f (evt_val (ev_b (c_isK Kd.bl (by decide)) (by rfl) (S_isinstance S) (by decide +kernel) (eva_cons (ev_var (pv 1)) (eva_cons (ev_cst (pe_bltn (v := .ty "bool") rfl (S_bool S) (by decide +kernel) rfl) (fun _ => .ty _)) eva_nil)))) (sts_one (st_ret (ev_and (ev_b (c_isK Kd.bl (by decide)) (by rfl) (S_isinstance S) (by decide +kernel) (eva_cons (ev_var (pv 0)) (eva_cons (ev_cst (pe_bltn (v := .ty "bool") rfl (S_bool S) (by decide +kernel) rfl) (fun _ => .ty _)) eva_nil))) (ev_one (ev_cmp (o_eqD hr.units) (ev_var (pv 0)) (ev_var (pv 1)) (nomark _)))))) sts_nil)
      (sts_cons (st_if .f (evt_val (ev_b (c_isK Kd.int (by decide)) (by rfl) (S_isinstance S) (by decide +kernel) (eva_cons (ev_var (pv 1)) (eva_cons (ev_cst (pe_bltn (v := .ty "int") rfl (S_int S) (by decide +kernel) rfl) (fun _ => .ty _)) eva_nil)))) (sts_one (st_ret (ev_and (ev_b (c_isK Kd.int (by decide)) (by rfl) (S_isinstance S) (by decide +kernel) (eva_cons (ev_var (pv 0)) (eva_cons (ev_cst (pe_bltn (v := .ty "int") rfl (S_int S) (by decide +kernel) rfl) (fun _ => .ty _)) eva_nil))) (ev_and (ev_not (ev_b (c_isK Kd.bl (by decide)) (by rfl) (S_isinstance S) (by decide +kernel) (eva_cons (ev_var (pv 0)) (eva_cons (ev_cst (pe_bltn (v := .ty "bool") rfl (S_bool S) (by decide +kernel) rfl) (fun _ => .ty _)) eva_nil)))) (ev_one (ev_cmp (o_eqD hr.units) (ev_var (pv 0)) (ev_var (pv 1)) (nomark _))))))) sts_nil)
      (sts_cons (st_if .f (evt_val (ev_b (c_isK Kd.str (by decide)) (by rfl) (S_isinstance S) (by decide +kernel) (eva_cons (ev_var (pv 1)) (eva_cons (ev_cst (pe_bltn (v := .ty "str") rfl (S_str S) (by decide +kernel) rfl) (fun _ => .ty _)) eva_nil)))) (sts_one (st_ret (ev_and (ev_b (c_isK Kd.str (by decide)) (by rfl) (S_isinstance S) (by decide +kernel) (eva_cons (ev_var (pv 0)) (eva_cons (ev_cst (pe_bltn (v := .ty "str") rfl (S_str S) (by decide +kernel) rfl) (fun _ => .ty _)) eva_nil))) (ev_one (ev_cmp (o_eqD hr.units) (ev_var (pv 0)) (ev_var (pv 1)) (nomark _)))))) sts_nil)
      (sts_cons (st_if .f (evt_cmp o_neS (ev_b (c_isK Kd.tup (by decide)) (by rfl) (S_isinstance S) (by decide +kernel) (eva_cons (ev_var (pv 1)) (eva_cons (ev_cst (pe_bltn (v := .ty "tuple") rfl (S_tuple S) (by decide +kernel) rfl) (fun _ => .ty _)) eva_nil))) (ev_b (c_isK Kd.tup (by decide)) (by rfl) (S_isinstance S) (by decide +kernel) (eva_cons (ev_var (pv 0)) (eva_cons (ev_cst (pe_bltn (v := .ty "tuple") rfl (S_tuple S) (by decide +kernel) rfl) (fun _ => .ty _)) eva_nil))) (nomark _)) (sts_one (st_ret (ev_bl pe_bl))) sts_nil)
      (sts_cons (st_if .f (evt_cmp o_neS (ev_b (c_isK Kd.lst (by decide)) (by rfl) (S_isinstance S) (by decide +kernel) (eva_cons (ev_var (pv 1)) (eva_cons (ev_cst (pe_bltn (v := .ty "list") rfl (S_list S) (by decide +kernel) rfl) (fun _ => .ty _)) eva_nil))) (ev_b (c_isK Kd.lst (by decide)) (by rfl) (S_isinstance S) (by decide +kernel) (eva_cons (ev_var (pv 0)) (eva_cons (ev_cst (pe_bltn (v := .ty "list") rfl (S_list S) (by decide +kernel) rfl) (fun _ => .ty _)) eva_nil))) (nomark _)) (sts_one (st_ret (ev_bl pe_bl))) sts_nil)
      (sts_cons (st_if .f (evt_cmp o_neS (ev_b c_len (by rfl) (S_len S) (by decide +kernel) (eva_cons (ev_var (pv 0)) eva_nil)) (ev_b c_len (by rfl) (S_len S) (by decide +kernel) (eva_cons (ev_var (pv 1)) eva_nil)) (nomark _)) (sts_one (st_ret (ev_bl pe_bl))) sts_nil)
      (sts_one (st_ret (ev_b (c_all rfl) (by rfl) (S_all S) (by decide +kernel) (eva_cons (EvF.ev (evf_lc (own := [("_law_k", 2)]) rfl rfl sc_L_equal.nd (evi_of (evi_rng1 (by rfl) (S_range S) (eva_cons (ev_b c_len (by rfl) (S_len S) (by decide +kernel) (eva_cons (ev_var (pv 1)) eva_nil)) eva_nil))) (blkOk_by (N := ["_law_actual", "_law_expected", "_law_k"]) (sc := defScope s_L_equal) (by decide +kernel)) (fun _ _ _ _ _ => (pg_name (i := 2) sc_L_equal.nd rfl (by first | exact Or.inl rfl | exact Or.inr rfl))) (tg_name (by decide)) (fun _ _ _ _ _ => pts_yes) (fun _ _ _ _ _ => (ev_fn F_L_equal hr_L_equal pass_no (eva_cons (ev_ix o_ix (ev_var (pv 0)) (ev_var (pv 2)) (fun _ _ => rfl)) (eva_cons (ev_ix o_ix (ev_var (pv 1)) (ev_var (pv 2)) (fun _ _ => rfl)) eva_nil)))))) eva_nil)))))))))))
theorem fn_L_equal (S : SayL K mg) : Fn P w K mg base (L2.CX P w) 18 "_law_equal" ["_law_actual", "_law_expected"] (spP K 2 f_L_equal) := ((fr_L_equal S 8).mono (by decide)).imp pure_imp
theorem sc_L_told : FnScope ["_law_heights", "_law_height"] ["_law_heights"] (defScope s_L_told) := ⟨rfl, rfl, rfl, by decide +kernel, rfl, by decide +kernel, by decide +kernel⟩
theorem fn_L_told (S : SayL K mg) : Fn P w K mg base (L2.CX P w) 1 "_law_told" ["_law_heights"] (spP K 1 f_L_told) := by
  refine (fnP (own := []) (own' := []) (g := m_L_told) s_L_told S 22 25 rfl rfl sc_L_told (fun _ _ _ _ _ _ us hl => match us, hl with | [_], _ => rfl) rfl (by decide) (fun f cdv A outer s H E hr => ?_)).imp pure_imp
  have hu := hu_of hr
  exact (sts_one (st_ret (EvF.ev (evf_lc (own := [("_law_height", 1)]) rfl rfl sc_L_told.nd (evi_list (EvF.ev (evf_sortSet rfl (by rfl) (S_sorted S) (by rfl) (S_set S) (eva_cons (ev_var (pv 0)) eva_nil)))) (blkOk_by (N := ["_law_heights", "_law_height"]) (sc := defScope s_L_told) (by decide +kernel)) (fun _ _ _ _ _ => (pg_name (i := 1) sc_L_told.nd rfl (by first | exact Or.inl rfl | exact Or.inr rfl))) (tg_name (by decide)) (fun _ _ _ _ _ => pts_yes) (fun _ _ _ _ _ => (ev_tup (eva_cons (ev_var (pv 1)) (eva_cons (ev_bml PySem.F.slot_list_count PySem.F.type_list_count m_count (ev_var (pv 0)) (eva_cons (ev_var (pv 1)) eva_nil)) eva_nil))))))))
theorem sc_L_steps : FnScope ["_law_old", "_law_new"] ["_law_old", "_law_new"] (defScope s_L_steps) := ⟨rfl, rfl, rfl, by decide +kernel, rfl, by decide +kernel, by decide +kernel⟩
theorem fn_L_steps (S : SayL K mg) : Fn P w K mg base (L2.CX P w) 1 "_law_steps" ["_law_old", "_law_new"] (spP K 2 f_L_steps) := by
  refine (fnP (own := []) (own' := []) (g := m_L_steps) s_L_steps S 23 26 rfl rfl sc_L_steps (fun _ _ _ _ _ _ us hl => match us, hl with | [_, _], _ => rfl) rfl (by decide) (fun f cdv A outer s H E hr => ?_)).imp pure_imp
  have hu := hu_of hr
  exact (sts_one (st_ret (ev_if (evt_cmp o_gt (ev_var (pv 1)) (ev_var (pv 0)) (nomark _)) (EvF.ev (evf_rg2 rfl (by rfl) (S_list S) (by rfl) (S_range S) (ev_op o_add (ev_var (pv 0)) (ev_int pe_int)) (ev_op o_add (ev_var (pv 1)) (ev_int pe_int)))) (EvF.ev (evf_rg3 rfl (by rfl) (S_list S) (by rfl) (S_range S) (eva_cons (ev_op o_sub (ev_var (pv 0)) (ev_int pe_int)) (eva_cons (ev_op o_sub (ev_var (pv 1)) (ev_int pe_int)) (eva_cons (ev_op o_sub (ev_int pe_int) (ev_int pe_int)) eva_nil))))))))
theorem sc_L_memory : FnScope ["_law_row_here", "_law_places", "_law_found", "_law_at", "_law_is_low", "_law_left", "_law_place", "_law_last", "_law_k"] ["_law_row_here"] (defScope s_L_memory) := ⟨rfl, rfl, rfl, by decide +kernel, rfl, by decide +kernel, by decide +kernel⟩
theorem fn_L_memory (S : SayL K mg) : Fn P w K mg base (L2.CX P w) 1 "_law_memory" ["_law_row_here"] (spP K 1 f_L_memory) := by
  refine (fnP (own := [2]) (own' := [2]) (g := m_L_memory) s_L_memory S 24 27 rfl rfl sc_L_memory (fun _ _ _ _ _ _ us hl => match us, hl with | [_], _ => rfl) rfl (by decide) (fun f cdv A outer s H E hr => ?_)).imp pure_imp
  have hu := hu_of hr
  exact (sts_cons (st_parN (is := [1, 2, 3, 4]) rfl (pgs_cons (pg_name (i := 1) sc_L_memory.nd rfl (by first | exact Or.inl rfl | exact Or.inr rfl)) (pgs_cons (pg_name (i := 2) sc_L_memory.nd rfl (by first | exact Or.inl rfl | exact Or.inr rfl)) (pgs_cons (pg_name (i := 3) sc_L_memory.nd rfl (by first | exact Or.inl rfl | exact Or.inr rfl)) (pgs_cons (pg_name (i := 4) sc_L_memory.nd rfl (by first | exact Or.inl rfl | exact Or.inr rfl)) pgs_nil)))) (evm_old (ev_op o_cat (EvF.ev (evf_lst (eva_cons (ev_int pe_int) eva_nil))) (ev_var (pv 0))) (evm_new (evf_lst eva_nil) (evm_old (ev_int pe_int) (evm_old (ev_bl pe_bl) evm_nil)))) rfl (by decide))
      (sts_one (st_while (fun ρ _ => 1000) .f (passes_of rfl) (evt_val (ev_bl pe_bl)) (sts_cons (st_set .f (i := 5) sc_L_memory.nd rfl (by first | exact Or.inl rfl | exact Or.inr rfl) (ev_sl (ev_var (pv 1)) (evo_some (ev_var (pv 3))) evo_none))
      (sts_cons (st_set .f (i := 6) sc_L_memory.nd rfl (by first | exact Or.inl rfl | exact Or.inr rfl) (ev_if (evt_val (ev_var (pv 4))) (ev_b (c_minU rfl) (by rfl) (S_min S) (by decide +kernel) (eva_cons (ev_var (pv 5)) eva_nil)) (ev_b (c_maxU rfl) (by rfl) (S_max S) (by decide +kernel) (eva_cons (ev_var (pv 5)) eva_nil))))
      (sts_cons (st_set .f (i := 7) sc_L_memory.nd rfl (by first | exact Or.inl rfl | exact Or.inr rfl) (ev_ix o_ix (EvF.ev (evf_lc (own := [("_law_k", 8)]) rfl rfl sc_L_memory.nd (evi_of (evi_rng1 (by rfl) (S_range S) (eva_cons (ev_b c_len (by rfl) (S_len S) (by decide +kernel) (eva_cons (ev_var (pv 5)) eva_nil)) eva_nil))) (blkOk_by (N := ["_law_row_here", "_law_places", "_law_found", "_law_at", "_law_is_low", "_law_left", "_law_place", "_law_last", "_law_k"]) (sc := defScope s_L_memory) (by decide +kernel)) (fun _ _ _ _ _ => (pg_name (i := 8) sc_L_memory.nd rfl (by first | exact Or.inl rfl | exact Or.inr rfl))) (tg_name (by decide)) (fun _ _ _ _ _ => (pts_of (evt_cmp o_eqS (ev_ix o_ix (ev_var (pv 5)) (ev_var (pv 8)) (fun _ _ => rfl)) (ev_var (pv 6)) (nomark _)))) (fun _ _ _ _ _ => (ev_var (pv 8))))) (ev_neg (ev_int pe_int)) (fun _ _ => rfl)))
      (sts_cons (st_app .f (by decide) (pv 2) (eva_cons (ev_var (pv 6)) eva_nil))
      (sts_cons (st_if .f (evt_cmp o_eqS (ev_var (pv 7)) (ev_op o_sub (ev_b c_len (by rfl) (S_len S) (by decide +kernel) (eva_cons (ev_var (pv 5)) eva_nil)) (ev_int pe_int)) (nomark _)) (sts_one (st_ret (ev_ty c_tup (by rfl) (S_tuple S) (by decide +kernel) (eva_cons (ev_var (pv 2)) eva_nil)))) sts_nil)
      (sts_one (st_par (i := 3) (j := 4) (by rfl) sc_L_memory.nd rfl rfl (by decide) rfl rfl (evm_old (ev_op o_add (ev_var (pv 3)) (ev_var (pv 7))) (evm_old (ev_not (ev_var (pv 4))) evm_nil)) (by rfl)))))))))))
theorem sc_L_loops : FnScope ["_law_row_here", "_law_at", "_law_passed", "_law_before", "_law_found", "_law_place", "_law_step", "_law_after"] ["_law_row_here"] (defScope s_L_loops) := ⟨rfl, rfl, rfl, by decide +kernel, rfl, by decide +kernel, by decide +kernel⟩
theorem fn_L_loops (S : SayL K mg) : Fn P w K mg base (L2.CX P w) 3 "_law_loops" ["_law_row_here"] (spP K 1 f_L_loops) := by
  have F_L_steps := fn_L_steps (P := P) (w := w) (base := base) S
  have F_L_memory := fn_L_memory (P := P) (w := w) (base := base) S
  refine (fnP (own := [4]) (own' := [4]) (g := m_L_loops) s_L_loops S 25 28 rfl rfl sc_L_loops (fun _ _ _ _ _ _ us hl => match us, hl with | [_], _ => rfl) rfl (by decide) (fun f cdv A outer s H E hr => ?_)).imp pure_imp
  have hu := hu_of hr
  have hr_L_steps : Room 1 _ := hr.mono (by decide)
  have hr1_L_steps : Room 2 _ := hr.mono (by decide)
  have hr_L_memory : Room 1 _ := hr.mono (by decide)
  have hr1_L_memory : Room 2 _ := hr.mono (by decide)
  exact (sts_cons (st_parN (is := [1, 2, 3, 4]) rfl (pgs_cons (pg_name (i := 1) sc_L_loops.nd rfl (by first | exact Or.inl rfl | exact Or.inr rfl)) (pgs_cons (pg_name (i := 2) sc_L_loops.nd rfl (by first | exact Or.inl rfl | exact Or.inr rfl)) (pgs_cons (pg_name (i := 3) sc_L_loops.nd rfl (by first | exact Or.inl rfl | exact Or.inr rfl)) (pgs_cons (pg_name (i := 4) sc_L_loops.nd rfl (by first | exact Or.inl rfl | exact Or.inr rfl)) pgs_nil)))) (evm_old (ev_int pe_int) (evm_old (EvF.ev (evf_lst eva_nil)) (evm_old (ev_tup (eva_cons (ev_int pe_int) eva_nil)) (evm_new (evf_lst eva_nil) evm_nil)))) rfl (by decide))
      (sts_cons (st_for (vs := [5]) (passes_of rfl) rfl (evi_list (ev_var (pv 0))) ⟨(pg_name (i := 5) sc_L_loops.nd rfl (by first | exact Or.inl rfl | exact Or.inr rfl)), (tg_name (by decide))⟩ (sts_cons (st_for (vs := [6]) (passes_of rfl) rfl (evi_list (ev_fn F_L_steps hr_L_steps (pass_x rfl rfl rfl rfl) (eva_cons (ev_var (pv 1)) (eva_cons (ev_var (pv 5)) eva_nil)))) ⟨(pg_name (i := 6) sc_L_loops.nd rfl (by first | exact Or.inl rfl | exact Or.inr rfl)), (tg_name (by decide))⟩ (sts_cons (st_set .f (i := 2) sc_L_loops.nd rfl (by first | exact Or.inl rfl | exact Or.inr rfl) (ev_op o_cat (ev_ty c_list (by rfl) (S_list S) (by decide +kernel) (eva_cons (ev_if (evt_cmp o_eqS (ev_ix o_ix (ev_var (pv 3)) (ev_int pe_int) (fun _ _ => rfl)) (ev_int pe_int) (nomark _)) (ev_sl (ev_var (pv 3)) (evo_some (ev_int pe_int)) evo_none) (ev_var (pv 3))) eva_nil)) (EvF.ev (evf_lst (eva_cons (ev_var (pv 6)) eva_nil)))))
      (sts_cons (st_set .f (i := 7) sc_L_loops.nd rfl (by first | exact Or.inl rfl | exact Or.inr rfl) (ev_fn F_L_memory hr_L_memory (pass_x rfl rfl rfl rfl) (eva_cons (ev_var (pv 2)) eva_nil)))
      (sts_cons (st_if .f (evt_cmp o_eqS (ev_b c_len (by rfl) (S_len S) (by decide +kernel) (eva_cons (ev_var (pv 7)) eva_nil)) (ev_op o_sub (ev_b c_len (by rfl) (S_len S) (by decide +kernel) (eva_cons (ev_var (pv 3)) eva_nil)) (ev_int pe_int)) (nomark _)) (sts_one (st_app .f (by decide) (pv 4) (eva_cons (ev_b c_abs (by rfl) (S_abs S) (by decide +kernel) (eva_cons (ev_op o_sub (ev_ix o_ix (ev_var (pv 3)) (ev_neg (ev_int pe_int)) (fun _ _ => rfl)) (ev_ix o_ix (ev_var (pv 3)) (ev_neg (ev_int pe_int)) (fun _ _ => rfl))) eva_nil)) eva_nil))) sts_nil)
      (sts_cons (st_if .f (evt_cmp o_eqS (ev_b c_len (by rfl) (S_len S) (by decide +kernel) (eva_cons (ev_var (pv 7)) eva_nil)) (ev_op o_sub (ev_b c_len (by rfl) (S_len S) (by decide +kernel) (eva_cons (ev_var (pv 3)) eva_nil)) (ev_int pe_int)) (nomark _)) (sts_one (st_app .f (by decide) (pv 4) (eva_cons (ev_int pe_int) eva_nil))) sts_nil)
      (sts_one (st_set .f (i := 3) sc_L_loops.nd rfl (by first | exact Or.inl rfl | exact Or.inr rfl) (ev_var (pv 7)))))))))
      (sts_one (st_set .f (i := 1) sc_L_loops.nd rfl (by first | exact Or.inl rfl | exact Or.inr rfl) (ev_var (pv 5))))))
      (sts_one (st_ret (ev_var (pv 4))))))
theorem sc_L_pairs : FnScope ["_law_found", "_law_key"] ["_law_found"] (defScope s_L_pairs) := ⟨rfl, rfl, rfl, by decide +kernel, rfl, by decide +kernel, by decide +kernel⟩
theorem fn_L_pairs (S : SayL K mg) : Fn P w K mg base (L2.CX P w) 1 "_law_pairs" ["_law_found"] (spP K 1 f_L_pairs) := by
  refine (fnP (own := []) (own' := []) (g := m_L_pairs) s_L_pairs S 21 24 rfl rfl sc_L_pairs (fun _ _ _ _ _ _ us hl => match us, hl with | [_], _ => rfl) rfl (by decide) (fun f cdv A outer s H E hr => ?_)).imp pure_imp
  have hu := hu_of hr
  exact (sts_one (st_ret (ev_if (evt_val (ev_b (c_isK Kd.dct (by decide)) (by rfl) (S_isinstance S) (by decide +kernel) (eva_cons (ev_var (pv 0)) (eva_cons (ev_cst (pe_bltn (v := .ty "dict") rfl (S_dict S) (by decide +kernel) rfl) (fun _ => .ty _)) eva_nil)))) (EvF.ev (evf_lcK (own := [("_law_key", 1)]) rfl rfl sc_L_pairs.nd (dw_keys (pv 0)) (blkOk_by (N := ["_law_found", "_law_key"]) (sc := defScope s_L_pairs) (by decide +kernel)) (fun _ _ _ _ _ => (pg_name (i := 1) sc_L_pairs.nd rfl (by first | exact Or.inl rfl | exact Or.inr rfl))) (tg_name (by decide)) (fun _ _ _ _ _ => pts_yes) (fun _ _ _ _ _ => (ev_tup (eva_cons (ev_var (pv 1)) (eva_cons (ev_dget hu (ev_var (pv 0)) (ev_var (pv 1)) (fun _ _ => rfl)) eva_nil)))))) (ev_non pe_non))))
theorem sc_swings_of : FnScope ["places", "one", "other"] ["places"] (defScope s_swings_of) := ⟨rfl, rfl, rfl, by decide +kernel, rfl, by decide +kernel, by decide +kernel⟩
theorem fn_swings_of (S : SayL K mg) : Fn P w K mg base (L2.CX P w) 1 "swings_of" ["places"] (spP K 1 f_swings_of) := by
  refine (fnP (own := []) (own' := []) (g := m_swings_of) s_swings_of S 15 18 rfl rfl sc_swings_of (fun _ _ _ _ _ _ us hl => match us, hl with | [_], _ => rfl) rfl (by decide) (fun f cdv A outer s H E hr => ?_)).imp pure_imp
  have hu := hu_of hr
  exact (sts_one (st_ret (EvF.ev (evf_lc (own := [("one", 1), ("other", 2)]) rfl rfl sc_swings_of.nd (evi_zip (by rfl) (S_zip S) (eva_cons (ev_var (pv 0)) (eva_cons (ev_sl (ev_var (pv 0)) (evo_some (ev_int pe_int)) evo_none) eva_nil))) (blkOk_by (N := ["places", "one", "other"]) (sc := defScope s_swings_of) (by decide +kernel)) (fun _ _ _ _ _ => (pg_tup (n := 2) rfl (pgs_cons (pg_name (i := 1) sc_swings_of.nd rfl (by first | exact Or.inl rfl | exact Or.inr rfl)) (pgs_cons (pg_name (i := 2) sc_swings_of.nd rfl (by first | exact Or.inl rfl | exact Or.inr rfl)) pgs_nil)))) (tg_tup (tgs_cons (tg_name (by decide)) (tgs_cons (tg_name (by decide)) tgs_nil))) (fun _ _ _ _ _ => pts_yes) (fun _ _ _ _ _ => (ev_b c_abs (by rfl) (S_abs S) (by decide +kernel) (eva_cons (ev_op o_sub (ev_var (pv 2)) (ev_var (pv 1))) eva_nil)))))))
theorem sc_Memory_places : FnScope ["self"] ["self"] (defScope s_Memory_places) := ⟨rfl, rfl, rfl, by decide +kernel, rfl, by decide +kernel, by decide +kernel⟩
theorem fn_Memory_places (S : SayL K mg) : PrB P w K mg base (L2.CX P w) 1 (He.ga K "Memory") "places" ["self"] (spP K 1 f_Memory_places) := by
  refine (prP (own := []) (own' := []) (g := m_Memory_places) s_Memory_places S 0 rfl sc_Memory_places (fun _ _ _ _ _ _ us hl => match us, hl with | [_], _ => rfl) rfl (by decide) (fun f cdv A outer s H E hr => ?_)).imp pure_imp
  have hu := hu_of hr
  exact (sts_one (st_ret (ev_fld (C_Memory S) (N_Memory_told S) (ev_var (pv 0)))))
theorem sc_open_swings : FnScope ["memory"] ["memory"] (defScope s_open_swings) := ⟨rfl, rfl, rfl, by decide +kernel, rfl, by decide +kernel, by decide +kernel⟩
theorem fn_open_swings (S : SayL K mg) : Fn P w K mg base (L2.CX P w) 3 "open_swings" ["memory"] (spP K 1 f_open_swings) := by
  have F_swings_of := fn_swings_of (P := P) (w := w) (base := base) S
  have F_Memory_places := fn_Memory_places (P := P) (w := w) (base := base) S
  refine (fnP (own := []) (own' := []) (g := m_open_swings) s_open_swings S 16 19 rfl rfl sc_open_swings (fun _ _ _ _ _ _ us hl => match us, hl with | [_], _ => rfl) rfl (by decide) (fun f cdv A outer s H E hr => ?_)).imp pure_imp
  have hu := hu_of hr
  have hr_swings_of : Room 1 _ := hr.mono (by decide)
  have hr1_swings_of : Room 2 _ := hr.mono (by decide)
  have hr_Memory_places : Room 1 _ := hr.mono (by decide)
  have hr1_Memory_places : Room 2 _ := hr.mono (by decide)
  exact (sts_one (st_ret (ev_fn F_swings_of hr_swings_of (pass_x rfl rfl rfl rfl) (eva_cons (ev_pr (F_Memory_places.imp calm_imp) (C_Memory S) hr1_Memory_places pass_no (ev_var (pv 0)) calm_ne) eva_nil))))
theorem sc_swings_ofX : FnScope ["places", "one", "other"] ["places"] (defScope s_swings_of) := ⟨rfl, rfl, rfl, by decide +kernel, rfl, by decide +kernel, by decide +kernel⟩
theorem fn_swings_ofX (S : SayL K mg) : Fn P w K mg base (L2.CX P w) 1 "swings_of" ["places"] (spPF K 1 f_swings_ofX) := by
  refine (fnPF (own := []) (own' := []) (g := m_swings_ofX) s_swings_of S 15 18 rfl rfl sc_swings_ofX (fun _ _ _ _ _ _ us hl => match us, hl with | [_], _ => rfl) rfl (by decide) (fun f cdv A outer s H E hr => ?_)).imp pure_impF
  have hu := hu_of hr
  exact (sts_one (st_retX (evf_lc (own := [("one", 1), ("other", 2)]) rfl rfl sc_swings_ofX.nd (evi_zip (by rfl) (S_zip S) (eva_cons (ev_var (pv 0)) (eva_cons (ev_sl (ev_var (pv 0)) (evo_some (ev_int pe_int)) evo_none) eva_nil))) (blkOk_by (N := ["places", "one", "other"]) (sc := defScope s_swings_of) (by decide +kernel)) (fun _ _ _ _ _ => (pg_tup (n := 2) rfl (pgs_cons (pg_name (i := 1) sc_swings_ofX.nd rfl (by first | exact Or.inl rfl | exact Or.inr rfl)) (pgs_cons (pg_name (i := 2) sc_swings_ofX.nd rfl (by first | exact Or.inl rfl | exact Or.inr rfl)) pgs_nil)))) (tg_tup (tgs_cons (tg_name (by decide)) (tgs_cons (tg_name (by decide)) tgs_nil))) (fun _ _ _ _ _ => pts_yes) (fun _ _ _ _ _ => (ev_b c_abs (by rfl) (S_abs S) (by decide +kernel) (eva_cons (ev_op o_sub (ev_var (pv 2)) (ev_var (pv 1))) eva_nil))))))
theorem sc_open_swingsX : FnScope ["memory"] ["memory"] (defScope s_open_swings) := ⟨rfl, rfl, rfl, by decide +kernel, rfl, by decide +kernel, by decide +kernel⟩
theorem fn_open_swingsX (S : SayL K mg) : Fn P w K mg base (L2.CX P w) 3 "open_swings" ["memory"] (spPF K 1 f_open_swingsX) := by
  have F_swings_ofX := fn_swings_ofX (P := P) (w := w) (base := base) S
  have F_Memory_places := fn_Memory_places (P := P) (w := w) (base := base) S
  refine (fnPF (own := []) (own' := []) (g := m_open_swingsX) s_open_swings S 16 19 rfl rfl sc_open_swingsX (fun _ _ _ _ _ _ us hl => match us, hl with | [_], _ => rfl) rfl (by decide) (fun f cdv A outer s H E hr => ?_)).imp pure_impF
  have hu := hu_of hr
  have hr_swings_ofX : Room 1 _ := hr.mono (by decide)
  have hr1_swings_ofX : Room 2 _ := hr.mono (by decide)
  have hr_Memory_places : Room 1 _ := hr.mono (by decide)
  have hr1_Memory_places : Room 2 _ := hr.mono (by decide)
  exact (sts_one (st_retX (evf_fn F_swings_ofX hr_swings_ofX (pass_x rfl rfl rfl rfl) (eva_cons (ev_pr (F_Memory_places.imp calm_imp) (C_Memory S) hr1_Memory_places pass_no (ev_var (pv 0)) calm_ne) eva_nil))))
theorem sc_counted : FnScope ["heights", "height"] ["heights"] (defScope s_counted) := ⟨rfl, rfl, rfl, by decide +kernel, rfl, by decide +kernel, by decide +kernel⟩
theorem fn_counted (S : SayL K mg) : Fn P w K mg base (L2.CX P w) 1 "counted" ["heights"] (spP K 1 f_counted) := by
  refine (fnP (own := []) (own' := []) (g := m_counted) s_counted S 13 16 rfl rfl sc_counted (fun _ _ _ _ _ _ us hl => match us, hl with | [_], _ => rfl) rfl (by decide) (fun f cdv A outer s H E hr => ?_)).imp pure_imp
  have hu := hu_of hr
  exact (sts_one (st_ret (EvF.ev (evf_dc (own := [("height", 1)]) rfl rfl sc_counted.nd (evi_list (EvF.ev (evf_sortSet rfl (by rfl) (S_sorted S) (by rfl) (S_set S) (eva_cons (ev_var (pv 0)) eva_nil)))) (blkOk_by (N := ["heights", "height"]) (sc := defScope s_counted) (by decide +kernel)) (fun _ _ _ _ _ => (pg_name (i := 1) sc_counted.nd rfl (by first | exact Or.inl rfl | exact Or.inr rfl))) (tg_name (by decide)) (fun _ _ _ _ _ => pts_yes) (fun _ _ _ _ _ => (ev_var (pv 1))) (fun _ _ _ _ _ => (ev_bml PySem.F.slot_list_count PySem.F.type_list_count m_count (ev_var (pv 0)) (eva_cons (ev_var (pv 1)) eva_nil)))))))
theorem sc_loops : FnScope ["row"] ["row"] (defScope s_loops) := ⟨rfl, rfl, rfl, by decide +kernel, rfl, by decide +kernel, by decide +kernel⟩
theorem fn_loops (S : SayL K mg) : Fn P w K mg base (L2.CX P w) 9 "loops" ["row"] (spP K 1 f_loops) := by
  have F_check_row := fn_check_row (P := P) (w := w) (base := base) S
  have F_counted := fn_counted (P := P) (w := w) (base := base) S
  have F_followed := fn_followed (P := P) (w := w) (base := base) S
  refine (fnP (own := []) (own' := []) (g := m_loops) s_loops S 14 17 rfl rfl sc_loops (fun _ _ _ _ _ _ us hl => match us, hl with | [_], _ => rfl) rfl (by decide) (fun f cdv A outer s H E hr => ?_)).imp pure_imp
  have hu := hu_of hr
  have hr_check_row : Room 7 _ := hr.mono (by decide)
  have hr1_check_row : Room 8 _ := hr.mono (by decide)
  have hr_counted : Room 1 _ := hr.mono (by decide)
  have hr1_counted : Room 2 _ := hr.mono (by decide)
  have hr_followed : Room 3 _ := hr.mono (by decide)
  have hr1_followed : Room 4 _ := hr.mono (by decide)
  exact (sts_cons (st_expr .f (ev_fn F_check_row hr_check_row (pass_x rfl rfl rfl rfl) (eva_cons (ev_var (pv 0)) eva_nil)))
      (sts_one (st_ret (ev_fn F_counted hr_counted (pass_x rfl rfl rfl rfl) (eva_cons (ev_ix o_ix (ev_fn F_followed hr_followed (pass_x rfl rfl rfl rfl) (eva_cons (ev_tup (eva_cons (ev_int pe_int) eva_nil)) (eva_cons (ev_var (pv 0)) eva_nil))) (ev_int pe_int) (fun _ _ => rfl)) eva_nil)))))
theorem sc_law : FnScope ["_law_script", "_law_d", "_law_step", "_law_row_here", "_law_found", "_law_memory_here", "_law_places", "_law_heights", "_law_k"] ["_law_script"] (defScope s_law) := ⟨rfl, rfl, rfl, by decide +kernel, rfl, by decide +kernel, by decide +kernel⟩
theorem fn_law (S : SayL K mg) (TB : LamX.TabB base mg (He.cT K ("law", none)).1 (tabP K)) (hlaw : ∀ a0 st, stOk st = true → ∃ R', m_law (lawStart 9) [.lst (st.map D.int), .tab a0] = .rt (.bl true) R') : Fn P w K mg base CX0 20 "law" ["_law_script"] (spLawT K) := by
  have F_L_random := fn_L_random (P := P) (w := w) (base := base) S
  have F_L_row := fn_L_row (P := P) (w := w) (base := base) S
  have F_L_below := fn_L_below (P := P) (w := w) (base := base) S
  have F_memory_of := fn_memory_of (P := P) (w := w) (base := base) S
  have F_loopsX := fn_loopsX (P := P) (w := w) (base := base) S
  have F_L_equal := fn_L_equal (P := P) (w := w) (base := base) S
  have F_L_told := fn_L_told (P := P) (w := w) (base := base) S
  have F_L_loops := fn_L_loops (P := P) (w := w) (base := base) S
  have F_L_pairs := fn_L_pairs (P := P) (w := w) (base := base) S
  have F_L_memory := fn_L_memory (P := P) (w := w) (base := base) S
  have F_open_swings := fn_open_swings (P := P) (w := w) (base := base) S
  have F_open_swingsX := fn_open_swingsX (P := P) (w := w) (base := base) S
  have F_loops := fn_loops (P := P) (w := w) (base := base) S
  refine law_mk (k := 19) (n := 9) (salt := 18) (own := [4]) (own' := [4]) (g := (fun _ => m_law)) s_law S 26 29 rfl rfl sc_law (fun _ _ _ _ _ _ us hl => match us, hl with | [_], _ => rfl) rfl (by decide) (by decide) rfl (by decide) TB (fun f cdv A outer s H E hr => ?_) (fun f cdv A outer s H E hr LX => ?_) (fun _ => hlaw)
  · have hr_L_random : Room 1 _ := hr.mono (by decide)
    exact (ps_set (i := 1) sc_law.nd rfl (by first | exact Or.inl rfl | exact Or.inr rfl) (pe_fn F_L_random hr_L_random pass0 (pa_cons (pv 0) (pa_cons pe_int pa_nil))))
  · have hu := hu_of hr
    have hr_L_random : Room 1 _ := hr.mono (by decide)
    have hr1_L_random : Room 2 _ := hr.mono (by decide)
    have hr_L_row : Room 3 _ := hr.mono (by decide)
    have hr1_L_row : Room 4 _ := hr.mono (by decide)
    have hr_L_below : Room 1 _ := hr.mono (by decide)
    have hr1_L_below : Room 2 _ := hr.mono (by decide)
    have hr_memory_of : Room 9 _ := hr.mono (by decide)
    have hr1_memory_of : Room 10 _ := hr.mono (by decide)
    have hr_loopsX : Room 9 _ := hr.mono (by decide)
    have hr1_loopsX : Room 10 _ := hr.mono (by decide)
    have hr_L_equal : Room 18 _ := hr.mono (by decide)
    have hr1_L_equal : Room 19 _ := hr.mono (by decide)
    have hr_L_told : Room 1 _ := hr.mono (by decide)
    have hr1_L_told : Room 2 _ := hr.mono (by decide)
    have hr_L_loops : Room 3 _ := hr.mono (by decide)
    have hr1_L_loops : Room 4 _ := hr.mono (by decide)
    have hr_L_pairs : Room 1 _ := hr.mono (by decide)
    have hr1_L_pairs : Room 2 _ := hr.mono (by decide)
    have hr_L_memory : Room 1 _ := hr.mono (by decide)
    have hr1_L_memory : Room 2 _ := hr.mono (by decide)
    have hr_open_swings : Room 3 _ := hr.mono (by decide)
    have hr1_open_swings : Room 4 _ := hr.mono (by decide)
    have hr_open_swingsX : Room 3 _ := hr.mono (by decide)
    have hr1_open_swingsX : Room 4 _ := hr.mono (by decide)
    have hr_loops : Room 9 _ := hr.mono (by decide)
    have hr1_loops : Room 10 _ := hr.mono (by decide)
    exact (sts_cons (st_forR .f (vs := [2]) PassesOwn.never rfl (evi_rng1 (by rfl) (S_range S) (eva_cons (ev_int pe_int) eva_nil)) ⟨(pg_name (i := 2) sc_law.nd rfl (by first | exact Or.inl rfl | exact Or.inr rfl)), (tg_name (by decide))⟩ (sts_cons (st_set .f (i := 3) sc_law.nd rfl (by first | exact Or.inl rfl | exact Or.inr rfl) (ev_fnL F_L_row hr_L_row pass_no (pv 1) (eva_cons (ev_ix o_ix (EvF.ev (evf_lst (eva_cons (ev_int pe_int) (eva_cons (ev_int pe_int) eva_nil)))) (ev_fnL F_L_below hr_L_below pass_no (pv 1) (eva_cons (ev_int pe_int) eva_nil)) (fun _ _ => rfl)) (eva_cons (ev_ix o_ix (EvF.ev (evf_lst (eva_cons (ev_int pe_int) (eva_cons (ev_int pe_int) (eva_cons (ev_int pe_int) eva_nil))))) (ev_fnL F_L_below hr_L_below pass_no (pv 1) (eva_cons (ev_int pe_int) eva_nil)) (fun _ _ => rfl)) eva_nil))))
      (sts_cons (st_par (i := 4) (j := 5) (by rfl) sc_law.nd rfl rfl (by decide) rfl rfl (evm_new (evf_fn F_loopsX hr_loopsX pass_no (eva_cons (ev_var (pv 3)) eva_nil)) (evm_old (ev_fn F_memory_of hr_memory_of pass_no (eva_cons (ev_var (pv 3)) eva_nil)) evm_nil)) (by rfl))
      (sts_cons (st_if .g (evt_not (evt_val (ev_fn F_L_equal hr_L_equal pass_no (eva_cons (ev_fn F_L_pairs hr_L_pairs pass_no (eva_cons (ev_var (pv 4)) eva_nil)) (eva_cons (ev_fn F_L_told hr_L_told pass_no (eva_cons (ev_fn F_L_loops hr_L_loops pass_no (eva_cons (ev_var (pv 3)) eva_nil)) eva_nil)) eva_nil))))) (sts_one (st_ret (ev_bl pe_bl))) sts_nil)
      (sts_cons (st_set .f (i := 6) sc_law.nd rfl (by first | exact Or.inl rfl | exact Or.inr rfl) (ev_fn F_L_memory hr_L_memory pass_no (eva_cons (ev_var (pv 3)) eva_nil)))
      (sts_cons ((st_setLc .f (i := 7) (ow := [("_law_k", 8)]) rfl rfl sc_law.nd rfl rfl (sw_true rfl rfl rfl (by decide +kernel)) (evi_of (evi_rng1 (by rfl) (S_range S) (eva_cons (ev_op o_sub (ev_b c_len (by rfl) (S_len S) (by decide +kernel) (eva_cons (ev_var (pv 6)) eva_nil)) (ev_int pe_int)) eva_nil))) (blkOk_by (N := ["_law_script", "_law_d", "_law_step", "_law_row_here", "_law_found", "_law_memory_here", "_law_places", "_law_heights", "_law_k"]) (sc := defScope s_law) (by decide +kernel)) (fun _ _ _ _ _ => (pg_name (i := 8) sc_law.nd rfl (by first | exact Or.inl rfl | exact Or.inr rfl))) (tg_name (by decide)) (fun _ _ _ _ _ => pts_yes) (fun _ _ _ _ _ => (ev_b c_abs (by rfl) (S_abs S) (by decide +kernel) (eva_cons (ev_op o_sub (ev_ix o_ix (ev_var (pv 6)) (ev_op o_add (ev_var (pv 8)) (ev_int pe_int)) (fun _ _ => rfl)) (ev_ix o_ix (ev_var (pv 6)) (ev_var (pv 8)) (fun _ _ => rfl))) eva_nil)))).1)
      (sts_cons (st_if .f (evt_not (evt_val (ev_fn F_L_equal hr_L_equal pass_no (eva_cons (ev_fn F_open_swings hr_open_swings pass_no (eva_cons (ev_var (pv 5)) eva_nil)) (eva_cons (ev_var (pv 7)) eva_nil))))) (sts_one (st_ret (ev_bl pe_bl))) sts_nil)
      (sts_cons (st_dset .f (j := 4) hu (pv 4) (ev_int pe_int) (ev_int pe_int) (fun h => pg_sub (pv 4) (ev_int pe_int) h))
      (sts_one (st_appX (evf_fn F_open_swingsX hr_open_swingsX pass_no (eva_cons (ev_var (pv 5)) eva_nil)) (eva_cons (ev_int pe_int) eva_nil)))))))))))
      (sts_one (st_ret (ev_and (ev_cmp (o_eqDc hr.units) (ev_fn F_loops hr_loops pass_no (eva_cons (EvF.ev (evf_lst (eva_cons (ev_int pe_int) (eva_cons (ev_int pe_int) (eva_cons (ev_int pe_int) (eva_cons (ev_int pe_int) (eva_cons (ev_int pe_int) eva_nil))))))) eva_nil)) (EvF.ev (evf_disp2 pe_int pe_int pe_int pe_int)) (nomark _)) (ev_one (ev_cmp (o_eqDc hr.units) (ev_fn F_loops hr_loops pass_no (eva_cons (EvF.ev (evf_lst eva_nil)) eva_nil)) (EvF.ev evf_dnew) (nomark _)))))))
end
end Lw
namespace Lw
open PySem PySem.Spec PyProof.Rows L2 Sr Pv
def lawK : Nat := 20
theorem facts {P : Program} [PfOk P] {w : World} {K : PySem.W.Frag} {mg : Str → Option Value} {f : Addr} (S : SayL K mg) (hfa : mg ("law" : Str) = some (.ref f)) :
    ∃ fd : FuncData, (∀ (s : Shared) (v : Value), BindsTo s fd ⟨[v], []⟩ [("_law_script", v)]) ∧ ∀ base : Heap, K.In base → base.Ns mainGlobals mg → LamX.TabB base mg (He.cT K ("law", none)).1 (tabP K) → FnOk P w K mg base CX0 lawK f fd ["_law_script"] (spLawT K) := by
  obtain ⟨fd, F⟩ := S.c.def_ 26 (d := d_law) rfl
  have b := FunD.bindsA (ps := ["_law_script"]) F fun _ _ _ _ _ _ us hl => match us, hl with | [_], _ => rfl
  have ef : f = He.fAd K d_law.at_ := by
    have h1 := S_law S
    rw [hfa] at h1
    cases h1
    rfl
  subst ef
  refine ⟨fd, fun s v => b s [v] rfl, fun base _ _ TB => ?_⟩
  obtain ⟨f', fd', h1, h2, h3, h4, oc, od, osl, h5⟩ := (fn_law (P := P) (w := w) (base := base) S TB (fun A0 st hs => hlaw (A0 := A0) st hs)).ex
  rw [hfa] at h1
  cases h1
  obtain ⟨oc', od', osl', h6⟩ := F.at_
  have e : fd' = fd := by
    have := h5.symm.trans h6
    injection this with this
    injection this with _ _ this _
    injection this
  subst e
  exact h4
end Lw
open PySem PySem.W PySem.Calls PyProof.Rows
instance : PfOk (PySem.Challenge.rw_slackrods_k18_closed_loops).prog := ⟨by kernel_rfl, by kernel_rfl⟩
set_option maxHeartbeats 0 in
theorem PySem.Challenge.cw_slackrods_k18_closed_loops_holds : PySem.Challenge.rw_slackrods_k18_closed_loops.Holds := by
  w_on; o_law
  refine HandSHeadRun.head_any (r := OpenLaw.row PySem.Challenge.rw_slackrods_k18_closed_loops) (q := view (OpenLaw.row PySem.Challenge.rw_slackrods_k18_closed_loops).prog [34]) (H := Lw.hk) (ob := Lw.ob) (M := 20000) (loose := Lw.loose) (d := HandSHeadRun.topDef (OpenLaw.row PySem.Challenge.rw_slackrods_k18_closed_loops).prog 34) (kwd := []) Lw.ob_eq
    (by kernel_rfl) (fun s => by kernel_rfl) Lw.run (by kernel_rfl) (by kernel_rfl) (by kernel_rfl) (by rfl) (by first | assumption | decide +kernel) (by decide +kernel) ⟨rfl, rfl, rfl, rfl, rfl, by decide +kernel⟩ ?hw ?hc
  case hw => w_witness2
  case hc =>
    refine Pv.walk_ofW (l := PySem.Challenge.rw_slackrods_k18_closed_loops) (n := 63) (k := Lw.lawK) (x := "_law_script") (CX := L2.CX0) rfl (by decide) (by kernel_rfl) ⟨rfl, by decide, by decide⟩ ?F (fun _ _ _ _ z => z)
    intro w mg fa h Y G hmg0
    obtain ⟨K, kin, c, p, m, hd, out, empty⟩ := Y
    have hmg : mg ("law" : PySem.Str) = some (.ref fa) := by
      have e : (HandSHeadRun.topDef (OpenLaw.row PySem.Challenge.rw_slackrods_k18_closed_loops).prog 34).name = ("law" : PySem.Str) := by kernel_rfl
      rw [← e]
      exact hmg0
    have S : Lw.SayL K mg := ⟨⟨h, kin, G⟩, c, p, m⟩
    obtain ⟨fd, hb, hF⟩ := Lw.facts (P := (PySem.Challenge.rw_slackrods_k18_closed_loops).prog) (w := w) S hmg
    exact ⟨K, fd, Pv.spLawT K, kin, PySem.W.codeHd_of_K kin hd, out, empty, hb, fun H a ns hl hT hS => ⟨a, ns, rfl, hS, hl, hT, fun _ => rfl⟩, hF⟩

