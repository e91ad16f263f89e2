import PyProof.Rows.All
import Wide.All
import OpenK.AllK
import Wide.FinOn
import KE.KStateDown
import HandS.ForMost
import HandS.ForExc
import HandS.Flow
import HandS.Style
import HandS.Defaults
import HandS.IsInst
import HandS.Property
import HandS.Star
import HandS.TupAny
import HandS.Walk
import HandS.Zip
import HandS.Conv
import HandS.Wide
import HandS.SortInts
import HandS.Head0
import HandS.Head1
import HandS.Head2
import HandS.HeadEnd
import HandS.HeadHook1
import HandS.HeadHook2
import KE.GoesMore
import KE.GoesEnum
import HandS.OwnEq
import HandS.More
import OpenK.KMeth
import KE.KOpsOwn
import PyProof.InstNe
import PyProof.P3In
import PyProof.EqLayable
import KE.KDictPairs
import KE.KDictOf
import KE.KDictSum
import HandS.Exc
import HandS.Lambda
import KE.KDflt
import HandS.HeadHook4
import HandS.EndTab
import HandS.TryOnly
import HandS.Small
import HandS.Iter
import HandS.SetFor
import HandS.ExcOwn
import HandS.ExcField
import HandS.ExcIs
import HandS.ExcInit
import HandS.ExcSuper
import HandS.NestedK
import HandS.FStr
import KE.KExcSuper
import HandS.Strs
import HandS.DictComp
import HandS.WordsDict
import KE.DataMinMax
import KE.SortData
import KE.DataCmp
import HandS.TupMul
import KE.KDictZip
import HandS.ListItems
import PyProof.Conv_bool
import PyProof.Rows.Range3
import HandS.DeepEq
import PyProof.EqAt
import PySem.Challenge.RW_slackrods_k53_wrong_numbers
set_option Elab.async false
set_option linter.all false
set_option maxRecDepth 100000
set_option maxHeartbeats 4000000
namespace Sr
open PySem PySem.Spec PyProof.Rows L2
/-! ### what the head says -/
/-- a property's getter: its class, its name, its text -/
structure PropD where
  c : Str
  f : Str
  qual : Str
  params : Arguments
  body : List Stmt
  scope : Scope
def prP (K : PySem.W.Frag) (d : PropD) : Addr := He.ma K (He.ga K d.c) d.f
def prG (K : PySem.W.Frag) (d : PropD) : Addr := match PySem.W.recIn K (prP K d) "property" with
  | some (.ref g :: _) => g
  | _ => 0
def PropD.obs (K : PySem.W.Frag) (d : PropD) : He.FnW := match K.lookup (prG K d) with
  | some ⟨_, _, .func fd, _⟩ => some (fd.name, fd.qualname, fd.params, fd.body, fd.scope, fd.globals, fd.closure, fd.builtins)
  | _ => none
def PropD.val (d : PropD) : He.FnW := some (d.f, d.qual, d.params, .stmts d.body, d.scope, mainGlobals, [], builtinsNs)
def PropD.ok (K : PySem.W.Frag) (d : PropD) : Bool := He.eqO (PySem.W.findIn K (.ref (He.ga K d.c)) d.f) (some (some (.ref (prP K d)))) && (decide (PySem.W.specialIn K (.ref (prP K d)) "__get__" = some (some (.builtin "property.__get__"))) &&
  (decide (PySem.W.takesIn K (.ref (prP K d)) = some true) && ((match PySem.W.recIn K (prP K d) "property" with
    | some (.ref _ :: _) => true
    | _ => false) && (PySem.W.keepIn K (.ref (prG K d)) && (match K.lookup (prG K d) with
    | some ⟨_, _, .func fd, _⟩ => PySem.W.codeIn K fd.code d.qual && He.dflB K fd.defaults []
    | _ => false)))))
theorem PropD.funD {K : PySem.W.Frag} {d : PropD} (e : d.obs K = d.val) (c : d.ok K = true) : PropOf K (He.ga K d.c) d.f (prP K d) (prG K d) ∧ ∃ fd, FunD K d.f d.qual d.params d.body d.scope [] [] (prG K d) fd := by
  obtain ⟨c1, c⟩ := He.ba c
  obtain ⟨c2, c⟩ := He.ba c
  obtain ⟨c3, c⟩ := He.ba c
  obtain ⟨c4, c⟩ := He.ba c
  obtain ⟨c5, c6⟩ := He.ba c
  refine ⟨⟨He.eqO_ok c1, of_decide_eq_true c2, of_decide_eq_true c3, ?_⟩, ?_⟩
  · unfold prG
    cases q : PySem.W.recIn K (prP K d) "property" with
    | none => rw [q] at c4; cases c4
    | some l =>
      rw [q] at c4
      cases l with
      | nil => cases c4
      | cons v r =>
        cases v with
        | ref g => exact ⟨r, rfl⟩
        | _ => cases c4
  · unfold PropD.obs at e
    cases q : K.lookup (prG K d) with
    | none => rw [q] at c6; cases c6
    | some o =>
      obtain ⟨oc, od, dt, osl⟩ := o
      rw [q] at c6 e
      cases dt with
      | func fd =>
        obtain ⟨n1, n2, n3, n4, n5, n6, n7, n8, n9, n10, n11, n12, n13, n14, n15⟩ := fd
        have e2 : (some (n1, n2, n3, n4, n5, n6, n7, n15) : He.FnW) = some (d.f, d.qual, d.params, .stmts d.body, d.scope, mainGlobals, [], builtinsNs) := e
        simp only [Option.some.injEq, Prod.mk.injEq] at e2
        obtain ⟨h1, h2, h3, h4, h5, h6, h7, h8⟩ := e2
        subst h1 h2 h3 h4 h5 h6 h7 h8
        obtain ⟨k1, k2⟩ := He.ba (show (PySem.W.codeIn K n13 d.qual && He.dflB K n8 []) = true from c6)
        exact ⟨_, ⟨oc, od, n8, n9, n10, n11, n12, n13, n14, osl, rfl, q, k1, He.dflB_ok k2, .inl rfl⟩, c5⟩
      | _ => cases c6
structure Say (fa : List He.Fa) (fn : List He.DefD) (gt : List PropD) (ex : PySem.W.Frag → Bool) (K : PySem.W.Frag) (mg : Str → Option Value) : Prop where
  g : ∃ h : Heap, K.In h ∧ h.Ns mainGlobals mg
  c : He.SaysD fa fn K
  p : gt.map (PropD.obs K) = gt.map PropD.val
  m : ((gt.all fun d => d.ok K) && ex K) = true
section
variable {fa : List He.Fa} {fn : List He.DefD} {gt : List PropD} {ex : PySem.W.Frag → Bool} {K : PySem.W.Frag} {mg : Str → Option Value}
theorem Say.prop (S : Say fa fn gt ex K mg) (i : Nat) {d : PropD} (h : gt[i]? = some d := by rfl) : PropOf K (He.ga K d.c) d.f (prP K d) (prG K d) ∧ ∃ fd, FunD K d.f d.qual d.params d.body d.scope [] [] (prG K d) fd := by
  have c1 := (He.ba S.m).1
  have e2 : (gt.map (PropD.obs K))[i]? = (gt.map PropD.val)[i]? := by rw [S.p]
  rw [List.getElem?_map, List.getElem?_map, h] at e2
  exact PropD.funD (Option.some.inj e2) (List.all_eq_true.mp c1 d (List.mem_of_getElem? h))
theorem Say.more (S : Say fa fn gt ex K mg) : ex K = true := (He.ba S.m).2
theorem Say.free (S : Say fa fn gt ex K mg) (i : Nat) {x : Str} (h : fa[i]? = some (.free x) := by rfl) : mg x = none := by
  obtain ⟨h0, X, G⟩ := S.g
  exact He.free_ok X G (S.c.fact i h)
theorem Say.glo (S : Say fa fn gt ex K mg) (i : Nat) {x : Str} (h : fa[i]? = some (.glo x) := by rfl) : mg x = some (.ref (He.ga K x)) := by
  obtain ⟨h0, X, G⟩ := S.g
  exact He.glo_ok X G (S.c.fact i h)
theorem Say.int (S : Say fa fn gt ex K mg) (i : Nat) {x : Str} {n : Int} (h : fa[i]? = some (.int x n) := by rfl) : ∃ t, mg x = some (.int n t) := by
  obtain ⟨h0, X, G⟩ := S.g
  exact He.int_ok X G (S.c.fact i h)
theorem Say.str (S : Say fa fn gt ex K mg) (i : Nat) {x : Str} {z : Str} (h : fa[i]? = some (.str x z) := by rfl) : ∃ t, mg x = some (.str z t) := by
  obtain ⟨h0, X, G⟩ := S.g
  exact He.str_ok X G (S.c.fact i h)
end
/-- the Hook: facts, defs, getters, one more Bool -/
abbrev AlM : Type := He.AlD × List He.FnW × Bool
/-! ### a def by its name -/
structure Fn (P : Program) (w : World) (K : PySem.W.Frag) (mg : Str → Option Value) (base : Heap) (CX : CXT) (k : Nat) (x : Str) (ps : List Str) (sp : Sp) : Prop where
  ex : ∃ (f : Addr) (fd : FuncData), mg x = some (.ref f) ∧ PySem.W.keepIn K (.ref f) = true ∧ Binds K fd ps [] ∧ FnOk P w K mg base CX k f fd ps sp ∧ ∃ oc od osl, K.lookup f = some ⟨oc, od, .func fd, osl⟩
section
variable {P : Program} {w : World} {K : PySem.W.Frag} {mg : Str → Option Value} {base : Heap} {CX : CXT} {k : Nat} {x : Str} {ps : List Str} {sp : Sp}
theorem Fn.mono (F : Fn P w K mg base CX k x ps sp) {j : Nat} (h : k ≤ j) : Fn P w K mg base CX j x ps sp := by
  obtain ⟨f, fd, a, b, c, d, e⟩ := F.ex
  exact ⟨f, fd, a, b, c, d.mono h, e⟩
theorem Fn.imp (F : Fn P w K mg base CX k x ps sp) {sp' : Sp} (h : ∀ vs H Q E, sp' vs H Q E → sp vs H Q E) : Fn P w K mg base CX k x ps sp' := by
  obtain ⟨f, fd, a, b, c, d, e⟩ := F.ex
  exact ⟨f, fd, a, b, c, d.imp h, e⟩
end
section
variable {fa : List He.Fa} {fn : List He.DefD} {gt : List PropD} {ex : PySem.W.Frag → Bool} {K : PySem.W.Frag} {mg : Str → Option Value} {P : Program} {w : World} {base : Heap}
theorem _root_.L2.FunD.at_ {x qual : Str} {params : Arguments} {body : List Stmt} {scope : Scope} {dvs : List V} {kws : List (Str × V)} {f : Addr} {fd : FuncData} (F : FunD K x qual params body scope dvs kws f fd) : ∃ oc od osl, K.lookup f = some ⟨oc, od, .func fd, osl⟩ := by
  obtain ⟨oc, od, dV, kV, doc, pm, an, cdv, ct, osl, rfl, lk, _⟩ := F.ex
  exact ⟨oc, od, osl, lk⟩
/-- a def that lets no exception out -/
theorem fn_mk {N ps : List Str} {sp : Sp} {k : Nat} {x : Str} (st : Stmt) (S : Say fa fn gt ex K mg) (i j : Nat) (hd : fn[i]? = some ⟨(x, none), x, x, defArgs st, defBody st, defScope st, [], []⟩) (hg : fa[j]? = some (.glo x)) (SC : FnScope N ps (defScope st))
    (hb : ∀ (kV doc pm : Value) (an : Option Addr) (cdv ct : Value) (us : List Value), us.length = ps.length → bindArgs (PySem.W.fnOf x x (defArgs st) (defBody st) (defScope st) .none kV doc pm an cdv ct) ⟨us, []⟩ = pure (ps.zip us))
    (len : ∀ vs H Q E, sp vs H Q E → vs.length = ps.length)
    (hbody : ∀ (f : Addr) (cdv : Value) (A : Around) (outer : List Env) (s : Shared) (H : Hp) (vs : List V) (Q : VK) (E : XK), Room k (A.deeper (envOfC x (defScope st) s.heap.objs.size f cdv)) → sp vs H Q E →
      ∃ t, PSs (cxOf CX0 P w K mg base N x (defScope st) f cdv A outer s H E).nox (defBody st) t ∧ t { nx := fun _ H' => Q .non H', rt := Q } (start N vs) H) : Fn P w K mg base CX0 (k + 1) x ps sp := by
  obtain ⟨fd, F⟩ := S.c.def_ i hd
  refine ⟨_, fd, S.glo j hg, F.kp, F.bindsN hb, ?_, F.at_⟩
  refine F.ok SC len fun cdv A outer s H vs Q E hr h => ?_
  obtain ⟨t, h1, h2⟩ := hbody _ cdv A outer s H vs Q E hr h
  exact ⟨t, h1.nox, h2⟩
end
section
variable {X : Cx} {CX : CXT} {k : Nat} {ps : List Str} {sp : Sp} {E : XK} {x : Str} {p pos : Pos} {e : Expr} {es : List Expr} {t : TA}
theorem pe_fn (F : Fn X.prog X.w X.K X.mg X.base CX k x ps sp) (hr : Room k X.A) (hx : Passes CX X E) (ha : PA X (e :: es) t) (hg : Gl X x := by rfl) (hdb : (x == ("__debug__" : Str)) = false := by decide)
    (he : starEach (e :: es) X.env = (false, eval e X.env) :: starEach es X.env := by rfl) (hpl : (backTo pos (starEach es X.env)).any (·.1) = false := by rfl) :
    PE X (.Call (.Name x p) (e :: es) [] pos) (tCall sp [] E t) := by
  obtain ⟨f, fd, a, b, c, d, _⟩ := F.ex
  exact pe_call d hr hg a b c .nil hx ha hdb he hpl
theorem pe_gint {i : Int} (h : ∃ t, X.mg x = some (.int i t)) (hg : Gl X x := by rfl) (hd : (x == ("__debug__" : Str)) = false := by decide) : PE X (.Name x pos) (tC (.int i)) := by
  obtain ⟨t, h⟩ := h
  exact pe_glob hg h ⟨t, rfl⟩ hd
end
/-! ### rules over the tracked heap -/
def seqH (H : Hp) (p : Addr) (xs : List V) : Prop := H p = some (.lst xs) ∨ H p = some (.tup xs)
theorem seqH.or {K : PySem.W.Frag} {H : Hp} {p : Addr} {xs : List V} (h : seqH H p xs) : SqL K H p xs ∨ SqT K H p xs := h.elim (fun h => .inl (.of h)) fun h => .inr (.of h)
def rIxU : R2 := fun x y H Q => ∃ p xs i v, x = .ref p ∧ y = .int i ∧ seqH H p xs ∧ atI xs i = some v ∧ Q v H
def rLenU : List V → Hp → VK → Prop := fun vs H Q => ∃ p ys, vs = [.ref p] ∧ seqH H p ys ∧ Q (.int ys.length) H
def rListU : List V → Hp → VK → Prop := fun vs H Q => ∃ p ys, vs = [.ref p] ∧ seqH H p ys ∧ ∀ l, H l = none → Q (.ref l) (upd H l (.lst ys))
def rTupU : List V → Hp → VK → Prop := fun vs H Q => ∃ p ys, vs = [.ref p] ∧ H p = some (.lst ys) ∧ ∀ l, H l = none → Q (.ref l) (upd H l (.tup ys))
def rSlLU : V → Option Int → Option Int → Hp → VK → Prop := fun x lo hi H Q => ∃ a xs, x = .ref a ∧ H a = some (.lst xs) ∧ ∀ p, H p = none → Q (.ref p) (upd H p (.lst (cutV xs lo hi)))
theorem same_upd {H : Hp} {p : Addr} {o : HO} (h : H p = none) : Same H (upd H p o) := fun b u e => by rw [upd_ne (ne_of_none e h)]; exact e
theorem cutV_whole {xs : List V} {lo hi : Option Int} (h1 : HT.sIx xs.length 0 lo = 0) (h2 : HT.sIx xs.length xs.length hi = xs.length) : cutV xs lo hi = xs := by
  unfold cutV; rw [h1, h2]; simp
section
variable {X : Cx}
theorem ix_u : IxR X rIxU := by
  intro value slice pins s σ H x y v u Q I rx ry h hs
  obtain ⟨p, xs, i, z, rfl, rfl, hq | hq, he, q⟩ := h
  · exact ix_list value slice pins s σ H _ _ v u Q I rx ry ⟨p, xs, i, z, rfl, rfl, .of hq, he, q⟩ hs
  · exact ix_tup value slice pins s σ H _ _ v u Q I rx ry ⟨p, xs, i, z, rfl, rfl, .of hq, he, q⟩ hs
theorem call_len_u : CallR X (.builtin "len") rLenU := by
  intro pins s σ H xs us Q I r h
  obtain ⟨p, ys, rfl, hq, q⟩ := h
  exact call_len_seq pins s σ H _ us Q I r ⟨p, ys, rfl, hq.or, q⟩
theorem call_tup_u : CallR X (.type "tuple") rTupU := by
  intro pins s σ H xs us Q I r h
  obtain ⟨p, ys, rfl, hq, q⟩ := h
  exact call_tuple_of pins s σ H _ us Q I r ⟨p, ys, rfl, .inl ⟨.of hq, q⟩⟩
theorem sl_lu : SlR X rSlLU := by
  intro pins s σ H x v vl vu lo hi sl Q I rx hs pl pu h
  obtain ⟨a, xs, rfl, hx, q⟩ := h
  exact sl_list pins s σ H _ v vl vu lo hi sl Q I rx hs pl pu ⟨a, xs, rfl, .of hx, q⟩
end
/-! ### methods of a tracked list -/
def tBML0 (r : V → List V → Hp → VK → Prop) (to : TE) : TE := fun σ H Q => to σ H fun x H1 => (∃ p xs, x = .ref p ∧ H1 p = some (.lst xs)) ∧ r x [] H1 Q
def tBML (r : V → List V → Hp → VK → Prop) (to : TE) (t : TA) : TE := fun σ H Q => to σ H fun x H1 => (∃ p xs, x = .ref p ∧ H1 p = some (.lst xs)) ∧ t σ H1 fun xs H2 => r x xs H2 Q
section
variable {X : Cx} {o e : Expr} {es : List Expr} {to : TE} {t : TA} {name : Str} {apos cpos : Pos} {id : String} {r : V → List V → Hp → VK → Prop}
theorem tyV_lst {K : PySem.W.Frag} {x : V} {H : Hp} (h : ∃ p xs, x = .ref p ∧ H p = some (.lst xs)) : tyV K "list" x H := by
  obtain ⟨p, xs, rfl, h⟩ := h
  exact .inl ⟨rfl, xs, .of h⟩
theorem pe_bmL (slot : Slot "list" name id) (hty : typeOf (.builtin id) = pure (.type "method_descriptor")) (hm : MtR X id r) (ho : PE X o to) (ha : PA X (e :: es) t)
    (hbase : attributeBase o name X.env (eval o X.env) = eval o X.env := by rfl)
    (hfew : ((backTo cpos (starEach (e :: es) X.env)).all (fun x => !x.1) && (backToKw cpos (keywordEach [] X.env)).all (fun x => x.1.isSome)
      && decide ((e :: es).length + ([] : List Keyword).length + (if ([] : List Keyword).isEmpty then 0 else 1) < 30)) = true := by rfl)
    (hline : (apos.endLine == cpos.line) = true := by rfl) (hs : starEach (e :: es) X.env = (false, eval e X.env) :: starEach es X.env := by rfl) (hplain : (backTo cpos (starEach es X.env)).any (·.1) = false := by rfl) :
    PE X (.Call (.Attribute o name apos) (e :: es) [] cpos) (tBML r to t) := by
  refine ⟨fun pins s σ H Q I h => ?_⟩
  refine wpAny_Call_method_late hbase hfew hline rfl (thn (ho.run pins s σ H _ I h) fun v s1 ⟨x, H1, I1, r1, ty, q1⟩ => ?_)
  obtain ⟨h1, h2⟩ := tyV_is I1 r1 (tyV_lst ty)
  refine ⟨"list", id, PySem.F.plainAttrs_list, slot, hty, h1, h2, ?_⟩
  have hA := ha.run cpos pins s1 σ H1 _ I1 q1
  rw [hs] at hA ⊢
  refine Calls.callWith_builtin (by show (false || (backTo cpos (starEach es X.env)).any (·.1)) = false; rw [hplain] <;> rfl) (Calls.evalArgs_plain ?_)
  exact thn hA fun us s2 ⟨vs, H2, I2, r2, q2⟩ => hm pins s2 σ H2 x vs v us Q I2 r1 r2 q2
end
theorem cx_K {CX : CXT} {P : Program} {w : World} {K : PySem.W.Frag} {mg : Str → Option Value} {base : Heap} {N : List Str} {qual : Str} {scope : Scope} {f : Addr} {cd : Value} {A : Around} {outer : List Env} {s : Shared} {H : Hp} {E : XK} :
    (cxOf CX P w K mg base N qual scope f cd A outer s H E).K = K := rfl
/-- a statement, then the others, with what holds between them told -/
def tCut (t u : TS) : TS := fun D σ H => ∃ Mid : L2.St → Hp → Prop, t { D with nx := Mid } σ H ∧ ∀ σ' H', Mid σ' H' → u D σ' H'
theorem pss_cut {X : Cx} {st : Stmt} {rest : List Stmt} {t u : TS} (h1 : PS X st t) (h2 : PSs X rest u) : PSs X (st :: rest) (tCut t u) := by
  refine ⟨fun pins s σ H D I h => ?_⟩
  obtain ⟨Mid, h, hu⟩ := h
  refine wpAny_execs_cons (thn (h1.run pins s σ H { D with nx := Mid } I h) fun f s1 q => ?_)
  cases f with
  | next =>
    obtain ⟨σ', H', I', q⟩ := q
    exact h2.run pins s1 σ' H' D I' (hu σ' H' q)
  | ret v => exact q
  | brk => exact q
  | cont => exact q
/-! ### statements, where they are run -/
section
variable {t u : TS} {te : TE} {g : TG} {D : L2.Ends} {σ : L2.St} {H : Hp} {c : TT} {ta : TA}
theorem tSeq_ap : tSeq t u D σ H = t { D with nx := u D } σ H := rfl
theorem tAsg_ap : tAsg te g D σ H = te σ H fun x H1 => g x σ H1 D.nx := rfl
theorem tRet_ap : tRet te D σ H = te σ H D.rt := rfl
theorem tNext_ap : tNext D σ H = D.nx σ H := rfl
theorem tIfS_ap : tIfS c t u D σ H = c σ H fun b H1 => if b = true then t D σ H1 else u D σ H1 := rfl
end
theorem atI_map {α β : Type} (f : α → β) (xs : List α) (i : Int) : atI (xs.map f) i = (atI xs i).map f := by
  unfold atI
  rw [List.length_map]
  cases ixN xs.length i with
  | none => rfl
  | some j => simp
theorem atI_neg {α : Type} (xs : List α) (k : Nat) : atI xs (-((k : Int) + 1)) = xs.reverse[k]? := by
  unfold atI ixN
  rw [if_neg (by omega)]
  by_cases h : k < xs.length
  · rw [if_pos (by omega)]
    have e : (-((k : Int) + 1) + (xs.length : Int)).toNat = xs.length - 1 - k := by omega
    rw [e, List.getElem?_reverse h]
    rfl
  · rw [if_neg (by omega)]
    have : xs.reverse[k]? = none := List.getElem?_eq_none_iff.mpr (by rw [List.length_reverse]; omega)
    rw [this]; rfl
theorem atI_m1 {α : Type} (xs : List α) : atI xs (-1) = xs.reverse[0]? := atI_neg xs 0
theorem atI_m2 {α : Type} (xs : List α) : atI xs (-2) = xs.reverse[1]? := atI_neg xs 1
theorem atI_zero {α : Type} (x : α) (xs : List α) : atI (x :: xs) 0 = some x := atI_nat (xs := x :: xs) (j := 0) rfl
theorem atI_one {α : Type} (x y : α) (xs : List α) : atI (x :: y :: xs) 1 = some y := atI_nat (xs := x :: y :: xs) (j := 1) rfl
end Sr

namespace Sr
open PySem PySem.Spec PyProof.Rows L2
/-! ### a conditional expression as a test -/
def tIfT (t u v : TT) : TT := fun σ H Q => t σ H fun c H1 => if c = true then u σ H1 Q else v σ H1 Q
/-! ### max, min of a tuple of ints -/
section
variable {prog : Program} {w : World} {A : Around} {E : Value → Shared → Prop} {s : Shared} {l : Addr}
end
section
variable {X : Cx}
end
/-! ### enumerate of a tuple -/
end Sr

namespace Sr
open PySem PySem.Spec PyProof.Rows L2
/-! ### kinds of values -/
inductive Kd where
  | int | bl | str | non | lst | tup | dct
  deriving DecidableEq
def Kd.name : Kd → String
  | .int => "int" | .bl => "bool" | .str => "str" | .non => "NoneType" | .lst => "list" | .tup => "tuple" | .dct => "dict"
def kdOf (v : V) (H : Hp) : Option Kd := match v with
  | .int _ => some .int
  | .bl _ => some .bl
  | .str _ => some .str
  | .non => some .non
  | .ref p => (match H p with
    | some (.lst _) => some .lst
    | some (.tup _) => some .tup
    | some (.dK _) => some .dct
    | some (.dT _) => some .dct
    | _ => none)
  | _ => none
theorem kdOf_ok {K : PySem.W.Frag} {v : V} {H : Hp} {k : Kd} (h : kdOf v H = some k) : TyX K H v (.type k.name) := by
  cases v with
  | int i => cases h; exact .base (.int i)
  | bl b => cases h; exact .base (.bl b)
  | str x => cases h; exact .base (.str x)
  | non => cases h; exact .base .non
  | ref p =>
    unfold kdOf at h
    dsimp only at h
    split at h
    · rename_i xs e; cases h; exact .base (.lst e)
    · rename_i xs e; cases h; exact .base (.tup e)
    · rename_i xs e; cases h; exact .base (.dK e)
    · rename_i xs e; cases h; exact .base (.dT e)
    · cases h
  | byt b => cases h
  | flt b => cases h
  | ty n => cases h
/-- isinstance(a k, T) -/
def isK : Kd → Kd → Bool
  | .int, .int => true | .bl, .int => true | .bl, .bl => true | .str, .str => true | .lst, .lst => true | .tup, .tup => true | .dct, .dct => true | .non, .non => true
  | _, _ => false
theorem kitB_isK (k T : Kd) (h : T ≠ .non) : kitB k.name T.name = some (isK k T) := by
  cases k <;> cases T <;> first | (exact absurd rfl h) | decide +kernel
def rIsK (T : Kd) : List V → Hp → VK → Prop := fun xs H Q => ∃ x k, xs = [x, .ty T.name] ∧ kdOf x H = some k ∧ Q (.bl (isK k T)) H
/-! ### lists by their last items -/
theorem cutV_len0 (xs : List V) (i : Int) : cutV xs none (some i) = xs.take (HT.sIx xs.length xs.length (some i)) := by
  unfold cutV
  have : HT.sIx xs.length 0 none = 0 := rfl
  rw [this]; simp
theorem cutV_m2 (xs : List Int) : cutV (xs.map V.int) none (some (-2)) = ((xs.reverse.drop 2).reverse).map V.int := by
  rw [cutV_len0]
  have e : HT.sIx (xs.map V.int).length (xs.map V.int).length (some (-2)) = xs.length - 2 := by
    unfold HT.sIx
    simp
    omega
  rw [e, ← List.map_take, List.drop_reverse, List.reverse_reverse]
theorem atI_tr1 (rs : List Int) : atI (List.map V.int rs.reverse) (-1) = (rs[0]?).map V.int := by rw [atI_map, atI_m1, List.reverse_reverse]
theorem atI_tr2 (rs : List Int) : atI (List.map V.int rs.reverse) (-2) = (rs[1]?).map V.int := by rw [atI_map, atI_m2, List.reverse_reverse]
theorem cutV_tr2 (rs : List Int) : cutV (List.map V.int rs.reverse) none (some (-2)) = List.map V.int (rs.drop 2).reverse := by rw [cutV_m2, List.reverse_reverse]
theorem scal_int {i j : Int} : scal (.int i) (.int j) = true := rfl
theorem scal_bl {i j : Bool} : scal (.bl i) (.bl j) = true := rfl
theorem scal_str {i j : Str} : scal (.str i) (.str j) = true := rfl
def rPopG : V → List V → Hp → VK → Prop := fun x vs H Q => ∃ l xs y, x = .ref l ∧ vs = [] ∧ H l = some (.lst xs) ∧ xs.getLast? = some y ∧ Q y (upd H l (.lst xs.dropLast))
theorem dropLast_rev (a : Int) (r : List Int) : (List.map V.int (a :: r).reverse).dropLast = List.map V.int r.reverse := by
  simp
theorem _root_.L2.Same.seqH {H H' : Hp} {p : Addr} {xs : List V} (e : Same H H') (h : Sr.seqH H p xs) : Sr.seqH H' p xs := h.elim (fun h => .inl (e _ _ h)) fun h => .inr (e _ _ h)
theorem _root_.L2.Same.updN {H H' : Hp} {p : Addr} {o : HO} (e : Same H H') (h : H p = none) : Same H (upd H' p o) := fun b u q => by
  rw [upd_ne (ne_of_none q h)]; exact e b u q
theorem _root_.L2.Same.new {H H' : Hp} {p : Addr} {o : HO} (e : Same H H') (h : H' p = none) : Same H (upd H' p o) := e.updN (e.free h)
end Sr
namespace Sr
open PySem PySem.Spec PyProof.Rows L2
/-! ### == of sequences of ints -/
end Sr

namespace Sr
open PySem PySem.Spec PyProof.Rows L2
/-! ### methods by names -/
/-- the def at a class's method m: its promise -/
structure MeB (P : Program) (w : World) (K : PySem.W.Frag) (mg : Str → Option Value) (base : Heap) (CX : CXT) (k : Nat) (C : Addr) (m : Str) (ps : List Str) (sp : Sp) : Prop where
  ex : ∃ (f : Addr) (fd : FuncData), PySem.W.findIn K (.ref C) m = some (some (.ref f)) ∧ PySem.W.isFn K (.ref f) = true ∧ PySem.W.keepIn K (.ref f) = true ∧ Binds K fd ps [] ∧ FnOk P w K mg base CX k f fd ps sp
section
variable {fa : List He.Fa} {fn : List He.DefD} {gt : List PropD} {ex : PySem.W.Frag → Bool} {K : PySem.W.Frag} {mg : Str → Option Value} {P : Program} {w : World} {base : Heap}
end
section
variable {X : Cx} {CX : CXT} {k : Nat} {C : Addr} {x m : Str} {ps : List Str} {sp : Sp} {E : XK} {p pos apos : Pos} {e o : Expr} {es : List Expr} {ta : TE} {t : TA}
/-- C(e, ..) -/
theorem pe_mk (M : MeB X.prog X.w X.K X.mg X.base CX k C "__init__" ps sp) (hmk : PySem.W.makesIn X.K C = true) (hkc : PySem.W.keepIn X.K (.ref C) = true) (hm : X.mg x = some (.ref C)) (hr : Room (k + 1) X.A) (hx : Passes CX X E) (ha : PA X (e :: es) t)
    (hg : Gl X x := by rfl) (hdb : (x == ("__debug__" : Str)) = false := by decide)
    (he : starEach (e :: es) X.env = (false, eval e X.env) :: starEach es X.env := by rfl) (hpl : (backTo pos (starEach es X.env)).any (·.1) = false := by rfl) :
    PE X (.Call (.Name x p) (e :: es) [] pos) (tMake C sp [] E t) := by
  obtain ⟨f, fd, a, b, c, d, F⟩ := M.ex
  exact pe_make ⟨hmk, a, b, hkc⟩ F hr hg hm d .nil hx ha hdb he hpl
/-- o.m(e, ..) -/
theorem pe_me {pl : Sem Bool} (M : MeB X.prog X.w X.K X.mg X.base CX k C m ps sp) (c : Cls X.K C) (hr : Room k X.A) (hx : Passes CX X E) (ho : PE X o ta) (ha : PA X (e :: es) t)
    (hst : starEach (e :: es) X.env = (false, eval e X.env) :: starEach es X.env := by rfl) (hpl : (backTo pos (starEach es X.env)).any (·.1) = false := by rfl)
    (ht : eval (.Call (.Attribute o m apos) (e :: es) [] pos) X.env = (do
      let ov ← eval o X.env
      standAt apos.atName
      let (f, first) ← holding [ov] (getMethod ov m pl)
      callWith pos f first (backTo pos (starEach (e :: es) X.env)) (backToKw pos (keywordEach [] X.env))) := by rfl) :
    PE X (.Call (.Attribute o m apos) (e :: es) [] pos) (tMeth C m sp [] E ta t) := by
  obtain ⟨f, fd, a, b, c', d, F⟩ := M.ex
  exact pe_meth ho c ⟨a, b, c'⟩ F hr d .nil hx ha hst hpl ht
theorem pe_me0 {pl : Sem Bool} (M : MeB X.prog X.w X.K X.mg X.base CX k C m ps sp) (c : Cls X.K C) (hr : Room k X.A) (hx : Passes CX X E) (ho : PE X o ta)
    (ht : eval (.Call (.Attribute o m apos) [] [] pos) X.env = (do
      let ov ← eval o X.env
      standAt apos.atName
      let (f, first) ← holding [ov] (getMethod ov m pl)
      callWith pos f first (backTo pos (starEach [] X.env)) (backToKw pos (keywordEach [] X.env))) := by rfl) :
    PE X (.Call (.Attribute o m apos) [] [] pos) (tMeth C m sp [] E ta tNil) := by
  obtain ⟨f, fd, a, b, c', d, F⟩ := M.ex
  exact pe_meth0 ho c ⟨a, b, c'⟩ F hr d .nil hx ht
end
/-! ### the callee under another around -/
section
variable {X : Cx} {pins : List (Addr × Obj)} {σ : L2.St} {H : Hp} {s : Shared} {CX : CXT} {k : Nat} {f C : Addr} {sp : Sp} {E : XK}
/-! ### x == y, x an instance -/
end
/-! ### x != y, by the own == -/
def neIn (K : PySem.W.Frag) (C f : Addr) : Bool := match K.lookup C with
  | some ⟨.type t, _, .cls cd, sl⟩ => decide (t = "type") && (match cd.mro, sl.toList with
    | [.ref C', .type o], [_, _, _, _, some (.builtin _), _] => (C' == C) && (decide (o = "object") && (!cd.hasDel && (PySem.W.nsOkIn K cd.ns && (decide (PySem.W.nsIn K cd.ns "__eq__" = some (some (.ref f))) && (decide (PySem.W.nsIn K cd.ns "__ne__" = some none) && (match K.lookup f with
      | some o => decide (o.cls = .type "function")
      | none => false))))))
    | _, _ => false)
  | _ => false
section
variable {X : Cx} {CX : CXT} {k : Nat} {f C : Addr} {sp : Sp} {E : XK}
/-! ### len(x), x an instance -/
end
/-! ### a property, a call of an instance -/
/-- the property f of the class at C: its getter's promise -/
structure PrB (P : Program) (w : World) (K : PySem.W.Frag) (mg : Str → Option Value) (base : Heap) (CX : CXT) (k : Nat) (C : Addr) (f : Str) (ps : List Str) (sp : Sp) : Prop where
  ex : ∃ (p g : Addr) (fd : FuncData), PropOf K C f p g ∧ Binds K fd ps [] ∧ FnOk P w K mg base CX k g fd ps sp
section
variable {X : Cx} {CX : CXT} {k : Nat} {C : Addr} {f : Str} {ps : List Str} {sp : Sp} {E : XK} {e fe : Expr} {es : List Expr} {pos : Pos} {ta tf : TE} {t : TA}
end
end Sr
namespace Sr
open PySem PySem.Spec PyProof.Rows L2
/-! ### isinstance(x, C), C an own class -/
def clsAt (K : PySem.W.Frag) (C : Addr) : Bool := decide (PySem.W.findIn K (.ref C) "__class__" = some (some (.builtin "object.__class__"))) && (decide (PySem.W.specialIn K (.builtin "object.__class__") "__get__" = some (some (.builtin "getset_descriptor.__get__"))) &&
  (decide (PySem.W.takesIn K (.builtin "object.__class__") = some true) && (decide (PySem.W.mroIn K C (.type "object") = some true) && (decide (PySem.W.kitOne K (.ref C) (.ref C) = some true) &&
  (decide (PySem.W.kitOne K (.type "tuple") (.ref C) = some false) && (decide (PySem.W.kitOne K (.type "int") (.ref C) = some false) && (decide (PySem.W.kitOne K (.type "NoneType") (.ref C) = some false) && (decide (PySem.W.kitOne K (.type "str") (.ref C) = some false) && (decide (PySem.W.kitOne K (.type "list") (.ref C) = some false) && decide (PySem.W.kitOne K (.type "bool") (.ref C) = some false))))))))))
/-! iterators whose K is written out (inside of a comprehension the context's own K would carry its bound names) -/
end Sr

namespace Sr
open PySem PySem.Spec PyProof.Rows L2
/-! ### in, not in: data among the items of a list or tuple -/
def rInD (K : PySem.W.Frag) (neg : Bool) : R2 := fun x y H Q => ∃ d xs, Dp K H x d ∧ (Dp K H y (.tuple xs) ∨ Dp K H y (.list xs)) ∧ d.canLay0 = true ∧ d.depth ≤ 8 ∧ PyData.canLayAll0 xs = true ∧
  Q (.bl (if neg then !(xs.any fun y => PyData.eqv y d) else xs.any fun y => PyData.eqv y d)) H
section
variable {X : Cx}
theorem op_inD (hu : X.A.units + 64 < cLine) : OpR X (compareOp .In) (rInD X.K false) := by
  intro pins s σ H x y v u Q I rx ry h
  obtain ⟨d, xs, hd, hy, c1, c2, c3, q⟩ := h
  obtain ⟨as, r1⟩ := Dp.reads I d x v hd rx
  have hu' : X.A.units + 1 + min (PyData.depthAll xs) d.depth < cLine := by
    have : min (PyData.depthAll xs) d.depth ≤ d.depth := Nat.min_le_right _ _
    omega
  rcases hy with hy | hy
  · obtain ⟨bs, r2⟩ := Dp.reads I _ y u hy ry
    exact SeqAt.in_tuple_reads r2 r1 c3 c1 hu' ⟨.bl _, H, I, rfl, q⟩
  · obtain ⟨bs, r2⟩ := Dp.reads I _ y u hy ry
    exact SeqAt.in_list_reads r2 r1 c3 c1 hu' ⟨.bl _, H, I, rfl, q⟩
end
end Sr

namespace Sr
open PySem PySem.Spec PyProof.Rows L2
/-! ### tuples whose object is known -/
section
variable {X : Cx}
def rTupF (K : PySem.W.Frag) : List V → Hp → VK → Prop := fun vs H Q => ∃ p ys, vs = [.ref p] ∧ SqL K H p ys ∧ ∀ l o, H l = none → o.dict = none → Q (.ref l) (upd H l (.frz o (.tup ys)))
theorem call_tupF : CallR X (.type "tuple") (rTupF X.K) := by
  intro pins s σ H vs us Q I rv hq
  obtain ⟨p, ys, rfl, hl, hk⟩ := hq
  obtain ⟨u, rfl, ru⟩ := vals1 rv
  cases ru
  obtain ⟨its, ri, pl, hz⟩ := I.list hl
  have hlen := ri.length
  refine call_tuple_list pl.isList (fun h' kp => ?_) (by simp only [List.size_toArray]; omega)
  have J : Inv X pins σ H { s with heap := h' } := I.kept (t' := s.toks) kp
  refine ⟨.ref h'.objs.size, _, ?_, rfl, hk _ { cls := .type "tuple", data := .seq its.toArray } (J.hok.fresh (Nat.le_refl _)) rfl⟩
  exact J.laid (t' := s.toks) (fun b o hb => Heap.get?_push_of_some _ hb) (Nat.le_refl _) ⟨Heap.get?_push_size _ rfl, hz, its, ri, IsTup.new _ _⟩
/-! ### dict(t), t a known tuple of pairs -/
/-! ### sorted(d), d a dict whose keys are ints -/
end
end Sr

namespace Pv
open PySem PySem.Spec PyProof.Rows L2 Sr
def binT (K : PySem.W.Frag) (C : Addr) (T : String) (op : Operator) : Bool := PySem.W.selfFirst K C && ((match PySem.W.findIn K (.ref C) (PySem.dunderR op.info.2) with | some none => true | some (some (.ref _)) => true | _ => false) &&
  ((PySem.W.findIn K (.type T) (PySem.dunder op.info.2)).isSome && ((PySem.W.findIn K (.type T) (PySem.dunderR op.info.2)).isSome && decide (PySem.W.subIn K (.type T) (.ref C) = some false))))
def expB (K : PySem.W.Frag) (c : Str) : Bool := PySem.W.excIn K (He.ga K c) [.type "ValueError", .type "Exception", .type "BaseException", .type "object"] "ValueError.__new__" && (PySem.W.keepIn K (.ref (He.ga K c)) && (decide (PySem.W.subIn K (.ref (He.ga K c)) (.type "BaseException") = some true) && decide (PySem.W.typeIn K (.ref (He.ga K c)) = some (.type "type"))))
def clsVE (K : PySem.W.Frag) (C : Addr) : Bool := match K.lookup C with
  | some ⟨.type "type", _, .cls cd, sl⟩ => (match cd.mro, sl.toList with
    | .ref C' :: bm, [_, _, _, _, some (.builtin n), _] => C' == C && n == "ValueError.__new__" && !cd.hasDel && cd.hasDict && HandSPX.refsVE bm
    | _, _ => false)
  | _ => false
def eName? : Expr → Option Str
  | .Name x _ => some x
  | _ => none
def eAttr? : Expr → Option (Expr × Str × Pos)
  | .Attribute e x p => some (e, x, p)
  | _ => none
def eCall? : Expr → Option (Expr × List Expr × Pos)
  | .Call f a [] p => some (f, a, p)
  | _ => none
def eJoin? : Expr → Option (List Expr)
  | .JoinedStr l _ => some l
  | _ => none
def eFmt? : Expr → Option (Expr × Int)
  | .FormattedValue e c none _ => some (e, c)
  | _ => none
def eStr? : Expr → Option Str
  | .Constant (.str x) _ _ => some x
  | _ => none
def sExpr? : Stmt → Option Expr
  | .Expr e _ => some e
  | _ => none
def sAsg? : Stmt → Option (Expr × Expr)
  | .Assign [t] e _ => some (t, e)
  | _ => none
def isSup (f pre : Str) (s : Stmt) : Bool := match sExpr? s with
  | some e => match eCall? e with
    | some (m, [j], q7) => (match eAttr? m with
      | some (o, i, q2) => decide (i = "__init__") && (q2.endLine == q7.line) && (match eCall? o with
        | some (n, [], _) => decide (eName? n = some "super")
        | _ => false)
      | none => false) && (match eJoin? j with
      | some [a, b] => decide (eStr? a = some pre) && (match eFmt? b with
        | some (x, c) => decide (c = -1) && decide (eName? x = some f)
        | none => false)
      | _ => false)
    | _ => false
  | none => false
def isSt (f : Str) (s : Stmt) : Bool := match sAsg? s with
  | some (t, e) => decide (eName? e = some f) && (match eAttr? t with
    | some (o, x, _) => decide (x = f) && decide (eName? o = some "self")
    | none => false)
  | none => false
def exiPar (f : Str) (a : Arguments) : Bool := match a with
  | ⟨[], [⟨s, _, _⟩, ⟨x, _, _⟩], none, [], [], none, []⟩ => decide (s = "self") && decide (x = f)
  | _ => false
def exiBody (f pre : Str) (b : FuncBody) : Bool := match b with
  | .stmts [s1, s2] => isSup f pre s1 && isSt f s2
  | _ => false
def exiCode (K : PySem.W.Frag) (a : Addr) : Bool := match K.lookup a with
  | some ⟨_, _, .fields vs, _⟩ => (match (vs[2]? : Option Value) with
    | some (.str x _) => decide (x = ("/claim/cut.py" : Str))
    | _ => false)
  | _ => false
def exiCell (K : PySem.W.Frag) (a C : Addr) : Bool := match K.lookup a with
  | some ⟨_, _, .cell (some (.ref D)), _⟩ => D == C
  | _ => false
def exiFn (K : PySem.W.Frag) (C fI : Addr) (f pre : Str) : Bool := match K.lookup fI with
  | some ⟨_, _, .func fd, _⟩ => (match fd.closure, fd.code with
    | [(x, cc)], .ref cda => decide (x = "__class__") && (exiCell K cc C && (exiCode K cda && PySem.W.codeIn K (.ref cda) fd.qualname))
    | _, _ => false) && (exiPar f fd.params && (exiBody f pre fd.body && (NdefX.nscB ["self", f, "__class__"] ["self", f] ["__class__"] fd.scope && (decide (fd.scope.names.lookup ("super" : Str) = some NameKind.globalImplicit) && (decide (fd.globals = mainGlobals) && (decide (fd.builtins = builtinsNs) && (fd.defaults == .none && fd.kwdefaults == .none)))))))
  | _ => false
def exiB (K : PySem.W.Frag) (c f pre : Str) : Bool := clsVE K (He.ga K c) && (decide (PySem.W.findIn K (.ref (He.ga K c)) "__setattr__" = some (some (.builtin "object.__setattr__"))) && (decide (PySem.W.subIn K (.ref (He.ga K c)) (.type "BaseException") = some true) && (decide (PySem.W.typeIn K (.ref (He.ga K c)) = some (.type "type")) && (PySem.W.keepIn K (.ref (He.ga K c)) &&
  (decide (PySem.W.findIn K (.ref (He.ga K c)) f = some none) && (decide (PySem.W.findIn K (.ref (He.ga K c)) "__init__" = some (some (.ref (He.ma K (He.ga K c) "__init__")))) && (decide (PySem.W.typeIn K (.ref (He.ma K (He.ga K c) "__init__")) = some (.type "function")) && (decide (PySem.W.ks_superIn K (He.ga K c) (He.ga K c) "__init__" = some (some (.builtin "ValueError.__init__"))) &&
  (decide (PySem.W.subIn K (.ref (He.ga K c)) (.type "ValueError") = some true) && (decide (PySem.W.mroIn K (He.ga K c) (.ref (He.ga K c)) = some true) && (decide (PySem.W.nsIn K cStatics "thirdparty.any" = some none) && exiFn K (He.ga K c) (He.ma K (He.ga K c) "__init__") f pre)))))))))))
def errT : List (Str × Str × Str) := [("InvalidSlack", "slack", ""), ("InvalidTimes", "times", ""), ("NotForward", "forward", ""), ("TooGreat", "great", ""), ("InvalidPlace", "place", ""), ("InvalidCount", "count", ""), ("InvalidRange", "range", ""), ("OutOfBound", "bound", ""), ("Contradiction", "contradiction", ""),
  ("InvalidName", "name", ""), ("UnknownName", "unknown", ""), ("InvalidPanel", "panel", ""), ("UnlikeRigs", "unlike", ""), ("InvalidRow", "row", "index"), ("InvalidEnds", "ends", "index"), ("InvalidMemory", "memory", "index"), ("InvalidOperation", "operation", "index"), ("InvalidRecording", "recording", "index"), ("NotationError", "notation", "index"), ("DecodeError", "decode", "offset")]
def errNames : List Str := errT.map (·.1)
def errSel : List Str := ["DecodeError"]
def errIn (c : Str) : Bool := errSel.contains c
def errC1 (K : PySem.W.Frag) (c : Str) : Bool := decide (PySem.W.exmOne K (.ref (He.ga K c)) (.ref (He.ga K "RodError")) = some true) && (decide (PySem.W.kitOne K (.ref (He.ga K c)) (.type "ValueError") = some true) && (errNames.all (fun C => decide (PySem.W.kitOne K (.ref (He.ga K c)) (.ref (He.ga K C)) = some (decide (c = C)))) &&
  (decide (PySem.W.findIn K (.ref (He.ga K c)) "__getattribute__" = some (some (.builtin "BaseException.__getattribute__"))) && (decide (PySem.W.findIn K (.ref (He.ga K c)) "__getattr__" = some none) && (decide (PySem.W.subIn K (.ref (He.ga K c)) (.type "BaseException") = some true) && (PySem.W.hasDictIn K (He.ga K c) &&
  (decide (PySem.W.findIn K (.ref (He.ga K c)) "__class__" = some (some (.builtin "object.__class__"))) && (decide (PySem.W.specialIn K (.builtin "object.__class__") "__get__" = some (some (.builtin "getset_descriptor.__get__"))) && (decide (PySem.W.takesIn K (.builtin "object.__class__") = some true) && (decide (PySem.W.mroIn K (He.ga K c) (.type "object") = some true) &&
  (decide (PySem.W.findIn K (.ref (He.ga K c)) "index" = some none) && decide (PySem.W.findIn K (.ref (He.ga K c)) "offset" = some none))))))))))))
def errB (K : PySem.W.Frag) : Bool := errSel.all (errC1 K)
def lawTf : List He.Defn := [("law", none)]
def obW (n : Nat) (fa : List He.Fa) (fn : List He.DefD) (gt : List PropD) (ex : PySem.W.Frag → Bool) (g : Addr → Option Obj) : AlM :=
  (He.obsD fa fn (He.frT g (cStatics :: He.asD g n)), gt.map (PropD.obs (He.frT g (cStatics :: He.asD g n))), ((gt.all fun d => d.ok (He.frT g (cStatics :: He.asD g n))) && ex (He.frT g (cStatics :: He.asD g n))) && He.tabsB g lawTf (He.frT g (cStatics :: He.asD g n)))
structure SaysW (fa : List He.Fa) (fn : List He.DefD) (gt : List PropD) (ex : PySem.W.Frag → Bool) (h : Heap) (K : PySem.W.Frag) : Prop where
  kin : K.In h
  c : He.SaysD fa fn K
  p : gt.map (PropD.obs K) = gt.map PropD.val
  m : ((gt.all fun d => d.ok K) && ex K) = true
  hd : PySem.W.codeHdIn K (He.cT K ("law", none)).1 (He.cT K ("law", none)).2 = true
  out : K.lookup (He.cT K ("law", none)).2 = none
  empty : h.get? (He.cT K ("law", none)).2 = some { cls := .none, data := .fields #[] }
theorem saysW_of {n : Nat} {fa : List He.Fa} {fn : List He.DefD} {gt : List PropD} {ex : PySem.W.Frag → Bool} {h : Heap} (e : obW n fa fn gt ex h.get? = (He.valD fn, gt.map PropD.val, true)) : SaysW fa fn gt ex h (He.frT h.get? (cStatics :: He.asD h.get? n)) := by
  have e1 : He.obsD fa fn (He.frT h.get? (cStatics :: He.asD h.get? n)) = He.valD fn := congrArg (fun z : AlM => z.1) e
  have e2 := congrArg (fun z : AlM => z.2.1) e
  have e3 := congrArg (fun z : AlM => z.2.2) e
  obtain ⟨h1, h2⟩ := He.ba e3
  obtain ⟨h3, h4⟩ := He.ba (List.all_eq_true.mp h2 ("law", none) (by simp [lawTf]))
  have key : ∃ o, h.get? (He.cT (He.frT h.get? (cStatics :: He.asD h.get? n)) ("law", none)).2 = some o ∧ He.emptyTab o = true := by
    cases q : h.get? (He.cT (He.frT h.get? (cStatics :: He.asD h.get? n)) ("law", none)).2 with
    | none => rw [q] at h4; cases h4
    | some o => rw [q] at h4; exact ⟨o, rfl, h4⟩
  obtain ⟨o, q, z⟩ := key
  exact ⟨He.frT_in, e1, e2, h1, h3, He.frT_none q z, by rw [q, He.emptyTab_eq z]⟩
def hookW (n : Nat) (fa : List He.Fa) (fn : List He.DefD) (gt : List PropD) (ex : PySem.W.Frag → Bool) : PySem.W.Hook where
  α := AlM
  obs := fun s => obW n fa fn gt ex s.heap.get?
  val := fun _ => (He.valD fn, gt.map PropD.val, true)
  says := fun _ h => ∃ K : PySem.W.Frag, SaysW fa fn gt ex h K
  of := fun _ _ e => ⟨_, saysW_of e⟩
  keeps := fun _ _ _ ⟨K, c⟩ k => ⟨K, ⟨PySem.W.Frag.In.keeps c.kin k, c.c, c.p, c.m, c.hd, c.out, k _ _ c.empty⟩⟩
theorem obW_eq {n : Nat} {fa : List He.Fa} {fn : List He.DefD} {gt : List PropD} {ex : PySem.W.Frag → Bool} {g : Addr → Option Obj} {s : Shared} (h : ∀ a, g a = s.heap.get? a) : obW n fa fn gt ex g = (hookW n fa fn gt ex).obs s := by
  have e : g = s.heap.get? := funext h
  rw [e] <;> rfl
end Pv
namespace Lw
open PySem PySem.Spec PyProof.Rows L2 Sr
def top (i : Nat) : Stmt := PySem.Challenge.pw_slackrods_k53_wrong_numbers.main.body.getD i (.Pass ⟨0, 0, 0, 0⟩)
abbrev s__wall : Stmt := top 0
abbrev s_is_int : Stmt := top 26
abbrev s_is_int_in : Stmt := top 27
abbrev s_is_place : Stmt := top 28
abbrev s_check_row : Stmt := top 29
abbrev s_moved : Stmt := top 31
abbrev s_followed : Stmt := top 32
abbrev s_curve_of : Stmt := top 37
abbrev s_pull_of : Stmt := top 38
abbrev s_end_at : Stmt := top 39
abbrev s_never_falls : Stmt := top 40
abbrev s_sorted_arms : Stmt := top 41
abbrev s_added : Stmt := top 42
abbrev s_bent : Stmt := top 43
abbrev s_greatest_slack : Stmt := top 44
abbrev s_driven : Stmt := top 45
abbrev s_Rig_init : Stmt := inClass (top 46) 0
abbrev s_Rig_arms : Stmt := inClass (top 46) 1
abbrev s_Rig_pull : Stmt := inClass (top 46) 2
abbrev s_Rig_is_forward : Stmt := inClass (top 46) 3
abbrev s_Rig_still : Stmt := inClass (top 46) 4
abbrev s_Rig_curve : Stmt := inClass (top 46) 5
abbrev s_Rig_at : Stmt := inClass (top 46) 6
abbrev s_Rig_add : Stmt := inClass (top 46) 7
abbrev s_Rig_sub : Stmt := inClass (top 46) 8
abbrev s_Rig_neg : Stmt := inClass (top 46) 9
abbrev s_Rig_mul : Stmt := inClass (top 46) 10
abbrev s_Rig_rshift : Stmt := inClass (top 46) 11
abbrev s_Rig_call : Stmt := inClass (top 46) 12
abbrev s_Rig_len : Stmt := inClass (top 46) 13
abbrev s_Rig_getitem : Stmt := inClass (top 46) 14
abbrev s_Rig_iter : Stmt := inClass (top 46) 15
abbrev s_Rig_eq : Stmt := inClass (top 46) 16
abbrev s_ends_from : Stmt := top 47
abbrev s_ends_of : Stmt := top 48
abbrev s_checksum : Stmt := top 56
abbrev s_Row_init : Stmt := inClass (top 57) 0
abbrev s_Row_next_in : Stmt := inClass (top 57) 1
abbrev s_Row_slack : Stmt := inClass (top 57) 2
abbrev s_Row_arm : Stmt := inClass (top 57) 3
abbrev s_decode : Stmt := top 58
abbrev s_L_random : Stmt := top 60
abbrev s_L_below : Stmt := top 61
abbrev s_L_some_arms : Stmt := top 62
abbrev s_L_checksum : Stmt := top 63
abbrev s_L_numbers : Stmt := top 64
abbrev s_L_error_of : Stmt := top 65
abbrev s_law : Stmt := top 66
def d__wall : He.DefD := ⟨("_wall", none), "_wall", "_wall", defArgs s__wall, defBody s__wall, defScope s__wall, [], []⟩
def d_is_int : He.DefD := ⟨("is_int", none), "is_int", "is_int", defArgs s_is_int, defBody s_is_int, defScope s_is_int, [], []⟩
def d_is_int_in : He.DefD := ⟨("is_int_in", none), "is_int_in", "is_int_in", defArgs s_is_int_in, defBody s_is_int_in, defScope s_is_int_in, [], []⟩
def d_is_place : He.DefD := ⟨("is_place", none), "is_place", "is_place", defArgs s_is_place, defBody s_is_place, defScope s_is_place, [], []⟩
def d_check_row : He.DefD := ⟨("check_row", none), "check_row", "check_row", defArgs s_check_row, defBody s_check_row, defScope s_check_row, [], []⟩
def d_moved : He.DefD := ⟨("moved", none), "moved", "moved", defArgs s_moved, defBody s_moved, defScope s_moved, [], []⟩
def d_followed : He.DefD := ⟨("followed", none), "followed", "followed", defArgs s_followed, defBody s_followed, defScope s_followed, [], []⟩
def d_curve_of : He.DefD := ⟨("curve_of", none), "curve_of", "curve_of", defArgs s_curve_of, defBody s_curve_of, defScope s_curve_of, [], []⟩
def d_pull_of : He.DefD := ⟨("pull_of", none), "pull_of", "pull_of", defArgs s_pull_of, defBody s_pull_of, defScope s_pull_of, [], []⟩
def d_end_at : He.DefD := ⟨("end_at", none), "end_at", "end_at", defArgs s_end_at, defBody s_end_at, defScope s_end_at, [], []⟩
def d_never_falls : He.DefD := ⟨("never_falls", none), "never_falls", "never_falls", defArgs s_never_falls, defBody s_never_falls, defScope s_never_falls, [], []⟩
def d_sorted_arms : He.DefD := ⟨("sorted_arms", none), "sorted_arms", "sorted_arms", defArgs s_sorted_arms, defBody s_sorted_arms, defScope s_sorted_arms, [], []⟩
def d_added : He.DefD := ⟨("added", none), "added", "added", defArgs s_added, defBody s_added, defScope s_added, [], []⟩
def d_bent : He.DefD := ⟨("bent", none), "bent", "bent", defArgs s_bent, defBody s_bent, defScope s_bent, [], []⟩
def d_greatest_slack : He.DefD := ⟨("greatest_slack", none), "greatest_slack", "greatest_slack", defArgs s_greatest_slack, defBody s_greatest_slack, defScope s_greatest_slack, [], []⟩
def d_driven : He.DefD := ⟨("driven", none), "driven", "driven", defArgs s_driven, defBody s_driven, defScope s_driven, [], []⟩
def d_Rig_init : He.DefD := ⟨("Rig", some "__init__"), "__init__", "Rig.__init__", defArgs s_Rig_init, defBody s_Rig_init, defScope s_Rig_init, [], []⟩
def d_Rig_curve : He.DefD := ⟨("Rig", some "curve"), "curve", "Rig.curve", defArgs s_Rig_curve, defBody s_Rig_curve, defScope s_Rig_curve, [], []⟩
def d_Rig_at : He.DefD := ⟨("Rig", some "at"), "at", "Rig.at", defArgs s_Rig_at, defBody s_Rig_at, defScope s_Rig_at, [], []⟩
def d_Rig_add : He.DefD := ⟨("Rig", some "__add__"), "__add__", "Rig.__add__", defArgs s_Rig_add, defBody s_Rig_add, defScope s_Rig_add, [], []⟩
def d_Rig_sub : He.DefD := ⟨("Rig", some "__sub__"), "__sub__", "Rig.__sub__", defArgs s_Rig_sub, defBody s_Rig_sub, defScope s_Rig_sub, [], []⟩
def d_Rig_neg : He.DefD := ⟨("Rig", some "__neg__"), "__neg__", "Rig.__neg__", defArgs s_Rig_neg, defBody s_Rig_neg, defScope s_Rig_neg, [], []⟩
def d_Rig_mul : He.DefD := ⟨("Rig", some "__mul__"), "__mul__", "Rig.__mul__", defArgs s_Rig_mul, defBody s_Rig_mul, defScope s_Rig_mul, [], []⟩
def d_Rig_rshift : He.DefD := ⟨("Rig", some "__rshift__"), "__rshift__", "Rig.__rshift__", defArgs s_Rig_rshift, defBody s_Rig_rshift, defScope s_Rig_rshift, [], []⟩
def d_Rig_call : He.DefD := ⟨("Rig", some "__call__"), "__call__", "Rig.__call__", defArgs s_Rig_call, defBody s_Rig_call, defScope s_Rig_call, [], []⟩
def d_Rig_len : He.DefD := ⟨("Rig", some "__len__"), "__len__", "Rig.__len__", defArgs s_Rig_len, defBody s_Rig_len, defScope s_Rig_len, [], []⟩
def d_Rig_getitem : He.DefD := ⟨("Rig", some "__getitem__"), "__getitem__", "Rig.__getitem__", defArgs s_Rig_getitem, defBody s_Rig_getitem, defScope s_Rig_getitem, [], []⟩
def d_Rig_iter : He.DefD := ⟨("Rig", some "__iter__"), "__iter__", "Rig.__iter__", defArgs s_Rig_iter, defBody s_Rig_iter, defScope s_Rig_iter, [], []⟩
def d_Rig_eq : He.DefD := ⟨("Rig", some "__eq__"), "__eq__", "Rig.__eq__", defArgs s_Rig_eq, defBody s_Rig_eq, defScope s_Rig_eq, [], []⟩
def d_ends_from : He.DefD := ⟨("ends_from", none), "ends_from", "ends_from", defArgs s_ends_from, defBody s_ends_from, defScope s_ends_from, [], []⟩
def d_ends_of : He.DefD := ⟨("ends_of", none), "ends_of", "ends_of", defArgs s_ends_of, defBody s_ends_of, defScope s_ends_of, [], []⟩
def d_checksum : He.DefD := ⟨("checksum", none), "checksum", "checksum", defArgs s_checksum, defBody s_checksum, defScope s_checksum, [], []⟩
def d_Row_init : He.DefD := ⟨("Row", some "__init__"), "__init__", "Row.__init__", defArgs s_Row_init, defBody s_Row_init, defScope s_Row_init, [], []⟩
def d_Row_next_in : He.DefD := ⟨("Row", some "next_in"), "next_in", "Row.next_in", defArgs s_Row_next_in, defBody s_Row_next_in, defScope s_Row_next_in, [], []⟩
def d_Row_slack : He.DefD := ⟨("Row", some "slack"), "slack", "Row.slack", defArgs s_Row_slack, defBody s_Row_slack, defScope s_Row_slack, [], []⟩
def d_Row_arm : He.DefD := ⟨("Row", some "arm"), "arm", "Row.arm", defArgs s_Row_arm, defBody s_Row_arm, defScope s_Row_arm, [], []⟩
def d_decode : He.DefD := ⟨("decode", none), "decode", "decode", defArgs s_decode, defBody s_decode, defScope s_decode, [], []⟩
def d_L_random : He.DefD := ⟨("_law_random", none), "_law_random", "_law_random", defArgs s_L_random, defBody s_L_random, defScope s_L_random, [], []⟩
def d_L_below : He.DefD := ⟨("_law_below", none), "_law_below", "_law_below", defArgs s_L_below, defBody s_L_below, defScope s_L_below, [], []⟩
def d_L_some_arms : He.DefD := ⟨("_law_some_arms", none), "_law_some_arms", "_law_some_arms", defArgs s_L_some_arms, defBody s_L_some_arms, defScope s_L_some_arms, [], []⟩
def d_L_checksum : He.DefD := ⟨("_law_checksum", none), "_law_checksum", "_law_checksum", defArgs s_L_checksum, defBody s_L_checksum, defScope s_L_checksum, [], []⟩
def d_L_numbers : He.DefD := ⟨("_law_numbers", none), "_law_numbers", "_law_numbers", defArgs s_L_numbers, defBody s_L_numbers, defScope s_L_numbers, [], []⟩
def d_L_error_of : He.DefD := ⟨("_law_error_of", none), "_law_error_of", "_law_error_of", defArgs s_L_error_of, defBody s_L_error_of, defScope s_L_error_of, [], []⟩
def d_law : He.DefD := ⟨("law", none), "law", "law", defArgs s_law, defBody s_law, defScope s_law, [], []⟩
def fn : List He.DefD := [d__wall, d_is_int, d_is_int_in, d_is_place, d_check_row, d_moved, d_followed, d_curve_of, d_pull_of, d_end_at, d_never_falls, d_sorted_arms, d_added, d_bent, d_greatest_slack, d_driven, d_Rig_init, d_Rig_curve, d_Rig_at, d_Rig_add, d_Rig_sub, d_Rig_neg, d_Rig_mul, d_Rig_rshift, d_Rig_call, d_Rig_len, d_Rig_getitem, d_Rig_iter, d_Rig_eq, d_ends_from, d_ends_of, d_checksum, d_Row_init, d_Row_next_in, d_Row_slack, d_Row_arm, d_decode, d_L_random, d_L_below, d_L_some_arms, d_L_checksum, d_L_numbers, d_L_error_of, d_law]
def g_Rig_arms : PropD := ⟨"Rig", "arms", "Rig.arms", defArgs s_Rig_arms, defBody s_Rig_arms, defScope s_Rig_arms⟩
def g_Rig_pull : PropD := ⟨"Rig", "pull", "Rig.pull", defArgs s_Rig_pull, defBody s_Rig_pull, defScope s_Rig_pull⟩
def g_Rig_is_forward : PropD := ⟨"Rig", "is_forward", "Rig.is_forward", defArgs s_Rig_is_forward, defBody s_Rig_is_forward, defScope s_Rig_is_forward⟩
def g_Rig_still : PropD := ⟨"Rig", "still", "Rig.still", defArgs s_Rig_still, defBody s_Rig_still, defScope s_Rig_still⟩
def gt : List PropD := [g_Rig_arms, g_Rig_pull, g_Rig_is_forward, g_Rig_still]
def fa : List He.Fa := [.glo "_wall", .glo "RodError", .glo "InvalidSlack", .glo "InvalidTimes", .glo "NotForward", .glo "TooGreat", .glo "InvalidPlace", .glo "InvalidCount", .glo "InvalidRange", .glo "OutOfBound", .glo "Contradiction", .glo "InvalidName", .glo "UnknownName", .glo "InvalidPanel", .glo "UnlikeRigs", .glo "InvalidRow", .glo "InvalidEnds", .glo "InvalidMemory", .glo "InvalidOperation", .glo "InvalidRecording", .glo "NotationError", .glo "DecodeError", .int "FAR" (1000000), .int "MAX_ROW" (1000), .glo "is_int", .glo "is_int_in", .glo "is_place", .glo "check_row", .glo "moved", .glo "followed", .int "MAX_TIMES" (99), .int "MAX_ARMS" (60), .int "MAX_DEEP" (999), .glo "curve_of", .glo "pull_of", .glo "end_at", .glo "never_falls", .glo "sorted_arms", .glo "added", .glo "bent", .glo "greatest_slack", .glo "driven", .glo "Rig", .glo "ends_from", .glo "ends_of", .int "FIRST" (82), .int "MOST" (255), .int "BASE" (256), .int "START" (7), .int "FACTOR" (3), .int "MODULUS" (253), .glo "checksum", .glo "Row", .glo "decode", .glo "_law_random", .glo "_law_below", .glo "_law_some_arms", .glo "_law_checksum", .glo "_law_numbers", .glo "_law_error_of", .glo "law", .free "len", .free "abs", .free "min", .free "max", .free "sum", .free "sorted", .free "any", .free "isinstance", .free "range", .free "enumerate", .free "zip", .free "super", .free "int", .free "list", .free "tuple", .free "dict", .free "set", .free "bool", .free "ValueError", .free "TypeError", .cls "Rig", .mkr "Rig", .noat "Rig" "told", .meth "Rig" "__init__", .meth "Rig" "curve", .meth "Rig" "at", .meth "Rig" "__add__", .meth "Rig" "__sub__", .meth "Rig" "__neg__", .meth "Rig" "__mul__", .meth "Rig" "__rshift__", .meth "Rig" "__call__", .meth "Rig" "__len__", .meth "Rig" "__getitem__", .meth "Rig" "__iter__", .meth "Rig" "__eq__", .cls "Row", .mkr "Row", .noat "Row" "numbers", .noat "Row" "spot", .meth "Row" "__init__", .meth "Row" "next_in", .meth "Row" "slack", .meth "Row" "arm"]
def ex (K : PySem.W.Frag) : Bool := (neIn K (He.ga K "Rig") (He.ma K (He.ga K "Rig") "__eq__") && (PySem.W.notFirst K (He.ga K "Rig") (.type "tuple") && (PySem.W.fnIn K (He.ma K (He.ga K "Rig") "__call__") && (clsAt K (He.ga K "Rig") && (clsAt K (He.ga K "Row") && (Pv.errB K && (Pv.expB K "InvalidSlack" && (Pv.expB K "InvalidTimes" && (Pv.expB K "NotForward" && (Pv.expB K "TooGreat" && (Pv.expB K "InvalidPlace" && (Pv.exiB K "InvalidRow" "index" "index " && (Pv.exiB K "DecodeError" "offset" "offset " && (PySem.W.selfFirst K (He.ga K "Rig") && (PySem.W.fnIn K (He.ma K (He.ga K "Rig") "__getitem__") && (Pv.binT K (He.ga K "Rig") "int" .Mult && true))))))))))))))))
abbrev SayL (K : PySem.W.Frag) (mg : Str → Option Value) : Prop := Say fa fn gt ex K mg
section
variable {K : PySem.W.Frag} {mg : Str → Option Value}
theorem S_RodError (S : SayL K mg) : mg "RodError" = some (.ref (He.ga K "RodError")) := S.glo 1
theorem S_InvalidSlack (S : SayL K mg) : mg "InvalidSlack" = some (.ref (He.ga K "InvalidSlack")) := S.glo 2
theorem S_InvalidTimes (S : SayL K mg) : mg "InvalidTimes" = some (.ref (He.ga K "InvalidTimes")) := S.glo 3
theorem S_NotForward (S : SayL K mg) : mg "NotForward" = some (.ref (He.ga K "NotForward")) := S.glo 4
theorem S_TooGreat (S : SayL K mg) : mg "TooGreat" = some (.ref (He.ga K "TooGreat")) := S.glo 5
theorem S_InvalidPlace (S : SayL K mg) : mg "InvalidPlace" = some (.ref (He.ga K "InvalidPlace")) := S.glo 6
theorem S_InvalidCount (S : SayL K mg) : mg "InvalidCount" = some (.ref (He.ga K "InvalidCount")) := S.glo 7
theorem S_InvalidRange (S : SayL K mg) : mg "InvalidRange" = some (.ref (He.ga K "InvalidRange")) := S.glo 8
theorem S_OutOfBound (S : SayL K mg) : mg "OutOfBound" = some (.ref (He.ga K "OutOfBound")) := S.glo 9
theorem S_Contradiction (S : SayL K mg) : mg "Contradiction" = some (.ref (He.ga K "Contradiction")) := S.glo 10
theorem S_InvalidName (S : SayL K mg) : mg "InvalidName" = some (.ref (He.ga K "InvalidName")) := S.glo 11
theorem S_UnknownName (S : SayL K mg) : mg "UnknownName" = some (.ref (He.ga K "UnknownName")) := S.glo 12
theorem S_InvalidPanel (S : SayL K mg) : mg "InvalidPanel" = some (.ref (He.ga K "InvalidPanel")) := S.glo 13
theorem S_UnlikeRigs (S : SayL K mg) : mg "UnlikeRigs" = some (.ref (He.ga K "UnlikeRigs")) := S.glo 14
theorem S_InvalidRow (S : SayL K mg) : mg "InvalidRow" = some (.ref (He.ga K "InvalidRow")) := S.glo 15
theorem S_InvalidEnds (S : SayL K mg) : mg "InvalidEnds" = some (.ref (He.ga K "InvalidEnds")) := S.glo 16
theorem S_InvalidMemory (S : SayL K mg) : mg "InvalidMemory" = some (.ref (He.ga K "InvalidMemory")) := S.glo 17
theorem S_InvalidOperation (S : SayL K mg) : mg "InvalidOperation" = some (.ref (He.ga K "InvalidOperation")) := S.glo 18
theorem S_InvalidRecording (S : SayL K mg) : mg "InvalidRecording" = some (.ref (He.ga K "InvalidRecording")) := S.glo 19
theorem S_NotationError (S : SayL K mg) : mg "NotationError" = some (.ref (He.ga K "NotationError")) := S.glo 20
theorem S_DecodeError (S : SayL K mg) : mg "DecodeError" = some (.ref (He.ga K "DecodeError")) := S.glo 21
theorem S_FAR (S : SayL K mg) : ∃ t, mg "FAR" = some (.int (1000000) t) := S.int 22
theorem S_MAX_ARMS (S : SayL K mg) : ∃ t, mg "MAX_ARMS" = some (.int (60) t) := S.int 31
theorem S_MAX_DEEP (S : SayL K mg) : ∃ t, mg "MAX_DEEP" = some (.int (999) t) := S.int 32
theorem S_Rig (S : SayL K mg) : mg "Rig" = some (.ref (He.ga K "Rig")) := S.glo 42
theorem S_FIRST (S : SayL K mg) : ∃ t, mg "FIRST" = some (.int (82) t) := S.int 45
theorem S_MOST (S : SayL K mg) : ∃ t, mg "MOST" = some (.int (255) t) := S.int 46
theorem S_BASE (S : SayL K mg) : ∃ t, mg "BASE" = some (.int (256) t) := S.int 47
theorem S_START (S : SayL K mg) : ∃ t, mg "START" = some (.int (7) t) := S.int 48
theorem S_FACTOR (S : SayL K mg) : ∃ t, mg "FACTOR" = some (.int (3) t) := S.int 49
theorem S_MODULUS (S : SayL K mg) : ∃ t, mg "MODULUS" = some (.int (253) t) := S.int 50
theorem S_Row (S : SayL K mg) : mg "Row" = some (.ref (He.ga K "Row")) := S.glo 52
theorem S_law (S : SayL K mg) : mg "law" = some (.ref (He.ga K "law")) := S.glo 60
theorem S_len (S : SayL K mg) : mg "len" = none := S.free 61
theorem S_abs (S : SayL K mg) : mg "abs" = none := S.free 62
theorem S_min (S : SayL K mg) : mg "min" = none := S.free 63
theorem S_max (S : SayL K mg) : mg "max" = none := S.free 64
theorem S_sorted (S : SayL K mg) : mg "sorted" = none := S.free 66
theorem S_isinstance (S : SayL K mg) : mg "isinstance" = none := S.free 68
theorem S_range (S : SayL K mg) : mg "range" = none := S.free 69
theorem S_super (S : SayL K mg) : mg "super" = none := S.free 72
theorem S_int (S : SayL K mg) : mg "int" = none := S.free 73
theorem S_list (S : SayL K mg) : mg "list" = none := S.free 74
theorem S_tuple (S : SayL K mg) : mg "tuple" = none := S.free 75
theorem S_set (S : SayL K mg) : mg "set" = none := S.free 77
theorem S_bool (S : SayL K mg) : mg "bool" = none := S.free 78
theorem S_ValueError (S : SayL K mg) : mg "ValueError" = none := S.free 79
theorem C_Rig (S : SayL K mg) : Cls K (He.ga K "Rig") := He.cls_ok (S.c.fact 81)
theorem K_Rig (S : SayL K mg) : Mk K (He.ga K "Rig") (He.ma K (He.ga K "Rig") "__init__") := He.mkr_ok (S.c.fact 82)
theorem N_Rig_told (S : SayL K mg) : NoAttr K (He.ga K "Rig") "told" := He.noat_ok (S.c.fact 83)
theorem C_Row (S : SayL K mg) : Cls K (He.ga K "Row") := He.cls_ok (S.c.fact 97)
theorem K_Row (S : SayL K mg) : Mk K (He.ga K "Row") (He.ma K (He.ga K "Row") "__init__") := He.mkr_ok (S.c.fact 98)
theorem N_Row_numbers (S : SayL K mg) : NoAttr K (He.ga K "Row") "numbers" := He.noat_ok (S.c.fact 99)
theorem N_Row_spot (S : SayL K mg) : NoAttr K (He.ga K "Row") "spot" := He.noat_ok (S.c.fact 100)
theorem X_err (S : SayL K mg) : (Pv.errB K) = true := (He.ba (He.ba (He.ba (He.ba (He.ba (He.ba S.more).2).2).2).2).2).1
theorem X_exi_DecodeError (S : SayL K mg) : (Pv.exiB K "DecodeError" "offset" "offset ") = true := (He.ba (He.ba (He.ba (He.ba (He.ba (He.ba (He.ba (He.ba (He.ba (He.ba (He.ba (He.ba (He.ba S.more).2).2).2).2).2).2).2).2).2).2).2).2).1
end
end Lw
namespace Lw
open PySem PySem.Spec PyProof.Rows L2 Sr Pv
abbrev R : PySem.W.OpenRow := PySem.W.OpenLaw.row PySem.Challenge.rw_slackrods_k53_wrong_numbers
abbrev hk : PySem.W.Hook := hookW 7 fa fn gt ex
def ob (s : PySem.W.SharedT) : AlM := obW 7 fa fn gt ex (HandSHeadRun.getT s)
theorem ob_eq (s : PySem.W.SharedT) : ob s = hk.obs s.abs := obW_eq (HandSHeadRun.getT_eq s)
def loose0 : List PySem.Str := ["_wall", "RodError", "InvalidSlack", "InvalidTimes", "NotForward", "TooGreat", "InvalidPlace", "InvalidCount", "InvalidRange", "OutOfBound", "Contradiction", "InvalidName", "UnknownName", "InvalidPanel", "UnlikeRigs", "InvalidRow", "InvalidEnds", "InvalidMemory", "InvalidOperation", "InvalidRecording", "NotationError", "DecodeError", "FAR", "MAX_ROW", "is_int", "is_int_in", "is_place", "check_row", "moved", "followed"]
def loose1 : List PySem.Str := ["MAX_TIMES", "MAX_ARMS", "MAX_DEEP", "curve_of", "pull_of", "end_at", "never_falls", "sorted_arms", "added", "bent", "greatest_slack", "driven", "Rig", "ends_from", "ends_of", "FIRST", "MOST", "BASE", "START", "FACTOR", "MODULUS", "checksum", "Row", "decode", "_law_random", "_law_below", "_law_some_arms", "_law_checksum", "_law_numbers", "_law_error_of"]
def loose : List PySem.Str := loose0 ++ loose1
theorem run (w : World) : HandSHeadRun.RunEq R (PySem.W.view R.prog [66]) hk ob 20000 loose w := by
  intro os
  kernel_rfl
end Lw
/-! plain mathematics: memories. A memory's places are held as a list, the LAST place first. -/
namespace Mt
def iabs (a : Int) : Int := if a < 0 then -a else a
/-- the place p, moved to upward or downward, is behind b -/
def pas (up : Bool) (p b : Int) : Bool := if up then decide (b ≤ p) else decide (p ≤ b)
/-- what is popped: found (last first), heights -/
def shrink (up : Bool) (p : Int) : List Int → List Int → List Int × List Int
  | a :: b :: r, hs => if pas up p b = true then shrink up p r (hs ++ [iabs (a - b)]) else (a :: b :: r, hs)
  | [a], hs => ([a], hs)
  | [], hs => ([], hs)
def movedR (rs : List Int) (p : Int) : List Int × List Int := match rs with
  | [] => ([p], [])
  | a :: r => if p = a then (a :: r, []) else
    let up := decide (a < p)
    let f := if up = decide ((r.length + 1) % 2 = 0) then r else a :: r
    (p :: (shrink up p f []).1, (shrink up p f []).2)
def followR (rs : List Int) : List Int → List Int × List Int
  | [] => (rs, [])
  | p :: row => ((followR (movedR rs p).1 row).1, (movedR rs p).2 ++ (followR (movedR rs p).1 row).2)
theorem moved_ne (rs : List Int) (p : Int) : (movedR rs p).1 ≠ [] := by
  cases rs with
  | nil => simp [movedR]
  | cons a r =>
    unfold movedR
    dsimp only
    split
    · simp
    · simp
/-- whether p can follow behind the places rs (last first) -/
def isNextR : List Int → Int → Bool
  | [], p => decide (p ≤ 0)
  | [a], p => decide (a < p)
  | b :: a :: _, p => decide (min a b < p) && decide (p < max a b)
/-- a memory, last place first -/
def MemV : List Int → Prop
  | [] => True
  | a :: r => (-1000000 ≤ a ∧ a ≤ 1000000) ∧ isNextR r a = true ∧ MemV r
def MemOk (rs : List Int) : Prop := rs ≠ [] ∧ MemV rs
theorem memV_at : ∀ {rs : List Int} {k : Nat}, MemV rs → (h : k < rs.length) → (-1000000 ≤ rs[k] ∧ rs[k] ≤ 1000000) ∧ isNextR (rs.drop (k + 1)) rs[k] = true
  | a :: r, 0, m, _ => ⟨m.1, m.2.1⟩
  | a :: r, k + 1, m, h => by
    have := memV_at (rs := r) (k := k) m.2.2 (by simpa using h)
    simpa using this
theorem memV_alt : ∀ {r : List Int} {a b : Int}, MemV (b :: a :: r) → (r.length % 2 = 0 → a < b) ∧ (r.length % 2 = 1 → b < a)
  | [], a, b, m => by
    have h : decide (a < b) = true := m.2.1
    exact ⟨fun _ => of_decide_eq_true h, fun h => by simp at h⟩
  | c :: r, a, b, m => by
    have ih := memV_alt (r := r) (a := c) (b := a) m.2.2
    have h : (decide (min c a < b) && decide (b < max c a)) = true := m.2.1
    simp only [Bool.and_eq_true, decide_eq_true_eq] at h
    simp only [List.length_cons]
    constructor
    · intro e; have := ih.2 (by omega); omega
    · intro e; have := ih.1 (by omega); omega
theorem shrink_up (p : Int) : ∀ (n : Nat) (f hs : List Int), f.length ≤ n → f.length % 2 = 1 → MemV f → (∀ x t, f = x :: t → x < p) → MemV (shrink true p f hs).1 ∧ isNextR (shrink true p f hs).1 p = true ∧ (shrink true p f hs).1 ≠ []
  | _, [], hs, _, h, _, _ => by simp at h
  | _, [a], hs, _, _, m, h => by
    have := h a [] rfl
    simp [shrink, isNextR, m, this]
  | 0, a :: b :: r, hs, h, _, _, _ => by simp at h
  | n + 1, a :: b :: r, hs, h, ho, m, hx => by
    unfold shrink
    split
    · rename_i c
      have cb : b ≤ p := by simpa [pas] using c
      refine shrink_up p n r _ (by simp at h; omega) (by simp at ho; omega) m.2.2.2.2 ?_
      intro x t e
      subst e
      have := (memV_alt m.2.2).1 (by simp at ho; omega)
      omega
    · rename_i c
      have cb : p < b := by simpa [pas] using c
      have ha := hx a (b :: r) rfl
      refine ⟨m, ?_, by simp⟩
      simp only [isNextR, Bool.and_eq_true, decide_eq_true_eq]
      omega
theorem shrink_dn (p : Int) : ∀ (n : Nat) (f hs : List Int), f.length ≤ n → f.length % 2 = 0 → MemV f → (∀ x t, f = x :: t → p < x) → (f = [] → p ≤ 0) → MemV (shrink false p f hs).1 ∧ isNextR (shrink false p f hs).1 p = true
  | _, [], hs, _, h, _, _, h0 => by
    have := h0 rfl
    simp [shrink, isNextR, MemV, this]
  | _, [a], hs, _, h, m, _, _ => by simp at h
  | 0, a :: b :: r, hs, h, _, _, _, _ => by simp at h
  | n + 1, a :: b :: r, hs, h, ho, m, hx, _ => by
    unfold shrink
    split
    · rename_i c
      have cb : p ≤ b := by simpa [pas] using c
      refine shrink_dn p n r _ (by simp at h; omega) (by simp at ho; omega) m.2.2.2.2 ?_ ?_
      · intro x t e
        subst e
        have := (memV_alt m.2.2).2 (by simp at ho; omega)
        omega
      · intro e
        subst e
        have h1 : decide (b ≤ 0) = true := m.2.2.2.1
        have := of_decide_eq_true h1
        omega
    · rename_i c
      have cb : b < p := by simpa [pas] using c
      have ha := hx a (b :: r) rfl
      refine ⟨m, ?_⟩
      simp only [isNextR, Bool.and_eq_true, decide_eq_true_eq]
      omega
theorem memV_moved {rs : List Int} {p : Int} (m : MemV rs) (hne : rs ≠ []) (hp : -1000000 ≤ p ∧ p ≤ 1000000) : MemV (movedR rs p).1 := by
  cases rs with
  | nil => exact absurd rfl hne
  | cons a r =>
    unfold movedR
    dsimp only
    split
    · exact m
    · rename_i hpa
      by_cases up : a < p
      · have hu : decide (a < p) = true := decide_eq_true up
        simp only [hu]
        split
        · rename_i e
          have ev : (r.length + 1) % 2 = 0 := of_decide_eq_true e.symm
          have := shrink_up p r.length r [] (Nat.le_refl _) (by omega) m.2.2 (fun x t e => by
            subst e
            have := (memV_alt m).1 (by simp at ev; omega)
            omega)
          exact ⟨hp, this.2.1, this.1⟩
        · rename_i e
          have ev : ¬ (r.length + 1) % 2 = 0 := fun z => e (decide_eq_true z).symm
          have := shrink_up p (a :: r).length (a :: r) [] (Nat.le_refl _) (by simp; omega) m (fun x t e => by cases e; exact up)
          exact ⟨hp, this.2.1, this.1⟩
      · have hu : decide (a < p) = false := decide_eq_false up
        simp only [hu]
        split
        · rename_i e
          have ev : ¬ (r.length + 1) % 2 = 0 := of_decide_eq_false e.symm
          have := shrink_dn p r.length r [] (Nat.le_refl _) (by omega) m.2.2 (fun x t e => by
            subst e
            have := (memV_alt m).2 (by simp at ev; omega)
            omega) (fun e => by
            subst e
            have h1 : decide (a ≤ 0) = true := m.2.1
            have := of_decide_eq_true h1
            omega)
          exact ⟨hp, this.2, this.1⟩
        · rename_i e
          have ev : (r.length + 1) % 2 = 0 := by
            by_cases z : (r.length + 1) % 2 = 0
            · exact z
            · exact absurd (decide_eq_false z).symm e
          have := shrink_dn p (a :: r).length (a :: r) [] (Nat.le_refl _) (by simpa using ev) m (fun x t e => by cases e; omega) (fun e => by cases e)
          exact ⟨hp, this.2, this.1⟩
theorem memOk_rest : MemOk [0] := ⟨by simp, by simp [MemV, isNextR]⟩
def memR (row : List Int) : List Int := (followR [0] row).1
/-- the row of a memory (last first) -/
def rowOf (rs : List Int) : List Int := if rs.reverse.head? = some 0 then rs.reverse.tail else rs.reverse
end Mt

/-! plain mathematics: the memory by its meaning -/
namespace Mt
/-- p is at or behind a (low: not above it) -/
def trig (low : Bool) (a p : Int) : Bool := if low then decide (p ≤ a) else decide (a ≤ p)
/-- one more place, by the places from the first on -/
def addF : Bool → List Int → Int → List Int
  | _, [], p => [p]
  | low, a :: r, p => if trig low a p = true then [p] else a :: addF (!low) r p
/-- ps are the turning places of the walk w, beginning with its lowest (low) or highest place -/
inductive LM : Bool → List Int → List Int → Prop
  | stop {low : Bool} {u : List Int} {a : Int} (h : ∀ x ∈ u ++ [a], trig low x a = true) : LM low (u ++ [a]) [a]
  | go {low : Bool} {u v : List Int} {a : Int} {ps : List Int} (h : ∀ x ∈ u ++ a :: v, trig low x a = true) (hv : v ≠ []) (hn : a ∉ v) (r : LM (!low) (a :: v) ps) : LM low (u ++ a :: v) (a :: ps)
theorem snoc_last {l m : List Int} {a b : Int} (h : l ++ [a] = m ++ [b]) : a = b := by
  have e := congrArg List.reverse h
  rw [List.reverse_append, List.reverse_append] at e
  exact (List.cons.inj e).1
theorem trig_self (low : Bool) (a : Int) : trig low a a = true := by cases low <;> simp [trig]
theorem trig_trans {low : Bool} {a b c : Int} (h1 : trig low a b = true) (h2 : trig low b c = true) : trig low a c = true := by
  cases low <;> simp [trig] at h1 h2 ⊢ <;> omega
theorem trig_total {low : Bool} {a b : Int} (h : ¬ trig low a b = true) : trig low b a = true := by
  cases low <;> simp [trig] at h ⊢ <;> omega
theorem trig_not {low : Bool} {a b : Int} (h : ¬ trig low a b = true) : trig (!low) a b = true := by
  cases low <;> simp [trig] at h ⊢ <;> omega
theorem LM.head {low : Bool} {w ps : List Int} (h : LM low w ps) : ∃ a r u v, ps = a :: r ∧ w = u ++ a :: v ∧ a ∉ v ∧ (∀ x ∈ w, trig low x a = true) ∧ ((v = [] ∧ r = []) ∨ (v ≠ [] ∧ LM (!low) (a :: v) r)) := by
  cases h with
  | stop h => exact ⟨_, [], _, [], rfl, rfl, by simp, h, .inl ⟨rfl, rfl⟩⟩
  | go h hv hn r => exact ⟨_, _, _, _, rfl, rfl, hn, h, .inr ⟨hv, r⟩⟩
theorem LM.snoc {low : Bool} {w ps : List Int} (h : LM low w ps) (p : Int) : LM low (w ++ [p]) (addF low ps p) := by
  induction h with
  | @stop low u a h =>
    unfold addF
    split
    · rename_i c
      refine LM.stop (u := u ++ [a]) fun x hx => ?_
      rcases List.mem_append.mp hx with hx | hx
      · exact trig_trans (h x hx) c
      · have : x = p := by simpa using hx
        rw [this]; exact trig_self _ _
    · rename_i c
      have e : u ++ [a] ++ [p] = u ++ a :: [p] := by simp
      rw [e]
      refine LM.go (fun x hx => ?_) (by simp) ?_ ?_
      · rcases List.mem_append.mp hx with hx | hx
        · exact h x (by simp [hx])
        · rcases List.mem_cons.mp hx with hx | hx
          · rw [hx]; exact trig_self _ _
          · have : x = p := by simpa using hx
            rw [this]; exact trig_total c
      · intro z
        have : a = p := by simpa using z
        rw [this] at c
        exact c (trig_self _ _)
      · show LM (!low) ([a] ++ [p]) (addF (!low) [] p)
        refine LM.stop fun x hx => ?_
        have : x = a ∨ x = p := by simpa using hx
        rcases this with e | e
        · rw [e]; exact trig_not c
        · rw [e]; exact trig_self _ _
  | @go low u v a ps h hv hn r ih =>
    unfold addF
    split
    · rename_i c
      have e : u ++ a :: v ++ [p] = (u ++ a :: v) ++ [p] := rfl
      refine LM.stop (u := u ++ a :: v) fun x hx => ?_
      rcases List.mem_append.mp hx with hx | hx
      · exact trig_trans (h x hx) c
      · have : x = p := by simpa using hx
        rw [this]; exact trig_self _ _
    · rename_i c
      have e : u ++ a :: v ++ [p] = u ++ a :: (v ++ [p]) := by simp
      rw [e]
      refine LM.go (fun x hx => ?_) (by simp) ?_ ih
      · have hx' : x ∈ (u ++ a :: v) ++ [p] := by simpa using hx
        rcases List.mem_append.mp hx' with hx | hx
        · exact h x hx
        · have : x = p := by simpa using hx
          rw [this]; exact trig_total c
      · intro z
        rcases List.mem_append.mp z with z | z
        · exact hn z
        · have : a = p := by simpa using z
          rw [this] at c
          exact c (trig_self _ _)
/-- none of the places (last first) is met by p -/
def Ins : List Int → Int → Prop
  | [], _ => True
  | a :: r, p => ¬ trig (decide (r.length % 2 = 0)) a p = true ∧ Ins r p
theorem addF_app : ∀ (f g : List Int) (p : Int), Ins f p → addF true (f.reverse ++ g) p = f.reverse ++ addF (decide (f.length % 2 = 0)) g p
  | [], g, p, _ => rfl
  | a :: r, g, p, h => by
    rw [List.reverse_cons, List.append_assoc, addF_app r ([a] ++ g) p h.2]
    show r.reverse ++ addF _ (a :: g) p = _
    rw [addF, if_neg h.1]
    simp only [List.length_cons, List.append_assoc, List.cons_append, List.nil_append]
    have e : (!decide (r.length % 2 = 0)) = decide ((r.length + 1) % 2 = 0) := by
      by_cases c : r.length % 2 = 0
      · have : ¬ (r.length + 1) % 2 = 0 := by omega
        simp [c, this]
      · have : (r.length + 1) % 2 = 0 := by omega
        simp [c, this]
    rw [e]
theorem ins_of : ∀ {f : List Int} {p : Int}, MemV f → isNextR f p = true → Ins f p
  | [], p, _, _ => trivial
  | [a], p, _, h => by
    have h : decide (a < p) = true := h
    have := of_decide_eq_true h
    refine ⟨?_, trivial⟩
    simp [trig]; exact this
  | b :: a :: r, p, m, h => by
    have alt := memV_alt m
    have h' : (decide (min a b < p) && decide (p < max a b)) = true := h
    simp only [Bool.and_eq_true, decide_eq_true_eq] at h'
    have hb : ¬ trig (decide ((r.length + 1) % 2 = 0)) b p = true := by
      by_cases c : r.length % 2 = 0
      · have c' : ¬ (r.length + 1) % 2 = 0 := by omega
        have := alt.1 c
        simp [trig, c']; omega
      · have c' : (r.length + 1) % 2 = 0 := by omega
        have := alt.2 (by omega)
        simp [trig, c']; omega
    refine ⟨hb, ?_⟩
    refine ins_of m.2.2 ?_
    cases r with
    | nil =>
      have := alt.1 rfl
      show decide (a < p) = true
      exact decide_eq_true (by omega)
    | cons c r =>
      have hb2 : (decide (min c a < b) && decide (b < max c a)) = true := m.2.1
      simp only [Bool.and_eq_true, decide_eq_true_eq] at hb2
      show (decide (min c a < p) && decide (p < max c a)) = true
      simp only [Bool.and_eq_true, decide_eq_true_eq]
      simp only [List.length_cons] at alt
      by_cases z : (r.length + 1) % 2 = 0
      · have := alt.1 z
        have := (memV_alt m.2.2).2 (by omega)
        omega
      · have := alt.2 (by omega)
        have := (memV_alt m.2.2).1 (by omega)
        omega
/-- what is left of the places is a beginning of them, and the first one that went was met -/
theorem shrink_suf (up : Bool) (p : Int) : ∀ (n : Nat) (f hs : List Int), f.length ≤ n → (up = true → f.length % 2 = 1) → (up = false → f.length % 2 = 0) →
    ∃ g, f = g ++ (shrink up p f hs).1 ∧ ∀ z a, g = z ++ [a] → trig (decide ((shrink up p f hs).1.length % 2 = 0)) a p = true
  | _, [], hs, _, _, _ => ⟨[], by simp [shrink], by simp⟩
  | _, [a], hs, _, _, _ => ⟨[], by simp [shrink], by simp⟩
  | 0, a :: b :: r, hs, h, _, _ => by simp at h
  | n + 1, a :: b :: r, hs, h, h1, h0 => by
    unfold shrink
    split
    · rename_i c
      obtain ⟨g, e, t⟩ := shrink_suf up p n r (hs ++ [iabs (a - b)]) (by simp at h; omega) (fun z => by have := h1 z; simp at this; omega) (fun z => by have := h0 z; simp at this; omega)
      refine ⟨a :: b :: g, by rw [List.cons_append, List.cons_append, ← e], fun z x hz => ?_⟩
      rcases List.eq_nil_or_concat g with hg | ⟨g', y, hg⟩
      · subst hg
        have er : (shrink up p r (hs ++ [iabs (a - b)])).1 = r := by simpa using e.symm
        have hz' : [a] ++ [b] = z ++ [x] := by simpa using hz
        have exb : b = x := by
          have := congrArg List.getLast? hz'
          simpa using this
        subst exb
        rw [er]
        cases up with
        | true =>
          have := h1 rfl
          have cz : ¬ r.length % 2 = 0 := by simp at this; omega
          simp only [cz, decide_false]
          simpa [trig, pas] using c
        | false =>
          have := h0 rfl
          have cz : r.length % 2 = 0 := by simp at this; omega
          simp only [cz, decide_true]
          simpa [trig, pas] using c
      · have hg2 : g = g' ++ [y] := by simpa using hg
        refine t g' x ?_
        have hz' : a :: b :: g' ++ [y] = z ++ [x] := by rw [← hz, hg2]; simp
        have : y = x := snoc_last (l := a :: b :: g') hz'
        rw [hg2, this]
    · exact ⟨[], rfl, by simp⟩
theorem moved_addF {rs : List Int} {p : Int} (m : MemV rs) (hne : rs ≠ []) (hp : -1000000 ≤ p ∧ p ≤ 1000000) : (movedR rs p).1.reverse = addF true rs.reverse p := by
  have mm := memV_moved m hne hp
  cases rs with
  | nil => exact absurd rfl hne
  | cons a r =>
    by_cases hpa : p = a
    · have e : (movedR (a :: r) p).1 = a :: r := by simp [movedR, hpa]
      rw [e]
      have hi := ins_of m.2.2 m.2.1
      rw [List.reverse_cons, hpa, addF_app r [a] a hi]
      rw [addF, if_pos (trig_self _ _)]
    · -- a beginning f of the places, and p
      have key : ∃ f g, a :: r = g ++ f ∧ (movedR (a :: r) p).1 = p :: f ∧ ∀ z x, g = z ++ [x] → trig (decide (f.length % 2 = 0)) x p = true := by
        unfold movedR
        dsimp only
        rw [if_neg hpa]
        by_cases c : decide (a < p) = decide ((r.length + 1) % 2 = 0)
        · rw [if_pos c]
          obtain ⟨g, e, t⟩ := shrink_suf (decide (a < p)) p r.length r [] (Nat.le_refl _) (fun z => by rw [c] at z; have := of_decide_eq_true z; omega) (fun z => by rw [c] at z; have := of_decide_eq_false z; omega)
          refine ⟨_, a :: g, by rw [List.cons_append, ← e], rfl, fun z x hz => ?_⟩
          rcases List.eq_nil_or_concat g with hg | ⟨g', y, hg⟩
          · subst hg
            have er : (shrink (decide (a < p)) p r []).1 = r := by simpa using e.symm
            have hz' : [] ++ [a] = z ++ [x] := by simpa using hz
            have exb : a = x := by
              have := congrArg List.getLast? hz'
              simpa using this
            subst exb
            rw [er]
            by_cases up : a < p
            · have : (r.length + 1) % 2 = 0 := by rw [decide_eq_true up] at c; exact of_decide_eq_true c.symm
              have cz : ¬ r.length % 2 = 0 := by omega
              simp only [cz, decide_false, trig]
              simp; omega
            · have : ¬ (r.length + 1) % 2 = 0 := by rw [decide_eq_false up] at c; exact of_decide_eq_false c.symm
              have cz : r.length % 2 = 0 := by omega
              simp only [cz, decide_true, trig]
              simp; omega
          · have hg2 : g = g' ++ [y] := by simpa using hg
            refine t g' x ?_
            have hz' : a :: g' ++ [y] = z ++ [x] := by rw [← hz, hg2]; simp
            have : y = x := snoc_last (l := a :: g') hz'
            rw [hg2, this]
        · rw [if_neg c]
          obtain ⟨g, e, t⟩ := shrink_suf (decide (a < p)) p (a :: r).length (a :: r) [] (Nat.le_refl _) (fun z => by
              simp only [List.length_cons]
              by_cases q : (r.length + 1) % 2 = 0
              · exact absurd (by rw [z, decide_eq_true q]) c
              · omega) (fun z => by
              simp only [List.length_cons]
              by_cases q : (r.length + 1) % 2 = 0
              · exact q
              · exact absurd (by rw [z, decide_eq_false q]) c)
          exact ⟨_, g, e, rfl, t⟩
      obtain ⟨f, g, e, em, t⟩ := key
      rw [em] at mm ⊢
      have hi := ins_of mm.2.2 mm.2.1
      have er : (a :: r).reverse = f.reverse ++ g.reverse := by rw [e, List.reverse_append]
      rw [er, addF_app f g.reverse p hi, List.reverse_cons]
      rcases List.eq_nil_or_concat g with hg | ⟨g', y, hg⟩
      · subst hg; rfl
      · have hg2 : g = g' ++ [y] := by simpa using hg
        have := t g' y hg2
        rw [hg2]
        simp only [List.reverse_append, List.reverse_cons, List.reverse_nil, List.nil_append, List.cons_append]
        rw [addF, if_pos this]
end Mt

/-! plain mathematics: rows of memories -/
namespace Mt
/-- how many moves the row of a memory has -/
def wt (rs : List Int) : Nat := (rowOf rs).length
end Mt

/-! plain mathematics: fewest moves between memories (places from the first on) -/
namespace Mt
def goF (ps ws : List Int) : Nat → Option (List Int)
  | 0 => none
  | c + 1 => if addF true ps (ws.getD c 0) = ws.take (c + 1) then some (ws.drop c) else goF ps ws c
/-- the moves that are found -/
def fewF (ps ws : List Int) : Option (List Int) := if ps = ws then some [] else goF ps ws ws.length
def fl (rs gs : List Int) : Nat := ((fewF rs.reverse gs.reverse).getD []).length
end Mt

/-! plain mathematics: arms, curves, ends -/
namespace Mt
/-- max(0, x) -/
def pos (x : Int) : Int := if 0 < x then x else 0
def curveA (arms : List (Int × Int)) (h : Int) : Int := (arms.map fun a => a.2 * pos (h - a.1)).sum
def pullA (arms : List (Int × Int)) : Int := (arms.map fun a => a.2).sum
/-- the sum over the swings, places from the first on -/
def swings (arms : List (Int × Int)) : Int → List Int → Int
  | sg, a :: b :: r => sg * curveA arms (iabs (b - a)) + swings arms (0 - sg) (b :: r)
  | _, _ => 0
def endA (arms : List (Int × Int)) (ps : List Int) : Int := ps.getD 0 0 * pullA arms + swings arms 1 ps
/-- places that swing, each swing less than the one before -/
def Zig : Bool → List Int → Prop
  | up, a :: b :: c :: r => (if up then a < c ∧ c < b else b < c ∧ c < a) ∧ Zig (!up) (b :: c :: r)
  | up, [a, b] => if up then a < b else b < a
  | _, _ => True
theorem Zig.two {up : Bool} {a b : Int} : ∀ {r : List Int}, Zig up (a :: b :: r) → if up then a < b else b < a
  | [], h => h
  | c :: r, h => by
    have := h.1
    cases up <;> simp at this ⊢ <;> omega
theorem Zig.tail {up : Bool} {a b : Int} : ∀ {r : List Int}, Zig up (a :: b :: r) → Zig (!up) (b :: r)
  | [], _ => trivial
  | _ :: _, h => h.2
theorem Zig.snoc : ∀ {l : List Int} {up : Bool} {x y z : Int}, Zig up (l ++ [x, y]) → (min x y < z ∧ z < max x y) → Zig up (l ++ [x, y, z])
  | [], up, x, y, z, h, hz => by
    have h' : if up then x < y else y < x := h
    refine ⟨?_, ?_⟩
    · cases up <;> simp at h' ⊢ <;> omega
    · show if !up then y < z else z < y
      cases up <;> simp at h' ⊢ <;> omega
  | [a], up, x, y, z, h, hz => by
    obtain ⟨h1, h2⟩ := h
    exact ⟨h1, Zig.snoc (l := []) h2 hz⟩
  | a :: b :: l, up, x, y, z, h, hz => by
    cases l with
    | nil =>
      obtain ⟨h1, h2⟩ := h
      exact ⟨h1, Zig.snoc (l := [b]) h2 hz⟩
    | cons c l =>
      obtain ⟨h1, h2⟩ := h
      exact ⟨h1, Zig.snoc (l := b :: c :: l) h2 hz⟩
theorem zig_memV : ∀ {rs : List Int}, MemV rs → Zig true rs.reverse
  | [], _ => trivial
  | [a], _ => trivial
  | [b, a], h => by
    have := (memV_alt h).1 rfl
    show if true = true then a < b else b < a
    rw [if_pos rfl]; exact this
  | z :: y :: x :: r, h => by
    have ih := zig_memV h.2.2
    have hz := h.2.1
    simp only [isNextR, Bool.and_eq_true, decide_eq_true_eq] at hz
    rw [List.reverse_cons, List.reverse_cons] at ih
    rw [List.reverse_cons, List.reverse_cons, List.reverse_cons]
    simp only [List.append_assoc, List.singleton_append] at ih ⊢
    exact Zig.snoc ih (by omega)
/-- the swings of one rod -/
def Tr (s : Int) : List Int → Int
  | a :: b :: r => pos (iabs (b - a) - s) - Tr s (b :: r)
  | _ => 0
theorem curve_rod (s h : Int) : curveA [(s, 1)] h = pos (h - s) := by simp [curveA]
theorem swings_rod (s : Int) : ∀ (l : List Int) (sg : Int), swings [(s, 1)] sg l = sg * Tr s l
  | [], sg => by simp [swings, Tr]
  | [a], sg => by simp [swings, Tr]
  | a :: b :: r, sg => by
    show sg * curveA [(s, 1)] (iabs (b - a)) + swings [(s, 1)] (0 - sg) (b :: r) = sg * (pos (iabs (b - a) - s) - Tr s (b :: r))
    rw [swings_rod s (b :: r) (0 - sg), curve_rod, Int.mul_sub, Int.sub_mul, Int.zero_mul]
    omega
theorem end_rod (s : Int) (ps : List Int) : endA [(s, 1)] ps = ps.getD 0 0 + Tr s ps := by
  unfold endA
  rw [swings_rod]
  simp [pullA]
/-- the first swing bounds it; one more slack takes 0 or 1 away -/
theorem Tr_bound (s : Int) : ∀ {r : List Int} {a b : Int} {up : Bool}, Zig up (a :: b :: r) → (0 ≤ Tr s (a :: b :: r) ∧ Tr s (a :: b :: r) ≤ pos (iabs (b - a) - s)) ∧
    (0 ≤ Tr s (a :: b :: r) - Tr (s + 1) (a :: b :: r) ∧ Tr s (a :: b :: r) - Tr (s + 1) (a :: b :: r) ≤ (if s < iabs (b - a) then 1 else 0))
  | [], a, b, up, h => by
    simp only [Tr, pos]
    constructor <;> constructor <;> (repeat' split) <;> omega
  | c :: r, a, b, up, h => by
    have ih := Tr_bound s h.2
    have h1 := h.1
    have e : ∀ s, Tr s (a :: b :: c :: r) = pos (iabs (b - a) - s) - Tr s (b :: c :: r) := fun _ => rfl
    rw [e s, e (s + 1)]
    have hh : iabs (c - b) < iabs (b - a) := by
      unfold iabs
      cases up <;> simp at h1 <;> (repeat' split) <;> omega
    obtain ⟨⟨i1, i2⟩, i3, i4⟩ := ih
    simp only [pos] at i2 ⊢
    constructor <;> constructor <;> (repeat' split at *) <;> omega
theorem Tr_zero {s : Int} : ∀ {r : List Int} {a b : Int} {up : Bool}, Zig up (a :: b :: r) → iabs (b - a) ≤ s → Tr s (a :: b :: r) = 0 := by
  intro r a b up h hs
  have := (Tr_bound s h).1
  simp only [pos] at this
  split at this <;> omega
theorem Zig.pos {up : Bool} {a b : Int} {r : List Int} (h : Zig up (a :: b :: r)) : 1 ≤ iabs (b - a) := by
  have := h.two
  unfold iabs
  cases up <;> simp at this <;> split <;> omega
/-- the end of the rod with slack s at a memory (last place first) -/
def rodE (rs : List Int) (s : Int) : Int := endA [(s, 1)] rs.reverse
end Mt

/-! plain maths of arms and curves -/
namespace Rg
abbrev Arms := List (Int × Int)
def pos (x : Int) : Int := if x > 0 then x else 0
def cv (a : Arms) (h : Int) : Int := (a.map fun p => p.2 * pos (h - p.1)).sum
def pull (a : Arms) : Int := (a.map fun p => p.2).sum
def Canon (a : Arms) : Prop := a.Pairwise (fun p q => p.1 < q.1) ∧ ∀ p ∈ a, 0 ≤ p.1 ∧ p.2 ≠ 0
theorem pos_of_le {x : Int} (h : x ≤ 0) : pos x = 0 := by unfold pos; split <;> omega
theorem pos_of_ge {x : Int} (h : 0 ≤ x) : pos x = x := by unfold pos; split <;> omega
@[simp] theorem cv_nil (h : Int) : cv [] h = 0 := rfl
@[simp] theorem cv_cons (p : Int × Int) (a : Arms) (h : Int) : cv (p :: a) h = p.2 * pos (h - p.1) + cv a h := by simp [cv]
@[simp] theorem pull_nil : pull [] = 0 := rfl
@[simp] theorem pull_cons (p : Int × Int) (a : Arms) : pull (p :: a) = p.2 + pull a := by simp [pull]
theorem cv_zero_of {a : Arms} {h : Int} (hs : ∀ p ∈ a, h ≤ p.1) : cv a h = 0 := by
  induction a with
  | nil => rfl
  | cons p a ih =>
    rw [cv_cons, ih fun q hq => hs q (List.mem_cons_of_mem _ hq), pos_of_le (by have := hs p (by simp); omega)]
    simp
theorem Canon.tail {p : Int × Int} {a : Arms} (h : Canon (p :: a)) : Canon a := ⟨(List.pairwise_cons.mp h.1).2, fun q hq => h.2 q (List.mem_cons_of_mem _ hq)⟩
theorem Canon.first {p : Int × Int} {a : Arms} (h : Canon (p :: a)) : cv (p :: a) (p.1 + 1) = p.2 := by
  rw [cv_cons, cv_zero_of fun q hq => by have := (List.pairwise_cons.mp h.1).1 q hq; omega, show p.1 + 1 - p.1 = 1 by omega]
  simp [pos]
theorem Canon.zero (a : Arms) (h : Canon a) : cv a 0 = 0 := cv_zero_of fun p hp => (h.2 p hp).1
/-! ### sums over a table of weights -/
/-- a sum over the entries -/
def sm (φ : Int → Int) (a : Arms) : Int := (a.map fun p => p.2 * φ p.1).sum
@[simp] theorem sm_nil (φ : Int → Int) : sm φ [] = 0 := rfl
@[simp] theorem sm_cons (φ : Int → Int) (p : Int × Int) (a : Arms) : sm φ (p :: a) = p.2 * φ p.1 + sm φ a := by simp [sm]
theorem sm_append (φ : Int → Int) (a b : Arms) : sm φ (a ++ b) = sm φ a + sm φ b := by simp [sm]
theorem cv_sm (a : Arms) (h : Int) : cv a h = sm (fun s => pos (h - s)) a := rfl
theorem sm_perm {φ : Int → Int} {a b : Arms} (h : a.Perm b) : sm φ a = sm φ b := by
  induction h with
  | nil => rfl
  | cons x _ ih => simp [ih]
  | swap x y l => simp; omega
  | trans _ _ ih1 ih2 => rw [ih1, ih2]
theorem pull_sm (a : Arms) : pull a = sm (fun _ => 1) a := by
  induction a with
  | nil => rfl
  | cons p a ih => simp [ih]
def look (ws : Arms) (s : Int) : Int := match ws.find? (fun p => decide (p.1 = s)) with
  | some p => p.2
  | none => 0
def isort (ks : List Int) : List Int := ks.mergeSort (fun a b => decide (a ≤ b))
theorem isort_perm (ks : List Int) : (isort ks).Perm ks := List.mergeSort_perm ks _
theorem isort_sorted (ks : List Int) : (isort ks).Pairwise (· ≤ ·) := by
  have := List.pairwise_mergeSort (le := fun a b : Int => decide (a ≤ b)) (fun a b c h1 h2 => by simp at *; omega) (fun a b => by simp; omega) ks
  exact this.imp (by intro a b h; simpa using h)
def srt (ws : Arms) : Arms := ((isort (ws.map (·.1))).map fun s => (s, look ws s)).filter fun p => decide (p.2 ≠ 0)
theorem look_cons (p : Int × Int) (ws : Arms) (s : Int) : look (p :: ws) s = if p.1 = s then p.2 else look ws s := by
  unfold look
  rw [List.find?_cons]
  by_cases h : p.1 = s <;> simp [h]
theorem look_mem {ws : Arms} (hn : (ws.map (·.1)).Nodup) {p : Int × Int} (hp : p ∈ ws) : look ws p.1 = p.2 := by
  induction ws with
  | nil => cases hp
  | cons q ws ih =>
    rw [List.map_cons, List.nodup_cons] at hn
    rw [look_cons]
    rcases List.mem_cons.mp hp with rfl | hp
    · simp
    · have : q.1 ≠ p.1 := fun e => hn.1 (by rw [e]; exact List.mem_map.mpr ⟨p, hp, rfl⟩)
      rw [if_neg this, ih hn.2 hp]
theorem look_map {ws : Arms} (hn : (ws.map (·.1)).Nodup) : (ws.map (·.1)).map (fun s => (s, look ws s)) = ws := by
  rw [List.map_map]
  conv => rhs; rw [← List.map_id ws]
  apply List.map_congr_left
  intro p hp
  simp [look_mem hn hp]
theorem sm_filter (φ : Int → Int) (a : Arms) : sm φ (a.filter fun p => decide (p.2 ≠ 0)) = sm φ a := by
  induction a with
  | nil => rfl
  | cons p a ih =>
    by_cases h : p.2 = 0
    · rw [List.filter_cons_of_neg (by simp [h]), sm_cons, ih, h]; simp
    · rw [List.filter_cons_of_pos (by simp [h]), sm_cons, sm_cons, ih]
theorem sm_srt (φ : Int → Int) {ws : Arms} (hn : (ws.map (·.1)).Nodup) : sm φ (srt ws) = sm φ ws := by
  unfold srt
  rw [sm_filter]
  have : ((isort (ws.map (·.1))).map fun s => (s, look ws s)).Perm ws := by
    have := (isort_perm (ws.map (·.1))).map fun s => (s, look ws s)
    rw [look_map hn] at this
    exact this
  exact sm_perm this
theorem srt_canon {ws : Arms} (hn : (ws.map (·.1)).Nodup) (h0 : ∀ p ∈ ws, 0 ≤ p.1) : Canon (srt ws) := by
  have hperm := isort_perm (ws.map (·.1))
  have hnd : (isort (ws.map (·.1))).Nodup := hperm.nodup_iff.mpr hn
  have hlt : (isort (ws.map (·.1))).Pairwise (· < ·) := by
    have h1 := isort_sorted (ws.map (·.1))
    exact (List.pairwise_and_iff.mpr ⟨h1, hnd⟩).imp (by intro a b h; have := h.1; have := h.2; omega)
  refine ⟨?_, fun p hp => ?_⟩
  · refine List.Pairwise.filter _ ?_
    exact List.pairwise_map.mpr hlt
  · obtain ⟨h1, h2⟩ := List.mem_filter.mp hp
    obtain ⟨s, hs, rfl⟩ := List.mem_map.mp h1
    have : s ∈ ws.map (·.1) := hperm.mem_iff.mp hs
    obtain ⟨q, hq, rfl⟩ := List.mem_map.mp this
    exact ⟨h0 q hq, by simpa using h2⟩
theorem srt_mem {ws : Arms} {p : Int × Int} (hp : p ∈ srt ws) : (∃ q ∈ ws, q.1 = p.1) ∧ p.2 = look ws p.1 := by
  obtain ⟨h1, h2⟩ := List.mem_filter.mp hp
  obtain ⟨s, hs, rfl⟩ := List.mem_map.mp h1
  have : s ∈ ws.map (·.1) := (isort_perm _).mem_iff.mp hs
  obtain ⟨q, hq, e⟩ := List.mem_map.mp this
  exact ⟨⟨q, hq, e⟩, rfl⟩
theorem srt_len (ws : Arms) : (srt ws).length ≤ ws.length := by
  refine Nat.le_trans (List.length_filter_le _ _) ?_
  rw [List.length_map, (isort_perm _).length_eq, List.length_map]
  exact Nat.le_refl _
/-! ### a table that is written -/
def put (ws : Arms) (s w : Int) : Arms := if (ws.any fun p => decide (p.1 = s)) = true then ws.map (fun p => if p.1 = s then (p.1, w) else p) else ws ++ [(s, w)]
theorem put_keys (ws : Arms) (s w : Int) : (put ws s w).map (·.1) = if s ∈ ws.map (·.1) then ws.map (·.1) else ws.map (·.1) ++ [s] := by
  unfold put
  have e : ((ws.any fun p => decide (p.1 = s)) = true) ↔ s ∈ ws.map (·.1) := by simp
  by_cases h : s ∈ ws.map (·.1)
  · rw [if_pos (e.mpr h), if_pos h, List.map_map]
    apply List.map_congr_left
    intro p _
    simp only [Function.comp]
    split <;> rfl
  · rw [if_neg (fun z => h (e.mp z)), if_neg h, List.map_append]; rfl
theorem put_nodup {ws : Arms} (hn : (ws.map (·.1)).Nodup) (s w : Int) : ((put ws s w).map (·.1)).Nodup := by
  rw [put_keys]
  split
  · exact hn
  · rename_i h
    exact List.nodup_append.mpr ⟨hn, by simp, fun a ha b hb => by
      have : b = s := by simpa using hb
      subst this
      exact fun z => h (z ▸ ha)⟩
theorem sm_put (φ : Int → Int) {ws : Arms} (hn : (ws.map (·.1)).Nodup) (s w : Int) : sm φ (put ws s w) = sm φ ws + (w - look ws s) * φ s := by
  unfold put
  by_cases h : s ∈ ws.map (·.1)
  · rw [if_pos (by simpa using h)]
    induction ws with
    | nil => simp at h
    | cons p ws ih =>
      rw [List.map_cons, List.nodup_cons] at hn
      rw [List.map_cons, sm_cons, sm_cons, look_cons]
      by_cases e : p.1 = s
      · have hns : s ∉ ws.map (·.1) := e ▸ hn.1
        have : ws.map (fun p => if p.1 = s then (p.1, w) else p) = ws := by
          conv => rhs; rw [← List.map_id ws]
          apply List.map_congr_left
          intro q hq
          have : q.1 ≠ s := fun z => hns (z ▸ List.mem_map.mpr ⟨q, hq, rfl⟩)
          simp [this]
        rw [this]
        simp only [e, if_true]
        rw [Int.sub_mul]; omega
      · simp only [e, if_false]
        have hm : s ∈ ws.map (·.1) := by
          rcases List.mem_cons.mp h with z | z
          · exact absurd z.symm e
          · exact z
        rw [ih hn.2 hm]; omega
  · rw [if_neg (by simpa using h), sm_append, sm_cons, sm_nil]
    have : look ws s = 0 := by
      unfold look
      have : ws.find? (fun p => decide (p.1 = s)) = none := List.find?_eq_none.mpr fun p hp => by
        have : p.1 ≠ s := fun z => h (z ▸ List.mem_map.mpr ⟨p, hp, rfl⟩)
        simpa using this
      rw [this]
    rw [this]; simp
/-! ### sums of rigs -/
def addW (a b : Arms) (t : Int) : Arms := b.foldl (fun ws p => put ws p.1 (look ws p.1 + t * p.2)) a
theorem addW_ok (φ : Int → Int) (t : Int) : ∀ {b a : Arms}, (a.map (·.1)).Nodup → ((addW a b t).map (·.1)).Nodup ∧ sm φ (addW a b t) = sm φ a + t * sm φ b
  | [], a, hn => ⟨hn, by simp [addW]⟩
  | p :: b, a, hn => by
    obtain ⟨h1, h2⟩ := addW_ok φ t (b := b) (put_nodup hn p.1 (look a p.1 + t * p.2))
    refine ⟨h1, ?_⟩
    show sm φ (addW (put a p.1 (look a p.1 + t * p.2)) b t) = _
    rw [h2, sm_put φ hn, sm_cons, Int.mul_add]
    have : (look a p.1 + t * p.2 - look a p.1) * φ p.1 = t * (p.2 * φ p.1) := by
      rw [show look a p.1 + t * p.2 - look a p.1 = t * p.2 by omega, Int.mul_assoc]
    omega
theorem put_mem {ws : Arms} {s w : Int} {p : Int × Int} (h : p ∈ put ws s w) : p.1 = s ∨ p ∈ ws := by
  unfold put at h
  split at h
  · obtain ⟨q, hq, rfl⟩ := List.mem_map.mp h
    split
    · rename_i e; exact .inl e
    · exact .inr hq
  · rcases List.mem_append.mp h with h | h
    · exact .inr h
    · have : p = (s, w) := by simpa using h
      exact .inl (by rw [this])
theorem addW_keys (t : Int) : ∀ {b a : Arms} {p : Int × Int}, p ∈ addW a b t → (∃ q ∈ a, q.1 = p.1) ∨ ∃ q ∈ b, q.1 = p.1
  | [], a, p, h => .inl ⟨p, h, rfl⟩
  | q :: b, a, p, h => by
    rcases addW_keys t (b := b) h with ⟨r, hr, e⟩ | ⟨r, hr, e⟩
    · rcases put_mem hr with z | z
      · exact .inr ⟨q, by simp, by rw [← z]; exact e⟩
      · exact .inl ⟨r, z, e⟩
    · exact .inr ⟨r, by simp [hr], e⟩
def addA (a b : Arms) (t : Int) : Arms := srt (addW a b t)
theorem Canon.nodup {a : Arms} (h : Canon a) : (a.map (·.1)).Nodup := by
  have := List.pairwise_map.mpr h.1
  exact this.imp (by intro a b h; omega)
theorem addA_canon {a b : Arms} (ha : Canon a) (hb : ∀ p ∈ b, 0 ≤ p.1) (t : Int) : Canon (addA a b t) := by
  refine srt_canon (addW_ok (fun _ => 0) t ha.nodup).1 fun p hp => ?_
  rcases addW_keys t hp with ⟨q, hq, e⟩ | ⟨q, hq, e⟩
  · rw [← e]; exact (ha.2 q hq).1
  · rw [← e]; exact hb q hq
theorem addA_sm (φ : Int → Int) {a b : Arms} (ha : Canon a) (t : Int) : sm φ (addA a b t) = sm φ a + t * sm φ b := by
  obtain ⟨h1, h2⟩ := addW_ok φ t (b := b) ha.nodup
  unfold addA
  rw [sm_srt φ h1, h2]
theorem addA_cv {a b : Arms} (ha : Canon a) (t h : Int) : cv (addA a b t) h = cv a h + t * cv b h := by rw [cv_sm, cv_sm, cv_sm]; exact addA_sm _ ha t
/-! ### bends and tails -/
theorem cv_step (a : Arms) (h : Int) : cv a (h + 1) - cv a h = sm (fun s => if s ≤ h then 1 else 0) a := by
  induction a with
  | nil => rfl
  | cons p a ih =>
    rw [cv_cons, cv_cons, sm_cons, ← ih]
    have : pos (h + 1 - p.1) = pos (h - p.1) + if p.1 ≤ h then 1 else 0 := by unfold pos; split <;> split <;> split <;> omega
    rw [this, Int.mul_add]; omega
theorem sm_congr {φ ψ : Int → Int} {a : Arms} (h : ∀ p ∈ a, φ p.1 = ψ p.1) : sm φ a = sm ψ a := by
  induction a with
  | nil => rfl
  | cons p a ih => rw [sm_cons, sm_cons, h p (by simp), ih fun q hq => h q (List.mem_cons_of_mem _ hq)]
/-- no slack is greater -/
def Upto (M : Int) (a : Arms) : Prop := ∀ p ∈ a, p.1 ≤ M
theorem cv_tail1 {a : Arms} {M h : Int} (hM : Upto M a) (hh : M ≤ h) : cv a (h + 1) = cv a h + pull a := by
  have := cv_step a h
  rw [sm_congr (ψ := fun _ => 1) fun p hp => by have := hM p hp; simp; omega, ← pull_sm] at this
  omega
theorem cv_tail {a : Arms} {M h : Int} (hM : Upto M a) (hh : M ≤ h) : ∀ k : Nat, cv a (h + k) = cv a h + k * pull a
  | 0 => by simp
  | k + 1 => by
    have h1 := cv_tail hM hh k
    have h2 := cv_tail1 hM (show M ≤ h + k by omega)
    rw [show h + ((k + 1 : Nat) : Int) = h + k + 1 by omega, h2, h1, show ((k + 1 : Nat) : Int) = (k : Int) + 1 by omega, Int.add_mul]
    omega
theorem cv_tail' {a : Arms} {M h x : Int} (hM : Upto M a) (hh : M ≤ h) (hx : h ≤ x) : cv a x = cv a h + (x - h) * pull a := by
  have := cv_tail hM hh (x - h).toNat
  rw [show h + ((x - h).toNat : Int) = x by omega, show ((x - h).toNat : Int) = x - h by omega] at this
  exact this
/-- the curve never falls -/
def Rises (a : Arms) : Prop := ∀ h : Int, 0 ≤ h → cv a h ≤ cv a (h + 1)
theorem Rises.le {a : Arms} (r : Rises a) {x y : Int} (hx : 0 ≤ x) (hxy : x ≤ y) : cv a x ≤ cv a y := by
  have : ∀ k : Nat, cv a x ≤ cv a (x + k) := fun k => by
    induction k with
    | zero => simp
    | succ k ih =>
      have := r (x + k) (by omega)
      rw [show x + ((k + 1 : Nat) : Int) = x + k + 1 by omega]; omega
  have h := this (y - x).toNat
  rwa [show x + ((y - x).toNat : Int) = y by omega] at h
theorem Rises.nonneg {a : Arms} (r : Rises a) (hc : Canon a) {x : Int} (hx : 0 ≤ x) : 0 ≤ cv a x := by
  have := r.le (Int.le_refl 0) hx
  rw [hc.zero] at this
  exact this
def nf : Arms → Int → Bool
  | [], _ => true
  | p :: a, t => decide (0 ≤ t + p.2) && nf a (t + p.2)
/-! ### a curve by its places -/
def bw (E : Int → Int) (h : Nat) : Int := (E (h + 1) - E h) - (if h = 0 then 0 else E h - E (h - 1))
def wB (E : Int → Int) (n : Nat) : Arms := (List.range n).map fun h : Nat => ((h : Int), bw E h)
theorem wB_succ (E : Int → Int) (n : Nat) : wB E (n + 1) = wB E n ++ [((n : Int), bw E n)] := by
  unfold wB; rw [List.range_succ, List.map_append]; rfl
theorem cv_append (a b : Arms) (h : Int) : cv (a ++ b) h = cv a h + cv b h := by rw [cv_sm, sm_append]; rfl
theorem wB_cv (E : Int → Int) : ∀ (n : Nat) (x : Int), 0 ≤ x → (x ≤ n → cv (wB E n) x = E x - E 0) ∧ ((n : Int) ≤ x → 1 ≤ n → cv (wB E n) x = E n - E 0 + (x - n) * (E n - E (n - 1)))
  | 0, x, hx => by
    refine ⟨fun h => ?_, fun _ h => by omega⟩
    have : x = 0 := by omega
    subst this
    simp [wB]
  | n + 1, x, hx => by
    obtain ⟨h1, h2⟩ := wB_cv E n x hx
    have key : cv (wB E (n + 1)) x = cv (wB E n) x + bw E n * pos (x - n) := by rw [wB_succ, cv_append, cv_cons, cv_nil]; simp
    have big : (n : Int) + 1 ≤ x → cv (wB E (n + 1)) x = E (n + 1) - E 0 + (x - (n + 1)) * (E (n + 1) - E n) := fun hnx => by
      rw [key, pos_of_ge (by omega)]
      by_cases hn : n = 0
      · subst hn
        have e0 : cv (wB E 0) x = 0 := rfl
        have e1 : bw E 0 = E (0 + 1) - E 0 := by simp [bw]
        rw [e0, e1]
        have e2 : x - ((0 : Nat) : Int) = (x - (0 + 1)) + 1 := by omega
        rw [e2, Int.mul_add, Int.mul_one, Int.mul_comm (E (0 + 1) - E 0)]
        simp only [Int.natCast_zero]
        omega
      · rw [h2 (by omega) (by omega)]
        have e3 : bw E n = (E (n + 1) - E n) - (E n - E (n - 1)) := by simp [bw, hn]
        rw [e3]
        have e0 : E (↑n + 1) = E ↑n + (E (↑n + 1) - E ↑n) := by omega
        generalize hA : E (↑n + 1) - E ↑n = A at *
        generalize E ↑n - E (↑n - 1) = B at *
        rw [e0]
        have e1 : (x - ↑n) * B + (A - B) * (x - ↑n) = (x - n) * A := by rw [Int.mul_comm (A - B), ← Int.mul_add]; congr 1; omega
        have e2 : (x - ↑n) * A = (x - (↑n + 1)) * A + A := by rw [show x - (n : Int) = (x - (n + 1)) + 1 by omega, Int.add_mul]; omega
        omega
    have cast : ((n + 1 : Nat) : Int) = (n : Int) + 1 := by omega
    refine ⟨fun hx1 => ?_, fun hx1 _ => ?_⟩
    · by_cases hxn : x ≤ n
      · rw [key, pos_of_le (by omega), h1 hxn]; simp
      · have : x = n + 1 := by omega
        rw [big (by omega), this]; simp
    · rw [big (by omega), cast, show (n : Int) + 1 - 1 = n by omega]
theorem wB_keys (E : Int → Int) (n : Nat) : (wB E n).map (·.1) = (List.range n).map fun h : Nat => (h : Int) := by
  unfold wB; rw [List.map_map]; rfl
theorem wB_nodup (E : Int → Int) (n : Nat) : ((wB E n).map (·.1)).Nodup := by
  rw [wB_keys]
  refine List.pairwise_map.mpr ((List.nodup_range (n := n)).imp ?_)
  intro a b h z
  exact h (by omega)
def bentA (E : Int → Int) (n : Nat) : Arms := srt (wB E n)
theorem bentA_canon (E : Int → Int) (n : Nat) : Canon (bentA E n) := srt_canon (wB_nodup E n) fun p hp => by
  obtain ⟨h, _, rfl⟩ := List.mem_map.mp hp
  exact Int.natCast_nonneg h
theorem bentA_cv (E : Int → Int) (n : Nat) (h : Int) : cv (bentA E n) h = cv (wB E n) h := by rw [cv_sm, cv_sm]; exact sm_srt _ (wB_nodup E n)
theorem bentA_upto (E : Int → Int) (n : Nat) : Upto (n - 1) (bentA E n) := fun p hp => by
  obtain ⟨⟨q, hq, e⟩, _⟩ := srt_mem hp
  obtain ⟨h, hh, rfl⟩ := List.mem_map.mp hq
  have := List.mem_range.mp hh
  rw [← e]
  show (h : Int) ≤ n - 1
  omega
/-! ### a rig that drives another one -/
def gs (a : Arms) : Int := match a.getLast? with
  | some p => p.1
  | none => 0
theorem gs_nonneg {a : Arms} (hc : Canon a) : 0 ≤ gs a := by
  unfold gs
  split
  · rename_i p h; exact (hc.2 p (List.mem_of_getLast? h)).1
  · omega
theorem upto_gs {a : Arms} (hc : Canon a) : Upto (gs a) a := fun p hp => by
  unfold gs
  cases q : a.getLast? with
  | none => rw [List.getLast?_eq_none_iff] at q; subst q; cases hp
  | some r =>
    obtain ⟨l, rfl⟩ := List.getLast?_eq_some_iff.mp q
    rcases List.mem_append.mp hp with hp | hp
    · have := (List.pairwise_append.mp hc.1).2.2 p hp r (by simp)
      dsimp only; omega
    · have : p = r := by simpa using hp
      subst this; exact Int.le_refl _
def drA (a b : Arms) : Arms := bentA (fun h => cv b (cv a h)) (gs a + gs b + 1).toNat
theorem drA_cv {a b : Arms} (ha : Canon a) (hb : Canon b) (hr : Rises a) {x : Int} (hx : 0 ≤ x) : cv (drA a b) x = cv b (cv a x) := by
  have ga := gs_nonneg ha
  have gb := gs_nonneg hb
  have hn : ((gs a + gs b + 1).toNat : Int) = gs a + gs b + 1 := by omega
  have e0 : cv b (cv a 0) = 0 := by rw [ha.zero, hb.zero]
  unfold drA
  rw [bentA_cv]
  obtain ⟨h1, h2⟩ := wB_cv (fun h => cv b (cv a h)) (gs a + gs b + 1).toNat x hx
  rw [hn] at h1 h2
  by_cases hle : x ≤ gs a + gs b + 1
  · rw [h1 hle, e0]; omega
  · rw [h2 (by omega) (by omega), e0]
    have hU := upto_gs ha
    have hV := upto_gs hb
    -- beyond gs a + gs b the curve goes evenly
    have lin : ∀ y, gs a + gs b ≤ y → cv b (cv a (y + 1)) - cv b (cv a y) = pull a * pull b := fun y hy => by
      have t1 := cv_tail1 hU (show gs a ≤ y by omega)
      have hm : 0 ≤ pull a := by have := hr y (by omega); omega
      by_cases hz : pull a = 0
      · rw [t1, hz]; simp
      · have hbig : gs b ≤ cv a y := by
          have t2 := cv_tail' hU (Int.le_refl (gs a)) (show gs a ≤ y by omega)
          have t3 := hr.nonneg ha ga
          have t4 : (y - gs a) * 1 ≤ (y - gs a) * pull a := Int.mul_le_mul_of_nonneg_left (by omega) (by omega)
          omega
        have t5 := cv_tail' hV hbig (show cv a y ≤ cv a (y + 1) by omega)
        rw [t5, show cv a (y + 1) - cv a y = pull a by omega]
        omega
    have l1 := lin (gs a + gs b) (Int.le_refl _)
    have all : ∀ k : Nat, cv b (cv a (gs a + gs b + 1 + k)) = cv b (cv a (gs a + gs b + 1)) + k * (pull a * pull b) := fun k => by
      induction k with
      | zero => simp
      | succ k ih =>
        have := lin (gs a + gs b + 1 + k) (by omega)
        rw [show gs a + gs b + 1 + ((k + 1 : Nat) : Int) = gs a + gs b + 1 + k + 1 by omega, show ((k + 1 : Nat) : Int) = (k : Int) + 1 by omega, Int.add_mul]
        omega
    have l2 := all (x - (gs a + gs b + 1)).toNat
    rw [show gs a + gs b + 1 + ((x - (gs a + gs b + 1)).toNat : Int) = x by omega, show ((x - (gs a + gs b + 1)).toNat : Int) = x - (gs a + gs b + 1) by omega] at l2
    rw [l2, show gs a + gs b + 1 - 1 = gs a + gs b by omega, l1]
    omega
theorem drA_canon (a b : Arms) : Canon (drA a b) := bentA_canon _ _
theorem drA_upto {a b : Arms} (ha : Canon a) (hb : Canon b) : Upto (gs a + gs b) (drA a b) := fun p hp => by
  have := bentA_upto _ _ p hp
  have ga := gs_nonneg ha
  have gb := gs_nonneg hb
  omega
end Rg

namespace Rg
theorem nodup_len : ∀ {l m : List Int}, l.Nodup → (∀ x ∈ l, x ∈ m) → l.length ≤ m.length
  | [], m, _, _ => by simp
  | x :: l, m, hn, hs => by
    obtain ⟨h1, h2⟩ := List.nodup_cons.mp hn
    have hx := hs x (by simp)
    have := nodup_len (m := m.erase x) h2 fun y hy => by
      have : y ≠ x := fun z => h1 (z ▸ hy)
      exact (List.mem_erase_of_ne this).mpr (hs y (by simp [hy]))
    rw [List.length_erase_of_mem hx] at this
    have hp : 0 < m.length := List.length_pos_of_mem hx
    simp only [List.length_cons]
    omega
/-! ### bends -/
theorem step_step (a : Arms) (hn : (a.map (·.1)).Nodup) (h : Int) : (cv a (h + 1) - cv a h) - (cv a h - cv a (h - 1)) = look a h := by
  have e1 := cv_step a h
  have e2 := cv_step a (h - 1)
  rw [show h - 1 + 1 = h by omega] at e2
  rw [e1, e2]
  clear e1 e2
  induction a with
  | nil => rfl
  | cons p a ih =>
    rw [List.map_cons, List.nodup_cons] at hn
    rw [sm_cons, sm_cons, look_cons]
    have := ih hn.2
    by_cases e : p.1 = h
    · rw [if_pos (by omega), if_neg (by omega), if_pos e]
      have hz : look a h = 0 := by
        unfold look
        have : a.find? (fun p => decide (p.1 = h)) = none := List.find?_eq_none.mpr fun q hq => by
          have : q.1 ≠ h := fun z => hn.1 (by rw [e, ← z]; exact List.mem_map.mpr ⟨q, hq, rfl⟩)
          simpa using this
        rw [this]
      omega
    · rw [if_neg e]
      by_cases hl : p.1 ≤ h
      · rw [if_pos hl, if_pos (by omega)]; omega
      · rw [if_neg hl, if_neg (by omega)]; omega
theorem cv_neg {a : Arms} (hc : Canon a) {h : Int} (hh : h ≤ 0) : cv a h = 0 := cv_zero_of fun p hp => by have := (hc.2 p hp).1; omega
structure RB (a : Arms) (M L : Int) (n : Nat) : Prop where
  c : Canon a
  m : Upto M a
  m0 : 0 ≤ M
  l : ∀ h : Int, 0 ≤ h → -L ≤ cv a (h + 1) - cv a h ∧ cv a (h + 1) - cv a h ≤ L
  n : a.length ≤ n
theorem RB.l0 {a : Arms} {M L : Int} {n : Nat} (r : RB a M L n) : 0 ≤ L := by have := r.l 0 (by omega); omega
theorem RB.arm {a : Arms} {M L : Int} {n : Nat} (r : RB a M L n) {p : Int × Int} (hp : p ∈ a) : -(2 * L) ≤ p.2 ∧ p.2 ≤ 2 * L := by
  have h := step_step a r.c.nodup p.1
  rw [look_mem r.c.nodup hp] at h
  have h0 := (r.c.2 p hp).1
  have h1 := r.l p.1 h0
  have h2 : -L ≤ cv a p.1 - cv a (p.1 - 1) ∧ cv a p.1 - cv a (p.1 - 1) ≤ L := by
    by_cases z : p.1 = 0
    · rw [z, cv_neg r.c (Int.le_refl 0), cv_neg r.c (show (0 : Int) - 1 ≤ 0 by omega)]
      have := r.l0
      omega
    · have := r.l (p.1 - 1) (by omega)
      rw [show p.1 - 1 + 1 = p.1 by omega] at this
      exact this
  omega
theorem RB.mono {a : Arms} {M L M' L' : Int} {n n' : Nat} (r : RB a M L n) (h1 : M ≤ M') (h2 : L ≤ L') (h3 : n ≤ n') : RB a M' L' n' :=
  ⟨r.c, fun p hp => Int.le_trans (r.m p hp) h1, Int.le_trans r.m0 h1, fun h hh => by have := r.l h hh; omega, Nat.le_trans r.n h3⟩
theorem RB.gs {a : Arms} {M L : Int} {n : Nat} (r : RB a M L n) : gs a ≤ M := by
  unfold Rg.gs
  split
  · rename_i p h; exact r.m p (List.mem_of_getLast? h)
  · exact r.m0
theorem RB.rod {s : Int} (h0 : 0 ≤ s) : RB [(s, 1)] s 1 1 := by
  refine ⟨⟨by simp, by simp [h0]⟩, by intro p hp; simp at hp; subst hp; exact Int.le_refl _, h0, fun h hh => ?_, by simp⟩
  simp only [cv_cons, cv_nil]
  unfold pos
  split <;> split <;> omega
theorem RB.nil {M L : Int} (h1 : 0 ≤ M) (h2 : 0 ≤ L) : RB [] M L 0 := ⟨⟨.nil, by simp⟩, (fun p hp => nomatch hp), h1, (fun h hh => by simp; omega), by simp⟩
theorem put_len (ws : Arms) (s w : Int) : (put ws s w).length ≤ ws.length + 1 := by
  unfold put; split <;> simp
theorem addW_len (t : Int) : ∀ (b a : Arms), (addW a b t).length ≤ a.length + b.length
  | [], a => by simp [addW]
  | p :: b, a => by
    have h1 := addW_len t b (put a p.1 (look a p.1 + t * p.2))
    have h2 := put_len a p.1 (look a p.1 + t * p.2)
    have : (addW a (p :: b) t).length = (addW (put a p.1 (look a p.1 + t * p.2)) b t).length := rfl
    simp only [List.length_cons]
    omega
theorem RB.add {a b : Arms} {M L M' L' T t : Int} {n n' : Nat} (r : RB a M L n) (q : RB b M' L' n') (h1 : -T ≤ t) (h2 : t ≤ T) : RB (addA a b t) (max M M') (L + T * L') (n + n') := by
  refine ⟨addA_canon r.c (fun p hp => (q.c.2 p hp).1) t, fun p hp => ?_, by have := r.m0; omega, fun h hh => ?_, ?_⟩
  · obtain ⟨⟨z, hz, e⟩, _⟩ := srt_mem hp
    rw [← e]
    rcases addW_keys t hz with ⟨w, hw, e2⟩ | ⟨w, hw, e2⟩
    · have := r.m w hw; omega
    · have := q.m w hw; omega
  · have ea := r.l h hh
    have eb := q.l h hh
    have hL := q.l0
    rw [addA_cv r.c, addA_cv r.c]
    have e : cv a (h + 1) + t * cv b (h + 1) - (cv a h + t * cv b h) = (cv a (h + 1) - cv a h) + t * (cv b (h + 1) - cv b h) := by rw [Int.mul_sub]; omega
    rw [e]
    generalize cv b (h + 1) - cv b h = d at *
    have hT : 0 ≤ T := by omega
    have key : -(T * L') ≤ t * d ∧ t * d ≤ T * L' := by
      have k1 : t * d ≤ T * L' := by
        rcases Int.le_total 0 t with ht | ht
        · exact Int.le_trans (Int.mul_le_mul_of_nonneg_left eb.2 ht) (Int.mul_le_mul_of_nonneg_right h2 hL)
        · have : t * d = (-t) * (-d) := by rw [Int.neg_mul_neg]
          rw [this]
          exact Int.le_trans (Int.mul_le_mul_of_nonneg_left (show -d ≤ L' by omega) (by omega)) (Int.mul_le_mul_of_nonneg_right (show -t ≤ T by omega) hL)
      have k2 : -(t * d) ≤ T * L' := by
        rcases Int.le_total 0 t with ht | ht
        · have : -(t * d) = t * (-d) := by rw [Int.mul_neg]
          rw [this]
          exact Int.le_trans (Int.mul_le_mul_of_nonneg_left (show -d ≤ L' by omega) ht) (Int.mul_le_mul_of_nonneg_right h2 hL)
        · have : -(t * d) = (-t) * d := by rw [Int.neg_mul]
          rw [this]
          exact Int.le_trans (Int.mul_le_mul_of_nonneg_left eb.2 (by omega)) (Int.mul_le_mul_of_nonneg_right (show -t ≤ T by omega) hL)
      omega
    omega
  · refine Nat.le_trans (srt_len _) ?_
    have := addW_len t b a
    have := r.n
    have := q.n
    omega
/-- far steps of a curve -/
theorem RB.far {b : Arms} {M L : Int} {n : Nat} (r : RB b M L n) {x d : Int} (hx : 0 ≤ x) (hd : 0 ≤ d) : -(L * d) ≤ cv b (x + d) - cv b x ∧ cv b (x + d) - cv b x ≤ L * d := by
  have : ∀ k : Nat, -(L * k) ≤ cv b (x + k) - cv b x ∧ cv b (x + k) - cv b x ≤ L * k := fun k => by
    induction k with
    | zero => simp
    | succ k ih =>
      have := r.l (x + k) (by omega)
      rw [show x + ((k + 1 : Nat) : Int) = x + k + 1 by omega, show ((k + 1 : Nat) : Int) = (k : Int) + 1 by omega, Int.mul_add]
      omega
  have := this d.toNat
  rwa [show (d.toNat : Int) = d by omega] at this
theorem bend_pos {x m q : Int} (hm : 0 ≤ m) (h : pos (x + m - q) - 2 * pos (x - q) + pos (x - m - q) ≠ 0) : x - m < q ∧ q < x + m := by
  unfold pos at h
  constructor
  · apply Int.not_le.mp
    intro z
    apply h
    split <;> split <;> split <;> omega
  · apply Int.not_le.mp
    intro z
    apply h
    split <;> split <;> split <;> omega
theorem bend_some {b : Arms} {x m : Int} (hm : 0 ≤ m) (h : cv b (x + m) - 2 * cv b x + cv b (x - m) ≠ 0) : ∃ p ∈ b, x - m < p.1 ∧ p.1 < x + m := by
  induction b with
  | nil => simp at h
  | cons p b ih =>
    by_cases e : pos (x + m - p.1) - 2 * pos (x - p.1) + pos (x - m - p.1) = 0
    · obtain ⟨q, hq, hh⟩ := ih (by
        intro z
        apply h
        rw [cv_cons, cv_cons, cv_cons]
        have : p.2 * pos (x + m - p.1) + -2 * (p.2 * pos (x - p.1)) + p.2 * pos (x - m - p.1) = p.2 * (pos (x + m - p.1) - 2 * pos (x - p.1) + pos (x - m - p.1)) := by
          rw [Int.mul_add, Int.mul_sub]
          have : p.2 * (2 * pos (x - p.1)) = 2 * (p.2 * pos (x - p.1)) := by rw [← Int.mul_assoc, Int.mul_comm p.2 2, Int.mul_assoc]
          omega
        rw [e] at this
        simp at this
        omega)
      exact ⟨q, List.mem_cons_of_mem _ hq, hh⟩
    · exact ⟨p, by simp, bend_pos hm e⟩
theorem least {P : Nat → Prop} : (∃ k, P k) → ∃ k, P k ∧ ∀ j, P j → k ≤ j := by
  rintro ⟨k, hk⟩
  induction k using Nat.strongRecOn with
  | _ k ih =>
    by_cases h : ∃ j, j < k ∧ P j
    · obtain ⟨j, hj, pj⟩ := h
      exact ih j hj pj
    · exact ⟨k, hk, fun j pj => Nat.not_lt.mp fun z => h ⟨j, z, pj⟩⟩
open Classical in
/-- the least height at which a curve comes up to a place -/
noncomputable def reach (a : Arms) (q : Int) : Int := if h : ∃ k : Nat, q ≤ cv a k then (((least h).choose : Nat) : Int) else 0
theorem drA_len {a b : Arms} (ha : Canon a) (hb : Canon b) (hr : Rises a) : (drA a b).length ≤ a.length + 2 * b.length := by
  have hnd := (drA_canon a b).nodup
  have key : ∀ x ∈ (drA a b).map (·.1), x ∈ a.map (·.1) ++ b.flatMap (fun q => [reach a q.1 - 1, reach a q.1]) := fun x hx => by
    obtain ⟨p, hp, rfl⟩ := List.mem_map.mp hx
    by_cases hm : p.1 ∈ a.map (·.1)
    · exact List.mem_append_left _ hm
    · apply List.mem_append_right
      have h0 := ((drA_canon a b).2 p hp).1
      have hne := ((drA_canon a b).2 p hp).2
      have e1 := step_step (drA a b) hnd p.1
      rw [look_mem hnd hp] at e1
      have cvE : ∀ y : Int, -1 ≤ y → cv (drA a b) y = cv b (cv a y) := fun y hy => by
        by_cases hz : 0 ≤ y
        · exact drA_cv ha hb hr hz
        · rw [cv_neg (drA_canon a b) (by omega), cv_neg ha (show y ≤ 0 by omega), hb.zero]
      rw [cvE _ (by omega), cvE _ (by omega), cvE _ (by omega)] at e1
      have e2 := step_step a ha.nodup p.1
      have hz : look a p.1 = 0 := by
        unfold look
        have : a.find? (fun q => decide (q.1 = p.1)) = none := List.find?_eq_none.mpr fun q hq => by
          have : q.1 ≠ p.1 := fun z => hm (z ▸ List.mem_map.mpr ⟨q, hq, rfl⟩)
          simpa using this
        rw [this]
      rw [hz] at e2
      have hm0 : 0 ≤ cv a (p.1 + 1) - cv a p.1 := by have := hr p.1 h0; omega
      obtain ⟨q, hq, l1, l2⟩ := bend_some (b := b) (x := cv a p.1) (m := cv a (p.1 + 1) - cv a p.1) hm0 (by
        rw [show cv a p.1 + (cv a (p.1 + 1) - cv a p.1) = cv a (p.1 + 1) by omega, show cv a p.1 - (cv a (p.1 + 1) - cv a p.1) = cv a (p.1 - 1) by omega]
        omega)
      refine List.mem_flatMap.mpr ⟨q, hq, ?_⟩
      have hex : ∃ k : Nat, q.1 ≤ cv a k := ⟨(p.1 + 1).toNat, by rw [show (((p.1 + 1).toNat : Nat) : Int) = p.1 + 1 by omega]; omega⟩
      have hre : reach a q.1 = (((least hex).choose : Nat) : Int) := by unfold reach; rw [dif_pos hex]
      obtain ⟨f1, fm⟩ := (least hex).choose_spec
      generalize (least hex).choose = kk at *
      have f2 : kk ≤ (p.1 + 1).toNat := fm _ (by rw [show (((p.1 + 1).toNat : Nat) : Int) = p.1 + 1 by omega]; omega)
      have f3 : p.1 ≤ (kk : Int) := by
        apply Int.not_lt.mp
        intro z
        have := hr.le (show (0 : Int) ≤ (kk : Int) by omega) (show (kk : Int) ≤ p.1 - 1 by omega)
        omega
      rw [hre]
      have : p.1 = (kk : Int) - 1 ∨ p.1 = (kk : Int) := by omega
      rcases this with z | z
      · rw [z]; simp
      · rw [z]; simp
  have := nodup_len hnd key
  rw [List.length_map, List.length_append, List.length_map] at this
  have e : (b.flatMap fun q => [reach a q.1 - 1, reach a q.1]).length = 2 * b.length := by
    clear key this hb hnd
    induction b with
    | nil => rfl
    | cons q b ih => rw [List.flatMap_cons, List.length_append, ih]; simp; omega
  omega
theorem RB.dr {a b : Arms} {M L M' L' : Int} {n n' : Nat} (r : RB a M L n) (q : RB b M' L' n') (hr : Rises a) : RB (drA a b) (M + M') (L * L') (n + 2 * n') := by
  refine ⟨drA_canon a b, fun p hp => ?_, by have := r.m0; have := q.m0; omega, fun h hh => ?_, ?_⟩
  · have := drA_upto r.c q.c p hp
    have := r.gs
    have := q.gs
    omega
  · rw [drA_cv r.c q.c hr (by omega), drA_cv r.c q.c hr hh]
    have h1 := r.l h hh
    have h2 := hr h hh
    have h3 := q.far (hr.nonneg r.c hh) (show 0 ≤ cv a (h + 1) - cv a h by omega)
    rw [show cv a h + (cv a (h + 1) - cv a h) = cv a (h + 1) by omega] at h3
    have h4 : L' * (cv a (h + 1) - cv a h) ≤ L' * L := Int.mul_le_mul_of_nonneg_left h1.2 q.l0
    rw [Int.mul_comm L L']
    omega
  · have := drA_len r.c q.c hr
    have := r.n
    have := q.n
    omega
end Rg

namespace Rg
theorem look_not {a : Arms} {s : Int} (h : s ∉ a.map (·.1)) : look a s = 0 := by
  unfold look
  have : a.find? (fun q => decide (q.1 = s)) = none := List.find?_eq_none.mpr fun q hq => by
    have : q.1 ≠ s := fun z => h (z ▸ List.mem_map.mpr ⟨q, hq, rfl⟩)
    simpa using this
  rw [this]
/-- driven by a curve of slopes 0 and 1, each bend comes once -/
theorem drA_len1 {a b : Arms} (ha : Canon a) (hb : Canon b) (hr : Rises a) (h1 : ∀ h : Int, 0 ≤ h → cv a (h + 1) - cv a h ≤ 1) : (drA a b).length ≤ a.length + b.length := by
  have hnd := (drA_canon a b).nodup
  have key : ∀ x ∈ (drA a b).map (·.1), x ∈ a.map (·.1) ++ b.map (fun q => reach a q.1) := fun x hx => by
    obtain ⟨p, hp, rfl⟩ := List.mem_map.mp hx
    by_cases hm : p.1 ∈ a.map (·.1)
    · exact List.mem_append_left _ hm
    · apply List.mem_append_right
      have h0 := ((drA_canon a b).2 p hp).1
      have hne := ((drA_canon a b).2 p hp).2
      have e1 := step_step (drA a b) hnd p.1
      rw [look_mem hnd hp] at e1
      have cvE : ∀ y : Int, -1 ≤ y → cv (drA a b) y = cv b (cv a y) := fun y hy => by
        by_cases hz : 0 ≤ y
        · exact drA_cv ha hb hr hz
        · rw [cv_neg (drA_canon a b) (by omega), cv_neg ha (show y ≤ 0 by omega), hb.zero]
      rw [cvE _ (by omega), cvE _ (by omega), cvE _ (by omega)] at e1
      have e2 := step_step a ha.nodup p.1
      rw [look_not hm] at e2
      have hm0 : 0 ≤ cv a (p.1 + 1) - cv a p.1 := by have := hr p.1 h0; omega
      have hm1 := h1 p.1 h0
      obtain ⟨q, hq, l1, l2⟩ := bend_some (b := b) (x := cv a p.1) (m := cv a (p.1 + 1) - cv a p.1) hm0 (by
        rw [show cv a p.1 + (cv a (p.1 + 1) - cv a p.1) = cv a (p.1 + 1) by omega, show cv a p.1 - (cv a (p.1 + 1) - cv a p.1) = cv a (p.1 - 1) by omega]
        omega)
      refine List.mem_map.mpr ⟨q, hq, ?_⟩
      have hex : ∃ k : Nat, q.1 ≤ cv a k := ⟨(p.1 + 1).toNat, by rw [show (((p.1 + 1).toNat : Nat) : Int) = p.1 + 1 by omega]; omega⟩
      have hre : reach a q.1 = (((least hex).choose : Nat) : Int) := by unfold reach; rw [dif_pos hex]
      obtain ⟨f1, fm⟩ := (least hex).choose_spec
      generalize (least hex).choose = kk at *
      have f2 : kk ≤ p.1.toNat := fm _ (by rw [show ((p.1.toNat : Nat) : Int) = p.1 by omega]; omega)
      have f3 : p.1 ≤ (kk : Int) := by
        apply Int.not_lt.mp
        intro z
        have := hr.le (show (0 : Int) ≤ (kk : Int) by omega) (show (kk : Int) ≤ p.1 - 1 by omega)
        omega
      rw [hre]; omega
  have := nodup_len hnd key
  rw [List.length_map, List.length_append, List.length_map, List.length_map] at this
  exact this
theorem RB.dr1 {a b : Arms} {M M' L' : Int} {n n' : Nat} (r : RB a M 1 n) (q : RB b M' L' n') (hr : Rises a) : RB (drA a b) (M + M') L' (n + n') := by
  have h := r.dr q hr
  refine ⟨h.c, h.m, h.m0, by simpa using h.l, ?_⟩
  have := drA_len1 r.c q.c hr fun h hh => (r.l h hh).2
  have := r.n
  have := q.n
  omega
/-! ### trees -/
inductive Tr where
  | rod (s : Int) | mul (t : Tr) (k : Int) | neg (t : Tr) | add (a b : Tr) | sub (a b : Tr) | chn (a b : Tr)
def Tr.ar : Tr → Arms
  | .rod s => [(s, 1)]
  | .mul t k => addA [] t.ar k
  | .neg t => addA [] t.ar (-1)
  | .add a b => addA a.ar b.ar 1
  | .sub a b => addA a.ar b.ar (-1)
  | .chn a b => drA a.ar b.ar
def Tr.tot : Tr → Int
  | .rod s => s
  | .mul t _ => t.tot
  | .neg t => t.tot
  | .add a b => a.tot + b.tot
  | .sub a b => a.tot + b.tot
  | .chn a b => a.tot + b.tot
/-- a tree that is drawn: its depth, its slacks, its chains -/
inductive TOk : Nat → Tr → Prop
  | rod {n : Nat} {s : Int} (h0 : 0 ≤ s) (h6 : s ≤ 6) : TOk n (.rod s)
  | mul {n : Nat} {t : Tr} {k : Int} (ht : TOk n t) (h1 : -3 ≤ k) (h2 : k ≤ 3) : TOk (n + 1) (.mul t k)
  | neg {n : Nat} {t : Tr} (ht : TOk n t) : TOk (n + 1) (.neg t)
  | add {n : Nat} {a b : Tr} (ha : TOk n a) (hb : TOk n b) : TOk (n + 1) (.add a b)
  | sub {n : Nat} {a b : Tr} (ha : TOk n a) (hb : TOk n b) : TOk (n + 1) (.sub a b)
  | chn {n : Nat} {a b : Tr} (ha : TOk n a) (hb : TOk n b) (hr : Rises a.ar) : TOk (n + 1) (.chn a b)
def Lb : Nat → Int
  | 0 => 1
  | 1 => 3
  | 2 => 9
  | _ => 81
def Nb : Nat → Nat
  | 0 => 1
  | 1 => 2
  | 2 => 6
  | _ => 18
def Mb : Nat → Int
  | 0 => 6
  | n + 1 => 2 * Mb n
theorem Mb_pos : ∀ n, 6 ≤ Mb n
  | 0 => by simp [Mb]
  | n + 1 => by have := Mb_pos n; simp only [Mb]; omega
theorem TOk.rb : ∀ {n : Nat} {t : Tr}, TOk n t → n ≤ 3 → RB t.ar (Mb n) (Lb n) (Nb n) ∧ Upto t.tot t.ar ∧ 0 ≤ t.tot ∧ t.tot ≤ Mb n
  | n, _, .rod (s := s) h0 h6, hn => by
    have hM := Mb_pos n
    have hL : 1 ≤ Lb n := by match n with | 0 => decide | 1 => decide | 2 => decide | n + 3 => exact (by decide : (1 : Int) ≤ 81)
    have hN : 1 ≤ Nb n := by match n with | 0 => decide | 1 => decide | 2 => decide | n + 3 => exact (by decide : 1 ≤ 18)
    exact ⟨(RB.rod h0).mono (by omega) hL hN, fun p hp => by simp [Tr.ar] at hp; subst hp; exact Int.le_refl _, h0, by simp only [Tr.tot]; omega⟩
  | n + 1, _, .mul (t := t) (k := k) ht h1 h2, hn => by
    obtain ⟨r, u, t0, t1⟩ := ht.rb (by omega)
    have hM := Mb_pos n
    have q := (RB.nil (M := 0) (L := 0) (by omega) (by omega)).add r (T := 3) (t := k) h1 h2
    refine ⟨q.mono ?_ ?_ ?_, fun p hp => ?_, t0, by simp only [Tr.tot, Mb]; omega⟩
    · simp only [Mb]; omega
    · match n, hn with | 0, _ => decide | 1, _ => decide | 2, _ => decide
    · match n, hn with | 0, _ => decide | 1, _ => decide | 2, _ => decide
    · obtain ⟨⟨z, hz, e⟩, _⟩ := srt_mem hp
      rcases addW_keys k hz with ⟨w, hw, e2⟩ | ⟨w, hw, e2⟩
      · cases hw
      · rw [← e, ← e2]; exact u w hw
  | n + 1, _, .neg (t := t) ht, hn => by
    obtain ⟨r, u, t0, t1⟩ := ht.rb (by omega)
    have hM := Mb_pos n
    have q := (RB.nil (M := 0) (L := 0) (by omega) (by omega)).add r (T := 3) (t := -1) (by omega) (by omega)
    refine ⟨q.mono ?_ ?_ ?_, fun p hp => ?_, t0, by simp only [Tr.tot, Mb]; omega⟩
    · simp only [Mb]; omega
    · match n, hn with | 0, _ => decide | 1, _ => decide | 2, _ => decide
    · match n, hn with | 0, _ => decide | 1, _ => decide | 2, _ => decide
    · obtain ⟨⟨z, hz, e⟩, _⟩ := srt_mem hp
      rcases addW_keys (-1) hz with ⟨w, hw, e2⟩ | ⟨w, hw, e2⟩
      · cases hw
      · rw [← e, ← e2]; exact u w hw
  | n + 1, _, .add (a := a) (b := b) ha hb, hn => by
    obtain ⟨r, u, t0, t1⟩ := ha.rb (by omega)
    obtain ⟨r', u', t0', t1'⟩ := hb.rb (by omega)
    have hM := Mb_pos n
    have q := r.add r' (T := 1) (t := 1) (by omega) (by omega)
    refine ⟨q.mono ?_ ?_ ?_, fun p hp => ?_, by simp only [Tr.tot]; omega, by simp only [Tr.tot, Mb]; omega⟩
    · simp only [Mb]; omega
    · match n, hn with | 0, _ => decide | 1, _ => decide | 2, _ => decide
    · match n, hn with | 0, _ => decide | 1, _ => decide | 2, _ => decide
    · obtain ⟨⟨z, hz, e⟩, _⟩ := srt_mem hp
      show p.1 ≤ a.tot + b.tot
      rcases addW_keys 1 hz with ⟨w, hw, e2⟩ | ⟨w, hw, e2⟩
      · have := u w hw; omega
      · have := u' w hw; omega
  | n + 1, _, .sub (a := a) (b := b) ha hb, hn => by
    obtain ⟨r, u, t0, t1⟩ := ha.rb (by omega)
    obtain ⟨r', u', t0', t1'⟩ := hb.rb (by omega)
    have hM := Mb_pos n
    have q := r.add r' (T := 1) (t := -1) (by omega) (by omega)
    refine ⟨q.mono ?_ ?_ ?_, fun p hp => ?_, by simp only [Tr.tot]; omega, by simp only [Tr.tot, Mb]; omega⟩
    · simp only [Mb]; omega
    · match n, hn with | 0, _ => decide | 1, _ => decide | 2, _ => decide
    · match n, hn with | 0, _ => decide | 1, _ => decide | 2, _ => decide
    · obtain ⟨⟨z, hz, e⟩, _⟩ := srt_mem hp
      show p.1 ≤ a.tot + b.tot
      rcases addW_keys (-1) hz with ⟨w, hw, e2⟩ | ⟨w, hw, e2⟩
      · have := u w hw; omega
      · have := u' w hw; omega
  | n + 1, _, .chn (a := a) (b := b) ha hb hr, hn => by
    obtain ⟨r, u, t0, t1⟩ := ha.rb (by omega)
    obtain ⟨r', u', t0', t1'⟩ := hb.rb (by omega)
    have hM := Mb_pos n
    refine ⟨?_, fun p hp => ?_, by simp only [Tr.tot]; omega, by simp only [Tr.tot, Mb]; omega⟩
    · match n, hn with
      | 0, _ => exact (r.dr1 r' hr).mono (by simp only [Mb]; omega) (by decide) (by decide)
      | 1, _ => exact (r.dr r' hr).mono (by simp only [Mb]; omega) (by decide) (by decide)
      | 2, _ => exact (r.dr r' hr).mono (by simp only [Mb]; omega) (by decide) (by decide)
    · have h := drA_upto r.c r'.c p hp
      have g1 : gs a.ar ≤ a.tot := by
        unfold gs; split
        · rename_i q hq; exact u q (List.mem_of_getLast? hq)
        · exact t0
      have g2 : gs b.ar ≤ b.tot := by
        unfold gs; split
        · rename_i q hq; exact u' q (List.mem_of_getLast? hq)
        · exact t0'
      show p.1 ≤ a.tot + b.tot
      omega
end Rg

namespace Rg
/-! ### the algebra of rigs -/
variable {a b c : Arms} {t u : Int}
end Rg

namespace Rg
/-! ### the state of all rods as a number and a row of marks -/
abbrev Sw := Int × List Bool
def dl (a : Arms) (j : Int) : Int := cv a (j + 1) - cv a j
def sumB (a : Arms) : Int → List Bool → Int
  | _, [] => 0
  | j, b :: l => (if b then dl a j else 0) + sumB a (j + 1) l
def eB (a : Arms) (S : Sw) : Int := S.1 * pull a + sumB a 0 S.2
def pl (S : Sw) : Int := eB [(0, 1)] S
/-! the middle of a chain -/
theorem sumB_rep (b : Arms) (x : Bool) : ∀ (n : Nat) (j : Int) (l : List Bool), sumB b j (List.replicate n x ++ l) = (if x then cv b (j + n) - cv b j else 0) + sumB b (j + n) l
  | 0, j, l => by cases x <;> simp
  | n + 1, j, l => by
    rw [List.replicate_succ, List.cons_append, sumB, sumB_rep b x n (j + 1) l]
    rw [show j + 1 + (n : Int) = j + ((n + 1 : Nat) : Int) by omega]
    cases x
    · simp
    · simp only [if_true, dl]; omega
/-! moves by one -/
def upB : List Bool → List Bool
  | [] => [true]
  | false :: l => true :: l
  | true :: l => true :: upB l
def dnB : List Bool → Option (List Bool)
  | [] => none
  | true :: l => some (false :: l)
  | false :: l => (dnB l).map (false :: ·)
def upS (S : Sw) : Sw := (S.1, upB S.2)
def dnS (S : Sw) : Sw := match dnB S.2 with
  | some l => (S.1, l)
  | none => (S.1 - 1, S.2)
/-- the rise of the end in an upward move -/
def upI (a : Arms) : Int → List Bool → Int
  | j, [] => dl a j
  | j, false :: _ => dl a j
  | j, true :: l => upI a (j + 1) l
theorem sumB_up (a : Arms) : ∀ (l : List Bool) (j : Int), sumB a j (upB l) = sumB a j l + upI a j l
  | [], j => by simp [upB, sumB, upI]
  | false :: l, j => by simp [upB, sumB, upI]; omega
  | true :: l, j => by simp only [upB, sumB, upI, sumB_up a l]; omega
theorem eB_up (a : Arms) (S : Sw) : eB a (upS S) = eB a S + upI a 0 S.2 := by
  unfold eB upS; dsimp only; rw [sumB_up]; omega
def dnI (a : Arms) : Int → List Bool → Int
  | _, [] => pull a
  | j, true :: _ => dl a j
  | j, false :: l => dnI a (j + 1) l
theorem sumB_dn (a : Arms) : ∀ (l : List Bool) (j : Int), (∀ l', dnB l = some l' → sumB a j l' = sumB a j l - dnI a j l) ∧ (dnB l = none → dnI a j l = pull a)
  | [], j => by simp [dnB, dnI]
  | true :: l, j => by
    refine ⟨fun l' h => ?_, fun h => nomatch h⟩
    simp only [dnB, Option.some.injEq] at h
    subst h
    simp only [sumB, dnI, if_true, Bool.false_eq_true, if_false]; omega
  | false :: l, j => by
    have ih := sumB_dn a l (j + 1)
    refine ⟨fun l' h => ?_, fun h => ?_⟩
    · simp only [dnB, Option.map_eq_some_iff] at h
      obtain ⟨l2, h2, rfl⟩ := h
      simp only [sumB, dnI, ih.1 l2 h2]; omega
    · simp only [dnB, Option.map_eq_none_iff] at h
      simp only [dnI, ih.2 h]
theorem eB_dn (a : Arms) (S : Sw) : eB a (dnS S) = eB a S - dnI a 0 S.2 := by
  have h := sumB_dn a S.2 0
  unfold eB dnS
  split
  · rename_i l q; dsimp only; rw [h.1 l q]; omega
  · rename_i q; dsimp only; rw [h.2 q, Int.sub_mul]; omega
/-! rows of moves -/
def upN : Nat → Sw → Sw
  | 0, S => S
  | n + 1, S => upN n (upS S)
def dnN : Nat → Sw → Sw
  | 0, S => S
  | n + 1, S => dnN n (dnS S)
/-! downwards -/
theorem dnB_off {l : List Bool} : ∀ k : Nat, dnB (List.replicate k false ++ l) = (dnB l).map (List.replicate k false ++ ·)
  | 0 => by simp
  | k + 1 => by
    rw [List.replicate_succ, List.cons_append, dnB, dnB_off k]
    cases dnB l <;> simp
theorem dnN_on (m : Int) : ∀ (k i : Nat) (l : List Bool), dnN k (m, List.replicate i false ++ (List.replicate k true ++ l)) = (m, List.replicate i false ++ (List.replicate k false ++ l))
  | 0, i, l => rfl
  | k + 1, i, l => by
    rw [dnN]
    have : dnS (m, List.replicate i false ++ (List.replicate (k + 1) true ++ l)) = (m, List.replicate (i + 1) false ++ (List.replicate k true ++ l)) := by
      unfold dnS
      rw [dnB_off, List.replicate_succ (n := k), List.cons_append, dnB]
      simp [List.replicate_succ', List.append_assoc]
    rw [this, dnN_on m k (i + 1) l, List.replicate_succ', List.append_assoc, List.replicate_succ (n := k)]; rfl
end Rg

namespace Rg
/-! ### one rod -/
theorem dl_rod (s j : Int) : dl [(s, 1)] j = if s ≤ j then 1 else 0 := by
  unfold dl
  simp only [cv_cons, cv_nil]
  unfold pos
  repeat' split
  all_goals omega
theorem pull_rod (s : Int) : pull [(s, 1)] = 1 := by simp [pull]
theorem rodK {s : Int} (hs : 0 ≤ s) : ∀ (l : List Bool) (j : Int), 0 ≤ j →
    (0 ≤ sumB [(0, 1)] j l - sumB [(s, 1)] j l ∧ sumB [(0, 1)] j l - sumB [(s, 1)] j l ≤ pos (s - j)) ∧
    upI [(s, 1)] j l = (if sumB [(0, 1)] j l - sumB [(s, 1)] j l = pos (s - j) then 1 else 0) ∧ dnI [(s, 1)] j l = (if sumB [(0, 1)] j l - sumB [(s, 1)] j l = 0 then 1 else 0)
  | [], j, hj => by
    simp only [sumB, upI, dnI, dl_rod, pull_rod]
    unfold pos
    repeat' split
    all_goals omega
  | b :: l, j, hj => by
    obtain ⟨⟨h1, h2⟩, h3, h4⟩ := rodK hs l (j + 1) (by omega)
    have h0 : (0 : Int) ≤ j := hj
    cases b
    · simp only [sumB, upI, dnI, dl_rod, h4, Bool.false_eq_true, if_false, Int.zero_add]
      clear h3 h4
      unfold pos at *
      generalize sumB [(0, 1)] (j + 1) l = A at *
      generalize sumB [(s, 1)] (j + 1) l = B at *
      refine ⟨⟨h1, ?_⟩, ?_, trivial⟩
      · split at h2 <;> split <;> omega
      · split at h2 <;> repeat' split
        all_goals omega
    · simp only [sumB, upI, dnI, dl_rod, h3, if_true]
      clear h3 h4
      unfold pos at *
      generalize sumB [(0, 1)] (j + 1) l = A at *
      generalize sumB [(s, 1)] (j + 1) l = B at *
      rw [if_pos h0]
      refine ⟨⟨?_, ?_⟩, ?_, ?_⟩
      · split <;> omega
      · split at h2 <;> repeat' split
        all_goals omega
      · split at h2 <;> repeat' split
        all_goals omega
      · repeat' split
        all_goals omega
theorem eB_rod (s : Int) (S : Sw) : eB [(s, 1)] S = S.1 + sumB [(s, 1)] 0 S.2 := by unfold eB; rw [pull_rod]; omega
theorem rod_in {s : Int} (hs : 0 ≤ s) (S : Sw) : pl S - s ≤ eB [(s, 1)] S ∧ eB [(s, 1)] S ≤ pl S := by
  have h := (rodK hs S.2 0 (by omega)).1
  unfold pl
  rw [eB_rod, eB_rod]
  rw [show s - 0 = s by omega] at h
  have : pos s = s := by unfold pos; split <;> omega
  omega
theorem pl_up (S : Sw) : pl (upS S) = pl S + 1 := by
  unfold pl
  rw [eB_up, (rodK (Int.le_refl 0) S.2 0 (by omega)).2.1]
  simp [pos]
theorem pl_dn (S : Sw) : pl (dnS S) = pl S - 1 := by
  unfold pl
  rw [eB_dn, (rodK (Int.le_refl 0) S.2 0 (by omega)).2.2]
  simp
theorem rod_up {s : Int} (hs : 0 ≤ s) (S : Sw) : eB [(s, 1)] (upS S) = min (max (eB [(s, 1)] S) (pl (upS S) - s)) (pl (upS S)) := by
  have h := rodK hs S.2 0 (by omega)
  have hi := rod_in hs S
  rw [pl_up, eB_up, h.2.1]
  have e0 : pl S = S.1 + sumB [(0, 1)] 0 S.2 := eB_rod 0 S
  have e1 := eB_rod s S
  rw [show s - 0 = s by omega, show pos s = s by unfold pos; split <;> omega] at *
  split <;> omega
theorem rod_dn {s : Int} (hs : 0 ≤ s) (S : Sw) : eB [(s, 1)] (dnS S) = min (max (eB [(s, 1)] S) (pl (dnS S) - s)) (pl (dnS S)) := by
  have h := rodK hs S.2 0 (by omega)
  have hi := rod_in hs S
  rw [pl_dn, eB_dn, h.2.2]
  have e0 : pl S = S.1 + sumB [(0, 1)] 0 S.2 := eB_rod 0 S
  have e1 := eB_rod s S
  split <;> omega
theorem rod_stay {s : Int} (hs : 0 ≤ s) (S : Sw) : min (max (eB [(s, 1)] S) (pl S - s)) (pl S) = eB [(s, 1)] S := by
  have hi := rod_in hs S
  omega
/-! ### chains -/
theorem Rises.pull {a : Arms} {M L : Int} {n : Nat} (hr : Rises a) (r : RB a M L n) : 0 ≤ pull a := by
  have h := cv_tail1 r.m (Int.le_refl M)
  have := hr M r.m0
  omega
end Rg

namespace Rg
/-! ### sizes -/
theorem dnB_len : ∀ {l l' : List Bool}, dnB l = some l' → l'.length = l.length
  | true :: l, l', h => by simp only [dnB, Option.some.injEq] at h; subst h; rfl
  | false :: l, l', h => by
    simp only [dnB, Option.map_eq_some_iff] at h
    obtain ⟨l2, h2, rfl⟩ := h
    simp [dnB_len h2]
end Rg

namespace Rg
/-! ### going to a place -/
structure Bd (F : Int) (S : Sw) : Prop where
  lo : -F ≤ S.1
  neg : S.1 ≤ 0
  len : (S.2.length : Int) ≤ 2 * F
theorem upB_full : ∀ (l : List Bool) (j : Int), 0 ≤ j → (upB l).length = l.length ∨ sumB [(0, 1)] j (upB l) = (upB l).length
  | [], j, h => .inr (by simp [upB, sumB, dl_rod, h])
  | false :: l, j, h => .inl rfl
  | true :: l, j, h => by
    rcases upB_full l (j + 1) (by omega) with e | e
    · exact .inl (by simp [upB, e])
    · refine .inr ?_
      simp only [upB, sumB, dl_rod, e, if_true, h, List.length_cons]; omega
theorem Bd.up {F : Int} {S : Sw} (h : Bd F S) (hp : pl (upS S) ≤ F) : Bd F (upS S) := by
  have h1 := h.lo
  have h2 := h.neg
  have h3 := h.len
  refine ⟨h1, h2, ?_⟩
  have e := eB_rod 0 (upS S)
  unfold pl at hp
  rcases upB_full S.2 0 (Int.le_refl 0) with e2 | e2
  · show ((upB S.2).length : Int) ≤ 2 * F
    rw [e2]; exact h3
  · have e3 : eB [(0, 1)] (upS S) = S.1 + (upB S.2).length := by rw [e]; show S.1 + sumB [(0, 1)] 0 (upB S.2) = _; rw [e2]
    show ((upB S.2).length : Int) ≤ 2 * F
    omega
theorem dnB_none_sum : ∀ (l : List Bool) (j : Int), dnB l = none → sumB [(0, 1)] j l = 0
  | [], j, h => rfl
  | false :: l, j, h => by
    simp only [dnB, Option.map_eq_none_iff] at h
    simp [sumB, dnB_none_sum l (j + 1) h]
theorem Bd.dn {F : Int} {S : Sw} (h : Bd F S) (hp : -F ≤ pl (dnS S)) : Bd F (dnS S) := by
  have h1 := h.lo
  have h2 := h.neg
  have h3 := h.len
  have e := eB_rod 0 (dnS S)
  unfold pl at hp
  rw [e] at hp
  unfold dnS at hp ⊢
  split at hp
  · rename_i l q
    exact ⟨h1, h2, by dsimp only; rw [dnB_len q]; exact h3⟩
  · rename_i q
    dsimp only at hp
    rw [dnB_none_sum S.2 0 q] at hp
    exact ⟨by dsimp only; omega, by dsimp only; omega, h3⟩
theorem Bd.upN {F : Int} : ∀ (n : Nat) {S : Sw}, Bd F S → pl S + n ≤ F → Bd F (upN n S)
  | 0, S, h, _ => h
  | n + 1, S, h, hp => Bd.upN n (h.up (by rw [pl_up]; omega)) (by rw [pl_up]; omega)
theorem Bd.dnN {F : Int} : ∀ (n : Nat) {S : Sw}, Bd F S → -F ≤ pl S - n → Bd F (dnN n S)
  | 0, S, h, _ => h
  | n + 1, S, h, hp => Bd.dnN n (h.dn (by rw [pl_dn]; omega)) (by rw [pl_dn]; omega)
/-- the states on the way to a place -/
def wayS (S : Sw) (p : Int) (i : Nat) : Sw := if pl S ≤ p then upN i S else dnN i S
def wayN (S : Sw) (p : Int) : Nat := if pl S ≤ p then (p - pl S).toNat else (pl S - p).toNat
def goS (S : Sw) (p : Int) : Sw := wayS S p (wayN S p)
theorem Bd.way {F : Int} {S : Sw} (h : Bd F S) {p : Int} (h1 : -F ≤ p) (h2 : p ≤ F) {i : Nat} (hi : i ≤ wayN S p) : Bd F (wayS S p i) := by
  unfold wayS wayN at *
  split
  · rename_i q; rw [if_pos q] at hi; exact h.upN i (by omega)
  · rename_i q; rw [if_neg q] at hi; exact h.dnN i (by omega)
theorem Bd.go {F : Int} {S : Sw} (h : Bd F S) {p : Int} (h1 : -F ≤ p) (h2 : p ≤ F) : Bd F (goS S p) := h.way h1 h2 (Nat.le_refl _)
theorem Bd.rest {F : Int} (h : 0 ≤ F) : Bd F (0, []) := ⟨by dsimp only; omega, Int.le_refl 0, by simp; omega⟩
def endsB (a : Arms) : Sw → List Int → List Int
  | _, [] => []
  | S, p :: r => eB a (goS S p) :: endsB a (goS S p) r
def lastS (S : Sw) (row : List Int) : Sw := row.foldl goS S
/-- the way of the end -/
def farW (a : Arms) (q : Nat → Sw) : Nat → Int
  | 0 => 0
  | n + 1 => farW a q n + (if eB a (q (n + 1)) - eB a (q n) < 0 then -(eB a (q (n + 1)) - eB a (q n)) else eB a (q (n + 1)) - eB a (q n))
def farB (a : Arms) : Sw → List Int → Int
  | _, [] => 0
  | S, p :: r => farW a (wayS S p) (wayN S p) + farB a (goS S p) r
/-! ### the play law -/
theorem go_rod {s : Int} (hs : 0 ≤ s) (S : Sw) (p : Int) : eB [(s, 1)] (goS S p) = min (max (eB [(s, 1)] S) (p - s)) p := by
  have hU : ∀ (n : Nat) (S : Sw), eB [(s, 1)] (Rg.upN n S) = min (max (eB [(s, 1)] S) (pl S + n - s)) (pl S + n) := fun n => by
    induction n with
    | zero => intro S; have := rod_stay hs S; simp only [Rg.upN]; omega
    | succ n ih =>
      intro S
      have h1 := rod_up hs S
      have h2 := pl_up S
      have h3 := rod_in hs S
      rw [Rg.upN, ih (upS S), h1, h2]
      omega
  have hD : ∀ (n : Nat) (S : Sw), eB [(s, 1)] (Rg.dnN n S) = min (max (eB [(s, 1)] S) (pl S - n - s)) (pl S - n) := fun n => by
    induction n with
    | zero => intro S; have := rod_stay hs S; simp only [Rg.dnN]; omega
    | succ n ih =>
      intro S
      have h1 := rod_dn hs S
      have h2 := pl_dn S
      have h3 := rod_in hs S
      rw [Rg.dnN, ih (dnS S), h1, h2]
      omega
  unfold goS wayS wayN
  split
  · rw [hU, show pl S + ((p - pl S).toNat : Int) = p by omega]
  · rw [hD, show pl S - ((pl S - p).toNat : Int) = p by omega]
theorem eB_arms (a : Arms) (S : Sw) : eB a S = (a.map fun p => p.2 * eB [(p.1, 1)] S).sum := by
  have hs : ∀ (l : List Bool) (j : Int), sumB a j l = (a.map fun p => p.2 * sumB [(p.1, 1)] j l).sum := fun l => by
    induction l with
    | nil =>
      intro j
      clear S
      simp only [sumB]
      induction a with
      | nil => rfl
      | cons p a ih => rw [List.map_cons, List.sum_cons, ← ih]; omega
    | cons b l ih =>
      intro j
      simp only [sumB, ih, dl_rod]
      cases b
      · simp
      · simp only [if_true, dl]
        clear ih
        induction a with
        | nil => simp
        | cons p a ih =>
          simp only [cv_cons, List.map_cons, List.sum_cons, Int.mul_add]
          rw [show p.2 * pos (j + 1 - p.1) + cv a (j + 1) - (p.2 * pos (j - p.1) + cv a j) = p.2 * (pos (j + 1 - p.1) - pos (j - p.1)) + (cv a (j + 1) - cv a j) by rw [Int.mul_sub]; omega]
          have e : pos (j + 1 - p.1) - pos (j - p.1) = if p.1 ≤ j then 1 else 0 := by unfold pos; repeat' split
                                                                                      all_goals omega
          rw [e]
          simp only [Int.mul_add] at ih
          omega
  unfold eB
  rw [hs]
  have : ∀ a : Arms, S.1 * pull a + (a.map fun p => p.2 * sumB [(p.1, 1)] 0 S.2).sum = (a.map fun p => p.2 * (S.1 * pull [(p.1, 1)] + sumB [(p.1, 1)] 0 S.2)).sum := fun a => by
    induction a with
    | nil => simp [pull]
    | cons p a ih =>
      rw [List.map_cons, List.sum_cons, List.map_cons, List.sum_cons, ← ih, pull_rod, Int.mul_add, Int.mul_one]
      rw [show pull (p :: a) = p.2 + pull a by simp [pull], Int.mul_add, Int.mul_comm S.1 p.2]
      omega
  exact this a
end Rg

namespace Mt
/-! ### one more place moves each rod by the play law -/
mutual
theorem playU {s : Int} (hs : 0 ≤ s) : ∀ (r : List Int) (a p : Int), Zig true (a :: r) → (addF true (a :: r) p).getD 0 0 + Tr s (addF true (a :: r) p) = min (max (a + Tr s (a :: r)) (p - s)) p
  | r, a, p, h => by
    by_cases hp : p ≤ a
    · have e : addF true (a :: r) p = [p] := by simp [addF, trig, hp]
      have h0 : 0 ≤ Tr s (a :: r) := by
        match r, h with
        | [], _ => simp [Tr]
        | b :: r', h => exact (Tr_bound s h).1.1
      rw [e]
      simp only [Tr, List.getD_cons_zero]
      omega
    · match r, h with
      | [], h =>
        have e : addF true [a] p = [a, p] := by simp [addF, trig, hp]
        rw [e]
        simp only [Tr, List.getD_cons_zero, pos, iabs]
        repeat' split
        all_goals omega
      | b :: r', h =>
        have hab : a < b := by simpa using h.two
        have hb := (Tr_bound s h).1
        have z := fun hz => Tr_zero (s := s) h hz
        have ei : iabs (b - a) = b - a := by unfold iabs; split <;> omega
        rw [ei] at hb z
        by_cases hq : b ≤ p
        · have e : addF true (a :: b :: r') p = [a, p] := by simp [addF, trig, hp, hq]
          rw [e]
          have e2 : Tr s [a, p] = pos (p - a - s) := by simp only [Tr, pos, iabs]; (repeat' split) <;> omega
          rw [e2, List.getD_cons_zero]
          unfold pos at *
          repeat' split
          all_goals (split at hb <;> omega)
        · have e : addF true (a :: b :: r') p = a :: addF false (b :: r') p := by simp [addF, trig, hp]
          have e3 : ∃ X, addF false (b :: r') p = b :: X := ⟨addF true r' p, by simp [addF, trig, hq]⟩
          have d := playD hs r' b p (by simpa using h.tail) (by omega)
          obtain ⟨X, e3⟩ := e3
          rw [e, e3]
          rw [e3] at d
          have t1 : Tr s (a :: b :: X) = pos (b - a - s) - Tr s (b :: X) := by rw [Tr, ei]
          have t2 : Tr s (a :: b :: r') = pos (b - a - s) - Tr s (b :: r') := by rw [Tr, ei]
          rw [t2] at hb z
          rw [t1, t2, List.getD_cons_zero]
          have z2 : b - a ≤ s → Tr s (b :: r') = 0 := fun hz => by
            have := z hz
            have e : pos (b - a - s) = 0 := by unfold pos; split <;> omega
            omega
          unfold pos at *
          split
          · omega
          · have := z2 (by omega)
            rw [this] at d
            omega
theorem playD {s : Int} (hs : 0 ≤ s) : ∀ (r : List Int) (b p : Int), Zig false (b :: r) → p < b → b - s - Tr s (addF false (b :: r) p) = min (max (b - s - Tr s (b :: r)) (p - s)) p
  | r, b, p, h, hp => by
    have hnp : ¬ b ≤ p := by omega
    match r, h with
    | [], h =>
      have e : addF false [b] p = [b, p] := by simp [addF, trig, hnp]
      rw [e]
      simp only [Tr, pos, iabs]
      repeat' split
      all_goals omega
    | c :: r', h =>
      have hcb : c < b := by simpa using h.two
      have hb := (Tr_bound s h).1
      have z := fun hz => Tr_zero (s := s) h hz
      have ei : iabs (c - b) = b - c := by unfold iabs; split <;> omega
      rw [ei] at hb z
      by_cases hq : p ≤ c
      · have e : addF false (b :: c :: r') p = [b, p] := by simp [addF, trig, hnp, hq]
        rw [e]
        have e2 : Tr s [b, p] = pos (b - p - s) := by simp only [Tr, pos, iabs]; (repeat' split) <;> omega
        rw [e2]
        unfold pos at *
        repeat' split
        all_goals (split at hb <;> omega)
      · have e : addF false (b :: c :: r') p = b :: addF true (c :: r') p := by simp [addF, trig, hnp]
        have e3 : ∃ X, addF true (c :: r') p = c :: X := ⟨addF false r' p, by simp [addF, trig, hq]⟩
        have d := playU hs r' c p (by simpa using h.tail)
        obtain ⟨X, e3⟩ := e3
        rw [e, e3]
        rw [e3, List.getD_cons_zero] at d
        have t1 : Tr s (b :: c :: X) = pos (b - c - s) - Tr s (c :: X) := by rw [Tr, ei]
        have t2 : Tr s (b :: c :: r') = pos (b - c - s) - Tr s (c :: r') := by rw [Tr, ei]
        rw [t2] at hb z
        rw [t1, t2]
        have z2 : b - c ≤ s → Tr s (c :: r') = 0 := fun hz => by
          have := z hz
          have e : pos (b - c - s) = 0 := by unfold pos; split <;> omega
          omega
        unfold pos at *
        split
        · omega
        · have := z2 (by omega)
          rw [this] at d
          omega
end
theorem rodE_moved {s : Int} (hs : 0 ≤ s) {rs : List Int} {p : Int} (m : MemV rs) (hne : rs ≠ []) (hp : -1000000 ≤ p ∧ p ≤ 1000000) : rodE (movedR rs p).1 s = min (max (rodE rs s) (p - s)) p := by
  unfold rodE
  rw [moved_addF m hne hp, end_rod, end_rod]
  have z := zig_memV m
  cases q : rs.reverse with
  | nil => exact absurd (List.reverse_eq_nil_iff.mp q) hne
  | cons a r =>
    rw [q] at z
    rw [playU hs r a p z, List.getD_cons_zero]
end Mt

namespace Mt
open Rg (Arms Sw eB goS lastS)
theorem swings_arms : ∀ (ps : List Int) (a : Arms) (sg : Int), swings a sg ps = sg * (a.map fun p => p.2 * Tr p.1 ps).sum
  | [], a, sg => by
    have : (a.map fun p => p.2 * Tr p.1 []).sum = 0 := by
      induction a with
      | nil => rfl
      | cons p a ih => rw [List.map_cons, List.sum_cons, ih]; simp [Tr]
    simp [swings, this]
  | [x], a, sg => by
    have : (a.map fun p => p.2 * Tr p.1 [x]).sum = 0 := by
      induction a with
      | nil => rfl
      | cons p a ih => rw [List.map_cons, List.sum_cons, ih]; simp [Tr]
    simp [swings, this]
  | x :: y :: r, a, sg => by
    rw [swings, swings_arms (y :: r) a]
    have : (a.map fun p => p.2 * Tr p.1 (x :: y :: r)).sum = curveA a (iabs (y - x)) - (a.map fun p => p.2 * Tr p.1 (y :: r)).sum := by
      unfold curveA
      induction a with
      | nil => rfl
      | cons p a ih =>
        rw [List.map_cons, List.sum_cons, List.map_cons, List.sum_cons, List.map_cons, List.sum_cons, ih]
        rw [show Tr p.1 (x :: y :: r) = pos (iabs (y - x) - p.1) - Tr p.1 (y :: r) from rfl, Int.mul_sub]
        omega
    rw [this, Int.mul_sub, Int.sub_mul, Int.zero_mul]
    omega
theorem endA_arms (a : Arms) (ps : List Int) : endA a ps = (a.map fun p => p.2 * endA [(p.1, 1)] ps).sum := by
  unfold endA
  rw [swings_arms, Int.one_mul]
  have : ∀ a : Arms, ps.getD 0 0 * pullA a + (a.map fun p => p.2 * Tr p.1 ps).sum = (a.map fun p => p.2 * (ps.getD 0 0 * pullA [(p.1, 1)] + swings [(p.1, 1)] 1 ps)).sum := fun a => by
    induction a with
    | nil => simp [pullA]
    | cons p a ih =>
      rw [List.map_cons, List.sum_cons, List.map_cons, List.sum_cons, ← ih, swings_rod, show pullA (p :: a) = p.2 + pullA a by simp [pullA], show pullA [(p.1, 1)] = 1 by simp [pullA], Int.one_mul, Int.mul_one, Int.mul_add, Int.mul_add, Int.mul_comm p.2 (ps.getD 0 0)]
      omega
  exact this a
/-- a memory and a state of all rods that tell the same -/
def Sam (rs : List Int) (S : Sw) : Prop := ∀ s, 0 ≤ s → rodE rs s = eB [(s, 1)] S
theorem Sam.move {rs : List Int} {S : Sw} (h : Sam rs S) (m : MemOk rs) {p : Int} (hp : -1000000 ≤ p ∧ p ≤ 1000000) : Sam (movedR rs p).1 (goS S p) := fun s hs => by
  rw [rodE_moved hs m.2 m.1 hp, h s hs, Rg.go_rod hs]
theorem Sam.follow : ∀ {row rs : List Int} {S : Sw}, Sam rs S → MemOk rs → (∀ p ∈ row, -1000000 ≤ p ∧ p ≤ 1000000) → Sam (followR rs row).1 (lastS S row)
  | [], rs, S, h, m, hr => h
  | p :: row, rs, S, h, m, hr => by
    have hp := hr p (by simp)
    exact Sam.follow (row := row) (h.move m hp) ⟨moved_ne rs p, memV_moved m.2 m.1 hp⟩ fun x hx => hr x (by simp [hx])
theorem Sam.rest : Sam [0] (0, []) := fun s hs => by simp [rodE, end_rod, Tr, Rg.eB, Rg.sumB]
theorem Sam.end {rs : List Int} {S : Sw} (h : Sam rs S) {a : Arms} (hc : Rg.Canon a) : endA a rs.reverse = eB a S := by
  rw [endA_arms, Rg.eB_arms]
  congr 1
  refine List.map_congr_left fun p hp => ?_
  have : endA [(p.1, 1)] rs.reverse = rodE rs p.1 := rfl
  rw [this, h p.1 (hc.2 p hp).1]
end Mt

namespace Rg
/-! ### trees of any depth, with the bounds that their rigs keep; U bounds the size of the states that they are stepped through -/
inductive TG : Nat → Int → Tr → Int → Int → Nat → Prop
  | rod {n : Nat} {U s M : Int} (h0 : 0 ≤ s) (h1 : s ≤ M) (h2 : M ≤ 99) : TG n U (.rod s) M 1 1
  | mul {n N : Nat} {U M L K k : Int} {t : Tr} (ht : TG n U t M L N) (h1 : -K ≤ k) (h2 : k ≤ K) (hK : K ≤ 99) (hL : 2 * (K * L) ≤ 1000000) : TG (n + 1) U (.mul t k) M (K * L) N
  | neg {n N : Nat} {U M L : Int} {t : Tr} (ht : TG n U t M L N) : TG (n + 1) U (.neg t) M L N
  | add {n N N' : Nat} {U M L M' L' : Int} {a b : Tr} (ha : TG n U a M L N) (hb : TG n U b M' L' N') (hM : M + M' ≤ 999) (hL : 2 * (L + L') ≤ 1000000) (hN : N + N' ≤ 60) : TG (n + 1) U (.add a b) (M + M') (L + L') (N + N')
  | sub {n N N' : Nat} {U M L M' L' : Int} {a b : Tr} (ha : TG n U a M L N) (hb : TG n U b M' L' N') (hM : M + M' ≤ 999) (hL : 2 * (L + L') ≤ 1000000) (hN : N + N' ≤ 60) : TG (n + 1) U (.sub a b) (M + M') (L + L') (N + N')
  | chn {n N N' : Nat} {U M L M' L' : Int} {a b : Tr} (ha : TG n U a M L N) (hb : TG n (L * U) b M' L' N') (hr : Rises a.ar) (hM : M + M' ≤ 999) (hL : 2 * (L * L') ≤ 1000000) (hN : N + 2 * N' ≤ 60) (hU : L * U ≤ 8000000) : TG (n + 1) U (.chn a b) (M + M') (L * L') (N + 2 * N')
  | mono {n N N' : Nat} {U M L M' L' : Int} {t : Tr} (ht : TG n U t M L N) (h1 : M ≤ M') (h2 : L ≤ L') (h3 : N ≤ N') (hM : M' ≤ 999) (hL : 2 * L' ≤ 1000000) (hN : N' ≤ 60) : TG n U t M' L' N'
theorem upto_add {a b : Arms} {x y t : Int} (u : Upto x a) (v : Upto y b) (hx : 0 ≤ x) (hy : 0 ≤ y) : Upto (x + y) (addA a b t) := fun p hp => by
  obtain ⟨⟨z, hz, e⟩, _⟩ := srt_mem hp
  rcases addW_keys t hz with ⟨w, hw, e2⟩ | ⟨w, hw, e2⟩
  · have := u w hw; omega
  · have := v w hw; omega
theorem upto_nil (x : Int) : Upto x [] := fun p hp => nomatch hp
theorem upto_dr {a b : Arms} {x y : Int} (ha : Canon a) (hb : Canon b) (u : Upto x a) (v : Upto y b) (hx : 0 ≤ x) (hy : 0 ≤ y) : Upto (x + y) (drA a b) := fun p hp => by
  have h := drA_upto ha hb p hp
  have g1 : gs a ≤ x := by
    unfold gs; split
    · rename_i q hq; exact u q (List.mem_of_getLast? hq)
    · exact hx
  have g2 : gs b ≤ y := by
    unfold gs; split
    · rename_i q hq; exact v q (List.mem_of_getLast? hq)
    · exact hy
  omega
theorem TG.rb : ∀ {n N : Nat} {U M L : Int} {t : Tr}, TG n U t M L N → (RB t.ar M L N ∧ Upto t.tot t.ar ∧ 0 ≤ t.tot ∧ t.tot ≤ M) ∧ M ≤ 999 ∧ 2 * L ≤ 1000000 ∧ N ≤ 60
  | _, _, _, _, _, _, .rod (s := s) h0 h1 h2 => ⟨⟨(RB.rod h0).mono h1 (Int.le_refl _) (Nat.le_refl _), fun p hp => by simp [Tr.ar] at hp; subst hp; exact Int.le_refl _, h0, h1⟩, by omega, by decide, by decide⟩
  | _, _, _, _, _, _, .mul (k := k) ht h1 h2 hK hL => by
    obtain ⟨⟨r, u, t0, t1⟩, q1, q2, q3⟩ := ht.rb
    have m0 := r.m0
    refine ⟨⟨?_, fun p hp => ?_, t0, t1⟩, q1, hL, q3⟩
    · exact ((RB.nil (M := 0) (L := 0) (by omega) (by omega)).add r h1 h2).mono (by omega) (by omega) (by omega)
    · have := upto_add (t := k) (upto_nil 0) u (by omega) t0 p hp; simp only [Tr.tot]; omega
  | _, _, _, _, _, _, .neg ht => by
    obtain ⟨⟨r, u, t0, t1⟩, q1, q2, q3⟩ := ht.rb
    have m0 := r.m0
    refine ⟨⟨?_, fun p hp => ?_, t0, t1⟩, q1, q2, q3⟩
    · exact ((RB.nil (M := 0) (L := 0) (by omega) (by omega)).add r (T := 1) (t := -1) (by omega) (by omega)).mono (by omega) (by omega) (by omega)
    · have := upto_add (t := -1) (upto_nil 0) u (by omega) t0 p hp; simp only [Tr.tot]; omega
  | _, _, _, _, _, _, .add ha hb hM hL hN => by
    obtain ⟨⟨r, u, t0, t1⟩, q1, q2, q3⟩ := ha.rb
    obtain ⟨⟨r', u', t0', t1'⟩, q1', q2', q3'⟩ := hb.rb
    have m0 := r.m0
    have m0' := r'.m0
    refine ⟨⟨?_, upto_add u u' t0 t0', by simp only [Tr.tot]; omega, by simp only [Tr.tot]; omega⟩, hM, hL, hN⟩
    exact (r.add r' (T := 1) (t := 1) (by omega) (by omega)).mono (by omega) (by omega) (by omega)
  | _, _, _, _, _, _, .sub ha hb hM hL hN => by
    obtain ⟨⟨r, u, t0, t1⟩, q1, q2, q3⟩ := ha.rb
    obtain ⟨⟨r', u', t0', t1'⟩, q1', q2', q3'⟩ := hb.rb
    have m0 := r.m0
    have m0' := r'.m0
    refine ⟨⟨?_, upto_add u u' t0 t0', by simp only [Tr.tot]; omega, by simp only [Tr.tot]; omega⟩, hM, hL, hN⟩
    exact (r.add r' (T := 1) (t := -1) (by omega) (by omega)).mono (by omega) (by omega) (by omega)
  | _, _, _, _, _, _, .chn ha hb hr hM hL hN hU => by
    obtain ⟨⟨r, u, t0, t1⟩, q1, q2, q3⟩ := ha.rb
    obtain ⟨⟨r', u', t0', t1'⟩, q1', q2', q3'⟩ := hb.rb
    exact ⟨⟨r.dr r' hr, upto_dr r.c r'.c u u' t0 t0', by simp only [Tr.tot]; omega, by simp only [Tr.tot]; omega⟩, hM, hL, hN⟩
  | _, _, _, _, _, _, .mono ht h1 h2 h3 hM hL hN => by
    obtain ⟨⟨r, u, t0, t1⟩, _⟩ := ht.rb
    exact ⟨⟨r.mono h1 h2 h3, u, t0, by omega⟩, hM, hL, hN⟩
theorem TG.up : ∀ {n N m : Nat} {U M L : Int} {t : Tr}, TG n U t M L N → n ≤ m → TG m U t M L N
  | _, _, _, _, _, _, _, .rod h0 h1 h2, _ => .rod h0 h1 h2
  | _, _, m + 1, _, _, _, _, .mul ht h1 h2 hK hL, h => .mul (ht.up (by omega)) h1 h2 hK hL
  | _, _, m + 1, _, _, _, _, .neg ht, h => .neg (ht.up (by omega))
  | _, _, m + 1, _, _, _, _, .add ha hb hM hL hN, h => .add (ha.up (by omega)) (hb.up (by omega)) hM hL hN
  | _, _, m + 1, _, _, _, _, .sub ha hb hM hL hN, h => .sub (ha.up (by omega)) (hb.up (by omega)) hM hL hN
  | _, _, m + 1, _, _, _, _, .chn ha hb hr hM hL hN hU, h => .chn (ha.up (by omega)) (hb.up (by omega)) hr hM hL hN hU
  | _, _, _, _, _, _, _, .mono ht h1 h2 h3 hM hL hN, h => .mono (ht.up h) h1 h2 h3 hM hL hN
theorem TG.low : ∀ {n N : Nat} {U V M L : Int} {t : Tr}, TG n U t M L N → V ≤ U → TG n V t M L N
  | _, _, _, _, _, _, _, .rod h0 h1 h2, _ => .rod h0 h1 h2
  | _, _, _, _, _, _, _, .mul ht h1 h2 hK hL, h => .mul (ht.low h) h1 h2 hK hL
  | _, _, _, _, _, _, _, .neg ht, h => .neg (ht.low h)
  | _, _, _, _, _, _, _, .add ha hb hM hL hN, h => .add (ha.low h) (hb.low h) hM hL hN
  | _, _, _, _, _, _, _, .sub ha hb hM hL hN, h => .sub (ha.low h) (hb.low h) hM hL hN
  | _, _, _, _, _, _, _, .chn (L := L) ha hb hr hM hL hN hU, h => by
    have l0 := ha.rb.1.1.l0
    have := Int.mul_le_mul_of_nonneg_left h l0
    exact .chn (ha.low h) (hb.low this) hr hM hL hN (Int.le_trans this hU)
  | _, _, _, _, _, _, _, .mono ht h1 h2 h3 hM hL hN, h => .mono (ht.low h) h1 h2 h3 hM hL hN
/-! the bounds of trees that are drawn -/
end Rg

namespace Mt
open Rg (Arms Sw eB goS lastS pl wayS wayN farW farB)
/-! ### the way of an end, by the memory and the loops that are closed -/
def eR (a : Arms) : List Int → Int
  | x :: y :: r => eR a (y :: r) + (if r.length % 2 = 0 then 1 else -1) * curveA a (iabs (x - y))
  | [x] => x * pullA a
  | [] => 0
def swT (f : Int → Int) (P : Int) : List Int → Int
  | x :: y :: r => swT f P (y :: r) + f (iabs (x - y))
  | [x] => P * iabs x
  | [] => 0
def lsum (f : Int → Int) (hs : List Int) : Int := (hs.map f).sum
/-- what a step by 1 does -/
def UL (rs : List Int) (o : List Int × List Int) : Prop :=
  (∃ h sg : Int, 0 ≤ h ∧ (sg = 1 ∨ sg = -1) ∧ (∀ (f : Int → Int) (P : Int), f 0 = 0 → swT f P o.1 + 2 * lsum f o.2 = swT f P rs + (f (h + 1) - f h)) ∧ ∀ a : Arms, curveA a 0 = 0 → eR a o.1 = eR a rs + sg * (curveA a (h + 1) - curveA a h)) ∨
  ((∀ (f : Int → Int) (P : Int), swT f P o.1 + 2 * lsum f o.2 = swT f P rs + P) ∧ ∀ a : Arms, eR a o.1 = eR a rs - pullA a)
end Mt

namespace Mt
open Rg (Arms Sw eB goS lastS pl wayS wayN farW farB)
/-! ### a move on the way of a farther one -/
/-! ### the way of an end -/
/-- how far an end goes in a swing: the sum of the steps' sizes -/
structure Way (a : Arms) (f : Int → Int) (P : Int) : Prop where
  z : f 0 = 0
  c0 : curveA a 0 = 0
  st : ∀ h : Int, 0 ≤ h → f (h + 1) - f h = iabs (curveA a (h + 1) - curveA a h)
  p : P = iabs (pullA a)
theorem UL.way {a : Arms} {f : Int → Int} {P : Int} (w : Way a f P) {rs : List Int} {o : List Int × List Int} (u : UL rs o) : swT f P o.1 + 2 * lsum f o.2 = swT f P rs + iabs (eR a o.1 - eR a rs) := by
  rcases u with ⟨h, sg, h0, hs, k1, k2⟩ | ⟨k1, k2⟩
  · rw [k1 f P w.z, k2 a w.c0, w.st h h0]
    rcases hs with rfl | rfl
    · rw [show eR a rs + 1 * (curveA a (h + 1) - curveA a h) - eR a rs = curveA a (h + 1) - curveA a h by omega]
    · rw [show eR a rs + -1 * (curveA a (h + 1) - curveA a h) - eR a rs = -(curveA a (h + 1) - curveA a h) by omega]
      congr 1; unfold iabs; split <;> split <;> omega
  · rw [k1, k2, w.p]
    congr 1
    unfold iabs; split <;> split <;> omega
end Mt

namespace Mt
open Rg (Arms Sw eB goS lastS pl wayS wayN farW farB)
/-! ### how far an end goes in a swing -/
def wyG : Arms → Int → Int → Int → Int
  | [], b, t, h => iabs t * (h - b)
  | (s, w) :: r, b, t, h => if s < h then iabs t * (s - b) + wyG r s (t + w) h else wyG r b t h
def wyA (a : Arms) (h : Int) : Int := wyG a 0 0 h
/-- arms by rising slacks -/
def Asc : Int → Arms → Prop
  | _, [] => True
  | lo, (s, _) :: r => lo ≤ s ∧ Asc (s + 1) r
theorem Asc.mono {x y : Int} (h : x ≤ y) : ∀ {a : Arms}, Asc y a → Asc x a
  | [], _ => trivial
  | (_, _) :: _, q => ⟨by have := q.1; omega, q.2⟩
/-! ### swings as a list -/
def swL : List Int → List Int
  | a :: b :: r => iabs (b - a) :: swL (b :: r)
  | _ => []
/-- how far an end goes in a row -/
def trav (a : Arms) (row : List Int) : Int := iabs (pullA a) * iabs ((memR row).reverse.getD 0 0) + lsum (wyA a) (swL (memR row).reverse) + 2 * lsum (wyA a) (followR [0] row).2
end Mt

namespace Mt
open Rg (Arms Sw eB goS lastS endsB eB_arms go_rod Canon)
/-! ### states that go alike; a row played again -/
def SE (S S' : Sw) : Prop := ∀ s : Int, 0 ≤ s → eB [(s, 1)] S = eB [(s, 1)] S'
theorem SE.refl (S : Sw) : SE S S := fun _ _ => rfl
theorem SE.symm {S S' : Sw} (h : SE S S') : SE S' S := fun s hs => (h s hs).symm
theorem SE.trans {S S' S'' : Sw} (h : SE S S') (h' : SE S' S'') : SE S S'' := fun s hs => (h s hs).trans (h' s hs)
theorem SE.en {S S' : Sw} (h : SE S S') {a : Arms} (hc : Canon a) : eB a S = eB a S' := by
  rw [eB_arms, eB_arms a S']
  congr 1
  exact List.map_congr_left fun p hp => by rw [h p.1 (hc.2 p hp).1]
theorem SE.go {S S' : Sw} (h : SE S S') (p : Int) : SE (goS S p) (goS S' p) := fun s hs => by rw [go_rod hs, go_rod hs, h s hs]
theorem SE.last : ∀ {row : List Int} {S S' : Sw}, SE S S' → SE (lastS S row) (lastS S' row)
  | [], _, _, h => h
  | p :: row, S, S', h => SE.last (row := row) (h.go p)
theorem SE.ends {a : Arms} (hc : Canon a) : ∀ {row : List Int} {S S' : Sw}, SE S S' → endsB a S row = endsB a S' row
  | [], _, _, _ => rfl
  | p :: row, S, S', h => by
    show eB a (goS S p) :: endsB a (goS S p) row = eB a (goS S' p) :: endsB a (goS S' p) row
    rw [(h.go p).en hc, SE.ends hc (h.go p)]
theorem last_clamp {s : Int} (hs : 0 ≤ s) : ∀ (row : List Int) (lo hi : Int), lo ≤ hi → ∃ lo' hi', lo' ≤ hi' ∧ ∀ (x : Int) (S : Sw), eB [(s, 1)] S = min (max x lo) hi → eB [(s, 1)] (lastS S row) = min (max x lo') hi'
  | [], lo, hi, h => ⟨lo, hi, h, fun x S e => e⟩
  | p :: row, lo, hi, h => by
    obtain ⟨lo', hi', h', k⟩ := last_clamp hs row (min (max lo (p - s)) p) (min (max hi (p - s)) p) (by omega)
    refine ⟨lo', hi', h', fun x S e => k x (goS S p) ?_⟩
    rw [go_rod hs, e]; omega
theorem SE.again (row : List Int) (S : Sw) : SE (lastS (lastS S row) row) (lastS S row) := fun s hs => by
  cases row with
  | nil => rfl
  | cons p row =>
    obtain ⟨lo, hi, h, k⟩ := last_clamp hs row (p - s) p (by omega)
    have e : ∀ S, eB [(s, 1)] (lastS S (p :: row)) = min (max (eB [(s, 1)] S) lo) hi := fun S => k _ (goS S p) (go_rod hs S p)
    rw [e (lastS S (p :: row)), e S]; omega
end Mt

namespace Nb
/-! ### memories by their numbers: plain maths -/
def rng (i : Int) (n : Nat) : List Int := (List.range n).map fun k : Nat => i + (k : Int)
theorem rng_cons (i : Int) (n : Nat) : rng i (n + 1) = i :: rng (i + 1) n := by
  simp only [rng, List.range_succ_eq_map, List.map_cons, List.map_map]
  congr 1
  · simp
  · apply List.map_congr_left; intro k _; simp only [Function.comp]; omega
theorem rng_snoc (i : Int) (n : Nat) : rng i (n + 1) = rng i n ++ [i + (n : Int)] := by
  simp [rng, List.range_succ]
def kids (a b : Int) : List Int := rng (min a b + 1) (max a b - (min a b + 1)).toNat
def wt (b q : Int) : Int := 2 ^ ((q - b).natAbs - 1)
def SA (f : Int → Int) : List Int → Int
  | [] => 0
  | q :: t => f q + SA f t
def SB (f : Int → Int) (p : Int) : List Int → Int
  | [] => 0
  | q :: t => (if q < p then f q else 0) + SB f p t
theorem SA_app (f : Int → Int) : ∀ x y, SA f (x ++ y) = SA f x + SA f y
  | [], y => by simp [SA]
  | q :: t, y => by simp only [List.cons_append, SA, SA_app f t y]; omega
theorem tot_dn (b : Int) : ∀ (n : Nat) (i : Int), i + (n : Int) = b → SA (wt b) (rng i n) + 1 = 2 ^ n
  | 0, i, _ => by simp [rng, SA]
  | n + 1, i, h => by
    rw [rng_cons, SA]
    have ih := tot_dn b n (i + 1) (by omega)
    have e : wt b i = 2 ^ n := by
      unfold wt
      rw [show (i - b).natAbs - 1 = n by omega]
    rw [e, Int.pow_succ]; omega
theorem tot_up (b : Int) : ∀ (n : Nat), SA (wt b) (rng (b + 1) n) + 1 = 2 ^ n
  | 0 => by simp [rng, SA]
  | n + 1 => by
    rw [rng_snoc, SA_app]
    have ih := tot_up b n
    have e : wt b (b + 1 + (n : Int)) = 2 ^ n := by
      unfold wt
      rw [show (b + 1 + (n : Int) - b).natAbs - 1 = n by omega]
    simp only [SA, e, Int.pow_succ]; omega
theorem tot {a b : Int} (h : a ≠ b) : SA (wt b) (kids a b) + 1 = wt b a := by
  unfold kids
  rcases Int.lt_or_gt_of_ne h with h | h
  · rw [tot_dn b (max a b - (min a b + 1)).toNat _ (by omega), wt]
    congr 1; omega
  · rw [show min a b + 1 = b + 1 by omega, tot_up b, wt]
    congr 1; omega
/-- the number of a row of places that follow b, with a before b -/
def rk : Int → Int → List Int → Int
  | _, _, [] => 0
  | a, b, p :: r => 1 + SB (wt b) p (kids a b) + rk b p r
def top (B : Int) : List Int := B :: if 1 < B then [B - 1] else []
end Nb

namespace Mt
/-! ### the loops that a row closes, step by step -/
end Mt

namespace Pv
open PySem PySem.Spec PyProof.Rows L2 Sr
/-! ### pure data -/
/-- a lambda of the law: its number, its text, the ints that are its parameters' defaults -/
structure LamT where
  id : Nat
  /-- the names of the law's slots; the slots that are captured -/
  N : List Str
  cs : List Nat
  params : Arguments
  body : Expr
  scope : Scope
  dv : List Int
def lamQ : Str := "law.<locals>.<lambda>"
inductive D where
  | non | bl (b : Bool) | int (i : Int) | str (x : Str)
  | tup (xs : List D) | lst (xs : List D)
  /-- a tuple whose object is known (the arms of a rig) -/
  | arm (xs : List D)
  | ins (c : Str) (fs : List (Str × D))
  | dic (kvs : List (Key × D)) | dit (kvs : List (List Key × D))
  | loc (n : Nat) | ty (n : String) | cls (c : Str)
  /-- a lambda of the law, made where the law's cells are cl -/
  | lam (l : LamT) (cl : List (Str × Addr))
  /-- the table of the law's lambdas; a0: where the source of numbers stands -/
  | tab (a0 : Addr)
  /-- a lambda of the law, with what it captures -/
  | clo (l : LamT) (ρ : List (Option D)) (a0 : Addr)
  /-- the exception that a suite holds: its object, its dict, its attributes -/
  | exo (a : Addr) (dd : Option Addr) (fs : List (Str × D))
def D.isLoc : D → Bool
  | .loc _ => true
  | .exo _ _ _ => true
  | _ => false
abbrev PEnv := List (Option D)
abbrev Rs := List D
/-- the object of a lambda -/
def LamO (l : LamT) (cl : List (Str × Addr)) (c : Addr) (dV : Value) (f : Addr) : HO := .ext fun h => ∃ doc pm ctv : Value, h.get? f = some (PySem.W.kdv_obj "<lambda>" lamQ l.params (.expr l.body) l.scope (cloFrom cl l.scope.names []) dV doc pm c ctv)
def DvOk (F : Hp) (l : LamT) (dV : Value) : Prop := (l.dv = [] ∧ dV = .none) ∨ (l.dv ≠ [] ∧ ∃ t, dV = .ref t ∧ F t = some (.tup (l.dv.map V.int)))
def TabOk (F : Hp) (ps : Array Value) : Prop := TriplesOk ps.toList ∧ ∀ (pos : Pos) (cv : Value), codeAmong pos ps.toList = some cv → ∃ c, cv = .ref c ∧ F c = some (LamX.CodeO c lamQ)
/-- a cell that a lambda captures; the values of the slots that are captured stand in such cells -/
def CellO (b : Addr) (o : Obj) : HO := .ext fun h => h.get? b = some o
def CapOk (F : Hp) (N : List Str) (cl : List (Str × Addr)) (sc : Scope) (σ : List (Option V)) : Prop := σ.length = N.length ∧ (∀ y ∈ sc.names, y.2 = .free → ∃ b, cl.lookup y.1 = some b) ∧ (∀ x y b, cl.lookup x = some b → cl.lookup y = some b → x = y) ∧ (∀ y b, cl.lookup y = some b → ∃ o u, F b = some (CellO b o) ∧ o.data = .cell u) ∧
  ∀ (i : Nat) (y : Str) (v : V), N[i]? = some y → σ[i]? = some (some v) → sc.names.lookup y = some NameKind.free → ∃ b o u, cl.lookup y = some b ∧ F b = some (CellO b o) ∧ o.data = .cell (some u) ∧ RelV v u
mutual
/-- v stands for the data; its cells lie in F, its mutable cells are numbered by S -/
inductive Rep (K : PySem.W.Frag) (F : Hp) : V → D → Prop
  | non : Rep K F .non .non
  | bl (b : Bool) : Rep K F (.bl b) (.bl b)
  | int (i : Int) : Rep K F (.int i) (.int i)
  | str (x : Str) : Rep K F (.str x) (.str x)
  | tup {a : Addr} {vs : List V} {ds : List D} : F a = some (.tup vs) → Reps K F vs ds → Rep K F (.ref a) (.tup ds)
  | lst {a : Addr} {vs : List V} {ds : List D} : F a = some (.lst vs) → Reps K F vs ds → Rep K F (.ref a) (.lst ds)
  | arm {a : Addr} {o : Obj} {vs : List V} {ds : List D} : F a = some (.frz o (.tup vs)) → o.dict = none → Reps K F vs ds → Rep K F (.ref a) (.arm ds)
  | ins {a dx : Addr} {c : Str} {fs : List (Str × V)} {gs : List (Str × D)} : F a = some (.ins (He.ga K c) dx fs) → fs.map (·.1) = gs.map (·.1) → Reps K F (fs.map (·.2)) (gs.map (·.2)) → Rep K F (.ref a) (.ins c gs)
  | dic {a : Addr} {fs : List (Key × V)} {gs : List (Key × D)} : Rd F a (.dK fs) → fs.map (·.1) = gs.map (·.1) → Reps K F (fs.map (·.2)) (gs.map (·.2)) → Rep K F (.ref a) (.dic gs)
  | dit {a : Addr} {fs : List (List Key × V)} {gs : List (List Key × D)} : Rd F a (.dT fs) → fs.map (·.1) = gs.map (·.1) → Reps K F (fs.map (·.2)) (gs.map (·.2)) → Rep K F (.ref a) (.dit gs)
  | ty (n : String) : Rep K F (.ty n) (.ty n)
  | cls (c : Str) : Rep K F (.ref (He.ga K c)) (.cls c)
  | lam {f c : Addr} {l : LamT} {cl : List (Str × Addr)} {dV : Value} : F f = some (LamO l cl c dV f) → F c = some (LamX.CodeO c lamQ) → DvOk F l dV → Rep K F (.ref f) (.lam l cl)
  | tab {a : Addr} {ps : Array Value} {a0 : Addr} : F a = some (.tbl ps) → Rep K F (.ref a) (.tab a0)
  | clo {f c : Addr} {l : LamT} {cl : List (Str × Addr)} {dV : Value} {σ : List (Option V)} {ρ : List (Option D)} {a0 : Addr} : F f = some (LamO l cl c dV f) → F c = some (LamX.CodeO c lamQ) → DvOk F l dV → CapOk F l.N cl l.scope σ → RepE K F a0 σ ρ → Rep K F (.ref f) (.clo l ρ a0)
/-- what is captured -/
inductive RepE (K : PySem.W.Frag) (F : Hp) : Addr → List (Option V) → List (Option D) → Prop
  | nil {as : Addr} : RepE K F as [] []
  | none {as : Addr} {v : Option V} {σ : List (Option V)} {ρ : List (Option D)} : RepE K F as σ ρ → RepE K F as (v :: σ) (none :: ρ)
  | some {as : Addr} {v : V} {d : D} {σ : List (Option V)} {ρ : List (Option D)} : Rep K F v d → RepE K F as σ ρ → RepE K F as (some v :: σ) (some d :: ρ)
  | loc {as : Addr} {σ : List (Option V)} {ρ : List (Option D)} : RepE K F as σ ρ → RepE K F as (some (.ref as) :: σ) (some (.loc 0) :: ρ)
inductive Reps (K : PySem.W.Frag) (F : Hp) : List V → List D → Prop
  | nil : Reps K F [] []
  | cons {v : V} {d : D} {vs : List V} {ds : List D} : Rep K F v d → Reps K F vs ds → Reps K F (v :: vs) (d :: ds)
end
/-- a cell's contents stand for the data -/
inductive RepO (K : PySem.W.Frag) (F : Hp) : HO → D → Prop
  | lst {vs : List V} {ds : List D} : Reps K F vs ds → RepO K F (.lst vs) (.lst ds)
  | ins {dx : Addr} {c : Str} {fs : List (Str × V)} {gs : List (Str × D)} : fs.map (·.1) = gs.map (·.1) → Reps K F (fs.map (·.2)) (gs.map (·.2)) → RepO K F (.ins (He.ga K c) dx fs) (.ins c gs)
  | dic {fs : List (Key × V)} {gs : List (Key × D)} : fs.map (·.1) = gs.map (·.1) → Reps K F (fs.map (·.2)) (gs.map (·.2)) → RepO K F (.dK fs) (.dic gs)
  | dit {fs : List (List Key × V)} {gs : List (List Key × D)} : fs.map (·.1) = gs.map (·.1) → Reps K F (fs.map (·.2)) (gs.map (·.2)) → RepO K F (.dT fs) (.dit gs)
  | tab {ps : Array Value} {a0 : Addr} : TabOk F ps → RepO K F (.tbl ps) (.tab a0)
section
variable {K : PySem.W.Frag} {F F' : Hp}
theorem DvOk.mono {F F' : Hp} (hf : Same F F') {l : LamT} {dV : Value} (h : DvOk F l dV) : DvOk F' l dV := by
  rcases h with h | ⟨h, t, e, ht⟩
  · exact .inl h
  · exact .inr ⟨h, t, e, hf _ _ ht⟩
theorem CapOk.mono {F F' : Hp} {N : List Str} {cl : List (Str × Addr)} {sc : Scope} {σ : List (Option V)} (hf : Same F F') (h : CapOk F N cl sc σ) : CapOk F' N cl sc σ := by
  obtain ⟨h1, h2, h3, h4, h5⟩ := h
  refine ⟨h1, h2, h3, fun y b e => ?_, fun i y v e1 e2 e3 => ?_⟩
  · obtain ⟨o, u, z1, z2⟩ := h4 y b e
    exact ⟨o, u, hf _ _ z1, z2⟩
  · obtain ⟨b, o, u, z1, z2, z3⟩ := h5 i y v e1 e2 e3
    exact ⟨b, o, u, z1, hf _ _ z2, z3⟩
theorem TabOk.mono {F F' : Hp} {ps : Array Value} (hf : ∀ c, F c = some (LamX.CodeO c lamQ) → F' c = some (LamX.CodeO c lamQ)) (h : TabOk F ps) : TabOk F' ps := ⟨h.1, fun pos cv e => by
  obtain ⟨c, e1, e2⟩ := h.2 pos cv e
  exact ⟨c, e1, hf _ e2⟩⟩
theorem rd_mono {F F' : Hp} (hf : Same F F') {a : Addr} {u : HO} (h : Rd F a u) : Rd F' a u := by
  rcases h with h | ⟨o, h⟩
  · exact .inl (hf _ _ h)
  · exact .inr ⟨o, hf _ _ h⟩
theorem pre_get {S S' : List Addr} (h : S <+: S') {n : Nat} {a : Addr} (e : S[n]? = some a) : S'[n]? = some a := by
  obtain ⟨t, rfl⟩ := h
  rw [List.getElem?_append_left (List.getElem?_eq_some_iff.mp e).1]; exact e
mutual
theorem Rep.mono (hf : Same F F') : ∀ {v : V} {d : D}, Rep K F v d → Rep K F' v d
  | _, _, .non => .non
  | _, _, .bl b => .bl b
  | _, _, .int i => .int i
  | _, _, .str x => .str x
  | _, _, .tup h r => .tup (hf _ _ h) (Reps.mono hf r)
  | _, _, .lst h r => .lst (hf _ _ h) (Reps.mono hf r)
  | _, _, .arm h e r => .arm (hf _ _ h) e (Reps.mono hf r)
  | _, _, .ins h e r => .ins (hf _ _ h) e (Reps.mono hf r)
  | _, _, .dic h e r => .dic (rd_mono hf h) e (Reps.mono hf r)
  | _, _, .dit h e r => .dit (rd_mono hf h) e (Reps.mono hf r)
  | _, _, .ty n => .ty n
  | _, _, .cls c => .cls c
  | _, _, .lam h1 h2 h3 => .lam (hf _ _ h1) (hf _ _ h2) (h3.mono hf)
  | _, _, .tab h => .tab (hf _ _ h)
  | _, _, .clo h1 h2 h3 h4 h5 => .clo (hf _ _ h1) (hf _ _ h2) (h3.mono hf) (h4.mono hf) (RepE.mono hf h5)
theorem RepE.mono (hf : Same F F') : ∀ {as : Addr} {σ : List (Option V)} {ρ : List (Option D)}, RepE K F as σ ρ → RepE K F' as σ ρ
  | _, _, _, .nil => .nil
  | _, _, _, .none r => .none (RepE.mono hf r)
  | _, _, _, .some h r => .some (Rep.mono hf h) (RepE.mono hf r)
  | _, _, _, .loc r => .loc (RepE.mono hf r)
theorem Reps.mono (hf : Same F F') : ∀ {vs : List V} {ds : List D}, Reps K F vs ds → Reps K F' vs ds
  | _, _, .nil => .nil
  | _, _, .cons h r => .cons (Rep.mono hf h) (Reps.mono hf r)
end
theorem RepO.mono (hf : Same F F') {o : HO} {d : D} (h : RepO K F o d) : RepO K F' o d := by
  cases h with
  | lst r => exact .lst (r.mono hf)
  | ins e r => exact .ins e (r.mono hf)
  | dic e r => exact .dic e (r.mono hf)
  | dit e r => exact .dit e (r.mono hf)
  | tab h => exact .tab (h.mono fun c e => hf _ _ e)
theorem Reps.length : ∀ {vs : List V} {ds : List D}, Reps K F vs ds → vs.length = ds.length
  | _, _, .nil => rfl
  | _, _, .cons _ r => by simp [Reps.length r]
theorem Reps.append : ∀ {vs ws : List V} {ds es : List D}, Reps K F vs ds → Reps K F ws es → Reps K F (vs ++ ws) (ds ++ es)
  | _, _, _, _, .nil, h => h
  | _, _, _, _, .cons h r, q => .cons h (Reps.append r q)
theorem Reps.take : ∀ {vs : List V} {ds : List D} (n : Nat), Reps K F vs ds → Reps K F (vs.take n) (ds.take n)
  | _, _, 0, _ => .nil
  | _, _, _ + 1, .nil => .nil
  | _, _, n + 1, .cons h r => .cons h (Reps.take n r)
theorem Reps.drop : ∀ {vs : List V} {ds : List D} (n : Nat), Reps K F vs ds → Reps K F (vs.drop n) (ds.drop n)
  | _, _, 0, r => r
  | _, _, _ + 1, .nil => .nil
  | _, _, n + 1, .cons h r => Reps.drop n r
theorem Reps.get : ∀ {vs : List V} {ds : List D} {i : Nat} {d : D}, Reps K F vs ds → ds[i]? = some d → ∃ v, vs[i]? = some v ∧ Rep K F v d
  | _, _, _, _, .nil, e => by simp at e
  | _, _, 0, _, .cons h _, e => by simp at e; subst e; exact ⟨_, rfl, h⟩
  | _, _, i + 1, d, .cons _ r, e => by
    obtain ⟨v, h1, h2⟩ := Reps.get (i := i) (d := d) r (by simpa using e)
    exact ⟨v, by simpa using h1, h2⟩
theorem Reps.getV : ∀ {vs : List V} {ds : List D} {i : Nat} {v : V}, Reps K F vs ds → vs[i]? = some v → ∃ d, ds[i]? = some d ∧ Rep K F v d
  | _, _, _, _, .nil, e => by simp at e
  | _, _, 0, _, .cons h _, e => by simp at e; subst e; exact ⟨_, rfl, h⟩
  | _, _, i + 1, d, .cons _ r, e => by
    obtain ⟨v, h1, h2⟩ := Reps.getV (i := i) (v := d) r (by simpa using e)
    exact ⟨v, by simpa using h1, h2⟩
theorem Reps.set {v : V} {d : D} (h : Rep K F v d) : ∀ {vs : List V} {ds : List D} (i : Nat), Reps K F vs ds → Reps K F (vs.set i v) (ds.set i d)
  | _, _, _, .nil => .nil
  | _, _, 0, .cons _ r => .cons h r
  | _, _, i + 1, .cons q r => .cons q (Reps.set h i r)
theorem Reps.ints : ∀ ns : List Int, Reps K F (ns.map V.int) (ns.map D.int)
  | [] => .nil
  | n :: r => .cons (.int n) (Reps.ints r)
theorem Reps.of_ints : ∀ {vs : List V} {ns : List Int}, Reps K F vs (ns.map D.int) → vs = ns.map V.int
  | _, [], .nil => rfl
  | _, n :: r, .cons h q => by
    cases h
    rw [Reps.of_ints q]; rfl
end
/-- a slot's exception -/
inductive LkV (K : PySem.W.Frag) (F : Hp) : V → D → Prop
  | x {a : Addr} {dd : Option Addr} {gs : List (Str × D)} : ((dd = none ∧ gs = []) ∨ ∃ (d : Addr) (fs : List (Str × V)), dd = some d ∧ F d = some (.xd fs) ∧ fs.map (·.1) = gs.map (·.1) ∧ Reps K F (fs.map (·.2)) (gs.map (·.2))) → LkV K F (.ref a) (.exo a dd gs)
theorem LkV.mono {K : PySem.W.Frag} {F F' : Hp} (hf : Same F F') {v : V} {d : D} (h : LkV K F v d) : LkV K F' v d := by
  cases h with
  | x h => exact .x (h.imp id fun ⟨d, fs, e, h1, h2, h3⟩ => ⟨d, fs, e, hf _ _ h1, h2, h3.mono hf⟩)
def RepV (K : PySem.W.Frag) (S : List Addr) (F : Hp) (v : V) (d : D) : Prop := Rep K F v d ∨ (∃ n a, d = .loc n ∧ v = .ref a ∧ S[n]? = some a) ∨ LkV K F v d
theorem RepV.rep {K : PySem.W.Frag} {S : List Addr} {F : Hp} {v : V} {d : D} (h : RepV K S F v d) (hl : d.isLoc = false) : Rep K F v d := by
  rcases h with h | ⟨n, a, rfl, _⟩ | h
  · exact h
  · cases hl
  · cases h <;> cases hl
theorem RepV.mono {K : PySem.W.Frag} {S S' : List Addr} {F F' : Hp} (hs : S <+: S') (hf : Same F F') {v : V} {d : D} (h : RepV K S F v d) : RepV K S' F' v d := by
  rcases h with h | ⟨n, a, e1, e2, e3⟩ | h
  · exact .inl (h.mono hf)
  · exact .inr (.inl ⟨n, a, e1, e2, pre_get hs e3⟩)
  · exact .inr (.inr (h.mono hf))
/-! ### outcomes -/
inductive Res (α : Type) where
  | ok (a : α) (R : Rs)
  | exc (c : Str) (fs : List (Str × D)) (R : Rs)
  | bad
def Res.bind {α β : Type} (r : Res α) (k : α → Rs → Res β) : Res β := match r with
  | .ok a R => k a R
  | .exc c fs R => .exc c fs R
  | .bad => .bad
@[simp] theorem Res.bind_ok {α β : Type} (a : α) (R : Rs) (k : α → Rs → Res β) : (Res.ok a R).bind k = k a R := rfl
@[simp] theorem Res.bind_exc {α β : Type} (c : Str) (fs : List (Str × D)) (R : Rs) (k : α → Rs → Res β) : (Res.exc c fs R : Res α).bind k = .exc c fs R := rfl
@[simp] theorem Res.bind_bad {α β : Type} (k : α → Rs → Res β) : (Res.bad : Res α).bind k = .bad := rfl
/-- where the table of the law's lambdas stands -/
def tabP (K : PySem.W.Frag) : Addr := (He.cT K ("law", none)).2
/-- the mutable cells hold R -/
structure Cells (K : PySem.W.Frag) (S : List Addr) (F H : Hp) (R : Rs) : Prop where
  len : S.length = R.length
  at_ : ∀ (i : Nat) (a : Addr) (d : D), S[i]? = some a → R[i]? = some d → F a = none ∧ ∃ o, H a = some o ∧ RepO K F o d
  nd : S.Nodup
  tb : ∀ (i : Nat) (a0 : Addr), R[i]? = some (.tab a0) → i = 1 ∧ S[0]? = some a0 ∧ S[1]? = some (tabP K)
/-- a tuple's cell: it does not change, so it may be frozen at any time -/
def tupO : HO → Bool
  | .tup _ => true
  | _ => false
/-- the state goes on: S and F grow, what is not a mutable cell stays, what was not frozen is not -/
structure Ext (S : List Addr) (F H : Hp) (S' : List Addr) (F' H' : Hp) : Prop where
  s : S <+: S'
  f : Same F F'
  fh : Same F' H'
  fr : ∀ b u, H b = some u → b ∉ S → H' b = some u
  th : ∀ b u, H b = some u → ∃ u', H' b = some u'
  nw : ∀ b u, H b = some u → (b ∈ S ∨ tupO u = false) → F b = none → F' b = none
  sn : ∀ b ∈ S', b ∉ S → H b = none
section
variable {K : PySem.W.Frag} {S S1 S2 : List Addr} {F F1 F2 H H1 H2 : Hp} {R : Rs}
theorem Ext.refl (h : Same F H) : Ext S F H S F H := ⟨List.prefix_refl _, .refl F, h, fun _ _ h _ => h, fun b u h => ⟨u, h⟩, fun _ _ _ _ h => h, fun b h1 h2 => absurd h1 h2⟩
theorem Ext.trans (a : Ext S F H S1 F1 H1) (b : Ext S1 F1 H1 S2 F2 H2) : Ext S F H S2 F2 H2 where
  s := a.s.trans b.s
  f := a.f.trans b.f
  fh := b.fh
  fr := fun c u h hc => b.fr c u (a.fr c u h hc) fun z => by rw [a.sn c z hc] at h; cases h
  th := fun c u h => by
    obtain ⟨u', h'⟩ := a.th c u h
    exact b.th c u' h'
  nw := fun c u h t n => by
    by_cases hc : c ∈ S
    · obtain ⟨u', h'⟩ := a.th c u h
      exact b.nw c u' h' (.inl (a.s.subset hc)) (a.nw c u h t n)
    · rcases t with t | t
      · exact absurd t hc
      · exact b.nw c u (a.fr c u h hc) (.inr t) (a.nw c u h (.inr t) n)
  sn := fun c h1 h2 => by
    by_cases hc : c ∈ S1
    · exact a.sn c hc h2
    · have := b.sn c h1 hc
      cases q : H c with
      | none => rfl
      | some u =>
        obtain ⟨u', h'⟩ := a.th c u q
        rw [this] at h'; cases h'
theorem RepO.nt {K : PySem.W.Frag} {F : Hp} {o : HO} {d : D} (r : RepO K F o d) : tupO o = false := by cases r <;> rfl
theorem Ext.rep (e : Ext S F H S1 F1 H1) {v : V} {d : D} (h : Rep K F v d) : Rep K F1 v d := h.mono e.f
/-- a new frozen cell -/
theorem Ext.new (hs : Same F H) {p : Addr} {o : HO} (hp : H p = none) : Ext S F H S (upd F p o) (upd H p o) := by
  have fp : F p = none := hs.free hp
  refine ⟨List.prefix_refl _, same_upd fp, fun b u e => ?_, fun b u h _ => by rw [upd_ne (ne_of_none h hp)]; exact h, fun b u h => ⟨u, by rw [upd_ne (ne_of_none h hp)]; exact h⟩, fun b u h _ n => by rw [upd_ne (ne_of_none h hp)]; exact n, fun b h1 h2 => absurd h1 h2⟩
  by_cases hb : b = p
  · subst hb; rw [upd_same] at e ⊢; exact e
  · rw [upd_ne hb] at e ⊢; exact hs b u e
/-- a new cell that is not frozen -/
theorem Ext.newO (hs : Same F H) {p : Addr} {o : HO} (hp : H p = none) : Ext S F H S F (upd H p o) :=
  ⟨List.prefix_refl _, .refl F, hs.new hp, fun b u h _ => by rw [upd_ne (ne_of_none h hp)]; exact h, fun b u h => ⟨u, by rw [upd_ne (ne_of_none h hp)]; exact h⟩, fun b u h _ n => n, fun b h1 h2 => absurd h1 h2⟩
/-- a cell outside is changed or laid -/
theorem Cells.upd (c : Cells K S F H R) {p : Addr} {o : HO} (hp : p ∉ S) : Cells K S F (upd H p o) R :=
  ⟨c.len, fun i a d h1 h2 => by
    obtain ⟨n, u, h3, h4⟩ := c.at_ i a d h1 h2
    have hne : a ≠ p := fun z => hp (by rw [← z]; exact List.mem_of_getElem? h1)
    exact ⟨n, u, by rw [upd_ne hne]; exact h3, h4⟩, c.nd, c.tb⟩
theorem Cells.has (c : Cells K S F H R) {b : Addr} (hb : b ∈ S) : F b = none ∧ ∃ o, H b = some o := by
  obtain ⟨i, hi, rfl⟩ := List.mem_iff_getElem.mp hb
  have h2 : i < R.length := by rw [← c.len]; exact hi
  obtain ⟨n, o, h3, _⟩ := c.at_ i S[i] R[i] (List.getElem?_eq_getElem hi) (List.getElem?_eq_getElem h2)
  exact ⟨n, o, h3⟩
theorem Cells.nt (c : Cells K S F H R) {b : Addr} {u : HO} (hb : b ∈ S) (h : H b = some u) : tupO u = false := by
  obtain ⟨i, hi, rfl⟩ := List.mem_iff_getElem.mp hb
  have h2 : i < R.length := by rw [← c.len]; exact hi
  obtain ⟨_, o, h3, h4⟩ := c.at_ i S[i] R[i] (List.getElem?_eq_getElem hi) (List.getElem?_eq_getElem h2)
  rw [h] at h3; cases h3
  exact h4.nt
theorem Cells.fresh (c : Cells K S F H R) {p : Addr} (hp : H p = none) : p ∉ S := fun z => by
  obtain ⟨_, o, h⟩ := c.has z
  rw [hp] at h; cases h
/-- the frozen part grows by what is no cell -/
theorem Cells.froz (c : Cells K S F H R) (hf : Same F F1) (hn : ∀ b ∈ S, F1 b = none) : Cells K S F1 H R :=
  ⟨c.len, fun i a d h1 h2 => by
    obtain ⟨n, u, h3, h4⟩ := c.at_ i a d h1 h2
    exact ⟨hn a (List.mem_of_getElem? h1), u, h3, h4.mono hf⟩, c.nd, c.tb⟩
theorem Cells.new (c : Cells K S F H R) (hs : Same F H) {p : Addr} {o : HO} (hp : H p = none) : Cells K S (L2.upd F p o) (L2.upd H p o) R :=
  (c.upd (c.fresh hp)).froz (same_upd (hs.free hp)) fun b hb => by
    obtain ⟨n, u, h⟩ := c.has hb
    rw [upd_ne (ne_of_none h hp)]; exact n
end
/-! ### readings -/
/-- the slots, by pure data; F is frozen, S are the mutable cells -/
structure View (K : PySem.W.Frag) (S : List Addr) (F H : Hp) (ρ : PEnv) (R : Rs) (σ : L2.St) : Prop where
  fh : Same F H
  env : ∀ (i : Nat) (d : D), ρ[i]? = some (some d) → ∃ v, σ[i]? = some (some v) ∧ RepV K S F v d
  cells : Cells K S F H R
  len : ρ.length = σ.length
/-- an exception with these attributes -/
inductive ExcAt (K : PySem.W.Frag) (S : List Addr) (F H : Hp) : List (Str × D) → Option Addr → Prop
  | no : ExcAt K S F H [] none
  | at_ {a : Addr} {fs : List (Str × V)} {gs : List (Str × D)} : F a = some (.xd fs) → fs.map (·.1) = gs.map (·.1) → Reps K F (fs.map (·.2)) (gs.map (·.2)) → ExcAt K S F H gs (some a)
/-- what is wanted of an outcome -/
def Wp {α β : Type} (K : PySem.W.Frag) (E : XK) (rep : List Addr → Hp → β → α → Prop) (S : List Addr) (F H : Hp) (r : Res α) (Q : β → Hp → Prop) : Prop := match r with
  | .ok a R' => ∀ b S' F' H', Ext S F H S' F' H' → Cells K S' F' H' R' → rep S' F' b a → Q b H'
  | .exc c fs R' => ∀ d S' F' H', Ext S F H S' F' H' → Cells K S' F' H' R' → ExcAt K S' F' H' fs d → E (.ref (He.ga K c)) d H'
  | .bad => False
section
variable {α β γ δ : Type} {K : PySem.W.Frag} {E : XK} {rep : List Addr → Hp → β → α → Prop} {rep' : List Addr → Hp → δ → γ → Prop} {S S1 : List Addr} {F H F1 H1 : Hp} {R : Rs} {ρ : PEnv} {σ : L2.St}
theorem Wp.ext {r : Res α} {Q : β → Hp → Prop} (h : Wp K E rep S F H r Q) (e : Ext S F H S1 F1 H1) : Wp K E rep S1 F1 H1 r Q := by
  cases r with
  | ok a R' => exact fun b S' F' H' e' c r => h b S' F' H' (e.trans e') c r
  | exc c fs R' => exact fun d S' F' H' e' c r => h d S' F' H' (e.trans e') c r
  | bad => exact h
theorem Wp.imp {r : Res α} {Q Q' : β → Hp → Prop} (h : Wp K E rep S F H r Q) (k : ∀ b H', Q b H' → Q' b H') : Wp K E rep S F H r Q' := by
  cases r with
  | ok a R' => exact fun b S' F' H' e' c r => k _ _ (h b S' F' H' e' c r)
  | exc c fs R' => exact h
  | bad => exact h
/-- one after another -/
theorem Wp.bind {r : Res α} {k : α → Rs → Res γ} {Q : δ → Hp → Prop} {Q1 : β → Hp → Prop} (h : Wp K E rep' S F H (r.bind k) Q)
    (hq : ∀ b S1 F1 H1 a R1, Ext S F H S1 F1 H1 → Cells K S1 F1 H1 R1 → rep S1 F1 b a → Wp K E rep' S1 F1 H1 (k a R1) Q → Q1 b H1) : Wp K E rep S F H r Q1 := by
  cases r with
  | ok a R' => exact fun b S' F' H' e' c r => hq b S' F' H' a R' e' c r (Wp.ext h e')
  | exc c fs R' => exact h
  | bad => exact h
theorem Wp.now {a : α} {b : β} {Q : β → Hp → Prop} (h : Wp K E rep S F H (.ok a R) Q) (hs : Same F H) (c : Cells K S F H R) (r : rep S F b a) : Q b H := h b S F H (.refl hs) c r
theorem View.ext (v : View K S F H ρ R σ) {R1 : Rs} (e : Ext S F H S1 F1 H1) (c : Cells K S1 F1 H1 R1) : View K S1 F1 H1 ρ R1 σ :=
  ⟨e.fh, fun i d h => by
    obtain ⟨u, h1, h2⟩ := v.env i d h
    exact ⟨u, h1, h2.mono e.s e.f⟩, c, v.len⟩
end
/-- an expression's reading by a function of the slots' data -/
def tG {α β : Type} (K : PySem.W.Frag) (E : XK) (rep : List Addr → Hp → β → α → Prop) (g : PEnv → Rs → Res α) : L2.St → Hp → (β → Hp → Prop) → Prop := fun σ H Q =>
  ∃ S F ρ R, View K S F H ρ R σ ∧ Wp K E rep S F H (g ρ R) Q
abbrev tP (K : PySem.W.Frag) (E : XK) (g : PEnv → Rs → Res D) : TE := tG K E (fun _ F v d => Rep K F v d) g
abbrev tPA (K : PySem.W.Frag) (E : XK) (g : PEnv → Rs → Res (List D)) : TA := tG K E (fun _ F v d => Reps K F v d) g
abbrev tPT (K : PySem.W.Frag) (E : XK) (g : PEnv → Rs → Res Bool) : TT := tG K E (fun _ _ (v : Bool) d => v = d) g
abbrev Ev (X : Cx) (E : XK) (e : Expr) (g : PEnv → Rs → Res D) : Prop := PE X e (tP X.K E g)
abbrev EvA (X : Cx) (E : XK) (es : List Expr) (g : PEnv → Rs → Res (List D)) : Prop := PA X es (tPA X.K E g)
abbrev EvT (X : Cx) (E : XK) (e : Expr) (g : PEnv → Rs → Res Bool) : Prop := PT X e (tPT X.K E g)
abbrev EvW (X : Cx) (E : XK) (e : Expr) (g : PEnv → Rs → Res Bool) : Prop := PW X e (tPT X.K E g)
theorem pe_imp {X : Cx} {e : Expr} {t t' : TE} (h : PE X e t) (k : ∀ σ H Q, t' σ H Q → t σ H Q) : PE X e t' := ⟨fun pins s σ H Q I q => h.run pins s σ H Q I (k σ H Q q)⟩
theorem pa_imp {X : Cx} {e : List Expr} {t t' : TA} (h : PA X e t) (k : ∀ σ H Q, t' σ H Q → t σ H Q) : PA X e t' := ⟨fun pos pins s σ H Q I q => h.run pos pins s σ H Q I (k σ H Q q)⟩
theorem pt_imp {X : Cx} {e : Expr} {t t' : TT} (h : PT X e t) (k : ∀ σ H Q, t' σ H Q → t σ H Q) : PT X e t' := ⟨fun pins s σ H Q I q => h.run pins s σ H Q I (k σ H Q q)⟩
theorem pw_imp {X : Cx} {e : Expr} {t t' : TT} (h : PW X e t) (k : ∀ σ H Q, t' σ H Q → t σ H Q) : PW X e t' := ⟨fun w pins s σ H Q I q => h.run w pins s σ H Q I (k σ H Q q)⟩
theorem ps_imp {X : Cx} {e : Stmt} {t t' : TS} (h : PS X e t) (k : ∀ D σ H, t' D σ H → t D σ H) : PS X e t' := ⟨fun pins s σ H D I q => h.run pins s σ H D I (k D σ H q)⟩
theorem pss_imp {X : Cx} {e : List Stmt} {t t' : TS} (h : PSs X e t) (k : ∀ D σ H, t' D σ H → t D σ H) : PSs X e t' := ⟨fun pins s σ H D I q => h.run pins s σ H D I (k D σ H q)⟩
theorem pi_imp {X : Cx} {tg e : Expr} {t t' : TI} (h : PI X tg e t) (k : ∀ σ H R, t' σ H R → t σ H R) : PI X tg e t' := ⟨fun pins s σ H R I q => h.run pins s σ H R I (k σ H R q)⟩
end Pv

namespace Pv
open PySem PySem.Spec PyProof.Rows L2 Sr
abbrev G := PEnv → Rs → Res D
abbrev GA := PEnv → Rs → Res (List D)
abbrev GT := PEnv → Rs → Res Bool
/-! ### names, constants -/
def gVar (i : Nat) : G := fun ρ R => match ρ[i]? with
  | some (some d) => if d.isLoc then .bad else .ok d R
  | _ => .bad
def gC (d : D) : G := fun _ R => .ok d R
section
variable {X : Cx} {E : XK} {a b c e : Expr} {es : List Expr} {ga gb gc g : G} {gs : GA} {pos : Pos}
theorem ev_var {i : Nat} (h : PE X e (tVar i)) : Ev X E e (gVar i) := pe_imp h fun σ H Q ⟨S, F, ρ, R, v, h⟩ => by
  unfold gVar at h
  split at h
  · rename_i d hd
    obtain ⟨u, h1, h2⟩ := v.env i d hd
    split at h
    · exact h.elim
    · rename_i hl
      exact ⟨u, h1, h.now v.fh v.cells (h2.rep (by simpa using hl))⟩
  · exact h.elim
theorem ev_cst {v : V} {d : D} (h : PE X e (tC v)) (r : ∀ F, Rep X.K F v d) : Ev X E e (gC d) := pe_imp h fun σ H Q ⟨S, F, ρ, R, v, h⟩ => h.now v.fh v.cells (r F)
theorem ev_int {i : Int} (h : PE X e (tC (.int i))) : Ev X E e (gC (.int i)) := ev_cst h fun _ => .int i
theorem ev_str {i : Str} (h : PE X e (tC (.str i))) : Ev X E e (gC (.str i)) := ev_cst h fun _ => .str i
theorem ev_bl {i : Bool} (h : PE X e (tC (.bl i))) : Ev X E e (gC (.bl i)) := ev_cst h fun _ => .bl i
theorem ev_non (h : PE X e (tC .non)) : Ev X E e (gC .non) := ev_cst h fun _ => .non
/-! ### operators of two values -/
def OpD (K : PySem.W.Frag) (E : XK) (r : R2) (f : D → D → Rs → Res D) : Prop :=
  ∀ (S : List Addr) (F H : Hp) (R : Rs) (x y : V) (dx dy : D) (Q : VK), Same F H → Cells K S F H R → Rep K F x dx → Rep K F y dy → Wp K E (fun _ F v d => Rep K F v d) S F H (f dx dy R) Q → r x y H Q
def gOp (f : D → D → Rs → Res D) (ga gb : G) : G := fun ρ R => (ga ρ R).bind fun x R1 => (gb ρ R1).bind fun y R2 => f x y R2
theorem tOp_of {K : PySem.W.Frag} {r : R2} {f : D → D → Rs → Res D} (hd : OpD K E r f) {σ : L2.St} {H : Hp} {Q : VK} (h : tP K E (gOp f ga gb) σ H Q) : tOp r (tP K E ga) (tP K E gb) σ H Q := by
  obtain ⟨S, F, ρ, R, v, h⟩ := h
  refine ⟨S, F, ρ, R, v, Wp.bind h fun x S1 F1 H1 dx R1 e1 c1 rx h1 => ?_⟩
  refine ⟨S1, F1, ρ, R1, v.ext e1 c1, Wp.bind h1 fun y S2 F2 H2 dy R2 e2 c2 ry h2 => ?_⟩
  exact hd S2 F2 H2 R2 x y dx dy Q e2.fh c2 (e2.rep rx) ry h2
theorem ev_op {op : Operator} {r : R2} {f : D → D → Rs → Res D} (ho : OpR X (binaryOp op) r ∧ OpD X.K E r f) (ha : Ev X E a ga) (hb : Ev X E b gb) : Ev X E (.BinOp a op b pos) (gOp f ga gb) := pe_imp (pe_op ho.1 ha hb) fun _ _ _ => tOp_of ho.2
theorem ev_cmp {op : CmpOp} {r : R2} {f : D → D → Rs → Res D} (ho : OpR X (compareOp op) r ∧ OpD X.K E r f) (ha : Ev X E a ga) (hb : Ev X E b gb) (hm : behindInMarks op b = false) : Ev X E (.Compare a [op] [b] pos) (gOp f ga gb) := pe_imp (pe_cmpR ho.1 ha hb hm) fun _ _ _ => tOp_of ho.2
theorem ev_ix {r : R2} {f : D → D → Rs → Res D} (ho : IxR X r ∧ OpD X.K E r f) (ha : Ev X E a ga) (hb : Ev X E b gb) (hs : PlainIx b) : Ev X E (.Subscript a b pos) (gOp f ga gb) := pe_imp (pe_ix ho.1 ha hb hs) fun _ _ _ => tOp_of ho.2
/-- operators of ints -/
def iop (C : Int → Int → Prop) [∀ i j, Decidable (C i j)] (g : Int → Int → D) : D → D → Rs → Res D := fun x y R => match x, y with
  | .int i, .int j => if C i j then .ok (g i j) R else .bad
  | _, _ => .bad
def iop0 (g : Int → Int → D) : D → D → Rs → Res D := fun x y R => match x, y with
  | .int i, .int j => .ok (g i j) R
  | _, _ => .bad
theorem opd_i {K : PySem.W.Frag} {C : Int → Int → Prop} [∀ i j, Decidable (C i j)] {g : Int → Int → D} {g' : Int → Int → V} (hg : ∀ F i j, Rep K F (g' i j) (g i j)) : OpD K E (rI C g') (iop C g) := by
  intro S F H R x y dx dy Q hs c rx ry h
  unfold iop at h
  split at h
  · split at h
    · cases rx; cases ry
      rename_i i j hc
      exact ⟨i, j, rfl, rfl, hc, h.now hs c (hg F i j)⟩
    · exact h.elim
  · exact h.elim
theorem opd_i0 {K : PySem.W.Frag} {g : Int → Int → D} {g' : Int → Int → V} (hg : ∀ F i j, Rep K F (g' i j) (g i j)) : OpD K E (rI0 g') (iop0 g) := by
  intro S F H R x y dx dy Q hs c rx ry h
  unfold iop0 at h
  split at h
  · cases rx; cases ry
    rename_i i j
    exact ⟨i, j, rfl, rfl, h.now hs c (hg F i j)⟩
  · exact h.elim
/-- decided by a comparison of two numbers that the kernel never counts down -/
def smB : Int → Bool
  | .ofNat k => Nat.ble k 18446744073709551615
  | .negSucc k => Nat.ble k 18446744073709551614
theorem smB_iff (i : Int) : smB i = true ↔ -(2 ^ 64) < i ∧ i < 2 ^ 64 := by
  cases i with
  | ofNat k => show Nat.ble k _ = true ↔ _; rw [Nat.ble_eq, Int.ofNat_eq_natCast]; omega
  | negSucc k => show Nat.ble k _ = true ↔ _; rw [Nat.ble_eq, Int.negSucc_eq]; omega
def bdB : Int → Nat → Bool
  | .ofNat k, n => Nat.ble k n
  | .negSucc k, n => Nat.ble k n
theorem bdB_iff (i : Int) (n : Nat) : bdB i n = true ↔ -((n : Int) + 1) ≤ i ∧ i ≤ n := by
  cases i with
  | ofNat k => show Nat.ble k _ = true ↔ _; rw [Nat.ble_eq, Int.ofNat_eq_natCast]; omega
  | negSucc k => show Nat.ble k _ = true ↔ _; rw [Nat.ble_eq, Int.negSucc_eq]; omega
instance (i j : Int) : Decidable (CMul i j) := decidable_of_iff ((smB i || smB j) = true) (by rw [Bool.or_eq_true, smB_iff, smB_iff]; exact Iff.rfl)
instance (i j : Int) : Decidable (CMulW i j) := by unfold CMulW; infer_instance
instance (i j : Int) : Decidable (CDiv i j) := by unfold CDiv; infer_instance
instance (i j : Int) : Decidable (CDivW i j) := by unfold CDivW; infer_instance
instance (i j : Int) : Decidable (CPow i j) := by unfold CPow; infer_instance
def dAdd := iop0 fun i j => .int (i + j)
def dSub := iop0 fun i j => .int (i - j)
def dMul := iop CMul fun i j => .int (i * j)
def dFdiv := iop CDiv fun i j => .int (i / j)
def dMod := iop (fun _ j => 0 < j) fun i j => .int (i % j)
def dLt := iop0 fun i j => .bl (decide (i < j))
def dLe := iop0 fun i j => .bl (decide (i ≤ j))
def dGt := iop0 fun i j => .bl (decide (j < i))
def dGe := iop0 fun i j => .bl (decide (j ≤ i))
theorem o_add : OpR X (binaryOp .Add) (rI0 fun i j => .int (i + j)) ∧ OpD X.K E (rI0 fun i j => .int (i + j)) dAdd := ⟨op_add, opd_i0 fun _ _ _ => .int _⟩
theorem o_sub : OpR X (binaryOp .Sub) (rI0 fun i j => .int (i - j)) ∧ OpD X.K E (rI0 fun i j => .int (i - j)) dSub := ⟨op_sub, opd_i0 fun _ _ _ => .int _⟩
theorem o_mul : OpR X (binaryOp .Mult) (rI CMul fun i j => .int (i * j)) ∧ OpD X.K E (rI CMul fun i j => .int (i * j)) dMul := ⟨op_mul, opd_i fun _ _ _ => .int _⟩
theorem o_fdiv : OpR X (binaryOp .FloorDiv) (rI CDiv fun i j => .int (i / j)) ∧ OpD X.K E (rI CDiv fun i j => .int (i / j)) dFdiv := ⟨op_fdiv, opd_i fun _ _ _ => .int _⟩
theorem o_mod : OpR X (binaryOp .Mod) (rI (fun _ j => 0 < j) fun i j => .int (i % j)) ∧ OpD X.K E (rI (fun _ j => 0 < j) fun i j => .int (i % j)) dMod := ⟨op_mod, opd_i fun _ _ _ => .int _⟩
theorem o_lt : OpR X (compareOp .Lt) (rI0 fun i j => .bl (decide (i < j))) ∧ OpD X.K E (rI0 fun i j => .bl (decide (i < j))) dLt := ⟨op_lt, opd_i0 fun _ _ _ => .bl _⟩
theorem o_le : OpR X (compareOp .LtE) (rI0 fun i j => .bl (decide (i ≤ j))) ∧ OpD X.K E (rI0 fun i j => .bl (decide (i ≤ j))) dLe := ⟨op_le, opd_i0 fun _ _ _ => .bl _⟩
theorem o_gt : OpR X (compareOp .Gt) (rI0 fun i j => .bl (decide (j < i))) ∧ OpD X.K E (rI0 fun i j => .bl (decide (j < i))) dGt := ⟨op_gt, opd_i0 fun _ _ _ => .bl _⟩
/-- == of scalars of one kind -/
def dEqS (neg : Bool) : D → D → Rs → Res D := fun x y R => match x, y with
  | .int i, .int j => .ok (.bl (neg ^^ decide (i = j))) R
  | .bl i, .bl j => .ok (.bl (neg ^^ decide (i = j))) R
  | .str i, .str j => .ok (.bl (neg ^^ decide (i = j))) R
  | .non, .non => .ok (.bl (neg ^^ true)) R
  | _, _ => .bad
theorem opd_eqS {K : PySem.W.Frag} : OpD K E rEq (dEqS false) := by
  intro S F H R x y dx dy Q hs c rx ry h
  unfold dEqS at h
  split at h
  · cases rx; cases ry; exact ⟨rfl, by simpa using h.now hs c (.bl _)⟩
  · cases rx; cases ry; exact ⟨rfl, by simpa using h.now hs c (.bl _)⟩
  · cases rx; cases ry; exact ⟨rfl, by simpa using h.now hs c (.bl _)⟩
  · cases rx; cases ry; exact ⟨rfl, by simpa using h.now hs c (.bl _)⟩
  · exact h.elim
theorem opd_neS {K : PySem.W.Frag} : OpD K E rNe (dEqS true) := by
  intro S F H R x y dx dy Q hs c rx ry h
  unfold dEqS at h
  split at h
  · cases rx; cases ry; exact ⟨rfl, by simpa using h.now hs c (.bl _)⟩
  · cases rx; cases ry; exact ⟨rfl, by simpa using h.now hs c (.bl _)⟩
  · cases rx; cases ry; exact ⟨rfl, by simpa using h.now hs c (.bl _)⟩
  · cases rx; cases ry; exact ⟨rfl, by simpa using h.now hs c (.bl _)⟩
  · exact h.elim
theorem o_eqS : OpR X (compareOp .Eq) rEq ∧ OpD X.K E rEq (dEqS false) := ⟨op_eq, opd_eqS⟩
theorem o_neS : OpR X (compareOp .NotEq) rNe ∧ OpD X.K E rNe (dEqS true) := ⟨op_ne, opd_neS⟩
/-! ### one value -/
def UnD (K : PySem.W.Frag) (E : XK) (r : V → Hp → VK → Prop) (f : D → Rs → Res D) : Prop :=
  ∀ (S : List Addr) (F H : Hp) (R : Rs) (x : V) (dx : D) (Q : VK), Same F H → Cells K S F H R → Rep K F x dx → Wp K E (fun _ F v d => Rep K F v d) S F H (f dx R) Q → r x H Q
def gUn (f : D → Rs → Res D) (ga : G) : G := fun ρ R => (ga ρ R).bind f
theorem ev_un {op : UnaryOp} {r : V → Hp → VK → Prop} {f : D → Rs → Res D} (ho : UnR X (unaryOp op) r ∧ UnD X.K E r f) (ha : Ev X E a ga) : Ev X E (.UnaryOp op a pos) (gUn f ga) := pe_imp (pe_un ho.1 ha) fun σ H Q ⟨S, F, ρ, R, v, h⟩ =>
  ⟨S, F, ρ, R, v, Wp.bind h fun x S1 F1 H1 dx R1 e1 c1 rx h1 => ho.2 S1 F1 H1 R1 x dx Q e1.fh c1 rx h1⟩
def dNeg : D → Rs → Res D := fun x R => match x with
  | .int i => .ok (.int (-i)) R
  | _ => .bad
def dNot : D → Rs → Res D := fun x R => match x with
  | .bl b => .ok (.bl (!b)) R
  | _ => .bad
theorem ev_not (ha : Ev X E a ga) : Ev X E (.UnaryOp .Not a pos) (gUn dNot ga) := pe_imp (pe_not ha) fun σ H Q ⟨S, F, ρ, R, v, h⟩ => by
  refine ⟨S, F, ρ, R, v, Wp.bind h fun x S1 F1 H1 dx R1 e1 c1 rx h1 => ?_⟩
  unfold dNot at h1
  split at h1
  · cases rx
    exact ⟨_, rfl, h1.now e1.fh c1 (.bl _)⟩
  · exact h1.elim
def dIsN (neg : Bool) : D → Rs → Res D := fun x R => match x with
  | .non => .ok (.bl (!neg)) R
  | _ => .ok (.bl neg) R
end
end Pv

namespace Pv
open PySem PySem.Spec PyProof.Rows L2 Sr
theorem Res.assoc {α β γ : Type} (r : Res α) (k : α → Rs → Res β) (l : β → Rs → Res γ) : (r.bind k).bind l = r.bind fun a R => (k a R).bind l := by cases r <;> rfl
def bOf : D → Rs → Res Bool := fun d R => match d with
  | .bl b => .ok b R
  | _ => .bad
def gB (ga : G) : GT := fun ρ R => (ga ρ R).bind bOf
def gAnd (t u : GT) : GT := fun ρ R => (t ρ R).bind fun b R => match b with
  | true => u ρ R
  | false => .ok false R
def gOr (t u : GT) : GT := fun ρ R => (t ρ R).bind fun b R => match b with
  | true => .ok true R
  | false => u ρ R
def gNot (t : GT) : GT := fun ρ R => (t ρ R).bind fun b R => .ok (!b) R
def gIf {α : Type} (t : GT) (ga gb : PEnv → Rs → Res α) : PEnv → Rs → Res α := fun ρ R => (t ρ R).bind fun b R => match b with
  | true => ga ρ R
  | false => gb ρ R
def gAndV (ga gb : G) : G := fun ρ R => (ga ρ R).bind fun x R => match x with
  | .bl true => gb ρ R
  | .bl false => .ok (.bl false) R
  | _ => .bad
def gOrV (ga gb : G) : G := fun ρ R => (ga ρ R).bind fun x R => match x with
  | .bl true => .ok (.bl true) R
  | .bl false => gb ρ R
  | _ => .bad
section
variable {X : Cx} {E : XK} {a b c e : Expr} {es rest : List Expr} {ga gb gc g : G} {gs : GA} {t u w : GT} {pos : Pos}
theorem ev_neg (ha : Ev X E a ga) : Ev X E (.UnaryOp .USub a pos) (gUn dNeg ga) := ev_un ⟨un_neg, fun S F H R x dx Q hs c rx h => by
  unfold dNeg at h
  split at h
  · cases rx; exact ⟨_, rfl, h.now hs c (.int _)⟩
  · exact h.elim⟩ ha
theorem tB_of {K : PySem.W.Frag} {σ : L2.St} {H : Hp} {Q : Bool → Hp → Prop} (h : tPT K E (gB ga) σ H Q) : tP K E ga σ H fun x H1 => ∃ c, x = .bl c ∧ Q c H1 := by
  obtain ⟨S, F, ρ, R, v, h⟩ := h
  refine ⟨S, F, ρ, R, v, Wp.bind h fun x S1 F1 H1 dx R1 e1 c1 rx h1 => ?_⟩
  unfold bOf at h1
  split at h1
  · cases rx; exact ⟨_, rfl, h1.now e1.fh c1 rfl⟩
  · exact h1.elim
theorem evt_val (h : Ev X E e g) (he : ∀ whole, isTrue e X.env whole = (do let v ← whole; standAt e.pos; holding [v] (truthy v)) := by intro _; rfl) : EvT X E e (gB g) := pt_imp (pt_val h he) fun _ _ _ => tB_of
theorem evt_cmp {op : CmpOp} {r : R2} {f : D → D → Rs → Res D} (ho : OpR X (compareOp op) r ∧ OpD X.K E r f) (ha : Ev X E a ga) (hb : Ev X E b gb) (hm : behindInMarks op b = false) : EvT X E (.Compare a [op] [b] pos) (gB (gOp f ga gb)) := pt_imp (pt_cmpR ho.1 ha hb hm) fun σ H Q h => by
  obtain ⟨S, F, ρ, R, v, h⟩ := h
  have e0 : gB (gOp f ga gb) ρ R = (ga ρ R).bind fun x R1 => (gb ρ R1).bind fun y R2 => (f x y R2).bind bOf := by
    unfold gB gOp
    rw [Res.assoc]
    congr 1; funext x R1
    rw [Res.assoc]
  rw [e0] at h
  refine ⟨S, F, ρ, R, v, Wp.bind h fun x S1 F1 H1 dx R1 e1 c1 rx h1 => ?_⟩
  refine ⟨S1, F1, ρ, R1, v.ext e1 c1, Wp.bind h1 fun y S2 F2 H2 dy R2 e2 c2 ry h2 => ?_⟩
  refine ho.2 S2 F2 H2 R2 x y dx dy _ e2.fh c2 (e2.rep rx) ry (Wp.bind h2 fun z S3 F3 H3 dz R3 e3 c3 rz h3 => ?_)
  unfold bOf at h3
  split at h3
  · cases rz; exact ⟨_, rfl, h3.now e3.fh c3 rfl⟩
  · exact h3.elim
theorem tOr_of {K : PySem.W.Frag} {σ : L2.St} {H : Hp} {Q : Bool → Hp → Prop} (h : tPT K E (gOr t u) σ H Q) : tOr (tPT K E t) (tPT K E u) σ H Q := by
  obtain ⟨S, F, ρ, R, v, h⟩ := h
  refine ⟨S, F, ρ, R, v, Wp.bind h fun x S1 F1 H1 dx R1 e1 c1 rx h1 => ?_⟩
  subst rx
  cases x with
  | false => exact ⟨S1, F1, ρ, R1, v.ext e1 c1, h1⟩
  | true => exact h1.now e1.fh c1 rfl
theorem evt_not (h : EvT X E e t) : EvT X E (.UnaryOp .Not e pos) (gNot t) := pt_imp (pt_not h) fun σ H Q ⟨S, F, ρ, R, v, h⟩ => by
  refine ⟨S, F, ρ, R, v, Wp.bind h fun x S1 F1 H1 dx R1 e1 c1 rx h1 => ?_⟩
  subst rx
  exact h1.now e1.fh c1 rfl
theorem evw_or1 (h : EvT X E a t) : EvW X E (.BoolOp .Or [a] pos) t := pw_or1 h
theorem evw_or (h : EvT X E a t) (q : EvW X E (.BoolOp .Or (b :: rest) pos) u) : EvW X E (.BoolOp .Or (a :: b :: rest) pos) (gOr t u) := pw_imp (pw_or h q) fun _ _ _ => tOr_of
theorem evt_w (h : EvW X E e t) : EvT X E e t := h.pt
theorem ev_one {op : BoolOp} (h : Ev X E a ga) : Ev X E (.BoolOp op [a] pos) ga := pe_one h
theorem ev_and (h : Ev X E a ga) (q : Ev X E (.BoolOp .And (b :: rest) pos) gb) : Ev X E (.BoolOp .And (a :: b :: rest) pos) (gAndV ga gb) := pe_imp (pe_and h q) fun σ H Q ⟨S, F, ρ, R, v, h⟩ => by
  refine ⟨S, F, ρ, R, v, Wp.bind h fun x S1 F1 H1 dx R1 e1 c1 rx h1 => ?_⟩
  split at h1
  · cases rx; exact ⟨_, rfl, ⟨S1, F1, ρ, R1, v.ext e1 c1, h1⟩⟩
  · cases rx; exact ⟨_, rfl, h1.now e1.fh c1 (.bl _)⟩
  · exact h1.elim
theorem ev_if (hc : EvT X E c t) (h : Ev X E a ga) (q : Ev X E b gb) : Ev X E (.IfExp c a b pos) (gIf t ga gb) := pe_imp (pe_ifExp hc h q) fun σ H Q ⟨S, F, ρ, R, v, h⟩ => by
  refine ⟨S, F, ρ, R, v, Wp.bind h fun x S1 F1 H1 dx R1 e1 c1 rx h1 => ?_⟩
  subst rx
  cases x with
  | true => exact ⟨S1, F1, ρ, R1, v.ext e1 c1, h1⟩
  | false => exact ⟨S1, F1, ρ, R1, v.ext e1 c1, h1⟩
/-- a op b op' c -/
def gCh (f f' : D → D → Rs → Res D) (ga gb gc : G) : G := fun ρ R => (ga ρ R).bind fun x R1 => (gb ρ R1).bind fun y R2 => (f x y R2).bind fun z R3 => match z with
  | .bl true => (gc ρ R3).bind fun w R4 => f' y w R4
  | .bl false => .ok (.bl false) R3
  | _ => .bad
theorem ev_chain {op op' : CmpOp} {r r' : R2} {f f' : D → D → Rs → Res D} (ho : OpR X (compareOp op) r ∧ OpD X.K E r f) (ho' : OpR X (compareOp op') r' ∧ OpD X.K E r' f') (ha : Ev X E a ga) (hb : Ev X E b gb) (hc : Ev X E c gc)
    (hm : lastMarks [op, op'] [b, c] = false := by with_unfolding_all rfl) : Ev X E (.Compare a [op, op'] [b, c] pos) (gCh f f' ga gb gc) := pe_imp (pe_chain ho.1 ho'.1 ha hb hc hm) fun σ H Q ⟨S, F, ρ, R, v, h⟩ => by
  refine ⟨S, F, ρ, R, v, Wp.bind h fun x S1 F1 H1 dx R1 e1 c1 rx h1 => ?_⟩
  refine ⟨S1, F1, ρ, R1, v.ext e1 c1, Wp.bind h1 fun y S2 F2 H2 dy R2 e2 c2 ry h2 => ?_⟩
  refine ho.2 S2 F2 H2 R2 x y dx dy _ e2.fh c2 (e2.rep rx) ry (Wp.bind h2 fun z S3 F3 H3 dz R3 e3 c3 rz h3 => ?_)
  split at h3
  · cases rz
    refine ⟨_, rfl, ⟨S3, F3, ρ, R3, ((v.ext e1 c1).ext e2 c2).ext e3 c3, Wp.bind h3 fun w S4 F4 H4 dw R4 e4 c4 rw h4 => ?_⟩⟩
    exact ho'.2 S4 F4 H4 R4 y w dy dw Q e4.fh c4 (e4.rep (e3.rep ry)) rw h4
  · cases rz; exact ⟨_, rfl, h3.now e3.fh c3 (.bl _)⟩
  · exact h3.elim
theorem evt_chain {op op' : CmpOp} {r r' : R2} {f f' : D → D → Rs → Res D} (ho : OpR X (compareOp op) r ∧ OpD X.K E r f) (ho' : OpR X (compareOp op') r' ∧ OpD X.K E r' f') (ha : Ev X E a ga) (hb : Ev X E b gb) (hc : Ev X E c gc)
    (hm : lastMarks [op, op'] [b, c] = false := by with_unfolding_all rfl) : EvT X E (.Compare a [op, op'] [b, c] pos) (gB (gCh f f' ga gb gc)) := pt_imp (pt_chain ho.1 ho'.1 ha hb hc hm) fun σ H Q ⟨S, F, ρ, R, v, h⟩ => by
  have e0 : gB (gCh f f' ga gb gc) ρ R = (ga ρ R).bind fun x R1 => (gb ρ R1).bind fun y R2 => (f x y R2).bind fun z R3 => match z with
      | .bl true => (gc ρ R3).bind fun w R4 => (f' y w R4).bind bOf
      | .bl false => .ok false R3
      | _ => .bad := by
    unfold gB gCh
    cases ga ρ R with
    | ok x R1 =>
      simp only [Res.bind_ok]
      cases gb ρ R1 with
      | ok y R2 =>
        simp only [Res.bind_ok]
        cases f x y R2 with
        | ok z R3 =>
          simp only [Res.bind_ok]
          split
          · cases gc ρ R3 <;> rfl
          · rfl
          · rfl
        | exc c fs R => rfl
        | bad => rfl
      | exc c fs R => rfl
      | bad => rfl
    | exc c fs R => rfl
    | bad => rfl
  rw [e0] at h
  refine ⟨S, F, ρ, R, v, Wp.bind h fun x S1 F1 H1 dx R1 e1 c1 rx h1 => ?_⟩
  refine ⟨S1, F1, ρ, R1, v.ext e1 c1, Wp.bind h1 fun y S2 F2 H2 dy R2 e2 c2 ry h2 => ?_⟩
  refine ho.2 S2 F2 H2 R2 x y dx dy _ e2.fh c2 (e2.rep rx) ry (Wp.bind h2 fun z S3 F3 H3 dz R3 e3 c3 rz h3 => ?_)
  split at h3
  · cases rz
    refine ⟨_, rfl, ⟨S3, F3, ρ, R3, ((v.ext e1 c1).ext e2 c2).ext e3 c3, Wp.bind h3 fun w S4 F4 H4 dw R4 e4 c4 rw h4 => ?_⟩⟩
    refine ho'.2 S4 F4 H4 R4 y w dy dw _ e4.fh c4 (e4.rep (e3.rep ry)) rw (Wp.bind h4 fun z S5 F5 H5 dz R5 e5 c5 rz h5 => ?_)
    unfold bOf at h5
    split at h5
    · cases rz; exact ⟨_, rfl, h5.now e5.fh c5 rfl⟩
    · exact h5.elim
  · cases rz; exact ⟨_, rfl, _, rfl, h3.now e3.fh c3 rfl⟩
  · exact h3.elim
/-! ### argument lists, displays -/
def gNil : GA := fun _ R => .ok [] R
def gCons (ga : G) (gs : GA) : GA := fun ρ R => (ga ρ R).bind fun x R1 => (gs ρ R1).bind fun xs R2 => .ok (x :: xs) R2
def itemsOf : D → Rs → Res (List D) := fun x R => match x with
  | .tup xs => .ok xs R
  | .lst xs => .ok xs R
  | .arm xs => .ok xs R
  | _ => .bad
def gStar (ga : G) (gs : GA) : GA := fun ρ R => (ga ρ R).bind fun x R1 => (itemsOf x R1).bind fun xs R1 => (gs ρ R1).bind fun ys R2 => .ok (xs ++ ys) R2
theorem eva_nil : EvA X E [] gNil := pa_imp pa_nil fun σ H Q ⟨S, F, ρ, R, v, h⟩ => h.now v.fh v.cells .nil
theorem eva_cons (h : Ev X E e g) (hs : EvA X E es gs) (h0 : starEach (e :: es) X.env = (false, eval e X.env) :: starEach es X.env := by rfl) : EvA X E (e :: es) (gCons g gs) := pa_imp (pa_cons h hs h0) fun σ H Q ⟨S, F, ρ, R, v, h⟩ => by
  refine ⟨S, F, ρ, R, v, Wp.bind h fun x S1 F1 H1 dx R1 e1 c1 rx h1 => ?_⟩
  refine ⟨S1, F1, ρ, R1, v.ext e1 c1, Wp.bind h1 fun y S2 F2 H2 dy R2 e2 c2 ry h2 => ?_⟩
  exact h2.now e2.fh c2 (.cons (e2.rep rx) ry)
/-- a new tuple, a new list -/
def dTup : List D → Rs → Res D := fun xs R => if xs.length ≤ sizeLine then .ok (.tup xs) R else .bad
def dLst : List D → Rs → Res D := fun xs R => if xs.length ≤ sizeLine then .ok (.lst xs) R else .bad
def gTup (gs : GA) : G := fun ρ R => (gs ρ R).bind dTup
def gLst (gs : GA) : G := fun ρ R => (gs ρ R).bind dLst
theorem wp_tup {K : PySem.W.Frag} {S : List Addr} {F H : Hp} {R : Rs} {xs : List D} {vs : List V} {Q : VK} (hs : Same F H) (c : Cells K S F H R) (r : Reps K F vs xs) (h : Wp K E (fun _ F v d => Rep K F v d) S F H (.ok (.tup xs) R) Q) {p : Addr} (hp : H p = none) : Q (.ref p) (upd H p (.tup vs)) :=
  h _ S _ _ (.new hs hp) (c.new hs hp) (.tup upd_same (r.mono (same_upd (hs.free hp))))
theorem wp_lst {K : PySem.W.Frag} {S : List Addr} {F H : Hp} {R : Rs} {xs : List D} {vs : List V} {Q : VK} (hs : Same F H) (c : Cells K S F H R) (r : Reps K F vs xs) (h : Wp K E (fun _ F v d => Rep K F v d) S F H (.ok (.lst xs) R) Q) {p : Addr} (hp : H p = none) : Q (.ref p) (upd H p (.lst vs)) :=
  h _ S _ _ (.new hs hp) (c.new hs hp) (.lst upd_same (r.mono (same_upd (hs.free hp))))
theorem ev_tup {x1} (hs : EvA X E es gs) : Ev X E (.Tuple es x1 pos) (gTup gs) := pe_imp (pe_tup hs) fun σ H Q ⟨S, F, ρ, R, v, h⟩ => by
  refine ⟨S, F, ρ, R, v, Wp.bind h fun x S1 F1 H1 dx R1 e1 c1 rx h1 => ?_⟩
  unfold dTup at h1
  split at h1
  · rename_i hl
    exact ⟨by rw [rx.length]; exact hl, fun p hp => wp_tup e1.fh c1 rx h1 hp⟩
  · exact h1.elim
end
end Pv

namespace Pv
open PySem PySem.Spec PyProof.Rows L2 Sr
def intsOf : List D → Option (List Int)
  | [] => some []
  | .int i :: r => (intsOf r).map (i :: ·)
  | _ :: _ => none
def blsOf : List D → Option (List Bool)
  | [] => some []
  | .bl i :: r => (blsOf r).map (i :: ·)
  | _ :: _ => none
@[simp] theorem intsOf_map : ∀ ns : List Int, intsOf (ns.map D.int) = some ns
  | [] => rfl
  | n :: r => by simp [intsOf, intsOf_map r]
theorem intsOf_eq : ∀ {ds : List D} {ns : List Int}, intsOf ds = some ns → ds = ns.map D.int
  | [], ns, h => by cases h; rfl
  | d :: r, ns, h => by
    cases d with
    | int i =>
      simp only [intsOf] at h
      cases q : intsOf r with
      | none => rw [q] at h; cases h
      | some ms =>
        rw [q] at h
        cases h
        rw [intsOf_eq q]; rfl
    | _ => cases h
/-! ### indexing, slices -/
theorem atI_rep {K : PySem.W.Frag} {F : Hp} {vs : List V} {ds : List D} {i : Int} {d : D} (r : Reps K F vs ds) (h : atI ds i = some d) : ∃ v, atI vs i = some v ∧ Rep K F v d := by
  unfold atI at h ⊢
  rw [r.length]
  cases q : ixN ds.length i with
  | none => rw [q] at h; cases h
  | some j =>
    rw [q] at h
    exact r.get h
def dIx : D → D → Rs → Res D := fun x y R => match x, y with
  | .lst ds, .int i => match atI ds i with
    | some d => .ok d R
    | none => .bad
  | .tup ds, .int i => match atI ds i with
    | some d => .ok d R
    | none => .bad
  | .arm ds, .int i => match atI ds i with
    | some d => .ok d R
    | none => .bad
  | _, _ => .bad
/-- x[i], x a list or a tuple -/
def rIxV (K : PySem.W.Frag) : R2 := fun x y H Q => ∃ p xs i v, x = .ref p ∧ y = .int i ∧ (SqL K H p xs ∨ SqT K H p xs) ∧ atI xs i = some v ∧ Q v H
theorem ix_v {X : Cx} : IxR X (rIxV X.K) := by
  intro value slice pins s σ H x y v u Q I rx ry h hs
  obtain ⟨p, xs, i, z, rfl, rfl, hq | hq, he, q⟩ := h
  · exact ix_list value slice pins s σ H _ _ v u Q I rx ry ⟨p, xs, i, z, rfl, rfl, hq, he, q⟩ hs
  · exact ix_tup value slice pins s σ H _ _ v u Q I rx ry ⟨p, xs, i, z, rfl, rfl, hq, he, q⟩ hs
def rLenV (K : PySem.W.Frag) : List V → Hp → VK → Prop := fun vs H Q => ∃ p ys, vs = [.ref p] ∧ (SqL K H p ys ∨ SqT K H p ys) ∧ Q (.int ys.length) H
theorem call_len_v {X : Cx} : CallR X (.builtin "len") (rLenV X.K) := by
  intro pins s σ H xs us Q I r h
  obtain ⟨p, ys, rfl, hq, q⟩ := h
  exact call_len_seq pins s σ H _ us Q I r ⟨p, ys, rfl, hq, q⟩
def cutD {α : Type} (xs : List α) (lo hi : Option Int) : List α := (xs.drop (HT.sIx xs.length 0 lo)).take (HT.sIx xs.length xs.length hi - HT.sIx xs.length 0 lo)
theorem cut_rep {K : PySem.W.Frag} {F : Hp} {vs : List V} {ds : List D} {lo hi : Option Int} (r : Reps K F vs ds) : Reps K F (cutV vs lo hi) (cutD ds lo hi) := by
  unfold cutV cutD
  rw [r.length]
  exact (r.drop _).take _
abbrev GO := PEnv → Rs → Res (Option Int)
def gNoPart : GO := fun _ R => .ok none R
def gPart (g : G) : GO := fun ρ R => (g ρ R).bind fun d R => match d with
  | .int i => .ok (some i) R
  | _ => .bad
def dSl : D → Option Int → Option Int → Rs → Res D := fun x lo hi R => match x with
  | .lst ds => .ok (.lst (cutD ds lo hi)) R
  | .tup ds => .ok (.tup (cutD ds lo hi)) R
  | _ => .bad
def gSl (g : G) (l h : GO) : G := fun ρ R => (g ρ R).bind fun x R1 => (l ρ R1).bind fun a R2 => (h ρ R2).bind fun b R3 => dSl x a b R3
section
variable {X : Cx} {E : XK} {a b c e : Expr} {es rest : List Expr} {ga gb gc g : G} {gs : GA} {pos : Pos}
theorem o_ix : IxR X (rIxV X.K) ∧ OpD X.K E (rIxV X.K) dIx := ⟨ix_v, fun S F H R x y dx dy Q hs c rx ry h => by
  unfold dIx at h
  split at h
  · cases rx with
    | lst hf rs =>
    cases ry
    split at h
    · rename_i d hd
      obtain ⟨v, h1, h2⟩ := atI_rep rs hd
      exact ⟨_, _, _, v, rfl, rfl, .inl (.of (hs _ _ hf)), h1, h.now hs c h2⟩
    · exact h.elim
  · cases rx with
    | tup hf rs =>
    cases ry
    split at h
    · rename_i d hd
      obtain ⟨v, h1, h2⟩ := atI_rep rs hd
      exact ⟨_, _, _, v, rfl, rfl, .inr (.of (hs _ _ hf)), h1, h.now hs c h2⟩
    · exact h.elim
  · cases rx with
    | arm hf _ rs =>
    cases ry
    split at h
    · rename_i d hd
      obtain ⟨v, h1, h2⟩ := atI_rep rs hd
      exact ⟨_, _, _, v, rfl, rfl, .inr (.inl (.inr ⟨_, hs _ _ hf⟩)), h1, h.now hs c h2⟩
    · exact h.elim
  · exact h.elim⟩
abbrev EvO (X : Cx) (E : XK) (e : Option Expr) (g : GO) : Prop := PO X e (tG X.K E (fun _ _ (v : Option Int) d => v = d) g)
theorem po_imp {e : Option Expr} {t t' : TO} (h : PO X e t) (k : ∀ σ H Q, t' σ H Q → t σ H Q) : PO X e t' := ⟨fun pins s σ H Q I q => h.run pins s σ H Q I (k σ H Q q)⟩
theorem evo_none : EvO X E none gNoPart := po_imp po_none fun σ H Q ⟨S, F, ρ, R, v, h⟩ => h.now v.fh v.cells rfl
theorem evo_some (h : Ev X E e g) : EvO X E (some e) (gPart g) := po_imp (po_some h) fun σ H Q ⟨S, F, ρ, R, v, h⟩ => by
  refine ⟨S, F, ρ, R, v, Wp.bind h fun x S1 F1 H1 dx R1 e1 c1 rx h1 => ?_⟩
  split at h1
  · cases rx; exact ⟨_, rfl, h1.now e1.fh c1 rfl⟩
  · exact h1.elim
/-- a slice of a list or a tuple -/
def rSlU (K : PySem.W.Frag) : V → Option Int → Option Int → Hp → VK → Prop := fun x lo hi H Q => rSlLU x lo hi H Q ∨ rSlA K x lo hi H Q
theorem sl_u : SlR X (rSlU X.K) := by
  intro pins s σ H x v vl vu lo hi sl Q I rx hs pl pu h
  rcases h with h | h
  · exact sl_lu pins s σ H x v vl vu lo hi sl Q I rx hs pl pu h
  · exact sl_tupA pins s σ H x v vl vu lo hi sl Q I rx hs pl pu h
theorem ev_sl {lo hi : Option Expr} {l u : GO} {p2 : Pos} (h : Ev X E e g) (hl : EvO X E lo l) (hu : EvO X E hi u) : Ev X E (.Subscript e (.Slice lo hi none p2) pos) (gSl g l u) := pe_imp (pe_slice sl_u h hl hu) fun σ H Q ⟨S, F, ρ, R, v, h⟩ => by
  refine ⟨S, F, ρ, R, v, Wp.bind h fun x S1 F1 H1 dx R1 e1 c1 rx h1 => ?_⟩
  refine ⟨S1, F1, ρ, R1, v.ext e1 c1, Wp.bind h1 fun y S2 F2 H2 dy R2 e2 c2 ry h2 => ?_⟩
  refine ⟨S2, F2, ρ, R2, (v.ext e1 c1).ext e2 c2, Wp.bind h2 fun z S3 F3 H3 dz R3 e3 c3 rz h3 => ?_⟩
  subst ry rz
  replace rx := e3.rep (e2.rep rx)
  unfold dSl at h3
  split at h3
  · cases rx with
    | lst hf rs => exact .inl ⟨_, _, rfl, e3.fh _ _ hf, fun p hp => wp_lst e3.fh c3 (cut_rep rs) h3 hp⟩
  · cases rx with
    | tup hf rs =>
      refine .inr ⟨_, _, rfl, SqT.of (e3.fh _ _ hf), fun hw => ?_, fun _ p hp => wp_tup e3.fh c3 (cut_rep rs) h3 hp⟩
      refine h3.now e3.fh c3 (.tup hf ?_)
      have := cut_rep (lo := y) (hi := z) rs
      rw [cutV_whole hw.1 hw.2] at this
      exact this
  · exact h3.elim
/-! ### + of lists, of tuples -/
def dCatL : D → D → Rs → Res D := fun x y R => match x, y with
  | .lst a, .lst b => if a.length + b.length ≤ sizeLine then .ok (.lst (a ++ b)) R else .bad
  | _, _ => .bad
theorem o_cat : OpR X (binaryOp .Add) rCat ∧ OpD X.K E rCat dCatL := ⟨op_cat, fun S F H R x y dx dy Q hs c rx ry h => by
  unfold dCatL at h
  split at h
  · cases rx with
    | lst hf rs =>
    cases ry with
    | lst hg rt =>
    split at h
    · rename_i hl
      exact ⟨_, _, _, _, rfl, rfl, hs _ _ hf, hs _ _ hg, by rw [rs.length, rt.length]; exact hl, fun p hp => wp_lst hs c (rs.append rt) h hp⟩
    · exact h.elim
  · exact h.elim⟩
/-! ### builtins -/
def CallD (K : PySem.W.Frag) (E : XK) (r : List V → Hp → VK → Prop) (f : List D → Rs → Res D) : Prop :=
  ∀ (S : List Addr) (F H : Hp) (R : Rs) (vs : List V) (ds : List D) (Q : VK), Same F H → Cells K S F H R → Reps K F vs ds → Wp K E (fun _ F v d => Rep K F v d) S F H (f ds R) Q → r vs H Q
def gCB (f : List D → Rs → Res D) (gs : GA) : G := fun ρ R => (gs ρ R).bind f
theorem tCB_of {K : PySem.W.Frag} {r : List V → Hp → VK → Prop} {f : List D → Rs → Res D} (hd : CallD K E r f) {σ : L2.St} {H : Hp} {Q : VK} (h : tP K E (gCB f gs) σ H Q) : tCB r (tPA K E gs) σ H Q := by
  obtain ⟨S, F, ρ, R, v, h⟩ := h
  exact ⟨S, F, ρ, R, v, Wp.bind h fun x S1 F1 H1 dx R1 e1 c1 rx h1 => hd S1 F1 H1 R1 x dx Q e1.fh c1 rx h1⟩
theorem ev_b {id : String} {x : Str} {p : Pos} {r : List V → Hp → VK → Prop} {f : List D → Rs → Res D} (hc : CallR X (.builtin id) r ∧ CallD X.K E r f) (hg : Gl X x) (hm : X.mg x = none) (hv : bootBuiltins x = some (.builtin id)) (ha : EvA X E (e :: es) gs) (hn : x ≠ "__name__" := by decide) (hdb : (x == ("__debug__" : Str)) = false := by decide)
    (he : starEach (e :: es) X.env = (false, eval e X.env) :: starEach es X.env := by rfl) (hpl : (backTo pos (starEach es X.env)).any (·.1) = false := by rfl) :
    Ev X E (.Call (.Name x p) (e :: es) [] pos) (gCB f gs) := pe_imp (pe_callB hc.1 hg hm hv ha hn hdb he hpl) fun _ _ _ => tCB_of hc.2
theorem ev_ty {id : String} {x : Str} {p : Pos} {r : List V → Hp → VK → Prop} {f : List D → Rs → Res D} (hc : CallR X (.type id) r ∧ CallD X.K E r f) (hg : Gl X x) (hm : X.mg x = none) (hv : bootBuiltins x = some (.type id)) (ha : EvA X E (e :: es) gs) (hn : x ≠ "__name__" := by decide) (hdb : (x == ("__debug__" : Str)) = false := by decide)
    (he : starEach (e :: es) X.env = (false, eval e X.env) :: starEach es X.env := by rfl) (hpl : (backTo pos (starEach es X.env)).any (·.1) = false := by rfl) :
    Ev X E (.Call (.Name x p) (e :: es) [] pos) (gCB f gs) := pe_imp (pe_callTy hc.1 hg hm hv ha hn hdb he hpl) fun _ _ _ => tCB_of hc.2
def dLen : List D → Rs → Res D := fun ds R => match ds with
  | [.lst xs] => .ok (.int xs.length) R
  | [.tup xs] => .ok (.int xs.length) R
  | [.arm xs] => .ok (.int xs.length) R
  | _ => .bad
theorem c_len : CallR X (.builtin "len") (rLenV X.K) ∧ CallD X.K E (rLenV X.K) dLen := ⟨call_len_v, fun S F H R vs ds Q hs c r h => by
  unfold dLen at h
  split at h
  · cases r with
    | cons r rn =>
    cases rn
    cases r with
    | lst hf rs =>
    refine ⟨_, _, rfl, .inl (.of (hs _ _ hf)), ?_⟩
    rw [rs.length]
    exact h.now hs c (.int _)
  · cases r with
    | cons r rn =>
    cases rn
    cases r with
    | tup hf rs =>
    refine ⟨_, _, rfl, .inr (.of (hs _ _ hf)), ?_⟩
    rw [rs.length]
    exact h.now hs c (.int _)
  · cases r with
    | cons r rn =>
    cases rn
    cases r with
    | arm hf _ rs =>
    refine ⟨_, _, rfl, .inr (.inl (.inr ⟨_, hs _ _ hf⟩)), ?_⟩
    rw [rs.length]
    exact h.now hs c (.int _)
  · exact h.elim⟩
def dAbs : List D → Rs → Res D := fun ds R => match ds with
  | [.int i] => .ok (.int (if i < 0 then -i else i)) R
  | _ => .bad
theorem c_abs : CallR X (.builtin "abs") (fun xs H Q => ∃ i, xs = [.int i] ∧ Q (.int (if i < 0 then -i else i)) H) ∧ CallD X.K E (fun xs H Q => ∃ i, xs = [.int i] ∧ Q (.int (if i < 0 then -i else i)) H) dAbs := ⟨call_abs, fun S F H R vs ds Q hs c r h => by
  unfold dAbs at h
  split at h
  · cases r with
    | cons r rn => cases rn; cases r; exact ⟨_, rfl, h.now hs c (.int _)⟩
  · exact h.elim⟩
def dMax2 : List D → Rs → Res D := fun ds R => match ds with
  | [.int i, .int j] => .ok (.int (if j > i then j else i)) R
  | _ => .bad
def dMin2 : List D → Rs → Res D := fun ds R => match ds with
  | [.int i, .int j] => .ok (.int (if j < i then j else i)) R
  | _ => .bad
theorem c_max2 (hc : X.calm = true) : CallR X (.builtin "max") (fun xs H Q => ∃ i j, xs = [.int i, .int j] ∧ Q (.int (if j > i then j else i)) H) ∧ CallD X.K E (fun xs H Q => ∃ i j, xs = [.int i, .int j] ∧ Q (.int (if j > i then j else i)) H) dMax2 := ⟨call_max2 hc, fun S F H R vs ds Q hs c r h => by
  unfold dMax2 at h
  split at h
  · cases r with
    | cons r rn =>
    cases rn with
    | cons r2 rn => cases rn; cases r; cases r2; exact ⟨_, _, rfl, h.now hs c (.int _)⟩
  · exact h.elim⟩
theorem c_min2 (hc : X.calm = true) : CallR X (.builtin "min") (fun xs H Q => ∃ i j, xs = [.int i, .int j] ∧ Q (.int (if j < i then j else i)) H) ∧ CallD X.K E (fun xs H Q => ∃ i j, xs = [.int i, .int j] ∧ Q (.int (if j < i then j else i)) H) dMin2 := ⟨call_min2 hc, fun S F H R vs ds Q hs c r h => by
  unfold dMin2 at h
  split at h
  · cases r with
    | cons r rn =>
    cases rn with
    | cons r2 rn => cases rn; cases r; cases r2; exact ⟨_, _, rfl, h.now hs c (.int _)⟩
  · exact h.elim⟩
def dInt1 : List D → Rs → Res D := fun ds R => match ds with
  | [.int i] => .ok (.int i) R
  | [.bl k] => .ok (.int (if k then 1 else 0)) R
  | _ => .bad
theorem c_int1 : CallR X (.type "int") (fun xs H Q => (∃ i, xs = [.int i] ∧ Q (.int i) H) ∨ ∃ k, xs = [.bl k] ∧ Q (.int (if k then 1 else 0)) H) ∧ CallD X.K E (fun xs H Q => (∃ i, xs = [.int i] ∧ Q (.int i) H) ∨ ∃ k, xs = [.bl k] ∧ Q (.int (if k then 1 else 0)) H) dInt1 := ⟨call_int1, fun S F H R vs ds Q hs c r h => by
  unfold dInt1 at h
  split at h
  · cases r with
    | cons r rn => cases rn; cases r; exact .inl ⟨_, rfl, h.now hs c (.int _)⟩
  · cases r with
    | cons r rn => cases rn; cases r; exact .inr ⟨_, rfl, h.now hs c (.int _)⟩
  · exact h.elim⟩
def dSum : List D → Rs → Res D := fun ds R => match ds with
  | [.lst xs] => match intsOf xs with
    | some ns => .ok (.int ns.sum) R
    | none => .bad
  | _ => .bad
def dAny : List D → Rs → Res D := fun ds R => match ds with
  | [.lst xs] => match blsOf xs with
    | some ns => .ok (.bl (ns.any id)) R
    | none => .bad
  | _ => .bad
def dAll : List D → Rs → Res D := fun ds R => match ds with
  | [.lst xs] => match blsOf xs with
    | some ns => .ok (.bl (ns.all id)) R
    | none => .bad
  | _ => .bad
def dList : List D → Rs → Res D := fun ds R => match ds with
  | [.lst xs] => .ok (.lst xs) R
  | [.tup xs] => .ok (.lst xs) R
  | _ => .bad
def dTupl : List D → Rs → Res D := fun ds R => match ds with
  | [.lst xs] => .ok (.tup xs) R
  | _ => .bad
theorem c_tup : CallR X (.type "tuple") rTupU ∧ CallD X.K E rTupU dTupl := ⟨call_tup_u, fun S F H R vs ds Q hs c r h => by
  unfold dTupl at h
  split at h
  · cases r with
    | cons r rn =>
    cases rn
    cases r with
    | lst hf rs => exact ⟨_, _, rfl, hs _ _ hf, fun p hp => wp_tup hs c rs h hp⟩
  · exact h.elim⟩
/-- isinstance(x, T), T a built-in kind -/
def kOf : D → Option Kd
  | .int _ => some .int
  | .bl _ => some .bl
  | .str _ => some .str
  | .non => some .non
  | .lst _ => some .lst
  | .tup _ => some .tup
  | .arm _ => some .tup
  | .dic _ => some .dct
  | _ => none
theorem kOf_rep {K : PySem.W.Frag} {F H : Hp} {v : V} {d : D} {k : Kd} (hs : Same F H) (r : Rep K F v d) (h : kOf d = some k) : TyX K H v (.type k.name) := by
  have key : kdOf v H = some k ∨ TyX K H v (.type k.name) := by
    cases r with
    | arm hf _ rs => cases h; exact .inr (.fTuple (hs _ _ hf))
    | tup hf rs => cases h; unfold kdOf; simp only [hs _ _ hf]; exact .inl trivial
    | lst hf rs => cases h; unfold kdOf; simp only [hs _ _ hf]; exact .inl trivial
    | dic hf e rs =>
      cases h
      rcases hf with hf | ⟨o, hf⟩
      · unfold kdOf; simp only [hs _ _ hf]; exact .inl trivial
      · exact .inr (.fDict (hs _ _ hf))
    | non => exact .inl h
    | bl b => exact .inl h
    | int i => exact .inl h
    | str x => exact .inl h
    | _ => cases h
  rcases key with h | h
  · exact kdOf_ok h
  · exact h
def dIsK (T : Kd) : List D → Rs → Res D := fun ds R => match ds with
  | [x, .ty n] => if n = T.name then match kOf x with
    | some k => .ok (.bl (isK k T)) R
    | none => .bad
    else .bad
  | _ => .bad
def rIsV (K : PySem.W.Frag) (T : Kd) : List V → Hp → VK → Prop := fun xs H Q => ∃ (x : V) (k : Kd), xs = [x, .ty T.name] ∧ TyX K H x (.type k.name) ∧ Q (.bl (isK k T)) H
theorem call_isV (T : Kd) (hT : T ≠ .non) : CallR X (.builtin "isinstance") (rIsV X.K T) := by
  intro pins s σ H xs us Q I r h
  obtain ⟨x, k, rfl, hk, q⟩ := h
  exact call_isi pins s σ H _ us Q I r ⟨x, _, _, _, _, rfl, .ty _, hk, kit_ty (kitB_isK k T hT), q⟩
theorem c_isK (T : Kd) (hT : T ≠ .non) : CallR X (.builtin "isinstance") (rIsV X.K T) ∧ CallD X.K E (rIsV X.K T) (dIsK T) := ⟨call_isV T hT, fun S F H R vs ds Q hs c r h => by
  unfold dIsK at h
  split at h
  · split at h
    · rename_i hn
      split at h
      · rename_i k hk
        cases r with
        | cons r rn =>
        cases rn with
        | cons r2 rn =>
        cases rn
        cases r2
        subst hn
        exact ⟨_, k, rfl, kOf_rep hs r hk, h.now hs c (.bl _)⟩
      · exact h.elim
    · exact h.elim
  · exact h.elim⟩
/-- isinstance(x, C), C an own class -/
def dIsC (C : Str) : List D → Rs → Res D := fun ds R => match ds with
  | [.ins c _, .cls C'] => if c = C ∧ C' = C then .ok (.bl true) R else .bad
  | [x, .cls C'] => if C' = C then match kOf x with
    | some k => if k = .dct then .bad else .ok (.bl false) R
    | none => .bad
    else .bad
  | _ => .bad
end
end Pv

namespace Pv
open PySem PySem.Spec PyProof.Rows L2 Sr
/-! ### a def's promise -/
def spP (K : PySem.W.Frag) (n : Nat) (f : List D → Rs → Res D) : Sp := fun vs H Q E => ∃ S F R ds, Same F H ∧ Cells K S F H R ∧ Reps K F vs ds ∧ ds.length = n ∧ Wp K E (fun _ F v d => Rep K F v d) S F H (f ds R) Q
theorem spP_len {K : PySem.W.Frag} {n : Nat} {f : List D → Rs → Res D} (vs : List V) (H : Hp) (Q : VK) (E : XK) (h : spP K n f vs H Q E) : vs.length = n := by
  obtain ⟨S, F, R, ds, _, _, r, hl, _⟩ := h
  rw [r.length]; exact hl
def gCall (n : Nat) (f : List D → Rs → Res D) (gs : GA) : G := fun ρ R => (gs ρ R).bind fun ds R => if ds.length = n then f ds R else .bad
abbrev XF : XK := fun _ _ _ => False
theorem pass_no {X : Cx} : Passes (L2.CX X.prog X.w) X XF := fun _ _ _ _ _ _ _ h => by
  obtain ⟨_, _, _, _, _, _, _, _, _, _, _, _, h⟩ := h
  exact h.elim
section
variable {X : Cx} {E : XK} {a b c e : Expr} {es rest : List Expr} {ga gb gc g : G} {gs : GA} {pos p : Pos} {n k : Nat} {f : List D → Rs → Res D} {x : Str} {ps : List Str} {CX : CXT}
theorem tCall_of {K : PySem.W.Frag} {σ : L2.St} {H : Hp} {Q : VK} (h : tP K E (gCall n f gs) σ H Q) : tCall (spP K n f) [] E (tPA K E gs) σ H Q := by
  obtain ⟨S, F, ρ, R, v, h⟩ := h
  refine ⟨S, F, ρ, R, v, Wp.bind h fun xs S1 F1 H1 ds R1 e1 c1 rx h1 => ?_⟩
  rw [List.append_nil]
  split at h1
  · rename_i hl
    exact ⟨S1, F1, R1, ds, e1.fh, c1, rx, hl, h1⟩
  · exact h1.elim
theorem ev_fn (F : Fn X.prog X.w X.K X.mg X.base CX k x ps (spP X.K n f)) (hr : Room k X.A) (hx : Passes CX X E) (ha : EvA X E (e :: es) gs) (hg : Gl X x := by rfl) (hdb : (x == ("__debug__" : Str)) = false := by decide)
    (he : starEach (e :: es) X.env = (false, eval e X.env) :: starEach es X.env := by rfl) (hpl : (backTo pos (starEach es X.env)).any (·.1) = false := by rfl) :
    Ev X E (.Call (.Name x p) (e :: es) [] pos) (gCall n f gs) := pe_imp (pe_fn F hr hx ha hg hdb he hpl) fun _ _ _ => tCall_of
end
/-! ### states -/
def hide (own : List Nat) (ρ : PEnv) : PEnv := own.foldl (fun ρ i => ρ.set i none) ρ
theorem hide_get : ∀ (own : List Nat) (ρ : PEnv) (i : Nat) (d : D), (hide own ρ)[i]? = some (some d) → ρ[i]? = some (some d) ∧ i ∉ own
  | [], ρ, i, d, h => ⟨h, by simp⟩
  | j :: r, ρ, i, d, h => by
    obtain ⟨h1, h2⟩ := hide_get r (ρ.set j none) i d h
    by_cases e : i = j
    · subst e
      rw [List.getElem?_set] at h1
      simp at h1
    · rw [List.getElem?_set_ne (Ne.symm e)] at h1
      exact ⟨h1, by simp [e, h2]⟩
theorem hide_len : ∀ (own : List Nat) (ρ : PEnv), (hide own ρ).length = ρ.length
  | [], ρ => rfl
  | j :: r, ρ => by
    show (hide r (ρ.set j none)).length = _
    rw [hide_len r]; simp
/-- an owned slot's cell -/
def OwnAt (K : PySem.W.Frag) (S : List Addr) (F H0 H : Hp) (d : D) (v : V) : Prop := ∃ a o, v = .ref a ∧ H a = some o ∧ RepO K F o d ∧ F a = none ∧ a ∉ S ∧ H0 a = none
structure SIn (K : PySem.W.Frag) (S0 : List Addr) (F0 H0 : Hp) (own : List Nat) (ρ : PEnv) (R : Rs) (σ : L2.St) (S : List Addr) (F H : Hp) : Prop where
  ext : Ext S0 F0 H0 S F H
  cells : Cells K S F H R
  sh : ∀ (i : Nat) (d : D), ρ[i]? = some (some d) → i ∉ own → ∃ v, σ[i]? = some (some v) ∧ RepV K S F v d
  ow : ∀ i ∈ own, ∀ d, ρ[i]? = some (some d) → ∃ v, σ[i]? = some (some v) ∧ OwnAt K S F H0 H d v
  ap : ∀ i ∈ own, ∀ j ∈ own, ∀ d d' v, ρ[i]? = some (some d) → ρ[j]? = some (some d') → σ[i]? = some (some v) → σ[j]? = some (some v) → i = j
  len : ρ.length = σ.length
def SRel (K : PySem.W.Frag) (S0 : List Addr) (F0 H0 : Hp) (own : List Nat) (ρ : PEnv) (R : Rs) (σ : L2.St) (H : Hp) : Prop := ∃ S F, SIn K S0 F0 H0 own ρ R σ S F H
inductive Out where
  | nx (ρ : PEnv) (R : Rs) | rt (d : D) (R : Rs) | bk (ρ : PEnv) (R : Rs) | ct (ρ : PEnv) (R : Rs) | exc (c : Str) (fs : List (Str × D)) (R : Rs) | bad
  /-- a new cell is returned -/
  | rf (d : D) (R : Rs)
abbrev GS := PEnv → Rs → Out
def WpS (K : PySem.W.Frag) (E : XK) (S0 : List Addr) (F0 H0 : Hp) (own ol : List Nat) (out : Out) (Dn : Ends) : Prop := match out with
  | .nx ρ R => ∀ σ H, SRel K S0 F0 H0 own ρ R σ H → Dn.nx σ H
  | .bk ρ R => ∀ σ H, SRel K S0 F0 H0 ol ρ R σ H → Dn.bk σ H
  | .ct ρ R => ∀ σ H, SRel K S0 F0 H0 ol ρ R σ H → Dn.ct σ H
  | .rt d R => ∀ v S F H, Ext S0 F0 H0 S F H → Cells K S F H R → Rep K F v d → Dn.rt v H
  | .exc c fs R => ∀ d S F H, Ext S0 F0 H0 S F H → Cells K S F H R → ExcAt K S F H fs d → E (.ref (He.ga K c)) d H
  | .bad => False
  | .rf d R => ∀ a o S F H, Ext S0 F0 H0 S F H → Cells K S F H R → H a = some o → RepO K F o d → F a = none → a ∉ S → H0 a = none → Dn.rt (.ref a) H
def tS (K : PySem.W.Frag) (E : XK) (own own' ol : List Nat) (g : GS) : TS := fun Dn σ H => ∃ S0 F0 H0 ρ R, SRel K S0 F0 H0 own ρ R σ H ∧ WpS K E S0 F0 H0 own' ol (g ρ R) Dn
abbrev Sts (X : Cx) (E : XK) (own own' ol : List Nat) (sts : List Stmt) (g : GS) : Prop := PSs X sts (tS X.K E own own' ol g)
abbrev Stm (X : Cx) (E : XK) (own own' ol : List Nat) (st : Stmt) (g : GS) : Prop := PS X st (tS X.K E own own' ol g)
section
variable {K : PySem.W.Frag} {S0 S S' : List Addr} {F0 H0 F H F' H' : Hp} {own : List Nat} {ρ : PEnv} {R R' : Rs} {σ : L2.St} {E : XK}
theorem SIn.same (s : SIn K S0 F0 H0 own ρ R σ S F H) : Same F H := s.ext.fh
/-- the view without the owned slots -/
theorem SIn.view (s : SIn K S0 F0 H0 own ρ R σ S F H) : View K S F H (hide own ρ) R σ := ⟨s.same, fun i d h => by
  obtain ⟨h1, h2⟩ := hide_get own ρ i d h
  exact s.sh i d h1 h2, s.cells, by rw [hide_len]; exact s.len⟩
/-- the state goes on in an expression -/
theorem SIn.on (s : SIn K S0 F0 H0 own ρ R σ S F H) (e : Ext S F H S' F' H') (c : Cells K S' F' H' R') : SIn K S0 F0 H0 own ρ R' σ S' F' H' where
  ext := s.ext.trans e
  cells := c
  sh := fun i d h1 h2 => by
    obtain ⟨v, h3, h4⟩ := s.sh i d h1 h2
    exact ⟨v, h3, h4.mono e.s e.f⟩
  ow := fun i hi d h => by
    obtain ⟨v, h1, a, o, h2, h3, h4, h5, h6, h7⟩ := s.ow i hi d h
    refine ⟨v, h1, a, o, h2, e.fr a o h3 h6, h4.mono e.f, e.nw a o h3 (.inr h4.nt) h5, fun z => ?_, h7⟩
    have := e.sn a z h6
    rw [h3] at this; cases this
  ap := s.ap
  len := s.len
/-- a shared slot is set -/
theorem SIn.set (s : SIn K S0 F0 H0 own ρ R σ S F H) {i : Nat} {v : V} {d : D} (hi : i ∉ own) (r : RepV K S F v d) : SIn K S0 F0 H0 own (ρ.set i (some d)) R (σ.set i (some v)) S F H where
  ext := s.ext
  cells := s.cells
  sh := fun j d' h1 h2 => by
    by_cases e : i = j
    · subst e
      rw [List.getElem?_set] at h1 ⊢
      rw [s.len] at h1
      split at h1
      · split at h1
        · rename_i h3
          rw [if_pos h3]
          cases h1
          exact ⟨v, by simp, r⟩
        · cases h1
      · rename_i z; exact absurd rfl z
    · rw [List.getElem?_set_ne e] at h1 ⊢
      exact s.sh j d' h1 h2
  ow := fun j hj d' h => by
    have e : i ≠ j := fun z => hi (z ▸ hj)
    rw [List.getElem?_set_ne e] at h ⊢
    exact s.ow j hj d' h
  ap := fun j hj l hl d1 d2 u h1 h2 h3 h4 => by
    have e : i ≠ j := fun z => hi (z ▸ hj)
    have e' : i ≠ l := fun z => hi (z ▸ hl)
    rw [List.getElem?_set_ne e] at h1 h3
    rw [List.getElem?_set_ne e'] at h2 h4
    exact s.ap j hj l hl d1 d2 u h1 h2 h3 h4
  len := by simpa using s.len
/-- an owned slot gets a new cell -/
theorem SIn.setO (s : SIn K S0 F0 H0 own ρ R σ S F H) {i : Nat} {a : Addr} {o : HO} {d : D} (hi : i ∈ own) (ha : H a = some o) (r : RepO K F o d) (hF : F a = none) (hS : a ∉ S) (h0 : H0 a = none)
    (hn : ∀ j ∈ own, ∀ d, ρ[j]? = some (some d) → j ≠ i → σ[j]? ≠ some (some (.ref a))) : SIn K S0 F0 H0 own (ρ.set i (some d)) R (σ.set i (some (.ref a))) S F H where
  ext := s.ext
  cells := s.cells
  sh := fun j d' h1 h2 => by
    have e : i ≠ j := fun z => h2 (z ▸ hi)
    rw [List.getElem?_set_ne e] at h1 ⊢
    exact s.sh j d' h1 h2
  ow := fun j hj d' h => by
    by_cases e : i = j
    · subst e
      rw [List.getElem?_set] at h ⊢
      rw [s.len] at h
      split at h
      · split at h
        · rename_i h3
          rw [if_pos h3]
          cases h
          exact ⟨_, by simp, a, o, rfl, ha, r, hF, hS, h0⟩
        · cases h
      · rename_i z; exact absurd rfl z
    · rw [List.getElem?_set_ne e] at h ⊢
      exact s.ow j hj d' h
  ap := fun j hj l hl d1 d2 u h1 h2 h3 h4 => by
    have key : ∀ m, m ∈ own → m ≠ i → ∀ d, ρ[m]? = some (some d) → σ[m]? = some (some u) → (σ.set i (some (.ref a)))[i]? = some (some u) → False := fun m hm hne d q1 q2 q3 => by
      rw [List.getElem?_set] at q3
      simp only [if_true] at q3
      split at q3
      · cases q3
        exact hn m hm d q1 hne q2
      · cases q3
    by_cases e : i = j
    · subst e
      by_cases e' : i = l
      · exact e'
      · rw [List.getElem?_set_ne e'] at h2 h4
        exact (key l hl (Ne.symm e') d2 h2 h4 h3).elim
    · rw [List.getElem?_set_ne e] at h1 h3
      by_cases e' : i = l
      · subst e'
        exact (key j hj (Ne.symm e) d1 h1 h3 h4).elim
      · rw [List.getElem?_set_ne e'] at h2 h4
        exact s.ap j hj l hl d1 d2 u h1 h2 h3 h4
  len := by simpa using s.len
/-- an owned slot's cell is changed -/
theorem SIn.put (s : SIn K S0 F0 H0 own ρ R σ S F H) {i : Nat} {a : Addr} {o : HO} {d d0 : D} (hi : i ∈ own) (hd : ρ[i]? = some (some d0)) (hv : σ[i]? = some (some (.ref a))) (r : RepO K F o d) : SIn K S0 F0 H0 own (ρ.set i (some d)) R σ S F (upd H a o) := by
  obtain ⟨v, h1, a', o', rfl, h3, h4, h5, h6, h7⟩ := s.ow i hi d0 hd
  rw [hv] at h1
  cases h1
  have neF : ∀ b u, F b = some u → b ≠ a := fun b u e z => by rw [z, h5] at e; cases e
  have neH : ∀ b u, H0 b = some u → b ≠ a := fun b u e z => by rw [z, h7] at e; cases e
  refine ⟨⟨s.ext.s, s.ext.f, fun b u e => by rw [upd_ne (neF b u e)]; exact s.ext.fh b u e, fun b u e hb => by rw [upd_ne (neH b u e)]; exact s.ext.fr b u e hb, fun b u e => by rw [upd_ne (neH b u e)]; exact s.ext.th b u e, s.ext.nw, s.ext.sn⟩, s.cells.upd h6, fun j d' q1 q2 => ?_, fun j hj d' q => ?_, fun j hj l hl d1 d2 u q1 q2 q3 q4 => ?_, by simpa using s.len⟩
  · have e : i ≠ j := fun z => q2 (z ▸ hi)
    rw [List.getElem?_set_ne e] at q1
    exact s.sh j d' q1 q2
  · by_cases e : i = j
    · subst e
      rw [List.getElem?_set] at q
      simp only [if_true] at q
      split at q
      · cases q
        exact ⟨_, hv, a, o, rfl, upd_same, r, h5, h6, h7⟩
      · cases q
    · rw [List.getElem?_set_ne e] at q
      obtain ⟨v, g1, b, o2, rfl, g3, g4, g5, g6, g7⟩ := s.ow j hj d' q
      have hne : b ≠ a := fun z => by
        rw [z] at g1
        exact e (s.ap i hi j hj d0 d' _ hd q hv g1)
      exact ⟨_, g1, b, o2, rfl, by rw [upd_ne hne]; exact g3, g4, g5, g6, g7⟩
  · have un : ∀ (m : Nat) (d' : D), (ρ.set i (some d))[m]? = some (some d') → ∃ d'', ρ[m]? = some (some d'') := fun m d' q => by
      by_cases e : i = m
      · subst e; exact ⟨d0, hd⟩
      · rw [List.getElem?_set_ne e] at q; exact ⟨d', q⟩
    obtain ⟨e1, q1⟩ := un j d1 q1
    obtain ⟨e2, q2⟩ := un l d2 q2
    exact s.ap j hj l hl e1 e2 u q1 q2 q3 q4
end
end Pv

namespace Pv
open PySem PySem.Spec PyProof.Rows L2 Sr
/-! ### data without cells that may change -/
def isMut : HO → Prop
  | .lst _ => True
  | .dK _ => True
  | .dT _ => True
  | .ins _ _ _ => True
  | .tbl _ => True
  | _ => False
mutual
def D.imm : D → Bool
  | .non => true
  | .bl _ => true
  | .int _ => true
  | .str _ => true
  | .tup xs => immL xs
  | .arm xs => immL xs
  | .ty _ => true
  | .cls _ => true
  | .lam _ _ => true
  | _ => false
def immL : List D → Bool
  | [] => true
  | d :: r => d.imm && immL r
end
def immO : D → Bool
  | .tab _ => true
  | .lst xs => immL xs
  | .dic kvs => immL (kvs.map (·.2))
  | .dit kvs => immL (kvs.map (·.2))
  | d => d.imm
section
variable {K : PySem.W.Frag} {F G : Hp}
mutual
theorem Rep.imm (hG : ∀ a o, F a = some o → (∀ z, o = z → ¬ isMut z) → G a = some o) : ∀ {v : V} {d : D}, Rep K F v d → d.imm = true → Rep K G v d
  | _, _, .non, _ => .non
  | _, _, .bl b, _ => .bl b
  | _, _, .int i, _ => .int i
  | _, _, .str x, _ => .str x
  | _, _, .arm h e r, hi => .arm (hG _ _ h (by rintro _ rfl; exact id)) e (Reps.imm hG r (by simpa [D.imm] using hi))
  | _, _, .tup h r, hi => .tup (hG _ _ h (by rintro _ rfl; exact id)) (Reps.imm hG r (by simpa [D.imm] using hi))
  | _, _, .ty n, _ => .ty n
  | _, _, .cls c, _ => .cls c
  | _, _, .lam h1 h2 h3, _ => .lam (hG _ _ h1 (by rintro _ rfl; exact id)) (hG _ _ h2 (by rintro _ rfl; exact id)) (h3.imp id fun ⟨h4, t, e, ht⟩ => ⟨h4, t, e, hG _ _ ht (by rintro _ rfl; exact id)⟩)
  | _, _, .tab _, hi => by simp [D.imm] at hi
  | _, _, .clo _ _ _ _ _, hi => by simp [D.imm] at hi
  | _, _, .lst _ _, hi => by simp [D.imm] at hi
  | _, _, .ins _ _ _, hi => by simp [D.imm] at hi
  | _, _, .dic _ _ _, hi => by simp [D.imm] at hi
  | _, _, .dit _ _ _, hi => by simp [D.imm] at hi
theorem Reps.imm (hG : ∀ a o, F a = some o → (∀ z, o = z → ¬ isMut z) → G a = some o) : ∀ {vs : List V} {ds : List D}, Reps K F vs ds → immL ds = true → Reps K G vs ds
  | _, _, .nil, _ => .nil
  | _, _, .cons h r, hi => .cons (Rep.imm hG h (by simp [immL] at hi; exact hi.1)) (Reps.imm hG r (by simp [immL] at hi; exact hi.2))
end
theorem RepO.imm (hG : ∀ a o, F a = some o → (∀ z, o = z → ¬ isMut z) → G a = some o) {o : HO} {d : D} (h : RepO K F o d) (hi : immO d = true) : RepO K G o d := by
  cases h with
  | lst r => exact .lst (r.imm hG hi)
  | ins e r => simp [immO, D.imm] at hi
  | dic e r => exact .dic e (r.imm hG hi)
  | dit e r => exact .dit e (r.imm hG hi)
  | tab h => exact .tab (h.mono fun c e => hG _ _ e (by rintro _ rfl; exact id))
end
/-- the addresses of the owned slots -/
def OwnA (own : List Nat) (ρ : PEnv) (σ : L2.St) (b : Addr) : Prop := ∃ i ∈ own, ∃ d, ρ[i]? = some (some d) ∧ σ[i]? = some (some (.ref b))
open Classical in
/-- what is frozen, and the owned cells -/
noncomputable def allF (own : List Nat) (ρ : PEnv) (σ : L2.St) (F H : Hp) : Hp := fun b => if OwnA own ρ σ b then H b else F b
open Classical in
noncomputable def cutF (own : List Nat) (ρ : PEnv) (σ : L2.St) (F : Hp) : Hp := fun b => if OwnA own ρ σ b then none else F b
theorem RepO.mut {K : PySem.W.Frag} {F : Hp} {o : HO} {d : D} (h : RepO K F o d) : isMut o := by cases h <;> trivial
theorem RepO.rep {K : PySem.W.Frag} {F : Hp} {a : Addr} {o : HO} {d : D} (h : RepO K F o d) (ha : F a = some o) : Rep K F (.ref a) d := by
  cases h with
  | lst r => exact .lst ha r
  | ins e r => exact .ins ha e r
  | dic e r => exact .dic (.inl ha) e r
  | dit e r => exact .dit (.inl ha) e r
  | tab h => exact .tab ha
section
variable {K : PySem.W.Frag} {S0 S S' : List Addr} {F0 H0 F H F' H' : Hp} {own : List Nat} {ρ : PEnv} {R R' : Rs} {σ : L2.St} {E : XK}
theorem SIn.own_none (s : SIn K S0 F0 H0 own ρ R σ S F H) {b : Addr} (h : OwnA own ρ σ b) : F b = none ∧ b ∉ S ∧ H0 b = none ∧ ∃ o, H b = some o ∧ isMut o := by
  obtain ⟨i, hi, d, h1, h2⟩ := h
  obtain ⟨v, h3, a, o, rfl, h5, h6, h7, h8, h9⟩ := s.ow i hi d h1
  rw [h2] at h3
  cases h3
  exact ⟨h7, h8, h9, o, h5, h6.mut⟩
theorem SIn.f_allF (s : SIn K S0 F0 H0 own ρ R σ S F H) : Same F (allF own ρ σ F H) := fun b u e => by
  unfold allF
  split
  · rename_i h
    rw [(s.own_none h).1] at e; cases e
  · exact e
theorem SIn.allF_h (s : SIn K S0 F0 H0 own ρ R σ S F H) : Same (allF own ρ σ F H) H := fun b u e => by
  unfold allF at e
  split at e
  · exact e
  · exact s.same b u e
/-- the view with all slots -/
theorem SIn.full (s : SIn K S0 F0 H0 own ρ R σ S F H) : View K S (allF own ρ σ F H) H ρ R σ := by
  refine ⟨s.allF_h, fun i d h => ?_, s.cells.froz s.f_allF fun b hb => ?_, s.len⟩
  · by_cases hi : i ∈ own
    · obtain ⟨v, h1, a, o, rfl, h3, h4, h5, h6, h7⟩ := s.ow i hi d h
      refine ⟨_, h1, .inl ((h4.mono s.f_allF).rep ?_)⟩
      unfold allF
      rw [if_pos ⟨i, hi, d, h, h1⟩]; exact h3
    · obtain ⟨v, h1, h2⟩ := s.sh i d h hi
      exact ⟨v, h1, h2.mono (List.prefix_refl _) s.f_allF⟩
  · unfold allF
    rw [if_neg fun z => (s.own_none z).2.1 hb]
    exact (s.cells.has hb).1
/-- behind an expression that saw all slots -/
theorem SIn.onG (s : SIn K S0 F0 H0 own ρ R σ S F H) (e : Ext S (allF own ρ σ F H) H S' F' H') (c : Cells K S' F' H' R') (hR : R'.all immO = true) : SIn K S0 F0 H0 own ρ R' σ S' (cutF own ρ σ F') H' ∧ ∀ a o, F' a = some o → (∀ z, o = z → ¬ isMut z) → cutF own ρ σ F' a = some o := by
  have hT : ∀ a o, F' a = some o → (∀ z, o = z → ¬ isMut z) → cutF own ρ σ F' a = some o := fun a u h hm => by
    unfold cutF
    split
    · rename_i ho
      obtain ⟨h1, h2, h3, o, h4, h5⟩ := s.own_none ho
      have := e.fr a o h4 h2
      rw [e.fh a _ h] at this
      cases this
      exact (hm _ rfl h5).elim
    · exact h
  have hF : Same F (cutF own ρ σ F') := fun b u h => by
    unfold cutF
    split
    · rename_i ho
      rw [(s.own_none ho).1] at h; cases h
    · exact e.f b u (s.f_allF b u h)
  have hcF : Same (cutF own ρ σ F') H' := fun b u h => by
    unfold cutF at h
    split at h
    · cases h
    · exact e.fh b u h
  have hle : ∀ b, F' b = none → cutF own ρ σ F' b = none := fun b h => by
    unfold cutF; split
    · rfl
    · exact h
  refine ⟨⟨⟨s.ext.s.trans e.s, s.ext.f.trans hF, hcF, fun b u h hb => ?_, fun b u h => ?_, fun b u h ht hb => ?_, fun b h1 h2 => ?_⟩, ⟨c.len, fun i a d h1 h2 => ?_, c.nd, c.tb⟩, fun i d h1 h2 => ?_, fun i hi d h => ?_, s.ap, s.len⟩, hT⟩
  · have h3 := s.ext.fr b u h hb
    refine e.fr b u h3 fun z => ?_
    have := s.ext.sn b z hb
    rw [h] at this; cases this
  · obtain ⟨u1, h3⟩ := s.ext.th b u h
    exact e.th b u1 h3
  · have h4 := s.ext.nw b u h ht hb
    by_cases ho : OwnA own ρ σ b
    · unfold cutF; rw [if_pos ho]
    · have h5 : allF own ρ σ F H b = none := by unfold allF; rw [if_neg ho]; exact h4
      by_cases hs : b ∈ S0
      · obtain ⟨u1, h3⟩ := s.ext.th b u h
        exact hle b (e.nw b u1 h3 (.inl (s.ext.s.subset hs)) h5)
      · rcases ht with ht | ht
        · exact absurd ht hs
        · exact hle b (e.nw b u (s.ext.fr b u h hs) (.inr ht) h5)
  · by_cases hb : b ∈ S
    · exact s.ext.sn b hb h2
    · have := e.sn b h1 hb
      cases q : H0 b with
      | none => rfl
      | some u =>
        obtain ⟨u1, h3⟩ := s.ext.th b u q
        rw [this] at h3; cases h3
  · obtain ⟨n, o, h3, h4⟩ := c.at_ i a d h1 h2
    have hd : immO d = true := List.all_eq_true.mp hR d (List.mem_of_getElem? h2)
    exact ⟨hle a n, o, h3, h4.imm hT hd⟩
  · obtain ⟨v, h3, h4⟩ := s.sh i d h1 h2
    exact ⟨v, h3, h4.mono e.s hF⟩
  · obtain ⟨v, h1, a, o, rfl, h3, h4, h5, h6, h7⟩ := s.ow i hi d h
    refine ⟨_, h1, a, o, rfl, e.fr a o h3 h6, h4.mono hF, ?_, fun z => ?_, h7⟩
    · unfold cutF; rw [if_pos ⟨i, hi, d, h, h1⟩]
    · have := e.sn a z h6
      rw [h3] at this; cases this
end
/-! ### statements -/
def gNext : GS := fun ρ R => .nx ρ R
def gSeq (g1 g2 : GS) : GS := fun ρ R => match g1 ρ R with
  | .nx ρ1 R1 => g2 ρ1 R1
  | o => o
/-- how an expression is seen: .f without the owned slots, .g with all of them (then its value must hold no cells that may change) -/
inductive Md where | f | g
def see (m : Md) (own : List Nat) (ρ : PEnv) : PEnv := match m with
  | .f => hide own ρ
  | .g => ρ
def okM (m : Md) (d : D) (R : Rs) : Bool := match m with
  | .f => true
  | .g => d.imm && R.all immO
def okR (m : Md) (R : Rs) : Bool := match m with
  | .f => true
  | .g => R.all immO
def Res.out {α : Type} (r : Res α) (k : α → Rs → Out) : Out := match r with
  | .ok a R => k a R
  | .exc c fs R => .exc c fs R
  | .bad => .bad
@[simp] theorem Res.out_ok {α : Type} (a : α) (R : Rs) (k : α → Rs → Out) : (Res.ok a R).out k = k a R := rfl
@[simp] theorem Res.out_exc {α : Type} (c : Str) (fs : List (Str × D)) (R : Rs) (k : α → Rs → Out) : (Res.exc c fs R : Res α).out k = .exc c fs R := rfl
@[simp] theorem Res.out_bad {α : Type} (k : α → Rs → Out) : (Res.bad : Res α).out k = .bad := rfl
section
variable {X : Cx} {E : XK} {own own' own'' ol : List Nat} {st : Stmt} {sts rest : List Stmt} {g1 g2 : GS} {g : G} {t : GT} {gs : GA} {e : Expr} {pos : Pos} {K : PySem.W.Frag} {S0 S S' : List Addr} {F0 H0 F H F' H' : Hp} {ρ : PEnv} {R R' : Rs} {σ : L2.St}
theorem sts_nil : Sts X E own own ol [] gNext := pss_imp pss_nil fun Dn σ H ⟨S0, F0, H0, ρ, R, s, h⟩ => h σ H s
theorem WpS.seq {Dn : Ends} (h : WpS K E S0 F0 H0 own'' ol (gSeq g1 g2 ρ R) Dn) : WpS K E S0 F0 H0 own' ol (g1 ρ R) { Dn with nx := tS K E own' own'' ol g2 Dn } := by
  unfold gSeq at h
  cases q : g1 ρ R with
  | nx ρ1 R1 => rw [q] at h; exact fun σ H s => ⟨S0, F0, H0, ρ1, R1, s, h⟩
  | _ => rw [q] at h; exact h
theorem sts_cons (h1 : Stm X E own own' ol st g1) (h2 : Sts X E own' own'' ol rest g2) : Sts X E own own'' ol (st :: rest) (gSeq g1 g2) := pss_imp (pss_cons h1 h2) fun Dn σ H ⟨S0, F0, H0, ρ, R, s, h⟩ => ⟨S0, F0, H0, ρ, R, s, h.seq⟩
theorem sts_one (h1 : Stm X E own own' ol st g1) : Sts X E own own' ol [st] g1 := pss_one h1
/-- an expression within a statement -/
theorem see_wp {α β : Type} {rep : List Addr → Hp → β → α → Prop} {m : Md} {r : PEnv → Rs → Res α} {k : α → Rs → Out} {Dn : Ends} {Q : β → Hp → Prop} (hX : K = X.K) (s : SRel X.K S0 F0 H0 own ρ R σ H) (h : WpS X.K E S0 F0 H0 own' ol ((r (see m own ρ) R).out k) Dn)
    (hq : ∀ b a R1 S F S1 F1 H1, SIn X.K S0 F0 H0 own ρ R σ S F H → (m = .f → Ext S F H S1 F1 H1) → (m = .g → Ext S (allF own ρ σ F H) H S1 F1 H1) → Cells X.K S1 F1 H1 R1 → rep S1 F1 b a → Ext S0 F0 H0 S1 F1 H1 → WpS X.K E S0 F0 H0 own' ol (k a R1) Dn → Q b H1) : tG X.K E rep r σ H Q := by
  obtain ⟨S, F, s⟩ := s
  have extG : Ext S0 F0 H0 S (allF own ρ σ F H) H := ⟨s.ext.s, s.ext.f.trans s.f_allF, s.allF_h, s.ext.fr, s.ext.th, fun b u h1 ht h2 => by
    have h3 := s.ext.nw b u h1 ht h2
    unfold allF
    split
    · rename_i ho
      have := (s.own_none ho).2.2.1
      rw [h1] at this; cases this
    · exact h3, s.ext.sn⟩
  cases m with
  | f =>
    refine ⟨S, F, hide own ρ, R, s.view, ?_⟩
    cases q : r (hide own ρ) R with
    | ok a R1 =>
      simp only [see, q] at h
      exact fun b S1 F1 H1 e1 c1 rb => hq b a R1 S F S1 F1 H1 s (fun _ => e1) (fun z => nomatch z) c1 rb (s.ext.trans e1) h
    | exc c fs R1 =>
      simp only [see, q] at h
      exact fun d S1 F1 H1 e1 c1 rb => h d S1 F1 H1 (s.ext.trans e1) c1 rb
    | bad => simp only [see, q] at h; exact h
  | g =>
    refine ⟨S, _, ρ, R, s.full, ?_⟩
    cases q : r ρ R with
    | ok a R1 =>
      simp only [see, q] at h
      exact fun b S1 F1 H1 e1 c1 rb => hq b a R1 S F S1 F1 H1 s (fun z => nomatch z) (fun _ => e1) c1 rb (extG.trans e1) h
    | exc c fs R1 =>
      simp only [see, q] at h
      exact fun d S1 F1 H1 e1 c1 rb => h d S1 F1 H1 (extG.trans e1) c1 rb
    | bad => simp only [see, q] at h; exact h
/-- .. where a value came, the state goes on with it -/
theorem SIn.seen {m : Md} {v : V} {d : D} {R1 : Rs} {S1 : List Addr} {F1 H1 : Hp} (s : SIn K S0 F0 H0 own ρ R σ S F H) (ef : m = .f → Ext S F H S1 F1 H1) (eg : m = .g → Ext S (allF own ρ σ F H) H S1 F1 H1) (c : Cells K S1 F1 H1 R1) (r : Rep K F1 v d) (hm : okM m d R1 = true) :
    ∃ F2, SIn K S0 F0 H0 own ρ R1 σ S1 F2 H1 ∧ Rep K F2 v d := by
  cases m with
  | f => exact ⟨F1, s.on (ef rfl) c, r⟩
  | g =>
    have hm2 : d.imm = true ∧ R1.all immO = true := by simpa [okM] using hm
    obtain ⟨h1, h2⟩ := s.onG (eg rfl) c hm2.2
    exact ⟨_, h1, r.imm h2 hm2.1⟩
theorem SIn.seenR {m : Md} {R1 : Rs} {S1 : List Addr} {F1 H1 : Hp} (s : SIn K S0 F0 H0 own ρ R σ S F H) (ef : m = .f → Ext S F H S1 F1 H1) (eg : m = .g → Ext S (allF own ρ σ F H) H S1 F1 H1) (c : Cells K S1 F1 H1 R1) (hm : okR m R1 = true) :
    ∃ F2, SIn K S0 F0 H0 own ρ R1 σ S1 F2 H1 ∧ (∀ a o, F1 a = some o → (∀ z, o = z → ¬ isMut z) → F2 a = some o) := by
  cases m with
  | f => exact ⟨F1, s.on (ef rfl) c, fun _ _ h _ => h⟩
  | g =>
    obtain ⟨h1, h2⟩ := s.onG (eg rfl) c (by simpa [okR] using hm)
    exact ⟨_, h1, h2⟩
/-- x = e -/
def gSet (m : Md) (own : List Nat) (i : Nat) (g : G) : GS := fun ρ R => (g (see m own ρ) R).out fun d R1 => if okM m d R1 && !own.contains i then .nx (ρ.set i (some d)) R1 else .bad
theorem tSet_of {m : Md} {i : Nat} {Dn : Ends} (h : tS X.K E own own ol (gSet m own i g) Dn σ H) : tAsg (tP X.K E g) (gName i) Dn σ H := by
  obtain ⟨S0, F0, H0, ρ, R, s, h⟩ := h
  refine see_wp rfl s h fun v d R1 S F S1 F1 H1 s ef eg c r _ h1 => ?_
  split at h1
  · rename_i hc
    simp only [Bool.and_eq_true, Bool.not_eq_true', List.contains_eq_mem, decide_eq_false_iff_not] at hc
    obtain ⟨F2, s2, r2⟩ := s.seen ef eg c r hc.1
    exact h1 _ _ ⟨_, _, s2.set hc.2 (.inl r2)⟩
  · exact h1.elim
theorem st_set (m : Md) {i : Nat} {x : Str} {pos' : Pos} (hN : X.N.Nodup) (hi : X.N[i]? = some x) (hx : Loc X.env.scope x) (he : Ev X E e g) (hs : swapsWith e (some (.Name x pos')) pos.line X.env = pure false := by rfl) (hf : X.fn x = true ∨ X.env.scope.names.lookup x = some .local := by first | exact .inl rfl | exact .inr rfl | assumption) :
    Stm X E own own ol (.Assign [.Name x pos'] e pos) (gSet m own i g) := ps_imp (ps_set hN hi hx he hs hf) fun _ _ _ => tSet_of
/-- an expression whose value is dropped -/
def gDrop (m : Md) (own : List Nat) (g : G) : GS := fun ρ R => (g (see m own ρ) R).out fun d R1 => if okR m R1 then .nx ρ R1 else .bad
theorem st_expr (m : Md) (he : Ev X E e g) (hs : swapsWith e none pos.line X.env = pure false := by rfl) : Stm X E own own ol (.Expr e pos) (gDrop m own g) := ps_imp (ps_expr he hs) fun Dn σ H ⟨S0, F0, H0, ρ, R, s, h⟩ => by
  refine see_wp rfl s h fun v d R1 S F S1 F1 H1 s ef eg c r _ h1 => ?_
  split at h1
  · rename_i hc
    obtain ⟨F2, s2, _⟩ := s.seenR ef eg c hc
    exact h1 _ _ ⟨_, _, s2⟩
  · exact h1.elim
/-- return e -/
def gRet (g : G) : GS := fun ρ R => (g ρ R).out fun d R1 => .rt d R1
theorem st_ret (he : Ev X E e g) : Stm X E own own' ol (.Return (some e) pos) (gRet g) := ps_imp (ps_ret he) fun Dn σ H ⟨S0, F0, H0, ρ, R, s, h⟩ => by
  exact see_wp (m := .g) rfl s h fun v d R1 S F S1 F1 H1 s ef eg c r e h1 => h1 v S1 F1 H1 e c r
def gRetN : GS := fun ρ R => .rt .non R
def gBrk : GS := fun ρ R => .bk ρ R
def gCnt : GS := fun ρ R => .ct ρ R
def gNever : GS := fun _ _ => .bad
/-- if -/
def gIfS (m : Md) (own : List Nat) (t : GT) (g1 g2 : GS) : GS := fun ρ R => (t (see m own ρ) R).out fun b R1 => if okR m R1 then match b with
  | true => g1 ρ R1
  | false => g2 ρ R1
  else .bad
theorem st_if (m : Md) {c : Expr} {a b : List Stmt} (hc : EvT X E c t) (ha : Sts X E own own' ol a g1) (hb : Sts X E own own' ol b g2) : Stm X E own own' ol (.If c a b pos) (gIfS m own t g1 g2) := ps_imp (ps_if hc ha hb) fun Dn σ H ⟨S0, F0, H0, ρ, R, s, h⟩ => by
  refine see_wp rfl s h fun v d R1 S F S1 F1 H1 s ef eg c r _ h1 => ?_
  subst r
  split at h1
  · rename_i hc
    obtain ⟨F2, s2, _⟩ := s.seenR ef eg c hc
    cases v with
    | true => exact ⟨S0, F0, H0, ρ, R1, ⟨_, _, s2⟩, h1⟩
    | false => exact ⟨S0, F0, H0, ρ, R1, ⟨_, _, s2⟩, h1⟩
  · exact h1.elim
/-- x += e, ints -/
def gAug (m : Md) (own : List Nat) (i : Nat) (f : D → D → Rs → Res D) (g : G) : GS := fun ρ R => match (hide own ρ)[i]? with
  | some (some (.int x)) => (g (see m own ρ) R).out fun d R1 => if okR m R1 && !own.contains i then (f (.int x) d R1).out fun z R2 => match z with
    | .int w => .nx (ρ.set i (some (.int w))) R2
    | _ => .bad
    else .bad
  | _ => .bad
end
end Pv

namespace Pv
open PySem PySem.Spec PyProof.Rows L2 Sr
/-! ### targets -/
inductive Upds (K : PySem.W.Frag) (F : Hp) (vs : List Nat) (ρ : PEnv) (σ : L2.St) : PEnv → L2.St → Prop
  | refl : Upds K F vs ρ σ ρ σ
  | step {ρ' : PEnv} {σ' : L2.St} {i : Nat} {v : V} {d : D} : Upds K F vs ρ σ ρ' σ' → i ∈ vs → Rep K F v d → Upds K F vs ρ σ (ρ'.set i (some d)) (σ'.set i (some v))
abbrev TD := D → PEnv → Option PEnv
abbrev TDs := List D → PEnv → Option PEnv
def TgD (K : PySem.W.Frag) (t : TG) (T : TD) (vs : List Nat) : Prop := ∀ (F H : Hp) (v : V) (d : D) (ρ0 : PEnv) (σ0 : L2.St) (σ : L2.St) (ρ ρ' : PEnv) (Q : L2.St → Hp → Prop), Same F H → Rep K F v d → T d ρ = some ρ' → Upds K F vs ρ0 σ0 ρ σ → (∀ σ', Upds K F vs ρ0 σ0 ρ' σ' → Q σ' H) → t v σ H Q
def TgsD (K : PySem.W.Frag) (t : TGs) (T : TDs) (vs : List Nat) : Prop := ∀ (F H : Hp) (v : List V) (d : List D) (ρ0 : PEnv) (σ0 : L2.St) (σ : L2.St) (ρ ρ' : PEnv) (Q : L2.St → Hp → Prop), Same F H → Reps K F v d → T d ρ = some ρ' → Upds K F vs ρ0 σ0 ρ σ → (∀ σ', Upds K F vs ρ0 σ0 ρ' σ' → Q σ' H) → t v σ H Q
def dName (i : Nat) : TD := fun d ρ => some (ρ.set i (some d))
def dGNil : TDs := fun ds ρ => match ds with
  | [] => some ρ
  | _ => none
def dGCons (T : TD) (U : TDs) : TDs := fun ds ρ => match ds with
  | d :: r => (T d ρ).bind fun ρ1 => U r ρ1
  | [] => none
def dGTup (n : Nat) (U : TDs) : TD := fun d ρ => match d with
  | .tup ds => if ds.length = n then U ds ρ else none
  | _ => none
def dGLst (n : Nat) (U : TDs) : TD := fun d ρ => match d with
  | .lst ds => if ds.length = n then U ds ρ else none
  | _ => none
section
variable {K : PySem.W.Frag} {vs : List Nat}
theorem tg_name {i : Nat} (hi : i ∈ vs) : TgD K (gName i) (dName i) vs := fun F H v d ρ0 σ0 σ ρ ρ' Q hs r h u k => by
  cases h
  exact k _ (.step u hi r)
theorem tgs_nil : TgsD K L2.gNil dGNil vs := fun F H v d ρ0 σ0 σ ρ ρ' Q hs r h u k => by
  unfold dGNil at h
  split at h
  · cases h; cases r; exact ⟨rfl, k _ u⟩
  · cases h
theorem tgs_cons {t : TG} {ts : TGs} {T : TD} {U : TDs} (h1 : TgD K t T vs) (h2 : TgsD K ts U vs) : TgsD K (L2.gCons t ts) (dGCons T U) vs := fun F H v d ρ0 σ0 σ ρ ρ' Q hs r h u k => by
  cases r with
  | nil => cases h
  | @cons v0 d0 vs0 rest r rr =>
    have h : (T d0 ρ).bind (fun ρ1 => U rest ρ1) = some ρ' := h
    cases q : T d0 ρ with
    | none => rw [q] at h; cases h
    | some ρ2 =>
      rw [q] at h
      exact ⟨_, _, rfl, h1 F H _ _ ρ0 σ0 σ _ _ _ hs r q u fun σ' u' => h2 F H _ _ ρ0 σ0 σ' _ _ _ hs rr h u' k⟩
theorem tg_tup {n : Nat} {ts : TGs} {U : TDs} (h2 : TgsD K ts U vs) : TgD K (L2.gTup K n ts) (dGTup n U) vs := fun F H v d ρ0 σ0 σ ρ ρ' Q hs r h u k => by
  unfold dGTup at h
  split at h
  · split at h
    · rename_i hl
      cases r with
      | tup hf rs => exact ⟨_, _, rfl, SqT.of (hs _ _ hf), by rw [rs.length]; exact hl, h2 F H _ _ ρ0 σ0 σ _ _ _ hs rs h u k⟩
    · cases h
  · cases h
/-! ### what the updates keep -/
theorem Upds.len {F : Hp} {ρ ρ' : PEnv} {σ σ' : L2.St} (u : Upds K F vs ρ σ ρ' σ') : ρ'.length = ρ.length ∧ σ'.length = σ.length := by
  induction u with
  | refl => exact ⟨rfl, rfl⟩
  | step _ _ _ ih => simpa using ih
theorem Upds.sin {S0 S : List Addr} {F0 H0 F H : Hp} {own : List Nat} {ρ ρ' : PEnv} {R : Rs} {σ σ' : L2.St} (u : Upds K F vs ρ σ ρ' σ') (hv : ∀ i ∈ vs, i ∉ own) (s : SIn K S0 F0 H0 own ρ R σ S F H) : SIn K S0 F0 H0 own ρ' R σ' S F H := by
  induction u with
  | refl => exact s
  | step _ hi r ih => exact ih.set (hv _ hi) (.inl r)
theorem Upds.view {S : List Addr} {F H : Hp} {ρ ρ' : PEnv} {R : Rs} {σ σ' : L2.St} (u : Upds K F vs ρ σ ρ' σ') (s : View K S F H ρ R σ) : View K S F H ρ' R σ' := by
  induction u with
  | refl => exact s
  | step u hi r ih =>
    rename_i ρ1 σ1 i v d
    refine ⟨s.fh, fun j d' h => ?_, s.cells, by simpa using ih.len⟩
    by_cases e : i = j
    · subst e
      have hll : ρ1.length = σ1.length := ih.len
      rw [List.getElem?_set] at h ⊢
      simp only [if_true] at h ⊢
      rw [hll] at h
      split at h
      · rename_i h3
        cases h
        exact ⟨v, by rw [if_pos h3], .inl r⟩
      · cases h
    · rw [List.getElem?_set_ne e] at h ⊢
      exact ih.env j d' h
theorem wipe_set {σ : L2.St} {i : Nat} {v : Option V} : ∀ {vs : List Nat}, i ∈ vs → wipe (σ.set i v) vs = wipe σ vs
  | [], h => by simp at h
  | w :: ws, h => by
    by_cases hw : i ∈ ws
    · show (wipe (σ.set i v) ws).set w none = (wipe σ ws).set w none
      rw [wipe_set hw]
    · have e : w = i := by
        rcases List.mem_cons.mp h with z | z
        · exact z.symm
        · exact absurd z hw
      subst e
      have gen : ∀ us : List Nat, w ∉ us → wipe (σ.set w v) us = (wipe σ us).set w v := by
        intro us
        induction us with
        | nil => intro _; rfl
        | cons u us ih =>
          intro hu
          show (wipe (σ.set w v) us).set u none = ((wipe σ us).set u none).set w v
          rw [ih (fun z => hu (List.mem_cons_of_mem _ z)), List.set_comm]
          exact fun z => hu (by simp [z])
      show (wipe (σ.set w v) ws).set w none = (wipe σ ws).set w none
      rw [gen ws hw, List.set_set]
theorem Upds.wipe {F : Hp} {ρ ρ' : PEnv} {σ σ' : L2.St} (u : Upds K F vs ρ σ ρ' σ') : L2.wipe σ' vs = L2.wipe σ vs := by
  induction u with
  | refl => rfl
  | step _ hi _ ih => rw [wipe_set hi]; exact ih
end
/-! ### what is walked -/
def WalkD (K : PySem.W.Frag) (F : Hp) (J : It) (ds : List D) : Prop := ∃ Y : Nat → Hp → V → Hp → Prop, Walk J ds.length (fun H => Same F H) Y ∧
  ∀ i d H x H2 F1, ds[i]? = some d → Same F F1 → Same F1 H → Y i H x H2 → Same H H2 ∧ ∃ F2, (∀ S : List Addr, (∀ b ∈ S, ∀ u, H b = some u → tupO u = false) → Ext S F1 H S F2 H2) ∧ Rep K F2 x d
abbrev GI := PEnv → Rs → Res (List D)
abbrev EvI (X : Cx) (E : XK) (tg iter : Expr) (g : GI) : Prop := PI X tg iter (tG X.K E (fun _ F J ds => WalkD X.K F J ds) g)
/-- .. whatever is frozen -/
abbrev EvIA (X : Cx) (E : XK) (tg iter : Expr) (g : GI) : Prop := PI X tg iter (tG X.K E (fun _ _ J ds => ∀ F, WalkD X.K F J ds) g)
theorem Cells.pure {K : PySem.W.Frag} {S : List Addr} {F H F1 H1 : Hp} {R : Rs} (c : Cells K S F H R) (e : Ext S F H S F1 H1) (hs : Same H H1) : Cells K S F1 H1 R :=
  ⟨c.len, fun i a d h1 h2 => by
    obtain ⟨n, o, h3, h4⟩ := c.at_ i a d h1 h2
    exact ⟨e.nw a o h3 (.inl (List.mem_of_getElem? h1)) n, o, hs _ _ h3, h4.mono e.f⟩, c.nd, c.tb⟩
section
variable {X : Cx} {E : XK} {tg e : Expr} {g : G} {gs : GA} {K : PySem.W.Frag}
theorem walkD_at {F : Hp} {J : It} {xs : List V} {ds : List D} (r : Reps K F xs ds) (w : Walk J xs.length (fun H => Same F H) (YAt xs)) : WalkD K F J ds := by
  refine ⟨YAt xs, by rw [← r.length]; exact w, fun i d H x H2 F1 hd h1 h2 y => ?_⟩
  obtain ⟨rfl, hx⟩ := y
  obtain ⟨d', h3, h4⟩ := r.getV hx
  rw [hd] at h3
  cases h3
  exact ⟨.refl _, F1, fun S _ => .refl h2, h4.mono h1⟩
def lstOf : D → Rs → Res (List D) := fun d R => match d with
  | .lst ds => .ok ds R
  | _ => .bad
def tupOf : D → Rs → Res (List D) := fun d R => match d with
  | .tup ds => .ok ds R
  | .arm ds => .ok ds R
  | _ => .bad
def gIt (f : D → Rs → Res (List D)) (g : G) : GI := fun ρ R => (g ρ R).bind f
theorem evi_list (h : Ev X E e g) : EvI X E tg e (gIt lstOf g) := pi_imp (pi_list h) fun σ H Q ⟨S, F, ρ, R, v, h⟩ => by
  refine ⟨S, F, ρ, R, v, Wp.bind h fun x S1 F1 H1 dx R1 e1 c1 rx h1 => ?_⟩
  unfold lstOf at h1
  split at h1
  · cases rx with
    | lst hf rs =>
    refine ⟨_, rfl, ⟨_, SqL.of (e1.fh _ _ hf)⟩, h1.now e1.fh c1 (walkD_at rs (walk_list.mono (fun H h => SqL.of (h _ _ hf)) fun _ _ _ _ _ _ y => y))⟩
  · exact h1.elim
theorem evi_tup (h : Ev X E e g) : EvI X E tg e (gIt tupOf g) := pi_imp (pi_tup h) fun σ H Q ⟨S, F, ρ, R, v, h⟩ => by
  refine ⟨S, F, ρ, R, v, Wp.bind h fun x S1 F1 H1 dx R1 e1 c1 rx h1 => ?_⟩
  unfold tupOf at h1
  split at h1
  · cases rx with
    | tup hf rs =>
    refine ⟨_, rfl, ⟨_, SqT.of (e1.fh _ _ hf)⟩, h1.now e1.fh c1 (walkD_at rs (walk_tup.mono (fun H h => SqT.of (h _ _ hf)) fun _ _ _ _ _ _ y => y))⟩
  · cases rx with
    | arm hf _ rs =>
    refine ⟨_, rfl, ⟨_, .inl (.inr ⟨_, e1.fh _ _ hf⟩)⟩, h1.now e1.fh c1 (walkD_at rs (walk_tup.mono (fun H h => .inl (.inr ⟨_, h _ _ hf⟩)) fun _ _ _ _ _ _ y => y))⟩
  · exact h1.elim
def rngD (lo : Int) (n : Nat) : List D := (List.range n).map fun k => .int (lo + (k : Nat))
theorem rngD_len (lo : Int) (n : Nat) : (rngD lo n).length = n := by simp [rngD]
theorem walkD_rng (lo : Int) (n : Nat) (F : Hp) : WalkD K F (Itr lo n) (rngD lo n) := by
  refine ⟨_, by rw [rngD_len]; exact walk_range.mono (fun H _ => trivial) fun _ _ _ _ _ _ y => y, fun i d H x H2 F1 hd h1 h2 y => ?_⟩
  obtain ⟨rfl, rfl⟩ := y
  have hi : i < n := by rw [← rngD_len lo n]; exact (List.getElem?_eq_some_iff.mp hd).1
  have e : d = .int (lo + (i : Nat)) := by
    unfold rngD at hd
    rw [List.getElem?_map, List.getElem?_range hi] at hd
    cases hd; rfl
  subst e
  exact ⟨.refl _, F1, fun S _ => .refl h2, .int _⟩
def inB (i : Int) : Bool := bdB i 4611686018427387903
theorem inB_iff {i : Int} : inB i = true ↔ -4611686018427387904 ≤ i ∧ i < 4611686018427387904 := by
  unfold inB; rw [bdB_iff]; omega
def rng1 : List D → Rs → Res (List D) := fun ds R => match ds with
  | [.int j] => if inB j then .ok (rngD 0 j.toNat) R else .bad
  | _ => .bad
def rng2 : List D → Rs → Res (List D) := fun ds R => match ds with
  | [.int i, .int j] => if inB i && inB j then .ok (rngD i (j - i).toNat) R else .bad
  | _ => .bad
def gItA (f : List D → Rs → Res (List D)) (gs : GA) : GI := fun ρ R => (gs ρ R).bind f
theorem evi_rng1 {a : Expr} {p pos : Pos} (hg : Gl X "range") (hm : X.mg "range" = none) (ha : EvA X E [a] gs) (hs : starEach [a] X.env = [(false, eval a X.env)] := by rfl) : EvIA X E tg (.Call (.Name "range" p) [a] [] pos) (gItA rng1 gs) := pi_imp (pi_range1 hg hm ha hs) fun σ H Q ⟨S, F, ρ, R, v, h⟩ => by
  refine ⟨S, F, ρ, R, v, Wp.bind h fun x S1 F1 H1 dx R1 e1 c1 rx h1 => ?_⟩
  unfold rng1 at h1
  split at h1
  · split at h1
    · rename_i hb
      simp only [inB_iff, Bool.and_eq_true] at hb
      cases rx with
      | cons r rr =>
      cases rr
      cases r
      exact ⟨_, rfl, hb.1, hb.2, h1.now e1.fh c1 (walkD_rng _ _)⟩
    · exact h1.elim
  · exact h1.elim
theorem evi_of {g : GI} (h : EvIA X E tg e g) : EvI X E tg e g := pi_imp h fun σ H Q ⟨S, F, ρ, R, v, h⟩ => by
  refine ⟨S, F, ρ, R, v, ?_⟩
  cases q : g ρ R with
  | ok a R1 => rw [q] at h; exact fun b S1 F1 H1 e1 c1 r => h b S1 F1 H1 e1 c1 (r F1)
  | exc c fs R1 => rw [q] at h; exact h
  | bad => rw [q] at h; exact h
end
end Pv

namespace Pv
open PySem PySem.Spec PyProof.Rows L2 Sr
/-! ### for -/
def loopG (T : TD) (b : GS) : List D → PEnv → Rs → Out
  | [], ρ, R => .nx ρ R
  | d :: ds, ρ, R => match T d ρ with
    | none => .bad
    | some ρ1 => match b ρ1 R with
      | .nx ρ2 R2 => loopG T b ds ρ2 R2
      | .ct ρ2 R2 => loopG T b ds ρ2 R2
      | .bk ρ2 R2 => .nx ρ2 R2
      | o => o
def gFor (m : Md) (own vs : List Nat) (it : GI) (T : TD) (b : GS) : GS := fun ρ R => (it (see m own ρ) R).out fun ds R1 => if okR m R1 && vs.all (fun i => !own.contains i) then loopG T b ds ρ R1 else .bad
section
variable {X : Cx} {E : XK} {own own' ol vs : List Nat} {tg iter : Expr} {body : List Stmt} {it : GI} {T : TD} {b : GS} {t : TG} {pos : Pos} {K : PySem.W.Frag} {S0 S S' : List Addr} {F0 H0 F H F' H' : Hp} {ρ : PEnv} {R R' : Rs} {σ : L2.St}
theorem SIn.low {F1 : Hp} (s : SIn K S0 F0 H0 own ρ R σ S F H) (h01 : Same F0 F1) (h1 : Same F1 F) : SIn K S0 F1 H0 own ρ R σ S F H :=
  ⟨⟨s.ext.s, h1, s.ext.fh, s.ext.fr, s.ext.th, fun b u h t n => s.ext.nw b u h t (h01.free n), s.ext.sn⟩, s.cells, s.sh, s.ow, s.ap, s.len⟩
theorem Ext.up {F1 : Hp} (s : Ext S0 F1 H0 S F H) (h01 : Same F0 F1) (hn : ∀ b u, H0 b = some u → (b ∈ S0 ∨ tupO u = false) → F0 b = none → F1 b = none) : Ext S0 F0 H0 S F H :=
  ⟨s.s, h01.trans s.f, s.fh, s.fr, s.th, fun b u h t n => s.nw b u h t (hn b u h t n), s.sn⟩
theorem SIn.up {F1 : Hp} (s : SIn K S0 F1 H0 own ρ R σ S F H) (h01 : Same F0 F1) (hn : ∀ b u, H0 b = some u → (b ∈ S0 ∨ tupO u = false) → F0 b = none → F1 b = none) : SIn K S0 F0 H0 own ρ R σ S F H :=
  ⟨s.ext.up h01 hn, s.cells, s.sh, s.ow, s.ap, s.len⟩
/-- the loop, from a state whose frozen part holds F1 -/
theorem for_core {Dn : Ends} {J : It} {ds : List D} {F1 : Hp} (hv : ∀ i ∈ vs, i ∉ own) (w : WalkD X.K F1 J ds) (hT : TgD X.K t T vs) (s : SIn X.K S0 F0 H0 own ρ R σ S F1 H) (h : WpS X.K E S0 F0 H0 own ol (loopG T b ds ρ R) Dn) :
    ∃ W : Nat → Nat → L2.St → Hp → Prop, (∃ m, W 0 m σ H) ∧ ∀ i m σ H, W i m σ H →
      (J.stop i H ∧ Dn.nx σ H) ∨ (J.go i H ∧ ∃ N : L2.St → Hp → Prop, (∀ σ' H', N σ' H' → ∃ m', m' < m ∧ W (i + 1) m' σ' H') ∧ ∀ x H', J.yld i H x H' → t x σ H' fun σ2 H2 => tS X.K E own own own b { Dn with nx := N, ct := N, bk := Dn.nx } σ2 H2) := by
  obtain ⟨Y, w, hy⟩ := w
  have s0 := s
  refine for_it w (fun i σ H => ∃ ρ R S F, SIn X.K S0 F0 H0 own ρ R σ S F H ∧ Same F1 F ∧ WpS X.K E S0 F0 H0 own ol (loopG T b (ds.drop i) ρ R) Dn) ⟨ρ, R, S, F1, s, .refl _, by rw [List.drop_zero]; exact h⟩
    (fun i σ H hi ⟨ρ, R, S, F, s, hf, _⟩ => hf.trans s.same) ?_ ?_
  · rintro i x σ H H2 hi ⟨ρ, R, S, F, s, hf, h⟩ y
    have hd : ds[i]? = some ds[i] := List.getElem?_eq_getElem hi
    obtain ⟨hH, F2, e2, r2⟩ := hy i ds[i] H x H2 F hd hf s.same y
    have e2 := e2 S fun b hb u z => s.cells.nt hb z
    have s2 : SIn X.K S0 F0 H0 own ρ R σ S F2 H2 := s.on e2 (s.cells.pure e2 hH)
    rw [List.drop_eq_getElem_cons hi] at h
    unfold loopG at h
    cases q : T ds[i] ρ with
    | none => rw [q] at h; exact h.elim
    | some ρ1 =>
      rw [q] at h
      refine hT F2 H2 x ds[i] ρ σ σ ρ ρ1 _ s2.same r2 q .refl fun σ' u => ?_
      have h01 : Same F0 F1 := s0.ext.f
      have hn := s0.ext.nw
      refine ⟨S0, F1, H0, ρ1, R, ⟨S, F2, (u.sin hv s2).low h01 (hf.trans e2.f)⟩, ?_⟩
      dsimp only at h
      have next : ∀ ρ2 R2, WpS X.K E S0 F0 H0 own ol (loopG T b (ds.drop (i + 1)) ρ2 R2) Dn → ∀ σ H, SRel X.K S0 F1 H0 own ρ2 R2 σ H → ∃ ρ R S F, SIn X.K S0 F0 H0 own ρ R σ S F H ∧ Same F1 F ∧ WpS X.K E S0 F0 H0 own ol (loopG T b (ds.drop (i + 1)) ρ R) Dn :=
        fun ρ2 R2 h σ H ⟨S, F, s⟩ => ⟨ρ2, R2, S, F, s.up h01 hn, s.ext.f, h⟩
      cases q2 : b ρ1 R with
      | nx ρ2 R2 => rw [q2] at h; exact next ρ2 R2 h
      | ct ρ2 R2 => rw [q2] at h; exact next ρ2 R2 h
      | bk ρ2 R2 => rw [q2] at h; exact fun σ H ⟨S, F, s⟩ => h σ H ⟨S, F, s.up h01 hn⟩
      | rt d R2 => rw [q2] at h; exact fun v S F H e c r => h v S F H (e.up h01 hn) c r
      | rf d R2 => rw [q2] at h; exact fun a o S F H e c => h a o S F H (e.up h01 hn) c
      | exc c fs R2 => rw [q2] at h; exact fun v S F H e c r => h v S F H (e.up h01 hn) c r
      | bad => rw [q2] at h; exact h
  · rintro σ H ⟨ρ, R, S, F, s, hf, h⟩
    rw [List.drop_length] at h
    exact h σ H ⟨S, F, s⟩
/-- for over a list, a tuple, .. that is frozen -/
theorem st_for (hp : PassesOwn (model X.prog X.w) X.A X.env X.xe) (hc : X.calm = true) (hi : EvI X E tg iter it) (hg : PG X tg t ∧ TgD X.K t T vs) (hb : Sts X E own own own body b)
    (hs : ∀ x, foldedSetIterable iter X.env x = pure x := by intro _; rfl) : Stm X E own own ol (.For tg iter body [] pos) (gFor .f own vs it T b) := ps_imp (ps_for hp hc hi hg.1 hb hs) fun Dn σ H ⟨S0, F0, H0, ρ, R, s, h⟩ => by
  refine see_wp rfl s h fun J ds R1 S F S1 F1 H1 s ef eg c r _ h1 => ?_
  split at h1
  · rename_i hc
    have hv : ∀ i ∈ vs, i ∉ own := by simpa using (Bool.and_eq_true_iff.mp hc).2
    exact for_core hv r hg.2 (s.on (ef rfl) c) h1
  · exact h1.elim
/-- for over a range -/
theorem st_forR (m : Md) (hp : PassesOwn (model X.prog X.w) X.A X.env X.xe) (hc : X.calm = true) (hi : EvIA X E tg iter it) (hg : PG X tg t ∧ TgD X.K t T vs) (hb : Sts X E own own own body b)
    (hs : ∀ x, foldedSetIterable iter X.env x = pure x := by intro _; rfl) : Stm X E own own ol (.For tg iter body [] pos) (gFor m own vs it T b) := ps_imp (ps_for hp hc hi hg.1 hb hs) fun Dn σ H ⟨S0, F0, H0, ρ, R, s, h⟩ => by
  refine see_wp rfl s h fun J ds R1 S F S1 F1 H1 s ef eg c r _ h1 => ?_
  split at h1
  · rename_i hc
    have hv : ∀ i ∈ vs, i ∉ own := by simpa using (Bool.and_eq_true_iff.mp hc).2
    obtain ⟨F2, s2, _⟩ := s.seenR ef eg c (Bool.and_eq_true_iff.mp hc).1
    exact for_core hv (r F2) hg.2 s2 h1
  · exact h1.elim
/-! ### while -/
end
end Pv

namespace Pv
open PySem PySem.Spec PyProof.Rows L2 Sr
/-! ### new cells -/
/-- the value is a new cell that nothing else holds -/
def Wf (K : PySem.W.Frag) (E : XK) (S : List Addr) (F H : Hp) (r : Res D) (Q : VK) : Prop := match r with
  | .ok d R' => ∀ p o S' F' H', Ext S F H S' F' H' → Cells K S' F' H' R' → H' p = some o → RepO K F' o d → F' p = none → H p = none → p ∉ S' → Q (.ref p) H'
  | .exc c fs R' => ∀ d S' F' H', Ext S F H S' F' H' → Cells K S' F' H' R' → ExcAt K S' F' H' fs d → E (.ref (He.ga K c)) d H'
  | .bad => False
def tF (K : PySem.W.Frag) (E : XK) (g : G) : TE := fun σ H Q => ∃ S F ρ R, View K S F H ρ R σ ∧ Wf K E S F H (g ρ R) Q
abbrev EvF (X : Cx) (E : XK) (e : Expr) (g : G) : Prop := PE X e (tF X.K E g)
section
variable {K : PySem.W.Frag} {E : XK} {S S1 : List Addr} {F H F1 H1 : Hp} {R : Rs} {ρ : PEnv} {σ : L2.St}
theorem Wf.ext {r : Res D} {Q : VK} (h : Wf K E S F H r Q) (e : Ext S F H S1 F1 H1) : Wf K E S1 F1 H1 r Q := by
  cases r with
  | ok a R' => exact fun p o S' F' H' e' c h1 h2 h3 h4 h5 => h p o S' F' H' (e.trans e') c h1 h2 h3 (by
      cases q : H p with
      | none => rfl
      | some u => obtain ⟨u', q'⟩ := e.th p u q; rw [h4] at q'; cases q') h5
  | exc c fs R' => exact fun d S' F' H' e' c r => h d S' F' H' (e.trans e') c r
  | bad => exact h
/-- frozen at once, it is plain data -/
theorem Ext.freeze (e : Ext S F H S1 F1 H1) {p : Addr} {o : HO} (hp : H1 p = some o) (hF : F1 p = none) (hn : H p = none) : Ext S F H S1 (upd F1 p o) H1 where
  s := e.s
  f := fun b u h => by rw [upd_ne (ne_of_none (e.f b u h) hF)]; exact e.f b u h
  fh := fun b u h => by
    by_cases hb : b = p
    · subst hb; rw [upd_same] at h; cases h; exact hp
    · rw [upd_ne hb] at h; exact e.fh b u h
  fr := e.fr
  th := e.th
  nw := fun b u h t n => by rw [upd_ne (ne_of_none h hn)]; exact e.nw b u h t n
  sn := e.sn
theorem Cells.freeze (c : Cells K S F H R) {p : Addr} {o : HO} (hF : F p = none) (hS : p ∉ S) : Cells K S (L2.upd F p o) H R :=
  c.froz (same_upd hF) fun b hb => by
    have hne : b ≠ p := fun z => hS (by rw [← z]; exact hb)
    rw [upd_ne hne]; exact (c.has hb).1
theorem Wp.toF {r : Res D} {Q : VK} (h : Wp K E (fun _ F v d => Rep K F v d) S F H r Q) : Wf K E S F H r Q := by
  cases r with
  | ok a R' => exact fun p o S' F' H' e c h1 h2 h3 h4 h5 => h _ S' _ H' (e.freeze h1 h3 h4) (c.freeze h3 h5) ((h2.mono (same_upd h3)).rep upd_same)
  | exc c fs R' => exact h
  | bad => exact h
theorem Wf.bind {α β : Type} {rep : List Addr → Hp → β → α → Prop} {r : Res α} {k : α → Rs → Res D} {Q : VK} {Q1 : β → Hp → Prop} (h : Wf K E S F H (r.bind k) Q)
    (hq : ∀ b S1 F1 H1 a R1, Ext S F H S1 F1 H1 → Cells K S1 F1 H1 R1 → rep S1 F1 b a → Wf K E S1 F1 H1 (k a R1) Q → Q1 b H1) : Wp K E rep S F H r Q1 := by
  cases r with
  | ok a R' => exact fun b S' F' H' e' c r => hq b S' F' H' a R' e' c r (Wf.ext h e')
  | exc c fs R' => exact h
  | bad => exact h
/-- a cell laid now -/
theorem Wf.new {d : D} {o : HO} {Q : VK} (h : Wf K E S F H (.ok d R) Q) (hs : Same F H) (c : Cells K S F H R) (r : RepO K F o d) {p : Addr} (hp : H p = none) : Q (.ref p) (upd H p o) :=
  h p o S F _ (.newO hs hp) (c.upd (c.fresh hp)) upd_same r (hs.free hp) hp (c.fresh hp)
end
section
variable {X : Cx} {E : XK} {a b c e : Expr} {es rest : List Expr} {ga gb gc g : G} {gs : GA} {pos : Pos}
theorem EvF.ev (h : EvF X E e g) : Ev X E e g := pe_imp h fun σ H Q ⟨S, F, ρ, R, v, h⟩ => ⟨S, F, ρ, R, v, h.toF⟩
theorem evf_lst (hs : EvA X E es gs) : EvF X E (.List es pos) (gLst gs) := pe_imp (pe_lst hs) fun σ H Q ⟨S, F, ρ, R, v, h⟩ => by
  refine ⟨S, F, ρ, R, v, Wf.bind h fun x S1 F1 H1 dx R1 e1 c1 rx h1 => ?_⟩
  unfold dLst at h1
  split at h1
  · rename_i hl
    exact ⟨by rw [rx.length]; exact hl, fun p hp => h1.new e1.fh c1 (.lst rx) hp⟩
  · exact h1.elim
def dSlL : D → Option Int → Option Int → Rs → Res D := fun x lo hi R => match x with
  | .lst ds => .ok (.lst (cutD ds lo hi)) R
  | _ => .bad
def gSlL (g : G) (l h : GO) : G := fun ρ R => (g ρ R).bind fun x R1 => (l ρ R1).bind fun a R2 => (h ρ R2).bind fun b R3 => dSlL x a b R3
end
/-! ### [e for x in xs if t] -/
def lcG (T : TD) (tt : GT) (ge : G) : List D → PEnv → Rs → Res (List D)
  | [], _, R => .ok [] R
  | d :: ds, ρ, R => match T d ρ with
    | none => .bad
    | some ρ1 => (tt ρ1 R).bind fun b R1 => match b with
      | true => (ge ρ1 R1).bind fun y R2 => (lcG T tt ge ds ρ R2).bind fun ys R3 => .ok (y :: ys) R3
      | false => lcG T tt ge ds ρ R1
def Res.calm {α : Type} (r : Res α) : Res α := match r with
  | .exc _ _ _ => .bad
  | r => r
@[simp] theorem Res.calm_ok {α : Type} (a : α) (R : Rs) : (Res.ok a R).calm = .ok a R := rfl
@[simp] theorem Res.calm_bad {α : Type} : (Res.bad : Res α).calm = .bad := rfl
def wipeD (ρ : PEnv) : List Nat → PEnv
  | [] => ρ
  | v :: vs => (wipeD ρ vs).set v none
def gLc (vs : List Nat) (it : GI) (T : TD) (tt : GT) (ge : G) : G := fun ρ R => (it ρ R).bind fun ds R1 => ((lcG T tt ge ds (wipeD ρ vs) R1).calm).bind dLst
def gYes : GT := fun _ R => .ok true R
theorem wipe_view {K : PySem.W.Frag} {S : List Addr} {F H : Hp} {ρ : PEnv} {R : Rs} {σ : L2.St} (v : View K S F H ρ R σ) : ∀ vs : List Nat, View K S F H (wipeD ρ vs) R (wipe σ vs)
  | [] => v
  | w :: vs => by
    have ih := wipe_view v vs
    refine ⟨ih.fh, fun i d h => ?_, ih.cells, by show ((wipeD ρ vs).set w none).length = ((wipe σ vs).set w none).length; simpa using ih.len⟩
    have h : ((wipeD ρ vs).set w none)[i]? = some (some d) := h
    show ∃ u, ((wipe σ vs).set w none)[i]? = some (some u) ∧ _
    by_cases e : w = i
    · subst e
      rw [List.getElem?_set] at h
      simp at h
    · rw [List.getElem?_set_ne e] at h ⊢
      exact ih.env i d h
theorem wipe_in {σ : L2.St} {i : Nat} : ∀ {vs : List Nat}, i ∈ vs → (wipe σ vs)[i]? = if i < σ.length then some none else none
  | [], h => by simp at h
  | w :: ws, h => by
    show ((wipe σ ws).set w none)[i]? = _
    by_cases e : w = i
    · subst e
      rw [List.getElem?_set, wipe_length]
      simp
    · rw [List.getElem?_set_ne e]
      exact wipe_in (by
        rcases List.mem_cons.mp h with z | z
        · exact absurd z.symm e
        · exact z)
theorem wipe_wipe (σ : L2.St) (vs : List Nat) : wipe (wipe σ vs) vs = wipe σ vs := by
  apply List.ext_getElem?
  intro i
  by_cases h : i ∈ vs
  · rw [wipe_in h, wipe_in h, wipe_length]
  · rw [wipe_out h]
/-- the block of a comprehension, turn by turn, when what is walked is known -/
theorem tLc_core {K : PySem.W.Frag} {E : XK} {vs : List Nat} {T : TD} {t : TG} {tt : GT} {ge : G} {σ : L2.St} {H1 : Hp} {Q : VK} {S1 : List Addr} {F1 : Hp} {ρ : PEnv} {R1 : Rs} {J : It} {ds : List D} (hT : TgD K t T vs) (v1 : View K S1 F1 H1 ρ R1 σ) (rJ : WalkD K F1 J ds) (h1 : Wf K E S1 F1 H1 (((lcG T tt ge ds (wipeD ρ vs) R1).calm).bind dLst) Q) :
    tLc (fun _ H R => R J H) t (tPT K XF tt) (tP K XF ge) vs σ H1 Q := by
  intro p hp
  obtain ⟨Y, w, hy⟩ := rJ
  have c1 := v1.cells
  have e1 : Ext S1 F1 H1 S1 F1 H1 := .refl v1.fh
  have hF1p : F1 p = none := v1.fh.free hp
  refine lc_it w (fun i H => ∃ S F R acc dacc, Ext S1 F1 H1 S F H ∧ Cells K S F H R ∧ H p = some (.lst acc) ∧ Reps K F acc dacc ∧ F p = none ∧ p ∉ S ∧
    ∃ ys R', lcG T tt ge (ds.drop i) (wipeD ρ vs) R = .ok ys R' ∧ (dacc ++ ys).length ≤ sizeLine ∧ Wf K E S1 F1 H1 (.ok (.lst (dacc ++ ys)) R') Q) ?_ ?_ ?_ ?_
  · refine ⟨S1, F1, R1, [], [], .newO e1.fh hp, c1.upd (c1.fresh hp), upd_same, .nil, hF1p, c1.fresh hp, ?_⟩
    rw [List.drop_zero]
    cases q : lcG T tt ge ds (wipeD ρ vs) R1 with
    | ok ys R' =>
      rw [q] at h1
      simp only [Res.calm_ok, Res.bind_ok] at h1
      unfold dLst at h1
      split at h1
      · rename_i hl
        exact ⟨ys, R', rfl, hl, h1⟩
      · exact h1.elim
    | exc c fs R' => rw [q] at h1; exact h1.elim
    | bad => rw [q] at h1; exact h1.elim
  · rintro i H hi ⟨S, F, R, acc, dacc, e, c, _⟩
    exact e.f.trans e.fh
  · rintro i x H H2 hi ⟨S, F, R, acc, dacc, e, c, hD, ra, hFp, hSp, ys, R', hg, hlen, hw⟩ y
    have hd : ds[i]? = some ds[i] := List.getElem?_eq_getElem hi
    obtain ⟨hH, F2, e2, r2⟩ := hy i ds[i] H x H2 F hd e.f e.fh y
    have e2 := e2 S fun b hb u z => c.nt hb z
    have c2 := c.pure e2 hH
    have v2 : View K S F2 H2 (wipeD ρ vs) R (wipe σ vs) := wipe_view (v1.ext (e.trans e2) c2) vs
    have hD2 := hH _ _ hD
    have hF2 := e2.nw p _ hD (.inr rfl) hFp
    rw [List.drop_eq_getElem_cons hi] at hg
    unfold lcG at hg
    cases q : T ds[i] (wipeD ρ vs) with
    | none => rw [q] at hg; cases hg
    | some ρ1 =>
      rw [q] at hg
      refine hT F2 H2 x ds[i] (wipeD ρ vs) (wipe σ vs) (wipe σ vs) (wipeD ρ vs) ρ1 _ e2.fh r2 q .refl fun σ' u => ⟨?_, ?_⟩
      · rw [u.wipe, wipe_wipe]
      · dsimp only at hg
        have v3 := u.view v2
        refine ⟨S, F2, ρ1, R, v3, ?_⟩
        cases qt : tt ρ1 R with
        | ok b R3 =>
          rw [qt] at hg
          simp only [Res.bind_ok] at hg
          intro b' S3 F3 H3 e3 c3 hb
          subst hb
          have hD3 := e3.fr p _ hD2 hSp
          have hF3 := e3.nw p _ hD2 (.inr rfl) hF2
          have hS3 : p ∉ S3 := fun z => by have := e3.sn p z hSp; rw [hD2] at this; cases this
          cases b' with
          | true =>
            simp only [if_true]
            refine ⟨S3, F3, ρ1, R3, v3.ext e3 c3, ?_⟩
            dsimp only at hg
            cases qe : ge ρ1 R3 with
            | ok y R4 =>
              rw [qe] at hg
              simp only [Res.bind_ok] at hg
              intro yv S4 F4 H4 e4 c4 ry
              have hD4 := e4.fr p _ hD3 hS3
              have hF4 := e4.nw p _ hD3 (.inr rfl) hF3
              have hS4 : p ∉ S4 := fun z => by have := e4.sn p z hS3; rw [hD3] at this; cases this
              cases ql : lcG T tt ge (ds.drop (i + 1)) (wipeD ρ vs) R4 with
              | ok zs R5 =>
                rw [ql] at hg
                simp only [Res.bind_ok, Res.ok.injEq] at hg
                obtain ⟨rfl, rfl⟩ := hg
                have eAll := ((e.trans e2).trans e3).trans e4
                have hal : acc.length = dacc.length := ra.length
                refine ⟨acc, hD4, by rw [hal]; simp at hlen; omega, S4, F4, R4, acc ++ [yv], dacc ++ [y], ?_, c4.upd hS4, upd_same, ?_, hF4, hS4, zs, R5, ql, ?_, ?_⟩
                · exact ⟨eAll.s, eAll.f, fun b u h => by rw [upd_ne (ne_of_none h hF4)]; exact eAll.fh b u h, fun b u h hb => by rw [upd_ne (ne_of_none h hp)]; exact eAll.fr b u h hb, fun b u h => by rw [upd_ne (ne_of_none h hp)]; exact eAll.th b u h, eAll.nw, eAll.sn⟩
                · exact (ra.mono ((e2.f.trans e3.f).trans e4.f)).append (.cons ry .nil)
                · simpa using hlen
                · simpa using hw
              | exc c fs R5 => rw [ql] at hg; cases hg
              | bad => rw [ql] at hg; cases hg
            | exc c fs R4 => rw [qe] at hg; cases hg
            | bad => rw [qe] at hg; cases hg
          | false =>
            rw [if_neg (by decide)]
            exact ⟨S3, F3, R3, acc, dacc, (e.trans e2).trans e3, c3, hD3, ra.mono (e2.f.trans e3.f), hF3, hS3, ys, R', hg, hlen, hw⟩
        | exc c fs R3 => rw [qt] at hg; cases hg
        | bad => rw [qt] at hg; cases hg
  · rintro H ⟨S, F, R, acc, dacc, e, c, hD, ra, hFp, hSp, ys, R', hg, hlen, hw⟩
    rw [List.drop_length] at hg
    cases hg
    rw [List.append_nil] at hw
    exact hw p _ S F H e c hD (.lst ra) hFp hp hSp
/-- .. what is walked is an expression's value -/
theorem tLc_of {K : PySem.W.Frag} {E : XK} {vs : List Nat} {it : GI} {T : TD} {t : TG} {tt : GT} {ge : G} {σ : L2.St} {H : Hp} {Q : VK} (hT : TgD K t T vs) (h : tF K E (gLc vs it T tt ge) σ H Q) :
    tLc (tG K E (fun _ F J ds => WalkD K F J ds) it) t (tPT K XF tt) (tP K XF ge) vs σ H Q := by
  obtain ⟨S, F, ρ, R, v, h⟩ := h
  exact ⟨S, F, ρ, R, v, Wf.bind h fun J S1 F1 H1 ds R1 e1 c1 rJ h1 => tLc_core hT (v.ext e1 c1) rJ h1⟩
section
variable {X : Cx} {E : XK} {vs : List Nat} {it : GI} {T : TD} {t : TG} {tt : GT} {ge : G} {elt tg iter : Expr} {ifs : List Expr} {scope : Scope} {own : List (Str × Nat)} {pos : Pos}
theorem evf_lc (hv : own.map (·.2) = vs) (hc : X.calm = true) (hN : X.N.Nodup) (hi : EvI X E tg iter it) (ok : BlkOk X.N X.env.scope scope own)
    (hg : ∀ (s : Shared) (H : Hp) (C : Addr) (cl : List (Str × Addr)) (fp : List Addr), PG (X.blk s H scope (compEnvC scope cl C X.env) fp) tg t) (hT : TgD X.K t T vs) (ht : ∀ (s : Shared) (H : Hp) (C : Addr) (cl : List (Str × Addr)) (fp : List Addr), PTs (X.blk s H scope (compEnvC scope cl C X.env) fp) ifs (tPT X.K XF tt))
    (he : ∀ (s : Shared) (H : Hp) (C : Addr) (cl : List (Str × Addr)) (fp : List Addr), PE (X.blk s H scope (compEnvC scope cl C X.env) fp) elt (tP X.K XF ge)) (hs : ∀ x, foldedSetIterable iter X.env x = pure x := by intro _; rfl) :
    EvF X E (.ListComp elt [⟨tg, iter, ifs, 0⟩] scope pos) (gLc vs it T tt ge) := by
  subst hv
  exact pe_imp (pe_lc hc hN hi ok hg ht he hs) fun _ _ _ => tLc_of hT
theorem pts_yes {X : Cx} {E : XK} {K : PySem.W.Frag} : PTs X [] (tPT K E gYes) := ⟨fun pins s σ H Q I ⟨S, F, ρ, R, v, h⟩ => pts_nil.run pins s σ H Q I (h.now v.fh v.cells rfl)⟩
end
end Pv

namespace Pv
open PySem PySem.Spec PyProof.Rows L2 Sr
/-! ### owned slots -/
def okO (m : Md) (d : D) (R : Rs) : Bool := match m with
  | .f => true
  | .g => immO d && R.all immO
section
variable {X : Cx} {E : XK} {own own' ol vs : List Nat} {e : Expr} {es : List Expr} {g : G} {gs : GA} {pos : Pos} {K : PySem.W.Frag} {S0 S S' : List Addr} {F0 H0 F H F' H' : Hp} {ρ : PEnv} {R R' : Rs} {σ : L2.St}
theorem SIn.extG (s : SIn K S0 F0 H0 own ρ R σ S F H) : Ext S0 F0 H0 S (allF own ρ σ F H) H := ⟨s.ext.s, s.ext.f.trans s.f_allF, s.allF_h, s.ext.fr, s.ext.th, fun b u h1 ht h2 => by
    have h3 := s.ext.nw b u h1 ht h2
    unfold allF
    split
    · rename_i ho
      have := (s.own_none ho).2.2.1
      rw [h1] at this; cases this
    · exact h3, s.ext.sn⟩
theorem see_wf {m : Md} {k : D → Rs → Out} {Dn : Ends} {Q : VK} (s : SRel X.K S0 F0 H0 own ρ R σ H) (h : WpS X.K E S0 F0 H0 own' ol ((g (see m own ρ) R).out k) Dn)
    (hq : ∀ p o d R1 S F S1 F1 H1, SIn X.K S0 F0 H0 own ρ R σ S F H → (m = .f → Ext S F H S1 F1 H1) → (m = .g → Ext S (allF own ρ σ F H) H S1 F1 H1) → Cells X.K S1 F1 H1 R1 → H1 p = some o → RepO X.K F1 o d → F1 p = none → H p = none → p ∉ S1 → WpS X.K E S0 F0 H0 own' ol (k d R1) Dn → Q (.ref p) H1) : tF X.K E g σ H Q := by
  obtain ⟨S, F, s⟩ := s
  cases m with
  | f =>
    refine ⟨S, F, hide own ρ, R, s.view, ?_⟩
    cases q : g (hide own ρ) R with
    | ok a R1 =>
      simp only [see, q] at h
      exact fun p o S1 F1 H1 e1 c1 h1 h2 h3 h4 h5 => hq p o a R1 S F S1 F1 H1 s (fun _ => e1) (fun z => nomatch z) c1 h1 h2 h3 h4 h5 h
    | exc c fs R1 =>
      simp only [see, q] at h
      exact fun d S1 F1 H1 e1 c1 rb => h d S1 F1 H1 (s.ext.trans e1) c1 rb
    | bad => simp only [see, q] at h; exact h
  | g =>
    refine ⟨S, _, ρ, R, s.full, ?_⟩
    cases q : g ρ R with
    | ok a R1 =>
      simp only [see, q] at h
      exact fun p o S1 F1 H1 e1 c1 h1 h2 h3 h4 h5 => hq p o a R1 S F S1 F1 H1 s (fun z => nomatch z) (fun _ => e1) c1 h1 h2 h3 h4 h5 h
    | exc c fs R1 =>
      simp only [see, q] at h
      exact fun d S1 F1 H1 e1 c1 rb => h d S1 F1 H1 (s.extG.trans e1) c1 rb
    | bad => simp only [see, q] at h; exact h
/-- x = a new cell, x owned -/
def gSetO (m : Md) (own : List Nat) (i : Nat) (g : G) : GS := fun ρ R => (g (see m own ρ) R).out fun d R1 => if okO m d R1 && own.contains i then .nx (ρ.set i (some d)) R1 else .bad
theorem SIn.newO {i : Nat} {p : Addr} {o : HO} {d : D} (s : SIn K S0 F0 H0 own ρ R σ S F H) (hb : ∀ u, H0 p ≠ some u) (hi : i ∈ own) (hp : H p = some o) (r : RepO K F o d) (hF : F p = none) (hS : p ∉ S) (hn : ∀ j ∈ own, ∀ d, ρ[j]? = some (some d) → σ[j]? ≠ some (some (.ref p))) :
    SIn K S0 F0 H0 own (ρ.set i (some d)) R (σ.set i (some (.ref p))) S F H :=
  s.setO hi hp r hF hS (by cases q : H0 p with | none => rfl | some u => exact absurd q (hb u)) fun j hj d h _ => hn j hj d h
theorem tSetO_of {m : Md} {i : Nat} {Dn : Ends} (h : tS X.K E own own ol (gSetO m own i g) Dn σ H) : tAsg (tF X.K E g) (gName i) Dn σ H := by
  obtain ⟨S0, F0, H0, ρ, R, s, h⟩ := h
  refine see_wf s h fun p o d R1 S F S1 F1 H1 s ef eg c hp r hF hn hS h1 => ?_
  have hb : ∀ u, H0 p ≠ some u := fun u q => by
    obtain ⟨u', q'⟩ := s.ext.th p u q
    rw [hn] at q'; cases q'
  have hno : ∀ j ∈ own, ∀ d, ρ[j]? = some (some d) → σ[j]? ≠ some (some (.ref p)) := fun j hj d h1 h2 => by
    obtain ⟨_, _, _, o, h3, _⟩ := s.own_none ⟨j, hj, d, h1, h2⟩
    rw [hn] at h3; cases h3
  split at h1
  · rename_i hc
    simp only [Bool.and_eq_true, List.contains_eq_mem, decide_eq_true_eq] at hc
    cases m with
    | f =>
      have s2 := s.on (ef rfl) c
      exact h1 _ _ ⟨_, _, s2.newO hb hc.2 hp r hF hS hno⟩
    | g =>
      have hm2 : immO d = true ∧ R1.all immO = true := by simpa [okO] using hc.1
      obtain ⟨s2, h2⟩ := s.onG (eg rfl) c hm2.2
      refine h1 _ _ ⟨_, _, s2.newO hb hc.2 hp (r.imm h2 hm2.1) ?_ hS hno⟩
      unfold cutF; split
      · rfl
      · exact hF
  · exact h1.elim
theorem st_setO (m : Md) {i : Nat} {x : Str} {pos' : Pos} (hN : X.N.Nodup) (hi : X.N[i]? = some x) (hx : Loc X.env.scope x) (he : EvF X E e g) (hs : swapsWith e (some (.Name x pos')) pos.line X.env = pure false := by rfl) (hf : X.fn x = true ∨ X.env.scope.names.lookup x = some .local := by first | exact .inl rfl | exact .inr rfl | assumption) :
    Stm X E own own ol (.Assign [.Name x pos'] e pos) (gSetO m own i g) := ps_imp (ps_set hN hi hx he hs hf) fun _ _ _ => tSetO_of
/-- x.append(e), x owned -/
def gApp (m : Md) (own : List Nat) (i : Nat) (g : G) : GS := fun ρ R => match ρ[i]? with
  | some (some (.lst ds)) => (g (see m own ρ) R).out fun d R1 => if okM m d R1 && own.contains i && decide (ds.length < sizeLine) then .nx (ρ.set i (some (.lst (ds ++ [d])))) R1 else .bad
  | _ => .bad
theorem SRel.lstAt {i : Nat} {ds : List D} (s : SRel K S0 F0 H0 own ρ R σ H) (hi : i ∈ own) (h : ρ[i]? = some (some (.lst ds))) : ∃ a xs, σ[i]? = some (some (.ref a)) ∧ H a = some (.lst xs) ∧ xs.length = ds.length := by
  obtain ⟨S, F, s⟩ := s
  obtain ⟨v, h1, a, o, rfl, h3, h4, h5, h6, h7⟩ := s.ow i hi _ h
  cases h4 with
  | lst r => exact ⟨a, _, h1, h3, r.length⟩
theorem SIn.lstAt {i : Nat} {ds : List D} (s : SIn K S0 F0 H0 own ρ R σ S F H) (hi : i ∈ own) (h : ρ[i]? = some (some (.lst ds))) : ∃ a xs, σ[i]? = some (some (.ref a)) ∧ H a = some (.lst xs) ∧ Reps K F xs ds ∧ a ∉ S := by
  obtain ⟨v, h1, a, o, rfl, h3, h4, h5, h6, h7⟩ := s.ow i hi _ h
  cases h4 with
  | lst r => exact ⟨a, _, h1, h3, r, h6⟩
theorem st_app (m : Md) {i : Nat} (hio : i ∈ own) {o : Expr} {apos cpos : Pos} (ho : PE X o (tVar i)) (he : EvA X E [e] (gCons g gNil))
    (hbase : attributeBase o "append" X.env (eval o X.env) = eval o X.env := by rfl)
    (hfew : ((backTo cpos (starEach [e] X.env)).all (fun x => !x.1) && (backToKw cpos (keywordEach [] X.env)).all (fun x => x.1.isSome)
      && decide (([e] : List Expr).length + ([] : List Keyword).length + (if ([] : List Keyword).isEmpty then 0 else 1) < 30)) = true := by rfl)
    (hline : (apos.endLine == cpos.line) = true := by rfl) (hs : starEach [e] X.env = (false, eval e X.env) :: starEach [] X.env := by rfl) (hplain : (backTo cpos (starEach [] X.env)).any (·.1) = false := by rfl)
    (hsw : swapsWith (.Call (.Attribute o "append" apos) [e] [] cpos) none pos.line X.env = pure false := by rfl) :
    Stm X E own own ol (.Expr (.Call (.Attribute o "append" apos) [e] [] cpos) pos) (gApp m own i g) := ps_imp (ps_expr (pe_bmL PySem.F.slot_list_append PySem.F.type_list_append mt_append ho he hbase hfew hline hs hplain) hsw) fun Dn σ H ⟨S0, F0, H0, ρ, R, s, h⟩ => by
  unfold gApp at h
  split at h
  · rename_i ds hds
    obtain ⟨a, xs, hσ, hH, hl⟩ := s.lstAt hio hds
    refine ⟨_, hσ, ⟨a, xs, rfl, hH⟩, ?_⟩
    have h' : WpS X.K E S0 F0 H0 own ol (((gCons g gNil) (see m own ρ) R).out fun ds' R1 => match ds' with
        | [d] => if okM m d R1 && own.contains i && decide (ds.length < sizeLine) then .nx (ρ.set i (some (.lst (ds ++ [d])))) R1 else .bad
        | _ => .bad) Dn := by
      unfold gCons gNil
      cases q : g (see m own ρ) R with
      | ok d R1 => rw [q] at h; exact h
      | exc c fs R1 => rw [q] at h; exact h
      | bad => rw [q] at h; exact h
    refine see_wp rfl s h' fun us ds' R1 S F S1 F1 H1 s ef eg c r _ h1 => ?_
    split at h1
    · cases r with
      | cons r rr =>
      cases rr
      split at h1
      · rename_i hc
        simp only [Bool.and_eq_true, decide_eq_true_eq] at hc
        obtain ⟨F2, s2, r2⟩ := s.seen ef eg c r hc.1.1
        obtain ⟨b, ys, g1, g2, g3, g4⟩ := s2.lstAt hio hds
        have e1 := hσ.symm.trans g1
        cases e1
        refine ⟨_, ys, _, rfl, rfl, g2, by rw [g3.length]; exact hc.2, ?_⟩
        exact h1 _ _ ⟨_, _, s2.put hio hds g1 (.lst (g3.append (.cons r2 .nil)))⟩
      · exact h1.elim
    · exact h1.elim
  · exact h.elim
/-- x.extend(e), x owned, e a list -/
def gExt (m : Md) (own : List Nat) (i : Nat) (g : G) : GS := fun ρ R => match ρ[i]? with
  | some (some (.lst ds)) => (g (see m own ρ) R).out fun d R1 => match d with
    | .lst es => if okO m (.lst es) R1 && own.contains i && decide (ds.length + es.length ≤ sizeLine) then .nx (ρ.set i (some (.lst (ds ++ es)))) R1 else .bad
    | _ => .bad
  | _ => .bad
/-- x.pop(), x owned -/
def gPop (own : List Nat) (i : Nat) : GS := fun ρ R => match ρ[i]? with
  | some (some (.lst (d :: ds))) => .nx (ρ.set i (some (.lst (d :: ds).dropLast))) R
  | _ => .bad
theorem Reps.dropLast : ∀ {vs : List V} {ds : List D}, Reps K F vs ds → Reps K F vs.dropLast ds.dropLast := fun {vs ds} r => by
  rw [List.dropLast_eq_take, List.dropLast_eq_take, r.length]
  exact r.take _
/-! ### freezing -/
theorem sts_frz {own2 : List Nat} {sts : List Stmt} {g : GS} (hsub : ∀ i ∈ own2, i ∈ own) (h : Sts X E own2 own' ol sts g) : Sts X E own own' ol sts g := pss_imp h fun Dn σ H ⟨S0, F0, H0, ρ, R, ⟨S, F, s⟩, h⟩ => by
  refine ⟨S0, F0, H0, ρ, R, ?_, h⟩
  let fr := own.filter fun i => !own2.contains i
  have hfr : ∀ i, i ∈ fr ↔ i ∈ own ∧ i ∉ own2 := fun i => by simp [fr]
  have sub : ∀ b, OwnA fr ρ σ b → OwnA own ρ σ b := fun b ⟨i, hi, d, h1, h2⟩ => ⟨i, ((hfr i).mp hi).1, d, h1, h2⟩
  have hF : Same F (allF fr ρ σ F H) := fun b u e => by
    unfold allF
    split
    · rename_i h
      rw [(s.own_none (sub b h)).1] at e; cases e
    · exact e
  have hH : Same (allF fr ρ σ F H) H := fun b u e => by
    unfold allF at e
    split at e
    · exact e
    · exact s.same b u e
  refine ⟨S, allF fr ρ σ F H, ⟨s.ext.s, s.ext.f.trans hF, hH, s.ext.fr, s.ext.th, fun b u h1 ht h2 => ?_, s.ext.sn⟩, s.cells.froz hF fun b hb => ?_, fun i d h1 h2 => ?_, fun i hi d h1 => ?_, fun i hi j hj => s.ap i (hsub i hi) j (hsub j hj), s.len⟩
  · have h3 := s.ext.nw b u h1 ht h2
    unfold allF
    split
    · rename_i ho
      have := (s.own_none (sub b ho)).2.2.1
      rw [h1] at this; cases this
    · exact h3
  · unfold allF
    rw [if_neg fun z => (s.own_none (sub b z)).2.1 hb]
    exact (s.cells.has hb).1
  · by_cases hi : i ∈ own
    · obtain ⟨v, h3, a, o, rfl, h4, h5, h6, h7, h8⟩ := s.ow i hi d h1
      refine ⟨_, h3, .inl ((h5.mono hF).rep ?_)⟩
      unfold allF
      rw [if_pos ⟨i, (hfr i).mpr ⟨hi, h2⟩, d, h1, h3⟩]; exact h4
    · obtain ⟨v, h3, h4⟩ := s.sh i d h1 hi
      exact ⟨v, h3, h4.mono (List.prefix_refl _) hF⟩
  · obtain ⟨v, h3, a, o, rfl, h4, h5, h6, h7, h8⟩ := s.ow i (hsub i hi) d h1
    refine ⟨_, h3, a, o, rfl, h4, h5.mono hF, ?_, h7, h8⟩
    unfold allF
    rw [if_neg]
    · exact h6
    · rintro ⟨j, hj, d', q1, q2⟩
      have := s.ap i (hsub i hi) j ((hfr j).mp hj).1 d d' _ h1 q1 h3 q2
      subst this
      exact ((hfr i).mp hj).2 hi
end
end Pv

namespace Pv
open PySem PySem.Spec PyProof.Rows L2 Sr
/-! ### a, b = x, y -/
/-- values, those flagged being new cells -/
inductive Mix (K : PySem.W.Frag) (H : Hp) (S' : List Addr) (F' H' : Hp) : List Bool → List V → List D → Prop
  | nil : Mix K H S' F' H' [] [] []
  | old {fl : List Bool} {v : V} {d : D} {vs : List V} {ds : List D} : Rep K F' v d → Mix K H S' F' H' fl vs ds → Mix K H S' F' H' (false :: fl) (v :: vs) (d :: ds)
  | new {fl : List Bool} {p : Addr} {o : HO} {d : D} {vs : List V} {ds : List D} : H' p = some o → RepO K F' o d → F' p = none → H p = none → p ∉ S' → (∀ k : Nat, fl[k]? = some true → vs[k]? ≠ some (.ref p)) → Mix K H S' F' H' fl vs ds → Mix K H S' F' H' (true :: fl) (.ref p :: vs) (d :: ds)
def Wm (K : PySem.W.Frag) (E : XK) (fl : List Bool) (S : List Addr) (F H : Hp) (r : Res (List D)) (Q : List V → Hp → Prop) : Prop := match r with
  | .ok ds R' => ∀ vs S' F' H', Ext S F H S' F' H' → Cells K S' F' H' R' → Mix K H S' F' H' fl vs ds → Q vs H'
  | .exc c fs R' => ∀ d S' F' H', Ext S F H S' F' H' → Cells K S' F' H' R' → ExcAt K S' F' H' fs d → E (.ref (He.ga K c)) d H'
  | .bad => False
def tM (K : PySem.W.Frag) (E : XK) (fl : List Bool) (g : GA) : TA := fun σ H Q => ∃ S F ρ R, View K S F H ρ R σ ∧ Wm K E fl S F H (g ρ R) Q
abbrev EvM (X : Cx) (E : XK) (fl : List Bool) (es : List Expr) (g : GA) : Prop := PA X es (tM X.K E fl g)
section
variable {X : Cx} {E : XK} {fl : List Bool} {e : Expr} {es : List Expr} {g : G} {gs : GA} {K : PySem.W.Frag} {S S1 : List Addr} {F H F1 H1 : Hp} {σ : L2.St} {R : Rs}
theorem Mix.older {H0 : Hp} (h0 : ∀ p, H p = none → H0 p = none) : ∀ {fl : List Bool} {vs : List V} {ds : List D}, Mix K H S F1 H1 fl vs ds → Mix K H0 S F1 H1 fl vs ds
  | _, _, _, .nil => .nil
  | _, _, _, .old r m => .old r (Mix.older h0 m)
  | _, _, _, .new a b c d e f m => .new a b c (h0 _ d) e f (Mix.older h0 m)
theorem Ext.back (e : Ext S F H S1 F1 H1) {p : Addr} (h : H1 p = none) : H p = none := by
  cases q : H p with
  | none => rfl
  | some u => obtain ⟨u', h'⟩ := e.th p u q; rw [h] at h'; cases h'
theorem Wm.ext {r : Res (List D)} {Q : List V → Hp → Prop} (h : Wm K E fl S F H r Q) (e : Ext S F H S1 F1 H1) : Wm K E fl S1 F1 H1 r Q := by
  cases r with
  | ok a R' => exact fun b S' F' H' e' c r => h b S' F' H' (e.trans e') c (r.older fun p hp => e.back hp)
  | exc c fs R' => exact fun d S' F' H' e' c r => h d S' F' H' (e.trans e') c r
  | bad => exact h
theorem evm_nil : EvM X E [] [] gNil := pa_imp pa_nil fun σ H Q ⟨S, F, ρ, R, v, h⟩ => h [] S F H (.refl v.fh) v.cells .nil
theorem evm_old (h : Ev X E e g) (hs : EvM X E fl es gs) (h0 : starEach (e :: es) X.env = (false, eval e X.env) :: starEach es X.env := by rfl) : EvM X E (false :: fl) (e :: es) (gCons g gs) := pa_imp (pa_cons h hs h0) fun σ H Q ⟨S, F, ρ, R, v, h⟩ => by
  refine ⟨S, F, ρ, R, v, ?_⟩
  unfold gCons at h
  cases q : g ρ R with
  | ok d R1 =>
    rw [q] at h
    intro x S1 F1 H1 e1 c1 rx
    refine ⟨S1, F1, ρ, R1, v.ext e1 c1, ?_⟩
    have h : Wm X.K E (false :: fl) S F H ((gs ρ R1).bind fun xs R2 => .ok (d :: xs) R2) Q := h
    cases q2 : gs ρ R1 with
    | ok ds R2 =>
      rw [q2] at h
      exact fun vs S2 F2 H2 e2 c2 m => h (x :: vs) S2 F2 H2 (e1.trans e2) c2 (.old (e2.rep rx) (m.older fun p hp => e1.back hp))
    | exc c fs R2 => rw [q2] at h; exact fun d S' F' H' e' c r => h d S' F' H' (e1.trans e') c r
    | bad => rw [q2] at h; exact h
  | exc c fs R1 => rw [q] at h; exact h
  | bad => rw [q] at h; exact h
theorem Mix.neq {p : Addr} {o : HO} (hp : H p = some o) : ∀ {fl : List Bool} {vs : List V} {ds : List D}, Mix K H S F1 H1 fl vs ds → ∀ k : Nat, fl[k]? = some true → vs[k]? ≠ some (.ref p)
  | _, _, _, .nil, k, h => by simp at h
  | _, _, _, .old r m, 0, h => by simp at h
  | _, _, _, .old r m, k + 1, h => by simpa using Mix.neq hp m k (by simpa using h)
  | _, _, _, .new a b c d e f m, 0, h => by
    intro z
    simp at z
    rw [z, hp] at d; cases d
  | _, _, _, .new a b c d e f m, k + 1, h => by simpa using Mix.neq hp m k (by simpa using h)
theorem evm_new (h : EvF X E e g) (hs : EvM X E fl es gs) (h0 : starEach (e :: es) X.env = (false, eval e X.env) :: starEach es X.env := by rfl) : EvM X E (true :: fl) (e :: es) (gCons g gs) := pa_imp (pa_cons h hs h0) fun σ H Q ⟨S, F, ρ, R, v, h⟩ => by
  refine ⟨S, F, ρ, R, v, ?_⟩
  unfold gCons at h
  cases q : g ρ R with
  | ok d R1 =>
    rw [q] at h
    intro p o S1 F1 H1 e1 c1 h1 h2 h3 h4 h5
    refine ⟨S1, F1, ρ, R1, v.ext e1 c1, ?_⟩
    have h : Wm X.K E (true :: fl) S F H ((gs ρ R1).bind fun xs R2 => .ok (d :: xs) R2) Q := h
    cases q2 : gs ρ R1 with
    | ok ds R2 =>
      rw [q2] at h
      intro vs S2 F2 H2 e2 c2 m
      have hS2 : p ∉ S2 := fun z => by have := e2.sn p z h5; rw [h1] at this; cases this
      exact h (.ref p :: vs) S2 F2 H2 (e1.trans e2) c2 (.new (e2.fr p o h1 h5) (h2.mono e2.f) (e2.nw p o h1 (.inr h2.nt) h3) h4 hS2 (m.neq h1) (m.older fun p hp => e1.back hp))
    | exc c fs R2 => rw [q2] at h; exact fun d S' F' H' e' c r => h d S' F' H' (e1.trans e') c r
    | bad => rw [q2] at h; exact h
  | exc c fs R1 => rw [q] at h; exact h
  | bad => rw [q] at h; exact h
end
/-- the slots get the values; owned slots get the new cells -/
def setAll : List Nat → List D → PEnv → PEnv
  | i :: is, d :: ds, ρ => setAll is ds (ρ.set i (some d))
  | _, _, ρ => ρ
def setAllV : List Nat → List V → L2.St → L2.St
  | i :: is, d :: ds, σ => setAllV is ds (σ.set i (some d))
  | _, _, σ => σ
/-- the flags of slots: owned ones get new cells -/
def flOk (own : List Nat) : List Nat → List Bool → Bool
  | [], [] => true
  | i :: is, b :: fl => (b == own.contains i) && flOk own is fl
  | _, _ => false
def gPar (own is : List Nat) (fl : List Bool) (gs : GA) : GS := fun ρ R => (gs (hide own ρ) R).out fun ds R1 => if flOk own is fl && decide (is.Nodup) && decide (ds.length = is.length) then .nx (setAll is ds ρ) R1 else .bad
section
variable {X : Cx} {E : XK} {own own' ol : List Nat} {fl : List Bool} {e : Expr} {es : List Expr} {gs : GA} {K : PySem.W.Frag} {S0 S S1 : List Addr} {F0 H0 F H F1 H1 : Hp} {ρ : PEnv} {σ : L2.St} {R : Rs} {pos : Pos}
theorem SIn.setAll {Hb : Hp} (hb : ∀ p, Hb p = none → H0 p = none) : ∀ {is : List Nat} {fl : List Bool} {vs : List V} {ds : List D} {ρ : PEnv} {σ : L2.St}, flOk own is fl = true → is.Nodup → ds.length = is.length → Mix K Hb S F H fl vs ds →
    (∀ (j : Nat), j ∈ own → ∀ d, ρ[j]? = some (some d) → ∀ p, σ[j]? = some (some (.ref p)) → ∀ k : Nat, fl[k]? = some true → vs[k]? ≠ some (.ref p)) → SIn K S0 F0 H0 own ρ R σ S F H → SIn K S0 F0 H0 own (Pv.setAll is ds ρ) R (setAllV is vs σ) S F H
  | [], _, _, _, _, _, hf, hn, hl, m, hd, s => by
    cases m with
    | nil => exact s
    | _ => simp at hl
  | i :: is, _, _, _, ρ, σ, hf, hn, hl, m, hd, s => by
    obtain ⟨hn1, hn2⟩ := List.nodup_cons.mp hn
    cases m with
    | nil => simp at hl
    | old r m =>
      simp only [flOk, Bool.and_eq_true, beq_iff_eq] at hf
      have hi : i ∉ own := by have := hf.1; simpa using this.symm
      refine SIn.setAll (is := is) hb hf.2 hn2 (by simpa using hl) m (fun j hj d h p hp k hk => ?_) (s.set hi (.inl r))
      have hij : i ≠ j := fun z => hi (z ▸ hj)
      rw [List.getElem?_set_ne hij] at h hp
      have := hd j hj d h p hp (k + 1) (by simpa using hk)
      simpa using this
    | @new fl' p o d vs' ds' a1 a2 a3 a4 a5 a6 m =>
      simp only [flOk, Bool.and_eq_true, beq_iff_eq] at hf
      have hi : i ∈ own := by have := hf.1; simpa using this.symm
      have s2 := s.setO hi a1 a2 a3 a5 (hb p a4) fun j hj d' h hji hσ => by
        have := hd j hj d' h p hσ 0 (by simp)
        simp at this
      refine SIn.setAll (is := is) hb hf.2 hn2 (by simpa using hl) m (fun j hj d' h q hq k hk => ?_) s2
      by_cases hij : i = j
      · subst hij
        rw [List.getElem?_set] at hq
        simp only [if_true] at hq
        split at hq
        · cases hq
          exact a6 k hk
        · cases hq
      · rw [List.getElem?_set_ne hij] at h hq
        have := hd j hj d' h q hq (k + 1) (by simpa using hk)
        simpa using this
theorem par_core {is : List Nat} {Dn : Ends} {Q : List V → Hp → Prop} (h : tS X.K E own own ol (gPar own is fl gs) Dn σ H) (hq : ∀ vs H1, vs.length = is.length → Dn.nx (setAllV is vs σ) H1 → Q vs H1) : tM X.K E fl gs σ H Q := by
  obtain ⟨S0, F0, H0, ρ, R, ⟨S, F, s⟩, h⟩ := h
  refine ⟨S, F, hide own ρ, R, s.view, ?_⟩
  unfold gPar at h
  cases q : gs (hide own ρ) R with
  | ok ds R1 =>
    rw [q] at h
    simp only [Res.out_ok] at h
    split at h
    · rename_i hc
      simp only [Bool.and_eq_true, decide_eq_true_eq] at hc
      intro vs S1 F1 H1 e1 c1 m
      have s1 := s.on e1 c1
      have hlen : ∀ {fl : List Bool} {vs : List V} {ds : List D}, Mix X.K H S1 F1 H1 fl vs ds → vs.length = ds.length := by
        intro fl vs ds m
        induction m with
        | nil => rfl
        | old _ _ ih => simp [ih]
        | new _ _ _ _ _ _ _ ih => simp [ih]
      refine hq vs H1 ((hlen m).trans hc.2) (h _ _ ⟨_, _, SIn.setAll (Hb := H) (fun p hp => s.ext.back hp) hc.1.1 hc.1.2 hc.2 m (fun j hj d h1 p hp k hk => ?_) s1⟩)
      obtain ⟨_, _, _, o, h3, _⟩ := s.own_none ⟨j, hj, d, h1, hp⟩
      exact m.neq h3 k hk
    · exact h.elim
  | exc c fs R1 => rw [q] at h; exact fun d S1 F1 H1 e1 c1 rb => h d S1 F1 H1 (s.ext.trans e1) c1 rb
  | bad => rw [q] at h; exact h
theorem st_par {i j : Nat} {x y : Str} {a b : Expr} {px py pt : Pos} {kt k2 pt2} (hc : X.calm = true) (hN : X.N.Nodup) (hi : X.N[i]? = some x) (hj : X.N[j]? = some y) (hij : i ≠ j)
    (hx : X.env.scope.names.lookup x = some .local) (hy : X.env.scope.names.lookup y = some .local) (ha : EvM X E fl [a, b] gs)
    (hw : swappedStores [.Tuple [.Name x px, .Name y py] kt pt] (.Tuple [a, b] k2 pt2) X.env = pure (some [x, y]))
    (hs : swapsWithSole [.Tuple [.Name x px, .Name y py] kt pt] (.Tuple [a, b] k2 pt2) pos.line X.env = pure false := by rfl) :
    Stm X E own own ol (.Assign [.Tuple [.Name x px, .Name y py] kt pt] (.Tuple [a, b] k2 pt2) pos) (gPar own [i, j] fl gs) := ps_imp (ps_par hc hN hi hj hij hx hy ha hw hs) fun Dn σ H h =>
  par_core h fun vs H1 hl hn => match vs, hl, hn with
    | [v, w], _, hn => ⟨v, w, rfl, hn⟩
/-- targets = e, by a tuple or a list that is made first -/
def gAsg (m : Md) (own vs : List Nat) (T : TD) (g : G) : GS := fun ρ R => (g (see m own ρ) R).out fun d R1 => if okM m d R1 && vs.all (fun i => !own.contains i) then match T d ρ with
  | some ρ1 => .nx ρ1 R1
  | none => .bad
  else .bad
theorem st_asg (m : Md) {tg : Expr} {g : G} {t : TG} {T : TD} {vs : List Nat} (he : Ev X E e g) (hg : PG X tg t ∧ TgD X.K t T vs) (hs : swapsWithSole [tg] e pos.line X.env = pure false := by rfl) (hw : swappedStores [tg] e X.env = pure none := by rfl) (h1 : (assignEach [tg] X.env).map (·.2) = [assign tg X.env] := by rfl) : Stm X E own own ol (.Assign [tg] e pos) (gAsg m own vs T g) := ps_imp (ps_asg he hg.1 hs hw h1) fun Dn σ H ⟨S0, F0, H0, ρ, R, s, h⟩ => by
  refine see_wp rfl s h fun v d R1 S F S1 F1 H1 s ef eg c r _ h1 => ?_
  split at h1
  · rename_i hc
    have hv : ∀ i ∈ vs, i ∉ own := by simpa using (Bool.and_eq_true_iff.mp hc).2
    obtain ⟨F2, s2, r2⟩ := s.seen ef eg c r (Bool.and_eq_true_iff.mp hc).1
    split at h1
    · rename_i ρ1 q
      exact hg.2 F2 H1 v d ρ σ σ ρ ρ1 _ s2.same r2 q .refl fun σ' u => h1 _ _ ⟨_, _, u.sin hv s2⟩
    · exact h1.elim
  · exact h1.elim
end
end Pv

namespace Pv
open PySem PySem.Spec PyProof.Rows L2 Sr
/-! ### x += e -/
section
variable {X : Cx} {E : XK} {own ol : List Nat} {e : Expr} {g : G} {pos pos' : Pos}
theorem pass_x (hs : X.stack = X.env :: X.outer) (hf : X.env.frame = some X.env.locals) (hex : X.ex = []) {E1 : Value → Shared → Prop}
    (hx : X.xe = fun e s' => wpAny (model X.prog X.w) X.A (leaving X.env e) (fun _ s'' => L2.CX X.prog X.w X.outer X.H_0 X.s_0 E e s'') E1 s') : Passes (L2.CX X.prog X.w) X E := passes_call (takes_of hs hf hex hx) fun _ _ _ _ h => h
end
/-! ### defs -/
def out1 : Out → Res D
  | .nx _ R => .ok .non R
  | .rt d R => .ok d R
  | .rf d R => .ok d R
  | .exc c fs R => .exc c fs R
  | _ => .bad
def startD (n : Nat) (ds : List D) : PEnv := ds.map some ++ List.replicate (n - ds.length) none
/-- a def's meaning -/
def runB (n : Nat) (g : GS) : List D → Rs → Res D := fun ds R => out1 (g (startD n ds) R)
section
variable {K : PySem.W.Frag} {S : List Addr} {F H : Hp} {R : Rs} {E : XK} {Q : VK}
theorem startD_get {n : Nat} {ds : List D} {vs : List V} {N : List Str} (hN : N.length = n) (r : Reps K F vs ds) {i : Nat} {d : D} (h : (startD n ds)[i]? = some (some d)) : i < ds.length ∧ ∃ v, (L2.start N vs)[i]? = some (some v) ∧ Rep K F v d := by
  unfold startD at h
  unfold L2.start
  by_cases hi : i < ds.length
  · rw [List.getElem?_append_left (by simpa using hi), List.getElem?_map] at h
    cases q : ds[i]? with
    | none => rw [q] at h; cases h
    | some d' =>
      rw [q] at h
      cases h
      obtain ⟨v, h1, h2⟩ := r.get q
      exact ⟨hi, v, by rw [List.getElem?_append_left (by simpa [r.length] using hi), List.getElem?_map, h1]; rfl, h2⟩
  · rw [List.getElem?_append_right (by simpa using hi)] at h
    have := List.mem_of_getElem? h
    simp at this
theorem sin_start {n : Nat} {ds : List D} {vs : List V} {N : List Str} {own : List Nat} (hN : N.length = n) (ho : ∀ i ∈ own, ds.length ≤ i) (hs : Same F H) (c : Cells K S F H R) (r : Reps K F vs ds) : SIn K S F H own (startD n ds) R (L2.start N vs) S F H :=
  ⟨.refl hs, c, fun i d h _ => by
    obtain ⟨_, v, h1, h2⟩ := startD_get hN r h
    exact ⟨v, h1, .inl h2⟩, fun i hi d h => by
    have := (startD_get hN r h).1
    have := ho i hi
    omega, fun i hi j hj d d' v h1 => by
    have := (startD_get hN r h1).1
    have := ho i hi
    omega, by unfold startD L2.start; simp [r.length, hN]⟩
theorem body_wp {g : GS} {own' ol : List Nat} {ρ : PEnv} (h : Wp K E (fun _ F v d => Rep K F v d) S F H (out1 (g ρ R)) Q) : WpS K E S F H own' ol (g ρ R) { nx := fun _ H' => Q .non H', rt := Q } := by
  cases q : g ρ R with
  | nx ρ' R' => rw [q] at h; exact fun σ H ⟨S1, F1, s⟩ => h _ S1 F1 H s.ext s.cells .non
  | rt d R' => rw [q] at h; exact h
  | rf d R' =>
    rw [q] at h
    exact fun a o S1 F1 H1 e c ha r hF hS h0 => h (.ref a) S1 (upd F1 a o) H1 (e.freeze ha hF h0) (c.freeze hF hS) ((r.mono (same_upd hF)).rep upd_same)
  | exc c fs R' => rw [q] at h; exact h
  | bk ρ' R' => rw [q] at h; exact h.elim
  | ct ρ' R' => rw [q] at h; exact h.elim
  | bad => rw [q] at h; exact h.elim
end
section
variable {fa : List He.Fa} {fn : List He.DefD} {gt : List PropD} {ex : PySem.W.Frag → Bool} {K : PySem.W.Frag} {mg : Str → Option Value} {P : Program} {w : World} {base : Heap}
/-- the body of a def, read in its context -/
def BodyP (P : Program) (w : World) (K : PySem.W.Frag) (mg : Str → Option Value) (base : Heap) (k : Nat) (N : List Str) (q : Str) (st : Stmt) (own own' : List Nat) (g : GS) : Prop :=
  ∀ (f : Addr) (cdv : Value) (A : Around) (outer : List Env) (s : Shared) (H : Hp) (E : XK), Room k (A.deeper (envOfC q (defScope st) s.heap.objs.size f cdv)) → Sts (cxOf (L2.CX P w) P w K mg base N q (defScope st) f cdv A outer s H E) E own own' [] (defBody st) g
theorem BodyP.ok {k n : Nat} {N ps : List Str} {q : Str} {st : Stmt} {own own' : List Nat} {g : GS} (B : BodyP P w K mg base k N q st own own' g) (hn : N.length = n) (ho : ∀ i ∈ own, ps.length ≤ i) {f : Addr} {cdv : Value} {A : Around} {outer : List Env} {s : Shared} {H : Hp} {vs : List V} {Q : VK} {E : XK}
    (hr : Room k (A.deeper (envOfC q (defScope st) s.heap.objs.size f cdv))) (h : spP K ps.length (runB n g) vs H Q E) :
    ∃ t, PSs (cxOf (L2.CX P w) P w K mg base N q (defScope st) f cdv A outer s H E) (defBody st) t ∧ t { nx := fun _ H' => Q .non H', rt := Q } (L2.start N vs) H := by
  obtain ⟨S, F, R, ds, hs, c, r, hl, h⟩ := h
  exact ⟨_, B f cdv A outer s H E hr, S, F, H, _, R, ⟨S, F, sin_start hn (fun i hi => by rw [hl]; exact ho i hi) hs c r⟩, body_wp h⟩
theorem fnP {N ps : List Str} {k n : Nat} {x : Str} {own own' : List Nat} {g : GS} (st : Stmt) (S : Say fa fn gt ex K mg) (i j : Nat) (hd : fn[i]? = some ⟨(x, none), x, x, defArgs st, defBody st, defScope st, [], []⟩) (hg : fa[j]? = some (.glo x)) (SC : FnScope N ps (defScope st))
    (hb : ∀ (kV doc pm : Value) (an : Option Addr) (cdv ct : Value) (us : List Value), us.length = ps.length → bindArgs (PySem.W.fnOf x x (defArgs st) (defBody st) (defScope st) .none kV doc pm an cdv ct) ⟨us, []⟩ = pure (ps.zip us))
    (hn : N.length = n) (ho : ∀ i ∈ own, ps.length ≤ i) (B : BodyP P w K mg base k N x st own own' g) : Fn P w K mg base (L2.CX P w) (k + 1) x ps (spP K ps.length (runB n g)) := by
  obtain ⟨fd, F⟩ := S.c.def_ i hd
  exact ⟨_, fd, S.glo j hg, F.kp, F.bindsN hb, F.ok SC spP_len fun cdv A outer s H vs Q E hr h => B.ok hn ho hr h, F.at_⟩
theorem prP {N ps : List Str} {k n : Nat} {c f q : Str} {own own' : List Nat} {g : GS} (st : Stmt) (S : Say fa fn gt ex K mg) (i : Nat) (hd : gt[i]? = some ⟨c, f, q, defArgs st, defBody st, defScope st⟩) (SC : FnScope N ps (defScope st))
    (hb : ∀ (kV doc pm : Value) (an : Option Addr) (cdv ct : Value) (us : List Value), us.length = ps.length → bindArgs (PySem.W.fnOf f q (defArgs st) (defBody st) (defScope st) .none kV doc pm an cdv ct) ⟨us, []⟩ = pure (ps.zip us))
    (hn : N.length = n) (ho : ∀ i ∈ own, ps.length ≤ i) (B : BodyP P w K mg base k N q st own own' g) : PrB P w K mg base (L2.CX P w) (k + 1) (He.ga K c) f ps (spP K ps.length (runB n g)) := by
  obtain ⟨h1, fd, F⟩ := S.prop i hd
  exact ⟨_, _, fd, h1, F.bindsN hb, F.ok SC spP_len fun cdv A outer s H vs Q E hr h => B.ok hn ho hr h⟩
/-! a promise by an equal function -/
theorem spP_eq {n : Nat} {f f' : List D → Rs → Res D} (h : ∀ ds R, ds.length = n → f' ds R ≠ .bad → f' ds R = f ds R) (vs : List V) (H : Hp) (Q : VK) (E : XK) (q : spP K n f' vs H Q E) : spP K n f vs H Q E := by
  obtain ⟨S, F, R, ds, hs, c, r, hl, q⟩ := q
  refine ⟨S, F, R, ds, hs, c, r, hl, ?_⟩
  by_cases hb : f' ds R = .bad
  · rw [hb] at q; exact q.elim
  · rw [← h ds R hl hb]; exact q
theorem _root_.Sr.Fn.to {x : Str} {ps : List Str} {k n : Nat} {CX : CXT} {f f' : List D → Rs → Res D} (F : Fn P w K mg base CX k x ps (spP K n f)) (h : ∀ ds R, ds.length = n → f' ds R ≠ .bad → f' ds R = f ds R) : Fn P w K mg base CX k x ps (spP K n f') := F.imp (spP_eq h)
theorem _root_.Sr.MeB.imp {C : Addr} {m : Str} {ps : List Str} {k : Nat} {CX : CXT} {sp sp' : Sp} (F : MeB P w K mg base CX k C m ps sp) (h : ∀ vs H Q E, sp' vs H Q E → sp vs H Q E) : MeB P w K mg base CX k C m ps sp' := by
  obtain ⟨f, fd, a, b, c, d, e⟩ := F.ex
  exact ⟨f, fd, a, b, c, d, e.imp h⟩
theorem _root_.Sr.MeB.to {C : Addr} {m : Str} {ps : List Str} {k n : Nat} {CX : CXT} {f f' : List D → Rs → Res D} (F : MeB P w K mg base CX k C m ps (spP K n f)) (h : ∀ ds R, ds.length = n → f' ds R ≠ .bad → f' ds R = f ds R) : MeB P w K mg base CX k C m ps (spP K n f') := F.imp (spP_eq h)
theorem _root_.Sr.PrB.to {C : Addr} {m : Str} {ps : List Str} {k n : Nat} {CX : CXT} {f f' : List D → Rs → Res D} (F : PrB P w K mg base CX k C m ps (spP K n f)) (h : ∀ ds R, ds.length = n → f' ds R ≠ .bad → f' ds R = f ds R) : PrB P w K mg base CX k C m ps (spP K n f') := by
  obtain ⟨p, g, fd, a, b, c⟩ := F.ex
  exact ⟨p, g, fd, a, b, c.imp (spP_eq h)⟩
theorem _root_.Sr.Fn.cx0 {x : Str} {ps : List Str} {k : Nat} {CX : CXT} {sp : Sp} (F : Fn P w K mg base CX0 k x ps sp) : Fn P w K mg base CX k x ps sp := by
  obtain ⟨f, fd, a, b, c, d, e⟩ := F.ex
  refine ⟨f, fd, a, b, c, ⟨d.len, fun A outer s H args us vs Q E hr he hb hv hs => codeAny_mono (d.run A outer s H args us vs Q E hr he hb hv hs) fun r s' h => ?_⟩, e⟩
  cases r with
  | error e => exact h.elim
  | ok fl => cases fl <;> exact h
end
end Pv

namespace Pv
open PySem PySem.Spec PyProof.Rows L2 Sr
/-! ### instances -/
def gFld (c f : Str) (g : G) : G := fun ρ R => (g ρ R).bind fun d R1 => match d with
  | .ins c' fs => if c' = c then match fs.lookup f with
    | some v => .ok v R1
    | none => .bad
    else .bad
  | _ => .bad
theorem lookup_rep {K : PySem.W.Frag} {F : Hp} {f : Str} {v : D} : ∀ {fs : List (Str × V)} {gs : List (Str × D)}, fs.map (·.1) = gs.map (·.1) → Reps K F (fs.map (·.2)) (gs.map (·.2)) → gs.lookup f = some v → ∃ u, fs.lookup f = some u ∧ Rep K F u v
  | [], [], _, _, h => by cases h
  | [], _ :: _, e, _, _ => by cases e
  | _ :: _, [], e, _, _ => by cases e
  | (a, x) :: fs, (b, y) :: gs, e, r, h => by
    simp only [List.map_cons, List.cons.injEq] at e
    obtain ⟨rfl, e⟩ := e
    cases r with
    | cons r rr =>
    by_cases hf : f = a
    · subst hf
      simp at h
      subst h
      exact ⟨x, by simp, r⟩
    · have hb : (f == a) = false := by simpa using hf
      simp only [List.lookup, hb] at h ⊢
      exact lookup_rep e rr h
/-- a method's, a property's call -/
def gProp (c : Str) (f : List D → Rs → Res D) (g : G) : G := fun ρ R => (g ρ R).bind fun d R1 => match d with
  | .ins c' fs => if c' = c then f [.ins c' fs] R1 else .bad
  | _ => .bad
def gMeth (c m : Str) (n : Nat) (f : List D → Rs → Res D) (g : G) (gs : GA) : G := fun ρ R => (g ρ R).bind fun d R1 => match d with
  | .ins c' fs => if c' = c ∧ fs.lookup m = none then (gs ρ R1).bind fun ds R2 => if ds.length + 1 = n then f (.ins c' fs :: ds) R2 else .bad
    else .bad
  | _ => .bad
theorem lookup_none {K : PySem.W.Frag} {F : Hp} {f : Str} : ∀ {fs : List (Str × V)} {gs : List (Str × D)}, fs.map (·.1) = gs.map (·.1) → gs.lookup f = none → fs.lookup f = none
  | [], [], _, _ => rfl
  | [], _ :: _, e, _ => by cases e
  | _ :: _, [], e, _ => by cases e
  | (a, x) :: fs, (b, y) :: gs, e, h => by
    simp only [List.map_cons, List.cons.injEq] at e
    obtain ⟨rfl, e⟩ := e
    by_cases hf : f = a
    · subst hf; simp at h
    · have hb : (f == a) = false := by simpa using hf
      simp only [List.lookup, hb] at h ⊢
      exact lookup_none (K := K) (F := F) e h
section
variable {X : Cx} {E : XK} {a b e o : Expr} {es : List Expr} {ga gb g : G} {gs : GA} {pos apos p : Pos} {n k : Nat} {f : List D → Rs → Res D} {c m fl : Str} {ps : List Str} {CX : CXT}
/-- x(..), x an instance -/
def gCallI (c : Str) (n : Nat) (f : List D → Rs → Res D) (g : G) (gs : GA) : G := fun ρ R => (g ρ R).bind fun d R1 => match d with
  | .ins c' fs => if c' = c then (gs ρ R1).bind fun ds R2 => if ds.length + 1 = n then f (.ins c' fs :: ds) R2 else .bad
    else .bad
  | _ => .bad
/-! ### == and != of instances of one class -/
def dEqI (c : Str) (neg : Bool) (f : List D → Rs → Res D) : D → D → Rs → Res D := fun x y R => match x, y with
  | .ins c1 fs, .ins c2 gs => if c1 = c ∧ c2 = c then (f [.ins c1 fs, .ins c2 gs] R).bind fun d R => match d with
    | .bl b => .ok (.bl (neg ^^ b)) R
    | _ => .bad
    else .bad
  | _, _ => .bad
/-! ### operators of instances -/
def dOwnB (c : Str) (f : List D → Rs → Res D) : D → D → Rs → Res D := fun x y R => match x, y with
  | .ins c1 fs, .ins c2 gs => if c1 = c ∧ c2 = c then f [.ins c1 fs, .ins c2 gs] R else .bad
  | _, _ => .bad
def dOwnT (c : Str) (f : List D → Rs → Res D) : D → D → Rs → Res D := fun x y R => match x, y with
  | .ins c1 fs, .int i => if c1 = c then f [.ins c1 fs, .int i] R else .bad
  | _, _ => .bad
def dOwnN (c : Str) (f : List D → Rs → Res D) : D → Rs → Res D := fun x R => match x with
  | .ins c1 fs => if c1 = c then f [.ins c1 fs] R else .bad
  | _ => .bad
end
end Pv

namespace Pv
open PySem PySem.Spec PyProof.Rows L2 Sr
/-! ### dicts -/
section
variable {κ : Type} [DecidableEq κ] {K : PySem.W.Frag} {F : Hp}
def valD (kvs : List (κ × D)) (k : κ) : Option D := (kvs.find? fun kv => decide (kv.1 = k)).map (·.2)
def putD (kvs : List (κ × D)) (k : κ) (v : D) : List (κ × D) :=
  if (kvs.any fun kv => decide (kv.1 = k)) = true then kvs.map (fun kv => if kv.1 = k then (kv.1, v) else kv) else kvs ++ [(k, v)]
/-- the same keys, values that stand for the data -/
def RepK (K : PySem.W.Frag) (F : Hp) (fs : List (κ × V)) (gs : List (κ × D)) : Prop := fs.map (·.1) = gs.map (·.1) ∧ Reps K F (fs.map (·.2)) (gs.map (·.2))
theorem RepK.nil : RepK K F ([] : List (κ × V)) [] := ⟨rfl, .nil⟩
theorem RepK.cons_iff {p : κ × V} {q : κ × D} {fs : List (κ × V)} {gs : List (κ × D)} : RepK K F (p :: fs) (q :: gs) ↔ (p.1 = q.1 ∧ Rep K F p.2 q.2) ∧ RepK K F fs gs := by
  constructor
  · rintro ⟨h1, h2⟩
    simp only [List.map_cons, List.cons.injEq] at h1
    cases h2 with
    | cons a b => exact ⟨⟨h1.1, a⟩, h1.2, b⟩
  · rintro ⟨⟨h1, h2⟩, h3, h4⟩
    exact ⟨by simp [h1, h3], .cons h2 h4⟩
theorem RepK.len {fs : List (κ × V)} {gs : List (κ × D)} (r : RepK K F fs gs) : fs.length = gs.length := by simpa using congrArg List.length r.1
theorem RepK.val {k : κ} : ∀ {fs : List (κ × V)} {gs : List (κ × D)}, RepK K F fs gs → (∀ d, valD gs k = some d → ∃ v, valV fs k = some v ∧ Rep K F v d) ∧ (valD gs k = none → valV fs k = none)
  | [], [], _ => ⟨fun d h => by simp [valD] at h, fun _ => rfl⟩
  | [], _ :: _, r => by have := r.len; simp at this
  | _ :: _, [], r => by have := r.len; simp at this
  | p :: fs, q :: gs, r => by
    obtain ⟨⟨h1, h2⟩, h3⟩ := RepK.cons_iff.mp r
    have ih := RepK.val (k := k) h3
    by_cases e : q.1 = k
    · have e' : p.1 = k := h1.trans e
      simp only [valD, valV, List.find?_cons, e, e', decide_true, Option.map_some]
      exact ⟨fun d h => by cases h; exact ⟨_, rfl, h2⟩, fun h => by cases h⟩
    · have e' : ¬ p.1 = k := fun z => e (h1.symm.trans z)
      simp only [valD, valV, List.find?_cons, e, e', decide_false] at ih ⊢
      exact ih
theorem RepK.any {k : κ} : ∀ {fs : List (κ × V)} {gs : List (κ × D)}, RepK K F fs gs → (fs.any fun kv => decide (kv.1 = k)) = (gs.any fun kv => decide (kv.1 = k))
  | [], [], _ => rfl
  | [], _ :: _, r => by have := r.len; simp at this
  | _ :: _, [], r => by have := r.len; simp at this
  | p :: fs, q :: gs, r => by
    obtain ⟨⟨h1, h2⟩, h3⟩ := RepK.cons_iff.mp r
    simp only [List.any_cons, h1, RepK.any h3]
theorem RepK.mapSet {k : κ} {v : V} {d : D} (hv : Rep K F v d) : ∀ {fs : List (κ × V)} {gs : List (κ × D)}, RepK K F fs gs → RepK K F (fs.map (fun kv => if kv.1 = k then (kv.1, v) else kv)) (gs.map (fun kv => if kv.1 = k then (kv.1, d) else kv))
  | [], [], _ => .nil
  | [], _ :: _, r => by have := r.len; simp at this
  | _ :: _, [], r => by have := r.len; simp at this
  | p :: fs, q :: gs, r => by
    obtain ⟨⟨h1, h2⟩, h3⟩ := RepK.cons_iff.mp r
    rw [List.map_cons, List.map_cons]
    refine RepK.cons_iff.mpr ⟨?_, RepK.mapSet hv h3⟩
    by_cases e : q.1 = k
    · have e' : p.1 = k := h1.trans e
      simp [e, e', hv]
    · have e' : ¬ p.1 = k := fun z => e (h1.symm.trans z)
      simp only [e, e', if_false]
      exact ⟨h1, h2⟩
theorem RepK.put {k : κ} {v : V} {d : D} (hv : Rep K F v d) {fs : List (κ × V)} {gs : List (κ × D)} (r : RepK K F fs gs) : RepK K F (putK fs k v) (putD gs k d) := by
  unfold putK putD
  rw [r.any]
  split
  · exact r.mapSet hv
  · refine ⟨by simp [r.1], ?_⟩
    rw [List.map_append, List.map_append]
    exact r.2.append (.cons hv .nil)
end
def keyOf : D → Option Key
  | .int i => some (.inl i)
  | .str x => some (.inr x)
  | _ => none
/-- d.get(k, x) -/
def gGet2 (gd gk gx : G) : G := fun ρ R => (gd ρ R).bind fun x R1 => match x with
  | .dic kvs => (gk ρ R1).bind fun y R2 => (gx ρ R2).bind fun z R3 => match keyOf y with
    | some k => .ok ((valD kvs k).getD z) R3
    | none => .bad
  | _ => .bad
section
variable {X : Cx} {E : XK} {o i a e f : Expr} {gd gk gx g : G} {gs : GA} {pos apos cpos : Pos} {own ol : List Nat}
def gDNew : G := fun _ R => .ok (.dic []) R
/-- x[k] = e, x an owned dict -/
def gDSet (m : Md) (own : List Nat) (i : Nat) (gk g : G) : GS := fun ρ R => (g (see m own ρ) R).out fun d R1 => if okM m d R1 && own.contains i then match ρ[i]? with
  | some (some (.dic kvs)) => (gk (see m own ρ) R1).out fun y R2 => match keyOf y with
    | some k => if okR m R2 && decide (kvs.length < sizeLine) then .nx (ρ.set i (some (.dic (putD kvs k d)))) R2 else .bad
    | none => .bad
  | _ => .bad
  else .bad
theorem WpS.low {K : PySem.W.Frag} {S0 : List Addr} {F0 F1 H0 : Hp} {out : Out} {Dn : Ends} (h : WpS K E S0 F0 H0 own ol out Dn) (h01 : Same F0 F1) (hn : ∀ b u, H0 b = some u → (b ∈ S0 ∨ tupO u = false) → F0 b = none → F1 b = none) : WpS K E S0 F1 H0 own ol out Dn := by
  cases out with
  | nx ρ R => exact fun σ H ⟨S, F, s⟩ => h σ H ⟨S, F, s.up h01 hn⟩
  | bk ρ R => exact fun σ H ⟨S, F, s⟩ => h σ H ⟨S, F, s.up h01 hn⟩
  | ct ρ R => exact fun σ H ⟨S, F, s⟩ => h σ H ⟨S, F, s.up h01 hn⟩
  | rt d R => exact fun v S F H e c r => h v S F H (e.up h01 hn) c r
  | rf d R => exact fun a o S F H e c => h a o S F H (e.up h01 hn) c
  | exc c fs R => exact fun v S F H e c r => h v S F H (e.up h01 hn) c r
  | bad => exact h
end
end Pv

namespace Pv
open PySem PySem.Spec PyProof.Rows L2 Sr
/-! ### known tuples -/
def dArm : List D → Rs → Res D := fun xs R => if xs.length ≤ sizeLine then .ok (.arm xs) R else .bad
def gArm (gs : GA) : G := fun ρ R => (gs ρ R).bind dArm
section
variable {X : Cx} {E : XK} {a b e : Expr} {es : List Expr} {ga gb g : G} {gs : GA} {pos : Pos} {own ol : List Nat}
theorem wp_arm {K : PySem.W.Frag} {S : List Addr} {F H : Hp} {R : Rs} {xs : List D} {vs : List V} {Q : VK} {o : Obj} (hs : Same F H) (c : Cells K S F H R) (r : Reps K F vs xs) (ho : o.dict = none) (h : Wp K E (fun _ F v d => Rep K F v d) S F H (.ok (.arm xs) R) Q) {p : Addr} (hp : H p = none) : Q (.ref p) (upd H p (.frz o (.tup vs))) :=
  h _ S _ _ (.new hs hp) (c.new hs hp) (.arm upd_same ho (r.mono (same_upd (hs.free hp))))
def dTupA : List D → Rs → Res D := fun ds R => match ds with
  | [.lst xs] => .ok (.arm xs) R
  | _ => .bad
theorem c_tupA : CallR X (.type "tuple") (rTupF X.K) ∧ CallD X.K E (rTupF X.K) dTupA := ⟨call_tupF, fun S F H R vs ds Q hs c r h => by
  unfold dTupA at h
  split at h
  · cases r with
    | cons r rn =>
    cases rn
    cases r with
    | lst hf rs => exact ⟨_, _, rfl, .of (hs _ _ hf), fun p o hp ho => wp_arm hs c rs ho h hp⟩
  · exact h.elim⟩
/-! ### == of data -/
mutual
def D.pd : D → Option PyData
  | .non => some .none
  | .bl b => some (.bool b)
  | .int i => some (.int i)
  | .str x => some (.str x)
  | .tup xs => (pdL xs).map .tuple
  | .arm xs => (pdL xs).map .tuple
  | .lst xs => (pdL xs).map .list
  | _ => none
def pdL : List D → Option (List PyData)
  | [] => some []
  | d :: r => match d.pd, pdL r with
    | some a, some as => some (a :: as)
    | _, _ => none
end
mutual
theorem pd_rep {K : PySem.W.Frag} {F H : Hp} (hs : Same F H) : ∀ {v : V} {d : D} {p : PyData}, Rep K F v d → d.pd = some p → Dp K H v p
  | _, _, _, .non, h => by cases h; exact .non
  | _, _, _, .bl b, h => by cases h; exact .bl b
  | _, _, _, .int i, h => by cases h; exact .int i
  | _, _, _, .str x, h => by cases h; exact .str x
  | _, _, _, .tup (ds := ds) hf r, h => by
    simp only [D.pd] at h
    obtain ⟨ps, h1, rfl⟩ := Option.map_eq_some_iff.mp h
    exact .tup (.of (hs _ _ hf)) (pdL_rep hs r h1)
  | _, _, _, .arm (ds := ds) hf _ r, h => by
    simp only [D.pd] at h
    obtain ⟨ps, h1, rfl⟩ := Option.map_eq_some_iff.mp h
    exact .tup (.inl (.inr ⟨_, hs _ _ hf⟩)) (pdL_rep hs r h1)
  | _, _, _, .lst (ds := ds) hf r, h => by
    simp only [D.pd] at h
    obtain ⟨ps, h1, rfl⟩ := Option.map_eq_some_iff.mp h
    exact .lst (.of (hs _ _ hf)) (pdL_rep hs r h1)
  | _, _, _, .ins _ _ _, h => by simp [D.pd] at h
  | _, _, _, .dic _ _ _, h => by simp [D.pd] at h
  | _, _, _, .dit _ _ _, h => by simp [D.pd] at h
  | _, _, _, .ty _, h => by simp [D.pd] at h
  | _, _, _, .cls _, h => by simp [D.pd] at h
theorem pdL_rep {K : PySem.W.Frag} {F H : Hp} (hs : Same F H) : ∀ {vs : List V} {ds : List D} {ps : List PyData}, Reps K F vs ds → pdL ds = some ps → DpAll K H vs ps
  | _, _, _, .nil, h => by simp [pdL] at h; subst h; exact .nil
  | _, _, ps, .cons r rr, h => by
    simp only [pdL] at h
    split at h
    · rename_i a as h1 h2
      cases h
      exact .cons (pd_rep hs r h1) (pdL_rep hs rr h2)
    · cases h
end
def dEqD (neg : Bool) : D → D → Rs → Res D := fun x y R => match x.pd, y.pd with
  | some a, some b => if SeqAt.shaped a && SeqAt.shaped b then .ok (.bl (neg ^^ PyData.eqv a b)) R else .bad
  | _, _ => .bad
theorem o_eqD (hu : X.A.units + 64 < cLine) : OpR X (compareOp .Eq) (rEqD X.K) ∧ OpD X.K E (rEqD X.K) (dEqD false) := ⟨op_eqD hu, fun S F H R x y dx dy Q hs c rx ry h => by
  unfold dEqD at h
  split at h
  · rename_i p q h1 h2
    split at h
    · rename_i hh
      simp only [Bool.and_eq_true] at hh
      exact ⟨p, q, pd_rep hs rx h1, pd_rep hs ry h2, hh.1, hh.2, by simpa using h.now hs c (.bl _)⟩
    · exact h.elim
  · exact h.elim⟩
theorem o_neD (hu : X.A.units + 64 < cLine) : OpR X (compareOp .NotEq) (rNeD X.K) ∧ OpD X.K E (rNeD X.K) (dEqD true) := ⟨op_neD hu, fun S F H R x y dx dy Q hs c rx ry h => by
  unfold dEqD at h
  split at h
  · rename_i p q h1 h2
    split at h
    · rename_i hh
      simp only [Bool.and_eq_true] at hh
      exact ⟨p, q, pd_rep hs rx h1, pd_rep hs ry h2, hh.1, hh.2, by simpa using h.now hs c (.bl _)⟩
    · exact h.elim
  · exact h.elim⟩
end
end Pv

namespace Pv
open PySem PySem.Spec PyProof.Rows L2 Sr
/-! ### defs whose first argument is a mutable cell -/
def spL (K : PySem.W.Frag) (n : Nat) (f : Nat → List D → Rs → Res D) : Sp := fun vs H Q E => ∃ S F R l a us ds, vs = V.ref a :: us ∧ S[l]? = some a ∧ Same F H ∧ Cells K S F H R ∧ Reps K F us ds ∧ ds.length + 1 = n ∧ Wp K E (fun _ F v d => Rep K F v d) S F H (f l ds R) Q
theorem spL_len {K : PySem.W.Frag} {n : Nat} {f : Nat → List D → Rs → Res D} (vs : List V) (H : Hp) (Q : VK) (E : XK) (h : spL K n f vs H Q E) : vs.length = n := by
  obtain ⟨S, F, R, l, a, us, ds, rfl, _, _, _, r, hl, _⟩ := h
  rw [List.length_cons, r.length]; exact hl
def startL (n l : Nat) (ds : List D) : PEnv := some (.loc l) :: startD (n - 1) ds
def runL (n : Nat) (g : GS) : Nat → List D → Rs → Res D := fun l ds R => out1 (g (startL n l ds) R)
section
variable {K : PySem.W.Frag} {S : List Addr} {F H : Hp} {R : Rs} {E : XK} {Q : VK}
theorem sin_startL {n l : Nat} {a : Addr} {ds : List D} {vs : List V} {N : List Str} {own : List Nat} (hN : N.length = n) (hn : 0 < n) (ho : ∀ i ∈ own, ds.length + 1 ≤ i) (hs : Same F H) (c : Cells K S F H R) (hl : S[l]? = some a) (r : Reps K F vs ds) : SIn K S F H own (startL n l ds) R (L2.start N (.ref a :: vs)) S F H := by
  have hst : ∀ x, L2.start N (x :: vs) = some x :: L2.start (N.drop 1) vs := fun x => by
    unfold L2.start
    simp only [List.map_cons, List.cons_append, List.length_cons, List.length_drop]
    congr 3
    omega
  have hN1 : (N.drop 1).length = n - 1 := by simp [hN]
  have key : ∀ (i : Nat) (d : D), (startL n l ds)[i]? = some (some d) → i < ds.length + 1 ∧ ∃ v, (L2.start N (.ref a :: vs))[i]? = some (some v) ∧ RepV K S F v d := fun i d h => by
    rw [hst]
    cases i with
    | zero =>
      cases h
      exact ⟨by omega, _, rfl, .inr (.inl ⟨l, a, rfl, rfl, hl⟩)⟩
    | succ i =>
      have h : (startD (n - 1) ds)[i]? = some (some d) := h
      obtain ⟨h0, v, h1, h2⟩ := startD_get hN1 r h
      exact ⟨by omega, v, by simpa using h1, .inl h2⟩
  refine ⟨.refl hs, c, fun i d h _ => (key i d h).2, fun i hi d h => ?_, fun i hi j hj d d' v h1 => ?_, ?_⟩
  · have := (key i d h).1
    have := ho i hi
    omega
  · have := (key i d h1).1
    have := ho i hi
    omega
  · rw [hst]
    unfold startL startD L2.start
    simp [r.length, hN]
end
section
variable {fa : List He.Fa} {fn : List He.DefD} {gt : List PropD} {ex : PySem.W.Frag → Bool} {K : PySem.W.Frag} {mg : Str → Option Value} {P : Program} {w : World} {base : Heap}
theorem BodyP.okL {k n : Nat} {N ps : List Str} {q : Str} {st : Stmt} {own own' : List Nat} {g : GS} (B : BodyP P w K mg base k N q st own own' g) (hn : N.length = n) (hp : 0 < n) (ho : ∀ i ∈ own, ps.length ≤ i) {f : Addr} {cdv : Value} {A : Around} {outer : List Env} {s : Shared} {H : Hp} {vs : List V} {Q : VK} {E : XK}
    (hr : Room k (A.deeper (envOfC q (defScope st) s.heap.objs.size f cdv))) (h : spL K ps.length (runL n g) vs H Q E) :
    ∃ t, PSs (cxOf (L2.CX P w) P w K mg base N q (defScope st) f cdv A outer s H E) (defBody st) t ∧ t { nx := fun _ H' => Q .non H', rt := Q } (L2.start N vs) H := by
  obtain ⟨S, F, R, l, a, us, ds, rfl, e1, hs, c, r, hl, h⟩ := h
  exact ⟨_, B f cdv A outer s H E hr, S, F, H, _, R, ⟨S, F, sin_startL hn hp (fun i hi => by rw [hl]; exact ho i hi) hs c e1 r⟩, body_wp h⟩
theorem fnL {N ps : List Str} {k n : Nat} {x : Str} {own own' : List Nat} {g : GS} (st : Stmt) (S : Say fa fn gt ex K mg) (i j : Nat) (hd : fn[i]? = some ⟨(x, none), x, x, defArgs st, defBody st, defScope st, [], []⟩) (hg : fa[j]? = some (.glo x)) (SC : FnScope N ps (defScope st))
    (hb : ∀ (kV doc pm : Value) (an : Option Addr) (cdv ct : Value) (us : List Value), us.length = ps.length → bindArgs (PySem.W.fnOf x x (defArgs st) (defBody st) (defScope st) .none kV doc pm an cdv ct) ⟨us, []⟩ = pure (ps.zip us))
    (hn : N.length = n) (hp : 0 < n) (ho : ∀ i ∈ own, ps.length ≤ i) (B : BodyP P w K mg base k N x st own own' g) : Fn P w K mg base (L2.CX P w) (k + 1) x ps (spL K ps.length (runL n g)) := by
  obtain ⟨fd, F⟩ := S.c.def_ i hd
  exact ⟨_, fd, S.glo j hg, F.kp, F.bindsN hb, F.ok SC spL_len fun cdv A outer s H vs Q E hr h => B.okL hn hp ho hr h, F.at_⟩
theorem meL {N ps : List Str} {k n : Nat} {c m q : Str} {own own' : List Nat} {g : GS} (st : Stmt) (S : Say fa fn gt ex K mg) (i j : Nat) (hd : fn[i]? = some ⟨(c, some m), m, q, defArgs st, defBody st, defScope st, [], []⟩) (hg : fa[j]? = some (.meth c m)) (SC : FnScope N ps (defScope st))
    (hb : ∀ (kV doc pm : Value) (an : Option Addr) (cdv ct : Value) (us : List Value), us.length = ps.length → bindArgs (PySem.W.fnOf m q (defArgs st) (defBody st) (defScope st) .none kV doc pm an cdv ct) ⟨us, []⟩ = pure (ps.zip us))
    (hn : N.length = n) (hp : 0 < n) (ho : ∀ i ∈ own, ps.length ≤ i) (B : BodyP P w K mg base k N q st own own' g) : MeB P w K mg base (L2.CX P w) (k + 1) (He.ga K c) m ps (spL K ps.length (runL n g)) := by
  obtain ⟨fd, F⟩ := S.c.def_ i hd
  have M := He.meth_ok (S.c.fact j hg)
  exact ⟨_, fd, M.at_, M.fn, M.kp, F.bindsN hb, F.ok SC spL_len fun cdv A outer s H vs Q E hr h => B.okL hn hp ho hr h⟩
end
/-- f(x, ..), x a slot that holds a mutable cell -/
def gCallL (i n : Nat) (f : Nat → List D → Rs → Res D) (gs : GA) : G := fun ρ R => match ρ[i]? with
  | some (some (.loc l)) => (gs ρ R).bind fun ds R1 => if ds.length + 1 = n then f l ds R1 else .bad
  | _ => .bad
section
variable {X : Cx} {E : XK} {a b e o : Expr} {es : List Expr} {ga gb g : G} {gs : GA} {pos p : Pos} {n k : Nat} {x : Str} {ps : List Str} {CX : CXT} {own ol : List Nat}
theorem loc_get {K : PySem.W.Frag} {S : List Addr} {F H : Hp} {ρ : PEnv} {R : Rs} {σ : L2.St} {i l : Nat} (v : View K S F H ρ R σ) (h : ρ[i]? = some (some (.loc l))) : ∃ a, σ[i]? = some (some (.ref a)) ∧ S[l]? = some a := by
  obtain ⟨u, h1, h2⟩ := v.env i _ h
  rcases h2 with h2 | ⟨m, a, e1, e2, e3⟩ | h2
  · cases h2
  · cases e1
    subst e2
    exact ⟨a, h1, e3⟩
  · cases h2
theorem tCallL_of {K : PySem.W.Frag} {i : Nat} {f : Nat → List D → Rs → Res D} {σ : L2.St} {H : Hp} {Q : VK} (h : tP K E (gCallL i n f gs) σ H Q) : tCall (spL K n f) [] E (tCons (tVar i) (tPA K E gs)) σ H Q := by
  obtain ⟨S, F, ρ, R, v, h⟩ := h
  unfold gCallL at h
  split at h
  · rename_i l hl
    obtain ⟨a, h1, h2⟩ := loc_get v hl
    refine ⟨_, h1, S, F, ρ, R, v, Wp.bind h fun xs S1 F1 H1 ds R1 e1 c1 rx h1 => ?_⟩
    show spL K n f ((V.ref a :: xs) ++ []) H1 Q E
    rw [List.append_nil]
    split at h1
    · rename_i hn
      exact ⟨S1, F1, R1, l, a, xs, ds, rfl, pre_get e1.s h2, e1.fh, c1, rx, hn, h1⟩
    · exact h1.elim
  · exact h.elim
theorem ev_fnL {i : Nat} {f : Nat → List D → Rs → Res D} (F : Fn X.prog X.w X.K X.mg X.base CX k x ps (spL X.K n f)) (hr : Room k X.A) (hx : Passes CX X E) (ho : PE X e (tVar i)) (ha : EvA X E es gs) (hg : Gl X x := by rfl) (hdb : (x == ("__debug__" : Str)) = false := by decide)
    (he : starEach (e :: es) X.env = (false, eval e X.env) :: starEach es X.env := by rfl) (hpl : (backTo pos (starEach es X.env)).any (·.1) = false := by rfl) :
    Ev X E (.Call (.Name x p) (e :: es) [] pos) (gCallL i n f gs) := pe_imp (pe_fn F hr hx (pa_cons ho ha he) hg hdb he hpl) fun _ _ _ => tCallL_of
/-! ### C(..): a new instance, frozen behind its __init__ -/
def mkEnd (c : Str) (m : Nat) (r : Res D) : Res D := match r with
  | .ok .non R2 => match R2.getLast? with
    | some (.ins c' fs) => if R2.length = m + 1 ∧ c' = c then .ok (.ins c fs) R2.dropLast else .bad
    | _ => .bad
  | .exc e fs R2 => if R2.length = m + 1 then .exc e fs R2.dropLast else .bad
  | _ => .bad
def gMk (c : Str) (n : Nat) (f : Nat → List D → Rs → Res D) (gs : GA) : G := fun ρ R => (gs ρ R).bind fun ds R1 => if ds.length + 1 = n then mkEnd c R1.length (f R1.length ds (R1 ++ [.ins c []])) else .bad
theorem Cells.snoc {K : PySem.W.Frag} {S : List Addr} {F H : Hp} {R : Rs} (c : Cells K S F H R) {x dx : Addr} {C : Str} (hs : Same F H) (hx : H x = none) (hd : H dx = none) (hne : dx ≠ x) : Cells K (S ++ [x]) F (L2.upd (L2.upd H dx (.own x)) x (.ins (He.ga K C) dx [])) (R ++ [.ins C []]) := by
  refine ⟨by simp [c.len], fun i a d h1 h2 => ?_, ?_, fun i a h2 => ?_⟩
  · by_cases hi : i < S.length
    · rw [List.getElem?_append_left hi] at h1
      rw [List.getElem?_append_left (by rw [← c.len]; exact hi)] at h2
      obtain ⟨n, o, h3, h4⟩ := c.at_ i a d h1 h2
      exact ⟨n, o, by rw [upd_ne (ne_of_none h3 hx), upd_ne (ne_of_none h3 hd)]; exact h3, h4⟩
    · rw [List.getElem?_append_right (by omega)] at h1
      rw [List.getElem?_append_right (by rw [← c.len]; omega)] at h2
      have hi2 : i - S.length = 0 := by
        have := (List.getElem?_eq_some_iff.mp h1).1
        simp at this; omega
      have hi3 : i - R.length = 0 := by rw [← c.len]; exact hi2
      rw [hi2] at h1
      rw [hi3] at h2
      cases h1
      cases h2
      exact ⟨hs.free hx, _, upd_same, .ins rfl .nil⟩
  · refine List.nodup_append.mpr ⟨c.nd, by simp, fun a ha b hb => ?_⟩
    have : b = x := by simpa using hb
    subst this
    obtain ⟨_, o, ho⟩ := c.has ha
    exact fun z => by rw [z, hx] at ho; cases ho
  · by_cases hi : i < R.length
    · rw [List.getElem?_append_left hi] at h2
      obtain ⟨z1, z2, z3⟩ := c.tb i a h2
      exact ⟨z1, by rw [List.getElem?_append_left (List.getElem?_eq_some_iff.mp z2).1]; exact z2, by rw [List.getElem?_append_left (List.getElem?_eq_some_iff.mp z3).1]; exact z3⟩
    · rw [List.getElem?_append_right (by omega)] at h2
      rcases hk : i - R.length with _ | k <;> rw [hk] at h2 <;> simp at h2
theorem ext_snoc {S S2 : List Addr} {F F2 H H2 : Hp} {x dx : Addr} {C : Addr} (hx : H x = none) (hd : H dx = none) (e : Ext (S ++ [x]) F (upd (upd H dx (.own x)) x (.ins C dx [])) S2 F2 H2) : S <+: S2 ∧ Same F F2 ∧ Same F2 H2 ∧ (∀ b u, H b = some u → b ∉ S → H2 b = some u) ∧ (∀ b u, H b = some u → ∃ u', H2 b = some u') ∧ (∀ b u, H b = some u → (b ∈ S ∨ tupO u = false) → F b = none → F2 b = none) := by
  have keep : ∀ b u, H b = some u → (upd (upd H dx (.own x)) x (.ins C dx [])) b = some u := fun b u h => by rw [upd_ne (ne_of_none h hx), upd_ne (ne_of_none h hd)]; exact h
  refine ⟨(List.prefix_append _ _).trans e.s, e.f, e.fh, fun b u h hb => e.fr b u (keep b u h) (fun z => ?_), fun b u h => e.th b u (keep b u h), fun b u h t n => e.nw b u (keep b u h) (t.imp_left fun z => List.mem_append_left _ z) n⟩
  rcases List.mem_append.mp z with z | z
  · exact hb z
  · have : b = x := by simpa using z
    rw [this, hx] at h; cases h
theorem prefix_len {S S2 : List Addr} {x : Addr} (h : S ++ [x] <+: S2) (hl : S2.length = S.length + 1) : S2 = S ++ [x] := by
  obtain ⟨t, ht⟩ := h
  have : t = [] := by
    have := congrArg List.length ht
    simp at this
    exact List.eq_nil_of_length_eq_zero (by omega)
  rw [this, List.append_nil] at ht
  exact ht.symm
theorem Cells.drop {K : PySem.W.Frag} {S : List Addr} {F H : Hp} {R : Rs} {x : Addr} (c : Cells K (S ++ [x]) F H R) {F' : Hp} (hF : Same F F') (hn : ∀ b ∈ S, F' b = none) : Cells K S F' H R.dropLast := by
  have hl := c.len
  simp at hl
  have hb : ∀ (i : Nat) (a : Addr), R.dropLast[i]? = some (.tab a) → i = 1 ∧ S[0]? = some a ∧ S[1]? = some (tabP K) := fun i a h2 => by
    have hi : i < S.length := by
      have := (List.getElem?_eq_some_iff.mp h2).1
      simp at this; omega
    rw [List.dropLast_eq_take, List.getElem?_take] at h2
    split at h2
    · obtain ⟨z1, z2, z3⟩ := c.tb i a h2
      subst z1
      exact ⟨rfl, by rw [List.getElem?_append_left (by omega)] at z2; exact z2, by rw [List.getElem?_append_left hi] at z3; exact z3⟩
    · cases h2
  refine ⟨by simp [← hl], fun i a d h1 h2 => ?_, (List.nodup_append.mp c.nd).1, hb⟩
  have hi : i < S.length := (List.getElem?_eq_some_iff.mp h1).1
  have h2' : R[i]? = some d := by
    rw [List.dropLast_eq_take, List.getElem?_take] at h2
    split at h2
    · exact h2
    · cases h2
  obtain ⟨n, o, h3, h4⟩ := c.at_ i a d (by rw [List.getElem?_append_left hi]; exact h1) h2'
  exact ⟨hn a (List.mem_of_getElem? h1), o, h3, h4.mono hF⟩
theorem ev_mk {c : Str} {f : Nat → List D → Rs → Res D} (M : MeB X.prog X.w X.K X.mg X.base CX k (He.ga X.K c) "__init__" ps (spL X.K n f)) (hmk : PySem.W.makesIn X.K (He.ga X.K c) = true) (hkc : PySem.W.keepIn X.K (.ref (He.ga X.K c)) = true) (hm : X.mg x = some (.ref (He.ga X.K c))) (hr : Room (k + 1) X.A) (hx : Passes CX X E) (ha : EvA X E (e :: es) gs)
    (hg : Gl X x := by rfl) (hdb : (x == ("__debug__" : Str)) = false := by decide)
    (he : starEach (e :: es) X.env = (false, eval e X.env) :: starEach es X.env := by rfl) (hpl : (backTo pos (starEach es X.env)).any (·.1) = false := by rfl) :
    Ev X E (.Call (.Name x p) (e :: es) [] pos) (gMk c n f gs) := pe_imp (pe_mk M hmk hkc hm hr hx ha hg hdb he hpl) fun σ H Q ⟨S, F, ρ, R, v, h⟩ => by
  refine ⟨S, F, ρ, R, v, Wp.bind h fun vs S1 F1 H1 ds R1 e1 c1 rx h1 => fun x dx hx hd hne => ?_⟩
  rw [List.append_nil]
  split at h1
  · rename_i hn
    have hlen := c1.len
    refine ⟨S1 ++ [x], F1, R1 ++ [.ins c []], R1.length, x, vs, ds, rfl, by rw [List.getElem?_append_right (by omega)]; simp [hlen], ?_, c1.snoc e1.fh hx hd hne, rx, hn, ?_⟩
    · exact fun b u q => by
        have q' := e1.fh b u q
        rw [upd_ne (ne_of_none q' hx), upd_ne (ne_of_none q' hd)]; exact q'
    cases q : f R1.length ds (R1 ++ [.ins c []]) with
    | bad => rw [q] at h1; exact h1
    | exc ec fs R2 =>
      rw [q] at h1
      simp only [mkEnd] at h1
      split at h1
      · rename_i hl2
        intro d S2 F2 H2 e2 c2 hx2
        obtain ⟨g1, g2, g3, g4, g5, g6⟩ := ext_snoc hx hd e2
        have hS2 := prefix_len e2.s (by rw [c2.len, hl2, hlen])
        subst hS2
        have hS1 : ∀ b ∈ S1, F2 b = none := fun b hb => (c2.has (List.mem_append_left _ hb)).1
        refine h1 d S1 F2 H2 ⟨List.prefix_refl _, g2, g3, g4, g5, g6, fun b z1 z2 => absurd z1 z2⟩ (c2.drop (.refl _) hS1) ?_
        cases hx2 with
        | no => exact .no
        | at_ a1 a2 a3 => exact .at_ a1 a2 a3
      · exact h1.elim
    | ok d R2 =>
      rw [q] at h1
      cases d with
      | non =>
        simp only [mkEnd] at h1
        split at h1
        · rename_i c' fs hlast
          split at h1
          · rename_i hc
            obtain ⟨hl2, rfl⟩ := hc
            intro b S2 F2 H2 e2 c2 rb
            cases rb
            refine ⟨rfl, ?_⟩
            obtain ⟨g1, g2, g3, g4, g5, g6⟩ := ext_snoc hx hd e2
            have hS2 := prefix_len e2.s (by rw [c2.len, hl2, hlen])
            subst hS2
            have hR2 : R2[S1.length]? = some (.ins c' fs) := by
              rw [List.getLast?_eq_getElem?] at hlast
              rw [← hlast, hl2, hlen]; rfl
            obtain ⟨n1, o, n3, n4⟩ := c2.at_ S1.length x (.ins c' fs) (by rw [List.getElem?_append_right (Nat.le_refl _)]; simp) hR2
            have hxS : x ∉ S1 := c1.fresh hx
            have hS1 : ∀ b ∈ S1, (upd F2 x o) b = none := fun b hb => by
              have hbx : b ≠ x := fun z => hxS (by rw [← z]; exact hb)
              rw [upd_ne hbx]; exact (c2.has (List.mem_append_left _ hb)).1
            refine h1 _ S1 (upd F2 x o) H2 ⟨List.prefix_refl _, ?_, ?_, g4, g5, ?_, fun b z1 z2 => absurd z1 z2⟩ (c2.drop (same_upd n1) hS1) ((n4.mono (same_upd n1)).rep upd_same)
            · exact fun b u z => by rw [upd_ne (ne_of_none (g2 b u z) n1)]; exact g2 b u z
            · exact fun b u z => by
                by_cases hb : b = x
                · subst hb; rw [upd_same] at z; cases z; exact n3
                · rw [upd_ne hb] at z; exact g3 b u z
            · exact fun b u z1 zt z2 => by rw [upd_ne (ne_of_none z1 hx)]; exact g6 b u z1 zt z2
          · exact h1.elim
        · exact h1.elim
      | _ => exact h1.elim
  · exact h1.elim
/-! ### fields of a mutable instance -/
def putFD (f : Str) (v : D) : List (Str × D) → List (Str × D)
  | [] => [(f, v)]
  | (g, x) :: r => if g = f then (g, v) :: r else (g, x) :: putFD f v r
theorem putF_rep {K : PySem.W.Frag} {F : Hp} {f : Str} {v : V} {d : D} (hv : Rep K F v d) : ∀ {fs : List (Str × V)} {gs : List (Str × D)}, RepK K F fs gs → RepK K F (putF f v fs) (putFD f d gs)
  | [], [], _ => ⟨rfl, .cons hv .nil⟩
  | [], _ :: _, r => by have := r.len; simp at this
  | _ :: _, [], r => by have := r.len; simp at this
  | (a, x) :: fs, (b, y) :: gs, r => by
    obtain ⟨⟨h1, h2⟩, h3⟩ := RepK.cons_iff.mp r
    have h1 : a = b := h1
    subst h1
    unfold putF putFD
    by_cases e : a = f
    · rw [if_pos e, if_pos e]; exact RepK.cons_iff.mpr ⟨⟨rfl, hv⟩, h3⟩
    · rw [if_neg e, if_neg e]; exact RepK.cons_iff.mpr ⟨⟨rfl, h2⟩, putF_rep hv h3⟩
/-- x.f = e, x a slot with a mutable instance of the class c -/
def gStF (m : Md) (own : List Nat) (i : Nat) (c f : Str) (g : G) : GS := fun ρ R => (g (see m own ρ) R).out fun d R1 => if okM m d R1 then match (hide own ρ)[i]? with
  | some (some (.loc l)) => match R1[l]? with
    | some (.ins c' fs) => if c' = c ∧ fs.length < 1000 then .nx ρ (R1.set l (.ins c (putFD f d fs))) else .bad
    | _ => .bad
  | _ => .bad
  else .bad
theorem Cells.set {K : PySem.W.Frag} {S : List Addr} {F H : Hp} {R : Rs} (cc : Cells K S F H R) {l : Nat} {a : Addr} {o : HO} {d : D} (ha : S[l]? = some a) (r : RepO K F o d) (hd : ∀ a0, d = .tab a0 → l = 1 ∧ S[0]? = some a0 ∧ a = tabP K) : Cells K S F (L2.upd H a o) (R.set l d) := by
  refine ⟨by simp [cc.len], fun i b d' h1 h2 => ?_, cc.nd, fun i b h2 => ?_⟩
  rotate_left
  · by_cases e : l = i
    · subst e
      rw [List.getElem?_set] at h2
      simp only [if_true] at h2
      split at h2
      · obtain ⟨z1, z2, z3⟩ := hd b (Option.some.inj h2)
        subst z1
        exact ⟨rfl, z2, by rw [← z3]; exact ha⟩
      · cases h2
    · rw [List.getElem?_set_ne e] at h2
      exact cc.tb i b h2
  by_cases e : l = i
  · subst e
    rw [ha] at h1
    cases h1
    rw [List.getElem?_set] at h2
    simp only [if_true] at h2
    split at h2
    · cases h2
      exact ⟨(cc.has (List.mem_of_getElem? ha)).1, _, upd_same, r⟩
    · cases h2
  · rw [List.getElem?_set_ne e] at h2
    obtain ⟨n, u, h3, h4⟩ := cc.at_ i b d' h1 h2
    have hne : b ≠ a := fun z => by
      obtain ⟨hl1, e1⟩ := List.getElem?_eq_some_iff.mp ha
      obtain ⟨hl2, e2⟩ := List.getElem?_eq_some_iff.mp h1
      exact e ((List.getElem_inj cc.nd).mp (e1.trans (z.symm.trans e2.symm)))
    exact ⟨n, u, by rw [upd_ne hne]; exact h3, h4⟩
theorem SIn.putC {K : PySem.W.Frag} {S0 S : List Addr} {F0 H0 F H : Hp} {ρ : PEnv} {R : Rs} {σ : L2.St} (s : SIn K S0 F0 H0 own ρ R σ S F H) {l : Nat} {a : Addr} {o : HO} {d : D} (ha : S[l]? = some a) (r : RepO K F o d) (hd : ∀ a0, d = .tab a0 → l = 1 ∧ S[0]? = some a0 ∧ a = tabP K := by nofun) : SIn K S0 F0 H0 own ρ (R.set l d) σ S F (upd H a o) := by
  have hF : F a = none := (s.cells.has (List.mem_of_getElem? ha)).1
  have haS := List.mem_of_getElem? ha
  refine ⟨⟨s.ext.s, s.ext.f, fun b u e => by rw [upd_ne (ne_of_none e hF)]; exact s.ext.fh b u e, fun b u e hb => ?_, fun b u e => ?_, s.ext.nw, s.ext.sn⟩, s.cells.set ha r hd, s.sh, fun i hi d' h => ?_, s.ap, s.len⟩
  · have hne : b ≠ a := fun z => by
      have := s.ext.sn a haS (by rw [← z]; exact hb)
      rw [← z, e] at this; cases this
    rw [upd_ne hne]; exact s.ext.fr b u e hb
  · by_cases hb : b = a
    · subst hb; exact ⟨o, upd_same⟩
    · rw [upd_ne hb]; exact s.ext.th b u e
  · obtain ⟨v, h1, b, o2, rfl, h3, h4, h5, h6, h7⟩ := s.ow i hi d' h
    have hne : b ≠ a := fun z => h6 (by rw [z]; exact haS)
    exact ⟨_, h1, b, o2, rfl, by rw [upd_ne hne]; exact h3, h4, h5, h6, h7⟩
theorem st_stF (m : Md) {i : Nat} {c f : Str} {pos' : Pos} (cl : Cls X.K (He.ga X.K c)) (hn : NoAttr X.K (He.ga X.K c) f) (ho : PE X o (tVar i)) (he : Ev X E e g) (hs : swapsWith e (some (.Attribute o f pos')) pos.line X.env = pure false := by rfl) :
    Stm X E own own ol (.Assign [.Attribute o f pos'] e pos) (gStF m own i c f g) := ps_imp (ps_fld ho he hs) fun Dn σ H ⟨S0, F0, H0, ρ, R, s, h⟩ => by
  refine see_wp rfl s h fun v d R1 S F S1 F1 H1 s ef eg c r _ h1 => ?_
  split at h1
  · rename_i hc
    obtain ⟨F2, s2, r2⟩ := s.seen ef eg c r hc
    split at h1
    · rename_i l hl
      obtain ⟨a, q1, q2⟩ := loc_get s2.view hl
      split at h1
      · rename_i c' fs hfs
        split at h1
        · rename_i hc2
          obtain ⟨rfl, hl2⟩ := hc2
          obtain ⟨n1, o, n3, n4⟩ := s2.cells.at_ l a _ q2 hfs
          cases n4 with
          | @ins dx _ fs' _ e1 e2 =>
          have rk : RepK X.K F2 fs' fs := ⟨e1, e2⟩
          have z := putF_rep (f := f) r2 rk
          refine ⟨_, q1, a, _, _, fs', rfl, n3, cl, hn, by rw [rk.len]; exact hl2, h1 _ _ ⟨_, _, s2.putC q2 (.ins z.1 z.2)⟩⟩
        · exact h1.elim
      · exact h1.elim
    · exact h1.elim
  · exact h1.elim
/-- x.f, x a slot with a mutable instance -/
def gFldL (i : Nat) (c f : Str) : G := fun ρ R => match ρ[i]? with
  | some (some (.loc l)) => match R[l]? with
    | some (.ins c' fs) => if c' = c then match fs.lookup f with
      | some v => .ok v R
      | none => .bad
      else .bad
    | _ => .bad
  | _ => .bad
theorem ev_fldL {i : Nat} {c f : Str} (cl : Cls X.K (He.ga X.K c)) (hn : NoAttr X.K (He.ga X.K c) f) (ho : PE X e (tVar i)) (hb : attributeBase e f X.env (eval e X.env) = eval e X.env := by rfl) : Ev X E (.Attribute e f pos) (gFldL i c f) := pe_imp (pe_fld ho hb) fun σ H Q ⟨S, F, ρ, R, v, h⟩ => by
  unfold gFldL at h
  split at h
  · rename_i l hl
    obtain ⟨a, q1, q2⟩ := loc_get v hl
    split at h
    · rename_i c' fs hfs
      split at h
      · rename_i hc
        subst hc
        split at h
        · rename_i u hu
          obtain ⟨n1, o, n3, n4⟩ := v.cells.at_ l a _ q2 hfs
          cases n4 with
          | ins e1 e2 =>
          obtain ⟨w, h2, h3⟩ := lookup_rep e1 e2 hu
          exact ⟨_, q1, a, _, _, _, w, rfl, n3, cl, hn, h2, h.now v.fh v.cells h3⟩
        · exact h.elim
      · exact h.elim
    · exact h.elim
  · exact h.elim
end
end Pv

namespace Sr
open PySem PySem.Spec PyProof.Rows L2
/-! ### list(range(a, b, -1)) -/
end Sr
namespace Pv
open PySem PySem.Spec PyProof.Rows L2 Sr
def rgOkB (a b : Int) : Bool := inB a && (inB b && Nat.ble (b - a).toNat 16777216)
def dRange : List D → Rs → Res D := fun ds R => match ds with
  | [.int b] => if rgOkB 0 b then .ok (.lst (rngD 0 b.toNat)) R else .bad
  | [.int a, .int b] => if rgOkB a b then .ok (.lst (rngD a (b - a).toNat)) R else .bad
  | _ => .bad
def dRange3 : List D → Rs → Res D := fun ds R => match ds with
  | [.int a, .int b, .int (-1)] => if rgOkB a b && rgOkB b a then .ok (.lst ((List.range (a - b).toNat).map fun i => .int (a - (i : Nat)))) R else .bad
  | _ => .bad
section
variable {X : Cx} {E : XK} {a b c e tg : Expr} {es : List Expr} {ga gb g : G} {gs : GA} {pos p q rpos : Pos}
/-! ### targets of lists; enumerate, zip -/
def enD (ds : List D) : List D := (List.range ds.length).zipWith (fun i d => .tup [.int (i : Nat), d]) ds
theorem enD_get (ds : List D) (i : Nat) : (enD ds)[i]? = (ds[i]?).map fun d => .tup [.int (i : Nat), d] := by
  unfold enD
  rw [List.getElem?_zipWith]
  by_cases h : i < ds.length
  · rw [List.getElem?_range h, List.getElem?_eq_getElem h]; rfl
  · rw [List.getElem?_eq_none (by simpa using h), List.getElem?_eq_none (by omega)]; rfl
def enumT : List D → Rs → Res (List D) := fun ds R => match ds with
  | [.tup xs] => .ok (enD xs) R
  | [.arm xs] => .ok (enD xs) R
  | _ => .bad
end
end Pv

namespace Pv
open PySem PySem.Spec PyProof.Rows L2 Sr
/-! ### zip -/
section
variable {X : Cx} {E : XK} {a b c e e2 tg : Expr} {es : List Expr} {ga gb g : G} {gs : GA} {pos p q rpos : Pos}
end
/-! ### the source of numbers -/
def stOk : List Int → Bool
  | a :: b :: r => decide (0 ≤ a) && (decide (0 ≤ b) && r.all fun x => decide (0 ≤ x))
  | _ => false
def midB (b : Int) (r : List Int) : Int × List Int := if b = 0 then (match r with | [] => (b, []) | c :: r' => (c, r')) else (b, r)
def below : List Int → Int → Int × List Int
  | a :: b :: r, n => if 0 < (midB b r).1 then ((midB b r).1 % n, a :: (midB b r).1 / n :: (midB b r).2) else (((a * 48271 + 11) % 2147483647 / 64) % n, (a * 48271 + 11) % 2147483647 :: (midB b r).1 :: (midB b r).2)
  | st, _ => (0, st)
theorem stOk_cons {a b : Int} {r : List Int} : stOk (a :: b :: r) = true ↔ 0 ≤ a ∧ 0 ≤ b ∧ ∀ x ∈ r, 0 ≤ x := by
  simp [stOk]
theorem midB_ok {b : Int} {r : List Int} (hb : 0 ≤ b) (hr : ∀ x ∈ r, 0 ≤ x) : 0 ≤ (midB b r).1 ∧ ∀ x ∈ (midB b r).2, 0 ≤ x := by
  unfold midB
  split
  · cases r with
    | nil => exact ⟨hb, by simp⟩
    | cons c r' => exact ⟨hr c (by simp), fun x hx => hr x (by simp [hx])⟩
  · exact ⟨hb, hr⟩
theorem below_ok {st : List Int} {n : Int} (h : stOk st = true) (hn : 0 < n) : 0 ≤ (below st n).1 ∧ (below st n).1 < n ∧ stOk (below st n).2 = true := by
  match st, h with
  | a :: b :: r, h =>
    obtain ⟨ha, hb, hr⟩ := stOk_cons.mp h
    obtain ⟨h1, h2⟩ := midB_ok hb hr
    have e : below (a :: b :: r) n = if 0 < (midB b r).1 then ((midB b r).1 % n, a :: (midB b r).1 / n :: (midB b r).2) else (((a * 48271 + 11) % 2147483647 / 64) % n, (a * 48271 + 11) % 2147483647 :: (midB b r).1 :: (midB b r).2) := rfl
    rw [e]
    by_cases hp : 0 < (midB b r).1
    · rw [if_pos hp]
      exact ⟨Int.emod_nonneg _ (by omega), Int.emod_lt_of_pos _ hn, stOk_cons.mpr ⟨ha, Int.ediv_nonneg h1 (by omega), h2⟩⟩
    · rw [if_neg hp]
      exact ⟨Int.emod_nonneg _ (by omega), Int.emod_lt_of_pos _ hn, stOk_cons.mpr ⟨Int.emod_nonneg _ (by decide), h1, h2⟩⟩
def spBelowX : Sp := fun vs H Q _ => ∃ (d : Addr) (st : List Int) (n : Int), vs = [.ref d, .int n] ∧ H d = some (.lst (st.map V.int)) ∧ stOk st = true ∧ 0 < n ∧ n.natAbs.log2 < 9000 ∧ Q (.int (below st n).1) (upd H d (.lst ((below st n).2.map V.int)))
def belowF : Nat → List D → Rs → Res D := fun l ds R => match ds with
  | [.int n] => match R[l]? with
    | some (.lst xs) => match intsOf xs with
      | some st => if stOk st = true ∧ 0 < n ∧ n.natAbs.log2 < 9000 then .ok (.int (below st n).1) (R.set l (.lst ((below st n).2.map D.int))) else .bad
      | none => .bad
    | _ => .bad
  | _ => .bad
theorem below_imp {K : PySem.W.Frag} (vs : List V) (H : Hp) (Q : VK) (E : XK) (h : spL K 2 belowF vs H Q E) : spBelowX vs H Q E := by
  obtain ⟨S, F, R, l, a, us, ds, rfl, hl, hs, c, r, hn, h⟩ := h
  unfold belowF at h
  split at h
  · rename_i n
    cases r with
    | cons r rr =>
    cases rr
    cases r
    split at h
    · rename_i xs hx
      split at h
      · rename_i st hst
        split at h
        · rename_i hc
          obtain ⟨n1, o, n3, n4⟩ := c.at_ l a _ hl hx
          cases n4 with
          | lst rs =>
          rw [intsOf_eq hst] at rs
          rw [Reps.of_ints rs] at n3
          refine ⟨a, st, n, rfl, n3, hc.1, hc.2.1, hc.2.2, ?_⟩
          have haS := List.mem_of_getElem? hl
          refine h _ S F _ ⟨List.prefix_refl _, .refl F, fun b u e => by rw [upd_ne (ne_of_none e n1)]; exact hs b u e, fun b u e hb => ?_, fun b u e => ?_, fun _ _ _ _ z => z, fun b z1 z2 => absurd z1 z2⟩ (c.set hl (.lst (.ints _)) (by nofun)) (.int _)
          · have hne : b ≠ a := fun z => hb (by rw [z]; exact haS)
            rw [upd_ne hne]; exact e
          · by_cases hb : b = a
            · subst hb; exact ⟨_, upd_same⟩
            · exact ⟨u, by rw [upd_ne hb]; exact e⟩
        · exact h.elim
      · exact h.elim
    · exact h.elim
  · exact h.elim
theorem below_lt {n : Int} {b : Nat} (h0 : 0 < n) (h1 : n < 2 ^ b) (hb : 0 < b) (h9 : b ≤ 9000) : n.natAbs.log2 < 9000 := by
  have h2 : n.natAbs < 2 ^ b := by
    have h3 : ((n.natAbs : Nat) : Int) < ((2 ^ b : Nat) : Int) := by
      rw [Int.natCast_pow]
      have : ((n.natAbs : Nat) : Int) = n := by omega
      rw [this]
      exact h1
    exact Int.ofNat_lt.mp h3
  exact Nat.lt_of_lt_of_le (PySem.Flt.log2_lt_of hb h2) h9
theorem belowF_eqW {st : List Int} {n : Int} (h : stOk st = true) (h0 : 0 < n) (h1 : n.natAbs.log2 < 9000) {T : Rs} : belowF 0 [.int n] (.lst (st.map D.int) :: T) = .ok (.int (below st n).1) (.lst ((below st n).2.map D.int) :: T) := by
  simp only [belowF, List.getElem?_cons_zero, intsOf_map]
  rw [if_pos ⟨h, h0, h1⟩]; rfl
@[simp] theorem belowF_eq {st : List Int} {n : Int} (h : stOk st = true) (h0 : 0 < n) (h1 : n < 1073741824) {T : Rs} : belowF 0 [.int n] (.lst (st.map D.int) :: T) = .ok (.int (below st n).1) (.lst ((below st n).2.map D.int) :: T) :=
  belowF_eqW h h0 (below_lt (b := 30) h0 (by omega) (by decide) (by decide))
/-! ### the law's own def -/
def lawStart (n : Nat) : PEnv := none :: some (.loc 0) :: List.replicate (n - 2) none
def spRandomX (K : PySem.W.Frag) : Sp := fun vs H Q _ => ∃ (a : Addr) (ns : List Int) (n : Int), vs = [.ref a, .int n] ∧ SqL K H a (ns.map V.int) ∧ ns.length ≤ 63 ∧ 0 ≤ n ∧
  ∀ p st H', Same H H' → H p = none → H' p = some (.lst (List.map V.int st)) → stOk st = true → Q (.ref p) H'
/-- what is known of the law's own context -/
structure LawX (X : Cx) : Prop where
  code : X.env.code = .ref (He.cT X.K ("law", none)).1
  tab : LamX.TabB X.base X.mg (He.cT X.K ("law", none)).1 (tabP X.K)
  qual : X.env.qual ++ "<lambda>" = lamQ
def spLawT (K : PySem.W.Frag) : Sp := fun vs H Q _ => ∃ (a : Addr) (ns : List Int), vs = [.ref a] ∧ SqL K H a (ns.map V.int) ∧ ns.length ≤ 63 ∧ H (tabP K) = some (.tbl #[]) ∧ ∀ H', Q (.bl true) H'
theorem law_mk {fa : List He.Fa} {fn : List He.DefD} {gt : List PropD} {ex : PySem.W.Frag → Bool} {K : PySem.W.Frag} {mg : Str → Option Value} {P : Program} {w : World} {base : Heap}
    {N : List Str} {k n : Nat} {salt : Int} {own own' : List Nat} {g : List (Str × Addr) → GS} {s0 : Stmt} {rest : List Stmt} (sl : Stmt) (S : Say fa fn gt ex K mg) (i j : Nat) (hd : fn[i]? = some ⟨("law", none), "law", "law", defArgs sl, defBody sl, defScope sl, [], []⟩) (hg : fa[j]? = some (.glo "law")) (SC : FnScope N ["_law_script"] (defScope sl))
    (hb : ∀ (kV doc pm : Value) (an : Option Addr) (cdv ct : Value) (us : List Value), us.length = (["_law_script"] : List Str).length → bindArgs (PySem.W.fnOf "law" "law" (defArgs sl) (defBody sl) (defScope sl) .none kV doc pm an cdv ct) ⟨us, []⟩ = pure ((["_law_script"] : List Str).zip us))
    (hn : N.length = n) (h2 : 2 ≤ n) (ho : ∀ i ∈ own, 2 ≤ i) (hsp : defBody sl = s0 :: rest) (hs : 0 ≤ salt) (TB : LamX.TabB base mg (He.cT K ("law", none)).1 (tabP K))
    (B0 : ∀ (f : Addr) (cdv : Value) (A : Around) (outer : List Env) (s : Shared) (H : Hp) (E : XK), Room k (A.deeper (envOfC "law" (defScope sl) s.heap.objs.size f cdv)) → PS (cxOf CX0 P w K mg base N "law" (defScope sl) f cdv A outer s H E).nox s0 (tAsg (tCall (spRandomX K) [] XF (tCons (tVar 0) (tCons (tC (.int salt)) tNil))) (gName 1)))
    (B1 : ∀ (f : Addr) (cdv : Value) (A : Around) (outer : List Env) (s : Shared) (H : Hp) (E : XK), Room k (A.deeper (envOfC "law" (defScope sl) s.heap.objs.size f cdv)) → LawX (cxOf CX0 P w K mg base N "law" (defScope sl) f cdv A outer s H E).nox → Sts (cxOf CX0 P w K mg base N "law" (defScope sl) f cdv A outer s H E).nox XF own own' [] rest (g (cxOf CX0 P w K mg base N "law" (defScope sl) f cdv A outer s H E).nox.env.cells))
    (hlaw : ∀ cl a0 st, stOk st = true → ∃ R', g cl (lawStart n) [.lst (st.map D.int), .tab a0] = .rt (.bl true) R') : Fn P w K mg base CX0 (k + 1) "law" ["_law_script"] (spLawT K) := by
  obtain ⟨fd, F'⟩ := S.c.def_ i hd
  have F : FunD K "law" "law" (defArgs sl) (defBody sl) (defScope sl) [] [] (He.fAd K ("law", none)) fd := F'
  refine ⟨_, fd, S.glo j hg, F.kp, F.bindsN hb, ?_, F.at_⟩
  have kpF := F.kp
  obtain ⟨oc, od, dV, kV, doc, pm, an, cdv, ct, osl, rfl, lk, hcd, _, _⟩ := F.ex
  obtain ⟨c, rfl⟩ := He.codeIn_ref hcd
  have hco : He.codeOf K ("law", none) = c := He.codeOf_eq lk rfl
  refine fn_of lk hcd SC (fun vs H Q E h => by obtain ⟨_, _, rfl, _⟩ := h; rfl) fun A outer s H vs Q E hr h => ?_
  obtain ⟨a, ns, rfl, ha, hl, hT, hk⟩ := h
  have LX : LawX (cxOf CX0 P w K mg base N "law" (defScope sl) (He.fAd K ("law", none)) (.ref c) A outer s H E).nox := ⟨by rw [← hco] <;> rfl, TB, rfl⟩
  suffices z : ∃ t, PSs (cxOf CX0 P w K mg base N "law" (defScope sl) (He.fAd K ("law", none)) (.ref c) A outer s H E).nox (defBody sl) t ∧ t { nx := fun _ H' => Q .non H', rt := Q } (L2.start N [V.ref a]) H from by
    obtain ⟨t, h1, h2⟩ := z
    exact ⟨t, h1.nox, h2⟩
  rw [hsp]
  refine ⟨_, pss_cons (B0 _ _ A outer s H E hr) (B1 _ _ A outer s H E hr LX), ?_⟩
  refine ⟨.ref a, ?_, a, ns, salt, rfl, ha, hl, hs, fun p st H' e1 hp hp2 hst => ?_⟩
  · unfold L2.start; rfl
  obtain ⟨R', hR⟩ := hlaw (cxOf CX0 P w K mg base N "law" (defScope sl) (He.fAd K ("law", none)) (.ref c) A outer s H E).nox.env.cells p st hst
  have hT2 := e1 _ _ hT
  have hpT : p ≠ tabP K := fun z => by rw [z, hT] at hp; cases hp
  have hst2 : (L2.start N [V.ref a]).set 1 (some (.ref p)) = some (.ref a) :: some (.ref p) :: List.replicate (n - 2) none := by
    unfold L2.start
    obtain ⟨m, rfl⟩ : ∃ m, n = m + 2 := ⟨n - 2, by omega⟩
    simp [hn, List.replicate_succ]
  have get : ∀ (i : Nat) (d : D), (lawStart n)[i]? = some (some d) → i = 1 ∧ d = .loc 0 := fun i d h => by
    unfold lawStart at h
    match i with
    | 0 => cases h
    | 1 => cases h; exact ⟨rfl, rfl⟩
    | i + 2 =>
      have := List.mem_of_getElem? (show (List.replicate (n - 2) (none : Option D))[i]? = some (some d) from h)
      simp at this
  refine ⟨[p, tabP K], fun _ => none, H', lawStart n, [.lst (st.map D.int), .tab p], ⟨[p, tabP K], fun _ => none, ⟨.refl (fun b u z => nomatch z), ⟨rfl, fun i b d h1 h2 => ?_, by simp [hpT], fun i b h2 => ?_⟩, fun i d h _ => ?_, fun i hi d h => ?_, fun i hi j hj d d' v h1 => ?_, ?_⟩⟩, ?_⟩
  · match i with
    | 0 =>
      cases h1
      cases h2
      exact ⟨rfl, _, hp2, .lst (.ints _)⟩
    | 1 =>
      cases h1
      cases h2
      exact ⟨rfl, _, hT2, .tab ⟨trivial, fun pos cv e => by simp [codeAmong] at e⟩⟩
    | i + 2 => simp at h1
  · match i with
    | 0 => cases h2
    | 1 => cases h2; exact ⟨rfl, rfl, rfl⟩
    | i + 2 => simp at h2
  · obtain ⟨rfl, rfl⟩ := get i d h
    rw [hst2]
    exact ⟨_, rfl, .inr (.inl ⟨0, p, rfl, rfl, rfl⟩)⟩
  · obtain ⟨rfl, _⟩ := get i d h
    have := ho 1 hi
    omega
  · obtain ⟨rfl, _⟩ := get i d h1
    have := ho 1 hi
    omega
  · rw [hst2]; unfold lawStart; simp
  · rw [hR]
    intro v S F H e c r
    cases r
    exact hk H
/-! ### a def that touches no mutable cell -/
def pureF (f : List D → Rs → Res D) : List D → Rs → Res D := fun ds R => match f ds [] with
  | .ok d [] => .ok d R
  | .exc c fs [] => .exc c fs R
  | _ => .bad
theorem pureF_ok {f : List D → Rs → Res D} {ds : List D} {d : D} {R : Rs} (h : f ds [] = .ok d []) : pureF f ds R = .ok d R := by simp [pureF, h]
theorem pureF_exc {f : List D → Rs → Res D} {ds : List D} {c : Str} {fs : List (Str × D)} {R : Rs} (h : f ds [] = .exc c fs []) : pureF f ds R = .exc c fs R := by simp [pureF, h]
theorem cells_none {K : PySem.W.Frag} {F H : Hp} : Cells K [] F H [] := ⟨rfl, fun i a d h => by simp at h, by simp, fun i a h => by simp at h⟩
theorem pure_ext {K : PySem.W.Frag} {S S' : List Addr} {F H F' H' : Hp} {R : Rs} (c : Cells K S F H R) (e : Ext [] F H S' F' H') (c' : Cells K S' F' H' []) : Ext S F H S F' H' ∧ Cells K S F' H' R := by
  have hS : S' = [] := List.eq_nil_of_length_eq_zero (by rw [c'.len]; rfl)
  subst hS
  have hH : ∀ b u, H b = some u → H' b = some u := fun b u h => e.fr b u h (by simp)
  exact ⟨⟨List.prefix_refl _, e.f, e.fh, fun b u h _ => hH b u h, e.th, fun b u h t n => e.nw b u h (.inr (t.elim (fun z => c.nt z h) id)) n, fun b h1 h2 => absurd h1 h2⟩, c.len, fun i a d h1 h2 => by
    obtain ⟨n, o, h3, h4⟩ := c.at_ i a d h1 h2
    exact ⟨e.nw a o h3 (.inr h4.nt) n, o, hH a o h3, h4.mono e.f⟩, c.nd, c.tb⟩
theorem pure_imp {K : PySem.W.Frag} {n : Nat} {f : List D → Rs → Res D} (vs : List V) (H : Hp) (Q : VK) (E : XK) (h : spP K n (pureF f) vs H Q E) : spP K n f vs H Q E := by
  obtain ⟨S, F, R, ds, hs, c, r, hl, h⟩ := h
  refine ⟨[], F, [], ds, hs, cells_none, r, hl, ?_⟩
  unfold pureF at h
  split at h
  · rename_i d q
    rw [q]
    intro v S' F' H' e' c' rv
    obtain ⟨e, c2⟩ := pure_ext c e' c'
    exact h v S F' H' e c2 rv
  · rename_i cn fs q
    rw [q]
    intro d S' F' H' e' c' rv
    obtain ⟨e, c2⟩ := pure_ext c e' c'
    refine h d S F' H' e c2 ?_
    cases rv with
    | no => exact .no
    | at_ a1 a2 a3 => exact .at_ a1 a2 a3
  · exact h.elim
theorem _root_.Sr.PrB.imp {P : Program} {w : World} {K : PySem.W.Frag} {mg : Str → Option Value} {base : Heap} {C : Addr} {m : Str} {ps : List Str} {k : Nat} {CX : CXT} {sp sp' : Sp} (F : PrB P w K mg base CX k C m ps sp) (h : ∀ vs H Q E, sp' vs H Q E → sp vs H Q E) : PrB P w K mg base CX k C m ps sp' := by
  obtain ⟨p, g, fd, a, b, c⟩ := F.ex
  exact ⟨p, g, fd, a, b, c.imp h⟩
end Pv

namespace Pv
open PySem PySem.Spec PyProof.Rows L2 Sr Rg
/-! ### comprehensions and loops over typed data -/
/-! ### arms and rigs as data -/
def prD (p : Int × Int) : D := .tup [.int p.1, .int p.2]
def arD (a : Arms) : D := .arm (a.map prD)
def rigD (a : Arms) : D := .ins "Rig" [("told", arD a)]
def small (x : Int) : Prop := -(2 ^ 64) < x ∧ x < 2 ^ 64
end Pv

namespace Pv
open PySem PySem.Spec PyProof.Rows L2 Sr Rg
/-! ### the meanings, applied -/
section
variable {ρ : PEnv} {R : Rs} {i j n : Nat} {d : D} {f f' : D → D → Rs → Res D} {u : D → Rs → Res D} {h : List D → Rs → Res D} {ga gb gc g : G} {gs : GA} {t t' : GT} {own vs : List Nat} {m : Md} {g1 g2 : GS} {it : GI} {T : TD} {x y z : D} {xs ys ds : List D}
theorem var_ap : gVar i ρ R = match ρ[i]? with
  | some (some d) => if d.isLoc then .bad else .ok d R
  | _ => .bad := rfl
theorem c_ap : gC d ρ R = .ok d R := rfl
theorem op_ap : gOp f ga gb ρ R = (ga ρ R).bind fun x R1 => (gb ρ R1).bind fun y R2 => f x y R2 := rfl
theorem un_ap : gUn u ga ρ R = (ga ρ R).bind u := rfl
theorem b_ap : gB ga ρ R = (ga ρ R).bind bOf := rfl
theorem and_ap : gAnd t t' ρ R = (t ρ R).bind fun b R => match b with
  | true => t' ρ R
  | false => .ok false R := rfl
theorem or_ap : gOr t t' ρ R = (t ρ R).bind fun b R => match b with
  | true => .ok true R
  | false => t' ρ R := rfl
theorem not_ap : gNot t ρ R = (t ρ R).bind fun b R => .ok (!b) R := rfl
theorem if_ap {α : Type} {a b : PEnv → Rs → Res α} : gIf t a b ρ R = (t ρ R).bind fun c R => match c with
  | true => a ρ R
  | false => b ρ R := rfl
theorem andV_ap : gAndV ga gb ρ R = (ga ρ R).bind fun x R => match x with
  | .bl true => gb ρ R
  | .bl false => .ok (.bl false) R
  | _ => .bad := rfl
theorem orV_ap : gOrV ga gb ρ R = (ga ρ R).bind fun x R => match x with
  | .bl true => .ok (.bl true) R
  | .bl false => gb ρ R
  | _ => .bad := rfl
theorem ch_ap : gCh f f' ga gb gc ρ R = (ga ρ R).bind fun x R1 => (gb ρ R1).bind fun y R2 => (f x y R2).bind fun z R3 => match z with
  | .bl true => (gc ρ R3).bind fun w R4 => f' y w R4
  | .bl false => .ok (.bl false) R3
  | _ => .bad := rfl
theorem nil_ap : Pv.gNil ρ R = .ok [] R := rfl
theorem cons_ap : Pv.gCons ga gs ρ R = (ga ρ R).bind fun x R1 => (gs ρ R1).bind fun xs R2 => .ok (x :: xs) R2 := rfl
theorem star_ap : gStar ga gs ρ R = (ga ρ R).bind fun x R1 => (itemsOf x R1).bind fun xs R1 => (gs ρ R1).bind fun ys R2 => .ok (xs ++ ys) R2 := rfl
theorem tup_ap : Pv.gTup gs ρ R = (gs ρ R).bind dTup := rfl
theorem lst_ap : Pv.gLst gs ρ R = (gs ρ R).bind dLst := rfl
theorem arm_ap : gArm gs ρ R = (gs ρ R).bind dArm := rfl
theorem cb_ap : gCB h gs ρ R = (gs ρ R).bind h := rfl
theorem noPart_ap : gNoPart ρ R = .ok none R := rfl
theorem part_ap : gPart g ρ R = (g ρ R).bind fun d R => match d with
  | .int i => .ok (some i) R
  | _ => .bad := rfl
theorem sl_ap {l k : GO} : gSl g l k ρ R = (g ρ R).bind fun x R1 => (l ρ R1).bind fun a R2 => (k ρ R2).bind fun b R3 => dSl x a b R3 := rfl
theorem slL_ap {l k : GO} : gSlL g l k ρ R = (g ρ R).bind fun x R1 => (l ρ R1).bind fun a R2 => (k ρ R2).bind fun b R3 => dSlL x a b R3 := rfl
theorem call_ap : gCall n h gs ρ R = (gs ρ R).bind fun ds R => if ds.length = n then h ds R else .bad := rfl
theorem callL_ap {k : Nat → List D → Rs → Res D} : gCallL i n k gs ρ R = match ρ[i]? with
  | some (some (.loc l)) => (gs ρ R).bind fun ds R1 => if ds.length + 1 = n then k l ds R1 else .bad
  | _ => .bad := rfl
theorem mk_ap {c : Str} {k : Nat → List D → Rs → Res D} : gMk c n k gs ρ R = (gs ρ R).bind fun ds R1 => if ds.length + 1 = n then mkEnd c R1.length (k R1.length ds (R1 ++ [.ins c []])) else .bad := rfl
theorem fld_ap {c f : Str} : gFld c f g ρ R = (g ρ R).bind fun d R1 => match d with
  | .ins c' fs => if c' = c then match fs.lookup f with
    | some v => .ok v R1
    | none => .bad
    else .bad
  | _ => .bad := rfl
theorem prop_ap {c : Str} : gProp c h g ρ R = (g ρ R).bind fun d R1 => match d with
  | .ins c' fs => if c' = c then h [.ins c' fs] R1 else .bad
  | _ => .bad := rfl
theorem meth_ap {c k : Str} : gMeth c k n h g gs ρ R = (g ρ R).bind fun d R1 => match d with
  | .ins c' fs => if c' = c ∧ fs.lookup k = none then (gs ρ R1).bind fun ds R2 => if ds.length + 1 = n then h (.ins c' fs :: ds) R2 else .bad
    else .bad
  | _ => .bad := rfl
theorem callI_ap {c : Str} : gCallI c n h g gs ρ R = (g ρ R).bind fun d R1 => match d with
  | .ins c' fs => if c' = c then (gs ρ R1).bind fun ds R2 => if ds.length + 1 = n then h (.ins c' fs :: ds) R2 else .bad
    else .bad
  | _ => .bad := rfl
theorem get2_ap : gGet2 ga gb gc ρ R = (ga ρ R).bind fun x R1 => match x with
  | .dic kvs => (gb ρ R1).bind fun y R2 => (gc ρ R2).bind fun z R3 => match keyOf y with
    | some k => .ok ((valD kvs k).getD z) R3
    | none => .bad
  | _ => .bad := rfl
theorem dnew_ap : gDNew ρ R = .ok (.dic []) R := rfl
theorem it_ap {k : D → Rs → Res (List D)} : gIt k g ρ R = (g ρ R).bind k := rfl
theorem itA_ap {k : List D → Rs → Res (List D)} : gItA k gs ρ R = (gs ρ R).bind k := rfl
theorem lc_ap : gLc vs it T t g ρ R = (it ρ R).bind fun ds R1 => ((lcG T t g ds (wipeD ρ vs) R1).calm).bind dLst := rfl
theorem yes_ap : gYes ρ R = .ok true R := rfl
/-! statements -/
theorem next_ap : gNext ρ R = .nx ρ R := rfl
theorem seq_ap : gSeq g1 g2 ρ R = match g1 ρ R with
  | .nx ρ1 R1 => g2 ρ1 R1
  | o => o := rfl
theorem set_ap : gSet m own i g ρ R = (g (see m own ρ) R).out fun d R1 => if okM m d R1 && !own.contains i then .nx (ρ.set i (some d)) R1 else .bad := rfl
theorem setO_ap : gSetO m own i g ρ R = (g (see m own ρ) R).out fun d R1 => if okO m d R1 && own.contains i then .nx (ρ.set i (some d)) R1 else .bad := rfl
theorem drop_ap : gDrop m own g ρ R = (g (see m own ρ) R).out fun d R1 => if okR m R1 then .nx ρ R1 else .bad := rfl
theorem ret_ap : gRet g ρ R = (g ρ R).out fun d R1 => .rt d R1 := rfl
theorem retN_ap : gRetN ρ R = .rt .non R := rfl
theorem brk_ap : gBrk ρ R = .bk ρ R := rfl
theorem cnt_ap : gCnt ρ R = .ct ρ R := rfl
theorem never_ap : gNever ρ R = .bad := rfl
theorem ifS_ap : gIfS m own t g1 g2 ρ R = (t (see m own ρ) R).out fun b R1 => if okR m R1 then match b with
  | true => g1 ρ R1
  | false => g2 ρ R1
  else .bad := rfl
theorem aug_ap : gAug m own i f g ρ R = match (hide own ρ)[i]? with
  | some (some (.int x)) => (g (see m own ρ) R).out fun d R1 => if okR m R1 && !own.contains i then (f (.int x) d R1).out fun z R2 => match z with
    | .int w => .nx (ρ.set i (some (.int w))) R2
    | _ => .bad
    else .bad
  | _ => .bad := rfl
theorem for_ap : gFor m own vs it T g1 ρ R = (it (see m own ρ) R).out fun ds R1 => if okR m R1 && vs.all (fun i => !own.contains i) then loopG T g1 ds ρ R1 else .bad := rfl
theorem app_ap : gApp m own i g ρ R = match ρ[i]? with
  | some (some (.lst ds)) => (g (see m own ρ) R).out fun d R1 => if okM m d R1 && own.contains i && decide (ds.length < sizeLine) then .nx (ρ.set i (some (.lst (ds ++ [d])))) R1 else .bad
  | _ => .bad := rfl
theorem ext_ap : gExt m own i g ρ R = match ρ[i]? with
  | some (some (.lst ds)) => (g (see m own ρ) R).out fun d R1 => match d with
    | .lst es => if okO m (.lst es) R1 && own.contains i && decide (ds.length + es.length ≤ sizeLine) then .nx (ρ.set i (some (.lst (ds ++ es)))) R1 else .bad
    | _ => .bad
  | _ => .bad := rfl
theorem pop_ap : gPop own i ρ R = match ρ[i]? with
  | some (some (.lst (d :: ds))) => .nx (ρ.set i (some (.lst (d :: ds).dropLast))) R
  | _ => .bad := rfl
theorem par_ap {is : List Nat} {fl : List Bool} : gPar own is fl gs ρ R = (gs (hide own ρ) R).out fun ds R1 => if flOk own is fl && decide (is.Nodup) && decide (ds.length = is.length) then .nx (setAll is ds ρ) R1 else .bad := rfl
theorem asg_ap : gAsg m own vs T g ρ R = (g (see m own ρ) R).out fun d R1 => if okM m d R1 && vs.all (fun i => !own.contains i) then match T d ρ with
  | some ρ1 => .nx ρ1 R1
  | none => .bad
  else .bad := rfl
theorem dset_ap : gDSet m own i ga g ρ R = (g (see m own ρ) R).out fun d R1 => if okM m d R1 && own.contains i then match ρ[i]? with
  | some (some (.dic kvs)) => (ga (see m own ρ) R1).out fun y R2 => match keyOf y with
    | some k => if okR m R2 && decide (kvs.length < sizeLine) then .nx (ρ.set i (some (.dic (putD kvs k d)))) R2 else .bad
    | none => .bad
  | _ => .bad
  else .bad := rfl
theorem stF_ap {c f : Str} : gStF m own i c f g ρ R = (g (see m own ρ) R).out fun d R1 => if okM m d R1 then match (hide own ρ)[i]? with
  | some (some (.loc l)) => match R1[l]? with
    | some (.ins c' fs) => if c' = c ∧ fs.length < 1000 then .nx ρ (R1.set l (.ins c (putFD f d fs))) else .bad
    | _ => .bad
  | _ => .bad
  else .bad := rfl
theorem fldL_ap {c f : Str} : gFldL i c f ρ R = match ρ[i]? with
  | some (some (.loc l)) => match R[l]? with
    | some (.ins c' fs) => if c' = c then match fs.lookup f with
      | some v => .ok v R
      | none => .bad
      else .bad
    | _ => .bad
  | _ => .bad := rfl
theorem see_f : see .f own ρ = hide own ρ := rfl
theorem see_g : see .g own ρ = ρ := rfl
theorem okM_f : okM .f d R = true := rfl
theorem okM_g : okM .g d R = (d.imm && R.all immO) := rfl
theorem okR_f : okR .f R = true := rfl
theorem okR_g : okR .g R = R.all immO := rfl
theorem okO_f : okO .f d R = true := rfl
theorem okO_g : okO .g d R = (immO d && R.all immO) := rfl
theorem hide_nil : hide [] ρ = ρ := rfl
theorem hide_cons : hide (i :: own) ρ = hide own (ρ.set i none) := rfl
theorem setAll_cons {is : List Nat} : setAll (i :: is) (x :: xs) ρ = setAll is xs (ρ.set i (some x)) := rfl
theorem setAll_nil : setAll [] xs ρ = ρ := rfl
theorem wipe_nil : wipeD ρ [] = ρ := rfl
theorem wipe_cons : wipeD ρ (i :: vs) = (wipeD ρ vs).set i none := rfl
theorem runB_ap : runB n g1 ds R = out1 (g1 (startD n ds) R) := rfl
theorem runL_ap {l : Nat} : runL n g1 l ds R = out1 (g1 (startL n l ds) R) := rfl
theorem startL_ap {l : Nat} : startL n l ds = some (.loc l) :: startD (n - 1) ds := rfl
theorem startD_ap : startD n ds = ds.map some ++ List.replicate (n - ds.length) none := rfl
theorem out1_nx : out1 (.nx ρ R) = .ok .non R := rfl
theorem out1_rt : out1 (.rt d R) = .ok d R := rfl
theorem dName_ap : dName i d ρ = some (ρ.set i (some d)) := rfl
theorem dGTup_ap {U : TDs} : dGTup n U (.tup ds) ρ = if ds.length = n then U ds ρ else none := rfl
theorem dGLst_ap {U : TDs} : dGLst n U (.lst ds) ρ = if ds.length = n then U ds ρ else none := rfl
theorem dGCons_ap {U : TDs} : dGCons T U (d :: ds) ρ = (T d ρ).bind fun ρ1 => U ds ρ1 := rfl
theorem dGNil_ap : dGNil [] ρ = some ρ := rfl
/-! values -/
theorem dAdd_ap {i j : Int} : dAdd (.int i) (.int j) R = .ok (.int (i + j)) R := rfl
theorem dSub_ap {i j : Int} : dSub (.int i) (.int j) R = .ok (.int (i - j)) R := rfl
theorem dMul_ap {i j : Int} : dMul (.int i) (.int j) R = if CMul i j then .ok (.int (i * j)) R else .bad := rfl
theorem dFdiv_ap {i j : Int} : dFdiv (.int i) (.int j) R = if CDiv i j then .ok (.int (i / j)) R else .bad := rfl
theorem dMod_ap {i j : Int} : dMod (.int i) (.int j) R = if 0 < j then .ok (.int (i % j)) R else .bad := rfl
theorem dLt_ap {i j : Int} : dLt (.int i) (.int j) R = .ok (.bl (decide (i < j))) R := rfl
theorem dLe_ap {i j : Int} : dLe (.int i) (.int j) R = .ok (.bl (decide (i ≤ j))) R := rfl
theorem dGt_ap {i j : Int} : dGt (.int i) (.int j) R = .ok (.bl (decide (j < i))) R := rfl
theorem dGe_ap {i j : Int} : dGe (.int i) (.int j) R = .ok (.bl (decide (j ≤ i))) R := rfl
theorem bOf_ap {b : Bool} : bOf (.bl b) R = .ok b R := rfl
theorem dNeg_ap {i : Int} : dNeg (.int i) R = .ok (.int (-i)) R := rfl
theorem dNot_ap {b : Bool} : dNot (.bl b) R = .ok (.bl (!b)) R := rfl
theorem eqS_int {b : Bool} {i j : Int} : dEqS b (.int i) (.int j) R = .ok (.bl (b ^^ decide (i = j))) R := rfl
theorem eqS_bl {b i j : Bool} : dEqS b (.bl i) (.bl j) R = .ok (.bl (b ^^ decide (i = j))) R := rfl
theorem eqS_str {b : Bool} {i j : Str} : dEqS b (.str i) (.str j) R = .ok (.bl (b ^^ decide (i = j))) R := rfl
theorem dInt1_ap {i : Int} : dInt1 [.int i] R = .ok (.int i) R := rfl
theorem dInt1_bl {b : Bool} : dInt1 [.bl b] R = .ok (.int (if b then 1 else 0)) R := rfl
theorem dMax2_ap {i j : Int} : dMax2 [.int i, .int j] R = .ok (.int (if j > i then j else i)) R := rfl
theorem dMin2_ap {i j : Int} : dMin2 [.int i, .int j] R = .ok (.int (if j < i then j else i)) R := rfl
theorem dAbs_ap {i : Int} : dAbs [.int i] R = .ok (.int (if i < 0 then -i else i)) R := rfl
theorem dSum_ap : dSum [.lst xs] R = match intsOf xs with
    | some ns => .ok (.int ns.sum) R
    | none => .bad := rfl
theorem dAny_ap : dAny [.lst xs] R = match blsOf xs with
    | some ns => .ok (.bl (ns.any id)) R
    | none => .bad := rfl
theorem dAll_ap : dAll [.lst xs] R = match blsOf xs with
    | some ns => .ok (.bl (ns.all id)) R
    | none => .bad := rfl
theorem dLen_l : dLen [.lst xs] R = .ok (.int xs.length) R := rfl
theorem dLen_t : dLen [.tup xs] R = .ok (.int xs.length) R := rfl
theorem dLen_a : dLen [.arm xs] R = .ok (.int xs.length) R := rfl
theorem dIx_l {i : Int} : dIx (.lst xs) (.int i) R = match atI xs i with
    | some d => .ok d R
    | none => .bad := rfl
theorem dIx_t {i : Int} : dIx (.tup xs) (.int i) R = match atI xs i with
    | some d => .ok d R
    | none => .bad := rfl
theorem dIx_a {i : Int} : dIx (.arm xs) (.int i) R = match atI xs i with
    | some d => .ok d R
    | none => .bad := rfl
theorem dTup_ap : dTup xs R = if xs.length ≤ sizeLine then .ok (.tup xs) R else .bad := rfl
theorem dLst_ap : dLst xs R = if xs.length ≤ sizeLine then .ok (.lst xs) R else .bad := rfl
theorem dArm_ap : dArm xs R = if xs.length ≤ sizeLine then .ok (.arm xs) R else .bad := rfl
theorem dList_l : dList [.lst xs] R = .ok (.lst xs) R := rfl
theorem dList_t : dList [.tup xs] R = .ok (.lst xs) R := rfl
theorem dTupl_ap : dTupl [.lst xs] R = .ok (.tup xs) R := rfl
theorem dTupA_ap : dTupA [.lst xs] R = .ok (.arm xs) R := rfl
theorem lstOf_ap : lstOf (.lst xs) R = .ok xs R := rfl
theorem tupOf_t : tupOf (.tup xs) R = .ok xs R := rfl
theorem tupOf_a : tupOf (.arm xs) R = .ok xs R := rfl
theorem itemsOf_t : itemsOf (.tup xs) R = .ok xs R := rfl
theorem itemsOf_l : itemsOf (.lst xs) R = .ok xs R := rfl
theorem dSl_l {l k : Option Int} : dSl (.lst xs) l k R = .ok (.lst (cutD xs l k)) R := rfl
theorem dSl_t {l k : Option Int} : dSl (.tup xs) l k R = .ok (.tup (cutD xs l k)) R := rfl
theorem dSlL_ap {l k : Option Int} : dSlL (.lst xs) l k R = .ok (.lst (cutD xs l k)) R := rfl
theorem dCatL_ap : dCatL (.lst xs) (.lst ys) R = if xs.length + ys.length ≤ sizeLine then .ok (.lst (xs ++ ys)) R else .bad := rfl
theorem dIsN_ap {b : Bool} : dIsN b x R = match x with
  | .non => .ok (.bl (!b)) R
  | _ => .ok (.bl b) R := rfl
theorem rng1_ap {j : Int} : rng1 [.int j] R = if inB j then .ok (rngD 0 j.toNat) R else .bad := rfl
theorem rng2_ap {i j : Int} : rng2 [.int i, .int j] R = if inB i && inB j then .ok (rngD i (j - i).toNat) R else .bad := rfl
theorem dRange_1 {b : Int} : dRange [.int b] R = if rgOkB 0 b then .ok (.lst (rngD 0 b.toNat)) R else .bad := rfl
theorem dRange_2 {a b : Int} : dRange [.int a, .int b] R = if rgOkB a b then .ok (.lst (rngD a (b - a).toNat)) R else .bad := rfl
theorem dRange3_ap {a b : Int} : dRange3 [.int a, .int b, .int (-1)] R = if rgOkB a b && rgOkB b a then .ok (.lst ((List.range (a - b).toNat).map fun i => .int (a - (i : Nat)))) R else .bad := rfl
theorem ownB_ap {c : Str} {fs gs : List (Str × D)} : dOwnB c h (.ins c fs) (.ins c gs) R = h [.ins c fs, .ins c gs] R := by simp [dOwnB]
theorem ownT_ap {c : Str} {fs : List (Str × D)} {i : Int} : dOwnT c h (.ins c fs) (.int i) R = h [.ins c fs, .int i] R := by simp [dOwnT]
theorem ownN_ap {c : Str} {fs : List (Str × D)} : dOwnN c h (.ins c fs) R = h [.ins c fs] R := by simp [dOwnN]
theorem eqI_ap {c : Str} {b : Bool} {fs gs : List (Str × D)} : dEqI c b h (.ins c fs) (.ins c gs) R = (h [.ins c fs, .ins c gs] R).bind fun d R => match d with
    | .bl k => .ok (.bl (b ^^ k)) R
    | _ => .bad := by simp only [dEqI, and_self, if_true] <;> rfl
theorem isC_y {c : Str} {fs : List (Str × D)} : dIsC c [.ins c fs, .cls c] R = .ok (.bl true) R := by simp [dIsC]
theorem mkEnd_ok {c : Str} {k : Nat} {R0 : Rs} {fs : List (Str × D)} (hk : R0.length = k) : mkEnd c k (.ok .non (R0 ++ [.ins c fs])) = .ok (.ins c fs) R0 := by simp [mkEnd, hk]
theorem il_int {i : Int} : (D.int i).isLoc = false := rfl
theorem il_bl {i : Bool} : (D.bl i).isLoc = false := rfl
theorem il_str {i : Str} : (D.str i).isLoc = false := rfl
theorem il_non : D.non.isLoc = false := rfl
theorem il_tup : (D.tup xs).isLoc = false := rfl
theorem il_lst : (D.lst xs).isLoc = false := rfl
theorem il_armD : (D.arm xs).isLoc = false := rfl
theorem il_ins {c : Str} {fs : List (Str × D)} : (D.ins c fs).isLoc = false := rfl
theorem il_dic {kvs : List (Key × D)} : (D.dic kvs).isLoc = false := rfl
theorem il_ar {a : Arms} : (arD a).isLoc = false := rfl
theorem il_rig {a : Arms} : (rigD a).isLoc = false := rfl
theorem le_line {n : Nat} (h : n ≤ 100000) : (n ≤ sizeLine) = True := eq_true (Nat.le_trans h (by decide))
theorem lt_line {n : Nat} (h : n < 100000) : (n < sizeLine) = True := eq_true (Nat.lt_of_lt_of_le h (by decide))
end
end Pv

namespace Pv
open PySem PySem.Spec PyProof.Rows L2 Sr Rg
/-! ### a, b, c, .. = w, x, y, .. by a tuple -/
theorem Mix.len {K : PySem.W.Frag} {H : Hp} {S' : List Addr} {F' H' : Hp} : ∀ {fl : List Bool} {vs : List V} {ds : List D}, Mix K H S' F' H' fl vs ds → vs.length = ds.length
  | _, _, _, .nil => rfl
  | _, _, _, .old _ m => by simp [Mix.len m]
  | _, _, _, .new _ _ _ _ _ _ m => by simp [Mix.len m]
section
variable {X : Cx} {E : XK} {own ol : List Nat} {fl : List Bool} {es ts : List Expr} {gs : GA} {pos p1 p2 : Pos} {kt k2 : Nat}
end
end Pv

namespace Pv
open PySem PySem.Spec PyProof.Rows L2 Sr
/-! what never leaves by an exception -/
def calmF (f : List D → Rs → Res D) : List D → Rs → Res D := fun ds R => (f ds R).calm
theorem calmF_ap {f : List D → Rs → Res D} {ds : List D} {R : Rs} : calmF f ds R = (f ds R).calm := rfl
end Pv

namespace Pv
open PySem PySem.Spec PyProof.Rows L2 Sr
/-! least and greatest number of a row -/
def loI : List Int → Int
  | [] => 0
  | [a] => a
  | a :: b :: r => min a (loI (b :: r))
def hiI : List Int → Int
  | [] => 0
  | [a] => a
  | a :: b :: r => max a (hiI (b :: r))
def dMinU : List D → Rs → Res D := fun ds R => match ds with
  | [.lst xs] => match intsOf xs with
    | some (a :: r) => .ok (.int (loI (a :: r))) R
    | _ => .bad
  | [.tup xs] => match intsOf xs with
    | some (a :: r) => .ok (.int (loI (a :: r))) R
    | _ => .bad
  | _ => .bad
def dMaxU : List D → Rs → Res D := fun ds R => match ds with
  | [.lst xs] => match intsOf xs with
    | some (a :: r) => .ok (.int (hiI (a :: r))) R
    | _ => .bad
  | [.tup xs] => match intsOf xs with
    | some (a :: r) => .ok (.int (hiI (a :: r))) R
    | _ => .bad
  | _ => .bad
section
variable {X : Cx} {E : XK}
end
end Pv

namespace Pv
open PySem PySem.Spec PyProof.Rows L2 Sr
section
variable {X : Cx} {E : XK} {o i a b e : Expr} {ga gb g : G} {gs : GA} {pos apos cpos : Pos} {es : List Expr} {CX : CXT} {k n : Nat} {c : Str} {ps : List Str} {f : List D → Rs → Res D}
/-! ### divmod -/
/-! ### in, not in: data in a list or a tuple -/
def itemsP : PyData → Option (List PyData)
  | .list xs => some xs
  | .tuple xs => some xs
  | _ => none
def dInD (neg : Bool) : D → D → Rs → Res D := fun x y R => match x.pd, y.pd.bind itemsP with
  | some a, some bs => if SeqAt.shaped a && (decide (a.depth ≤ 8) && PyData.canLayAll0 bs) then .ok (.bl (neg ^^ bs.any fun z => PyData.eqv z a)) R else .bad
  | _, _ => .bad
theorem opd_inD {K : PySem.W.Frag} {neg : Bool} : OpD K E (Sr.rInD K neg) (dInD neg) := fun S F H R x y dx dy Q hs c rx ry h => by
  unfold dInD at h
  split at h
  · rename_i p bs h1 h2
    split at h
    · rename_i hh
      simp only [Bool.and_eq_true, decide_eq_true_eq] at hh
      obtain ⟨q, hq, hi⟩ := Option.bind_eq_some_iff.mp h2
      have hy := pd_rep hs ry hq
      refine ⟨p, bs, pd_rep hs rx h1, ?_, SeqAt.canLay_of_shaped hh.1, hh.2.1, hh.2.2, ?_⟩
      · cases q <;> simp [itemsP] at hi
        · subst hi; exact .inr hy
        · subst hi; exact .inl hy
      · have := h.now hs c (.bl _)
        cases neg
        · simpa using this
        · simpa using this
    · exact h.elim
  · exact h.elim
theorem o_inD (hu : X.A.units + 64 < cLine) : OpR X (compareOp .In) (Sr.rInD X.K false) ∧ OpD X.K E (Sr.rInD X.K false) (dInD false) := ⟨Sr.op_inD hu, opd_inD⟩
/-! ### methods of lists -/
def MtD (K : PySem.W.Frag) (E : XK) (r : V → List V → Hp → VK → Prop) (f : D → List D → Rs → Res D) : Prop :=
  ∀ (S : List Addr) (F H : Hp) (R : Rs) (x : V) (xs : List V) (dx : D) (dxs : List D) (Q : VK), Same F H → Cells K S F H R → Rep K F x dx → Reps K F xs dxs → Wp K E (fun _ F v d => Rep K F v d) S F H (f dx dxs R) Q → r x xs H Q
def gBML (f : D → List D → Rs → Res D) (g : G) (gs : GA) : G := fun ρ R => (g ρ R).bind fun x R1 => match x with
  | .lst xs => (gs ρ R1).bind fun ds R2 => f (.lst xs) ds R2
  | _ => .bad
theorem ev_bml {name : Str} {id : String} {r : V → List V → Hp → VK → Prop} {f : D → List D → Rs → Res D} (slot : Slot "list" name id) (hty : typeOf (.builtin id) = pure (.type "method_descriptor")) (hm : MtR X id r ∧ MtD X.K E r f) (ho : Ev X E o g) (ha : EvA X E (e :: es) gs)
    (hbase : attributeBase o name X.env (eval o X.env) = eval o X.env := by rfl)
    (hfew : ((backTo cpos (starEach (e :: es) X.env)).all (fun x => !x.1) && (backToKw cpos (keywordEach [] X.env)).all (fun x => x.1.isSome)
      && decide ((e :: es).length + ([] : List Keyword).length + (if ([] : List Keyword).isEmpty then 0 else 1) < 30)) = true := by rfl)
    (hline : (apos.endLine == cpos.line) = true := by rfl) (hs : starEach (e :: es) X.env = (false, eval e X.env) :: starEach es X.env := by rfl) (hplain : (backTo cpos (starEach es X.env)).any (·.1) = false := by rfl) :
    Ev X E (.Call (.Attribute o name apos) (e :: es) [] cpos) (gBML f g gs) := pe_imp (pe_bm PySem.F.plainAttrs_list slot hty hm.1 ho ha hbase hfew hline hs hplain) fun σ H Q ⟨S, F, ρ, R, v, h⟩ => by
  refine ⟨S, F, ρ, R, v, Wp.bind h fun x S1 F1 H1 dx R1 e1 c1 rx h1 => ?_⟩
  split at h1
  · rename_i xs
    cases rx with
    | lst hf rs =>
    refine ⟨.inl ⟨rfl, _, .of (e1.fh _ _ hf)⟩, S1, F1, ρ, R1, v.ext e1 c1, Wp.bind h1 fun ys S2 F2 H2 dys R2 e2 c2 ry h2 => ?_⟩
    exact hm.2 S2 F2 H2 R2 _ ys _ dys Q e2.fh c2 (e2.rep (.lst hf rs)) ry h2
  · exact h1.elim
/-! ### len(x), x[i] by the own methods -/
end
end Pv

namespace Pv
open PySem PySem.Spec PyProof.Rows L2 Sr
/-! ### two attributes from one tuple -/
section
variable {X : Cx} {E : XK} {own ol : List Nat} {o e : Expr} {g : G} {pos : Pos}
/-- x.f1, x.f2 = e, x a slot with a mutable instance of the class c -/
def gStF2 (m : Md) (own : List Nat) (i : Nat) (c f1 f2 : Str) (g : G) : GS := fun ρ R => (g (see m own ρ) R).out fun d R1 => if okM m d R1 then match (hide own ρ)[i]? with
  | some (some (.loc l)) => match R1[l]? with
    | some (.ins c' fs) => match d with
      | .tup [d1, d2] => if c' = c ∧ fs.length < 900 then .nx ρ (R1.set l (.ins c (putFD f2 d2 (putFD f1 d1 fs)))) else .bad
      | _ => .bad
    | _ => .bad
  | _ => .bad
  else .bad
theorem stF2_ap {m : Md} {i : Nat} {c f1 f2 : Str} {ρ : PEnv} {R : Rs} : gStF2 m own i c f1 f2 g ρ R = (g (see m own ρ) R).out fun d R1 => if okM m d R1 then match (hide own ρ)[i]? with
  | some (some (.loc l)) => match R1[l]? with
    | some (.ins c' fs) => match d with
      | .tup [d1, d2] => if c' = c ∧ fs.length < 900 then .nx ρ (R1.set l (.ins c (putFD f2 d2 (putFD f1 d1 fs)))) else .bad
      | _ => .bad
    | _ => .bad
  | _ => .bad
  else .bad := rfl
/-! ### a list so many times -/
theorem Reps.times {K : PySem.W.Frag} {F : Hp} {vs : List V} {ds : List D} (r : Reps K F vs ds) : ∀ n : Nat, Reps K F (List.replicate n vs).flatten (List.replicate n ds).flatten
  | 0 => .nil
  | n + 1 => by rw [List.replicate_succ, List.replicate_succ, List.flatten_cons, List.flatten_cons]; exact r.append (r.times n)
end
end Pv

namespace Pv
open PySem PySem.Spec PyProof.Rows L2 Sr
/-! ### the law's lambdas are made -/
def lamV (l : LamT) (cl : List (Str × Addr)) (c : Addr) (dV doc pm ctv : Value) : Obj := PySem.W.kdv_obj "<lambda>" lamQ l.params (.expr l.body) l.scope (cloFrom cl l.scope.names []) dV doc pm c ctv
structure LamS (l : LamT) : Prop where
  kind : l.scope.kind = .function
  co : l.scope.isCoroutine = false
  gen : l.scope.isGenerator = false
  own : ∀ y ∈ l.scope.names, y.2 ≠ .cell ∧ (y.2 = .local → y.1 ∉ l.N)
  binds : ∀ (cl : List (Str × Addr)) (c : Addr) (dV doc pm ctv : Value) (s : Shared), (l.dv = [] ∧ dV = .none) ∨ (l.dv ≠ [] ∧ ∃ (T : Addr) (o : Obj) (items : Array Value) (n : Nat), dV = .ref T ∧ s.heap.get? T = some o ∧ o.data = .seq items n ∧ items.size = l.dv.length) →
    ∃ bs : List (Str × Value), BindsTo s (PySem.W.kdv_fn "<lambda>" lamQ l.params (.expr l.body) l.scope cl dV doc pm (.ref c) ctv) ⟨[], []⟩ bs ∧ ∀ y ∈ bs, l.scope.names.lookup y.1 = some .local
structure LamOk (X : Cx) (l : LamT) : Prop where
  s : LamS l
  hN : X.N = l.N
  free : ∀ y ∈ l.scope.names, y.2 = .free → X.env.scope.names.lookup y.1 = some .cell ∨ X.env.scope.names.lookup y.1 = some .free
def lamSB (l : LamT) : Bool :=
  decide (l.scope.kind = .function) && (!l.scope.isCoroutine && (!l.scope.isGenerator && l.scope.names.all fun y => !decide (y.2 = .cell) && (!decide (y.2 = .local) || !l.N.contains y.1)))
def lamFB (sc scope : Scope) : Bool := scope.names.all fun y => !decide (y.2 = .free) || (decide (sc.names.lookup y.1 = some .cell) || decide (sc.names.lookup y.1 = some .free))
theorem lamS_of {l : LamT} (h : lamSB l = true)
    (hb : ∀ (cl : List (Str × Addr)) (c : Addr) (dV doc pm ctv : Value) (s : Shared), (l.dv = [] ∧ dV = .none) ∨ (l.dv ≠ [] ∧ ∃ (T : Addr) (o : Obj) (items : Array Value) (n : Nat), dV = .ref T ∧ s.heap.get? T = some o ∧ o.data = .seq items n ∧ items.size = l.dv.length) →
    ∃ bs : List (Str × Value), BindsTo s (PySem.W.kdv_fn "<lambda>" lamQ l.params (.expr l.body) l.scope cl dV doc pm (.ref c) ctv) ⟨[], []⟩ bs ∧ ∀ y ∈ bs, l.scope.names.lookup y.1 = some .local) : LamS l := by
  unfold lamSB at h
  simp only [Bool.and_eq_true, Bool.or_eq_true, Bool.not_eq_true', decide_eq_true_eq, decide_eq_false_iff_not, List.all_eq_true, List.contains_eq_mem] at h
  obtain ⟨h1, h2, h3, h4⟩ := h
  refine ⟨h1, h2, h3, fun y hy => ⟨(h4 y hy).1, fun e => ?_⟩, hb⟩
  rcases (h4 y hy).2 with z | z
  · exact absurd e z
  · exact z
theorem lamOk_of {X : Cx} {l : LamT} {sc : Scope} (S : LamS l) (hN : X.N = l.N) (hsc : X.env.scope = sc) (h : lamFB sc l.scope = true) : LamOk X l := by
  refine ⟨S, hN, fun y hy e => ?_⟩
  unfold lamFB at h
  simp only [Bool.or_eq_true, Bool.not_eq_true', decide_eq_true_eq, decide_eq_false_iff_not, List.all_eq_true] at h
  rcases h y hy with z | z | z
  · exact absurd e z
  · rw [hsc]; exact .inl z
  · rw [hsc]; exact .inr z
theorem LamOk.has {X : Cx} {l : LamT} (L : LamOk X l) (ok : X.Ok) : ∀ y ∈ l.scope.names, y.2 = .free → ∃ c, X.env.cells.lookup y.1 = some c := fun y hy e => ok.has _ (L.free y hy e)
theorem swapU {H : Hp} {a b : Addr} {o u : HO} (h : a ≠ b) : upd (upd H a o) b u = upd (upd H b u) a o := by
  funext c
  by_cases h1 : c = a
  · subst h1; rw [upd_same, upd_ne h, upd_same]
  · by_cases h2 : c = b
    · subst h2; rw [upd_same, upd_ne h1, upd_same]
    · rw [upd_ne h2, upd_ne h1, upd_ne h1, upd_ne h2]
theorem Ext.setS {S : List Addr} {F H : Hp} (hs : Same F H) {a : Addr} {o : HO} (ha : a ∈ S) (hF : F a = none) : Ext S F H S F (upd H a o) :=
  ⟨List.prefix_refl _, .refl F, fun b u e => by rw [upd_ne (ne_of_none e hF)]; exact hs b u e, fun b u e hb => by rw [upd_ne (fun z => hb (by rw [z]; exact ha))]; exact e, fun b u e => by
    by_cases hb : b = a
    · subst hb; exact ⟨o, upd_same⟩
    · exact ⟨u, by rw [upd_ne hb]; exact e⟩, fun _ _ _ _ z => z, fun b z1 z2 => absurd z1 z2⟩
/-- the value of a lambda -/
def gLam (l : LamT) (cl : List (Str × Addr)) : G := fun (_ : PEnv) (R : Rs) => match (R[1]? : Option D) with
  | some (D.tab _) => .ok (.lam l cl) R
  | _ => .bad
section
variable {X : Cx} {E : XK} {pins : List (Addr × Obj)} {σ : L2.St} {s : Shared} {S : List Addr} {F H : Hp} {R : Rs} {l : LamT} {pos : Pos} {dV : Value} {Q : VK}
/-- the object is new, and known -/
theorem lam_end {H1 F1 : Hp} {h1 : Heap} {c : Addr} {doc pm ctv : Value} {tk : Nat} (I : Inv X pins σ H1 { s with heap := h1 }) (e1 : Ext S F H S F1 H1) (c1 : Cells X.K S F1 H1 R) (hc : F1 c = some (LamX.CodeO c lamQ)) (dv : DvOk F1 l dV) (h : Wp X.K E (fun _ F v d => Rep X.K F v d) S F H (.ok (.lam l X.env.cells) R) Q) :
    EP X pins σ Q (.ref h1.objs.size) { s with heap := h1.push (lamV l X.env.cells c dV doc pm ctv), toks := tk } := by
  have hn : H1 h1.objs.size = none := I.hok.fresh (Nat.le_refl _)
  have hg : (h1.push (lamV l X.env.cells c dV doc pm ctv)).get? h1.objs.size = some (lamV l X.env.cells c dV doc pm ctv) := Heap.get?_push_size _ rfl
  have I2 : Inv X pins σ (upd H1 h1.objs.size (LamO l X.env.cells c dV h1.objs.size)) { s with heap := h1.push (lamV l X.env.cells c dV doc pm ctv), toks := tk } := I.laid (fun b o e => Heap.get?_push_of_some _ e) (Nat.le_refl _) ⟨⟨doc, pm, ctv, hg⟩, ⟨_, hg⟩, fun g1 g2 ⟨d1, p1, t1, z⟩ k => ⟨d1, p1, t1, k _ z⟩⟩
  have e2 : Ext S F1 H1 S (upd F1 h1.objs.size (LamO l X.env.cells c dV h1.objs.size)) (upd H1 h1.objs.size (LamO l X.env.cells c dV h1.objs.size)) := .new e1.fh hn
  refine ⟨.ref h1.objs.size, _, I2, rfl, h _ S _ _ (e1.trans e2) (c1.new e1.fh hn) (.lam upd_same (e2.f _ _ hc) (dv.mono e2.f))⟩
theorem lam_tail (LX : LawX X) (L : LamOk X l) (I : Inv X pins σ H s) (hs : Same F H) (c : Cells X.K S F H R) {a0 : Addr} (hR : R[1]? = some (.tab a0)) (dv : DvOk F l dV) (h : Wp X.K E (fun _ F v d => Rep X.K F v d) S F H (.ok (.lam l X.env.cells) R) Q) :
    wpAny (model X.prog X.w) X.A (makeTail "<lambda>" lamQ l.params (.expr l.body) l.scope X.env dV .none none pos pos.line) (EP X pins σ Q) X.xe s := by
  obtain ⟨_, hS0, hS1'⟩ := c.tb 1 a0 hR
  obtain ⟨P, eP⟩ : ∃ P, P = tabP X.K := ⟨_, rfl⟩
  have hS1 : S[1]? = some P := by rw [eP]; exact hS1'
  obtain ⟨nP, o, hP, rp⟩ := c.at_ 1 P _ hS1 hR
  cases rp with
  | tab tk =>
  rename_i ps
  have TB := LX.tab
  rw [← eP] at TB
  have bP : s.heap.BuiltinsAt X.mg P := TB.bm.keeps I.bk
  have hP' : s.heap.get? P = some { cls := .none, data := .fields ps } := I.hok P _ hP
  have hPS := List.mem_of_getElem? hS1
  cases hc : codeAmong pos ps.toList with
  | none =>
    refine PySem.W.kdv_makeTail (mg := X.mg) (c := (He.cT X.K ("law", none)).1) (P := P) (ps := ps) (closure_ok (L.has I.ok)) I.ok.glob (I.mod.glob.keeps I.bk) LX.code (TB.code.keeps I.bk) hP' tk.1 hc TB.gP bP fun c' ctv doc h' tok hx hge hlt hrec htb => ?_
    obtain ⟨c2, oc, vs, t, e2, hoc, hd, hv⟩ := hrec
    cases e2
    have nC : H c' = none := I.hok.fresh hge
    have nPc : P ≠ c' := ne_of_none hP nC
    have I1 := LamX.inv_table (q := lamQ) (t' := tok) (more := #[rawInt pos.line, rawInt pos.col, .ref c']) (h' := h') I hP (fun b o hb e => hx b o hb e) htb hge ⟨oc, vs, t, hoc, hd, hv⟩
    rw [swapU nPc] at I1
    have e1 : Ext S F H S (upd F c' (LamX.CodeO c' lamQ)) (upd H c' (LamX.CodeO c' lamQ)) := .new hs nC
    have c1 := c.new (o := LamX.CodeO c' lamQ) hs nC
    have nF : upd F c' (LamX.CodeO c' lamQ) P = none := by rw [upd_ne nPc]; exact nP
    have e2 : Ext S (upd F c' (LamX.CodeO c' lamQ)) (upd H c' (LamX.CodeO c' lamQ)) S (upd F c' (LamX.CodeO c' lamQ)) (upd (upd H c' (LamX.CodeO c' lamQ)) P (.tbl (ps ++ #[rawInt pos.line, rawInt pos.col, .ref c']))) := .setS e1.fh hPS nF
    have eL : (ps ++ #[rawInt pos.line, rawInt pos.col, .ref c']).toList = ps.toList ++ [rawInt pos.line, rawInt pos.col, .ref c'] := by simp
    have c2 := c1.set (d := .tab a0) hS1 (.tab (ps := ps ++ #[rawInt pos.line, rawInt pos.col, .ref c']) ⟨by rw [eL]; exact TriplesOk_snoc _ _ _ _ tk.1, fun p' cv hcv => by
      rw [eL] at hcv
      rcases LamX.among_app _ tk.1 hcv with z | z
      · obtain ⟨c0, z1, z2⟩ := tk.2 p' cv z
        exact ⟨c0, z1, e1.f _ _ z2⟩
      · exact ⟨c', z, upd_same⟩⟩) (fun a1 q => by cases q; exact ⟨rfl, hS0, eP⟩)
    have hRs : R.set 1 (.tab a0) = R := by
      apply List.ext_getElem? ; intro i
      by_cases hi : 1 = i
      · subst hi
        rw [List.getElem?_set_self (List.getElem?_eq_some_iff.mp hR).1, hR]
      · rw [List.getElem?_set_ne hi]
    rw [hRs] at c2
    exact lam_end (s := { s with toks := tok }) I1 (e1.trans e2) c2 upd_same (dv.mono e1.f) h
  | some cv =>
    obtain ⟨c', e, hco⟩ := tk.2 pos cv hc
    subst e
    refine PySem.W.kdv_makeTailHit (mg := X.mg) (c := (He.cT X.K ("law", none)).1) (P := P) (ps := ps) (closure_ok (L.has I.ok)) I.ok.glob (I.mod.glob.keeps I.bk) LX.code (TB.code.keeps I.bk) hP' tk.1 hc bP fun ctv doc h' tok hx hsz => ?_
    have I1 : Inv X pins σ H { s with heap := h', toks := tok } := I.kept hx
    exact lam_end (s := { s with toks := tok }) I1 (.refl hs) c hco dv h
/-- a lambda without parameters -/
theorem ev_lam (LX : LawX X) (L : LamOk X l) (hd : l.dv = []) (hdef : defaultsOf l.params X.env = ([], [])) : Ev X E (.Lambda l.params l.body l.scope pos) (gLam l X.env.cells) := by
  refine ⟨fun pins s σ H Q I h => ?_⟩
  obtain ⟨S, F, ρ, R, v, h⟩ := h
  unfold gLam at h
  split at h
  · rename_i hR
    refine PySem.W.kla_eval hdef ?_
    rw [makeFunction_eq, LX.qual]
    simp only [List.zip_nil_right, List.filterMap_nil, List.isEmpty_nil, if_true, pure_bind]
    exact lam_tail LX L I v.fh v.cells hR (.inl ⟨hd, rfl⟩) h
  · exact h.elim
end
end Pv

namespace Pv
open PySem PySem.Spec PyProof.Rows L2 Sr
/-! ### cells that are captured: tracked while the law's frame waits -/
open Classical in
noncomputable def cutC (B : Addr → Prop) (H : Hp) : Hp := fun b => if B b then none else H b
open Classical in
noncomputable def addC (B : Addr → Prop) (H1 H : Hp) : Hp := fun b => if B b then H1 b else H b
theorem cutC_in {B : Addr → Prop} {H : Hp} {b : Addr} (h : B b) : cutC B H b = none := if_pos h
theorem cutC_out {B : Addr → Prop} {H : Hp} {b : Addr} (h : ¬B b) : cutC B H b = H b := if_neg h
theorem addC_in {B : Addr → Prop} {H1 H : Hp} {b : Addr} (h : B b) : addC B H1 H b = H1 b := if_pos h
theorem addC_out {B : Addr → Prop} {H1 H : Hp} {b : Addr} (h : ¬B b) : addC B H1 H b = H b := if_neg h
/-- the cells are tracked in H -/
def Trk (B : Addr → Prop) (H : Hp) : Prop := ∀ b, B b → ∃ o u, H b = some (CellO b o) ∧ o.data = .cell u
theorem cellO_tup {b : Addr} {o : Obj} {xs : List V} : CellO b o ≠ .tup xs := fun z => by unfold CellO at z; cases z
theorem cellO_lst {b : Addr} {o : Obj} {xs : List V} : CellO b o ≠ .lst xs := fun z => by unfold CellO at z; cases z
theorem cellO_own {b a : Addr} {o : Obj} : CellO b o ≠ .own a := fun z => by unfold CellO at z; cases z
theorem cellO_frz {b : Addr} {o ob : Obj} {u : HO} : CellO b o ≠ .frz ob u := fun z => by unfold CellO at z; cases z
theorem cellO_tbl {b : Addr} {o : Obj} {ps : Array Value} : CellO b o ≠ .tbl ps := fun z => by unfold CellO at z; cases z
theorem cellO_ins {b C dx : Addr} {o : Obj} {fs : List (Str × V)} : CellO b o ≠ .ins C dx fs := fun z => by unfold CellO at z; cases z
theorem cellO_dK {b : Addr} {o : Obj} {fs : List (Key × V)} : CellO b o ≠ .dK fs := fun z => by unfold CellO at z; cases z
theorem cellO_dT {b : Addr} {o : Obj} {fs : List (List Key × V)} : CellO b o ≠ .dT fs := fun z => by unfold CellO at z; cases z
theorem Trk.out {B : Addr → Prop} {H : Hp} (t : Trk B H) {b : Addr} {u : HO} (e : H b = some u) (hu : ∀ o, CellO b o ≠ u) : ¬B b := fun hb => by
  obtain ⟨o, w, h1, _⟩ := t b hb
  rw [e] at h1
  exact hu o (Option.some.inj h1).symm
section
variable {P : Program} {w : World} {B : Addr → Prop} {H H1 H2 : Hp} {h h' : Heap} {fs : List Addr}
theorem hok_cut (t : Trk B H) (x : HOk P w H h) : HOk P w (cutC B H) h := fun b u e => by
  by_cases hb : B b
  · rw [cutC_in hb] at e; cases e
  · rw [cutC_out hb] at e
    refine (x b u e).stay (fun _ _ _ z => z) (fun c hc => ?_) fun c xs hc => ?_
    · rw [cutC_out (t.out hc fun o => cellO_own)]; exact hc
    · rw [cutC_out (t.out hc fun o => cellO_tup)]; exact hc
theorem un_add (t : Trk B H) (u : Un fs [] (cutC B H) H2 h h') : Un fs [] H (addC B H H2) h h' where
  keep := fun b o e n hf hx => u.keep b o e (by by_cases hb : B b; exact cutC_in hb; rw [cutC_out hb]; exact n) hf hx
  slot := fun b o e n hf hx => u.slot b o e (by by_cases hb : B b; exact cutC_in hb; rw [cutC_out hb]; exact n) hf hx
  free := fun b o e n hx => by
    have hb : ¬B b := fun hb => by
      obtain ⟨o, w, h1, _⟩ := t b hb
      rw [n] at h1; cases h1
    rw [addC_out hb]
    exact u.free b o e (by rw [cutC_out hb]; exact n) hx
  there := u.there
  tups := fun b xs e => by
    have hb := t.out e fun o => cellO_tup
    rw [addC_out hb]; exact u.tups b xs (by rw [cutC_out hb]; exact e)
  frzs := fun b o v e => by
    have hb := t.out e fun o => cellO_frz
    rw [addC_out hb]; exact u.frzs b o v (by rw [cutC_out hb]; exact e)
  tbls := fun b ps e => by
    have hb := t.out e fun o => cellO_tbl
    rw [addC_out hb]; exact u.tbls b ps (by rw [cutC_out hb]; exact e)
theorem trk_get (t : Trk B H) (x : HOk P w H h) {b : Addr} (hb : B b) : ∃ o u, H b = some (CellO b o) ∧ o.data = .cell u ∧ h.get? b = some o := by
  obtain ⟨o, u, h1, h2⟩ := t b hb
  have z : ObjOk P w H h b (.ext fun h => h.get? b = some o) := x b _ h1
  exact ⟨o, u, h1, h2, z.1⟩
theorem hok_add (t : Trk B H) (x : HOk P w H h) (hG : ∀ b o, h.get? b = some o → B b → h'.get? b = some o) (hn : ∀ b, B b → H2 b = none) (x2 : HOk P w H2 h') : HOk P w (addC B H H2) h' := fun b u e => by
  by_cases hb : B b
  · rw [addC_in hb] at e
    obtain ⟨o, w, h1, h2, h3⟩ := trk_get t x hb
    rw [h1] at e
    cases e
    have h4 := hG b o h3 hb
    exact ⟨h4, ⟨o, h4⟩, fun g1 g2 z k => k _ z⟩
  · rw [addC_out hb] at e
    refine (x2 b u e).stay (fun _ _ _ z => z) (fun c hc => ?_) fun c xs hc => ?_
    · by_cases hc2 : B c
      · rw [hn c hc2] at hc; cases hc
      · rw [addC_out hc2]; exact hc
    · by_cases hc2 : B c
      · rw [hn c hc2] at hc; cases hc
      · rw [addC_out hc2]; exact hc
end
/-! ### data without closures -/
mutual
def D.noC : D → Bool
  | .non => true
  | .bl _ => true
  | .int _ => true
  | .str _ => true
  | .tup xs => noL xs
  | .lst xs => noL xs
  | .arm xs => noL xs
  | .ins _ fs => noF fs
  | .dic kvs => noK kvs
  | .dit kvs => noT kvs
  | .ty _ => true
  | .cls _ => true
  | _ => false
def noL : List D → Bool
  | [] => true
  | d :: r => d.noC && noL r
def noF : List (Str × D) → Bool
  | [] => true
  | (_, d) :: r => d.noC && noF r
def noK : List (Key × D) → Bool
  | [] => true
  | (_, d) :: r => d.noC && noK r
def noT : List (List Key × D) → Bool
  | [] => true
  | (_, d) :: r => d.noC && noT r
end
def noO : D → Bool
  | .tab _ => true
  | d => d.noC
theorem noF_map : ∀ fs : List (Str × D), noF fs = noL (fs.map (·.2))
  | [] => rfl
  | (_, d) :: r => by simp [noF, noL, noF_map r]
theorem noK_map : ∀ fs : List (Key × D), noK fs = noL (fs.map (·.2))
  | [] => rfl
  | (_, d) :: r => by simp [noK, noL, noK_map r]
theorem noT_map : ∀ fs : List (List Key × D), noT fs = noL (fs.map (·.2))
  | [] => rfl
  | (_, d) :: r => by simp [noT, noL, noT_map r]
section
variable {K : PySem.W.Frag} {B : Addr → Prop} {F : Hp}
theorem rd_cut (t : Trk B F) {a : Addr} {u : HO} (hu : ∀ o, CellO a o ≠ u) (h : Rd F a u) : Rd (cutC B F) a u := by
  rcases h with h | ⟨o, h⟩
  · exact .inl (by rw [cutC_out (t.out h hu)]; exact h)
  · exact .inr ⟨o, by rw [cutC_out (t.out h fun o => cellO_frz)]; exact h⟩
mutual
theorem Rep.cut (t : Trk B F) : ∀ {v : V} {d : D}, Rep K F v d → d.noC = true → Rep K (cutC B F) v d
  | _, _, .non, _ => .non
  | _, _, .bl b, _ => .bl b
  | _, _, .int i, _ => .int i
  | _, _, .str x, _ => .str x
  | _, _, .tup h r, n => .tup (by rw [cutC_out (t.out h fun o => cellO_tup)]; exact h) (Reps.cut t r (by simpa [D.noC] using n))
  | _, _, .lst h r, n => .lst (by rw [cutC_out (t.out h fun o => cellO_lst)]; exact h) (Reps.cut t r (by simpa [D.noC] using n))
  | _, _, .arm h e r, n => .arm (by rw [cutC_out (t.out h fun o => cellO_frz)]; exact h) e (Reps.cut t r (by simpa [D.noC] using n))
  | _, _, .ins h e r, n => .ins (by rw [cutC_out (t.out h fun o => cellO_ins)]; exact h) e (Reps.cut t r (by rw [D.noC, noF_map] at n; exact n))
  | _, _, .dic h e r, n => .dic (rd_cut t (fun o => cellO_dK) h) e (Reps.cut t r (by rw [D.noC, noK_map] at n; exact n))
  | _, _, .dit h e r, n => .dit (rd_cut t (fun o => cellO_dT) h) e (Reps.cut t r (by rw [D.noC, noT_map] at n; exact n))
  | _, _, .ty n, _ => .ty n
  | _, _, .cls c, _ => .cls c
  | _, _, .lam _ _ _, n => by simp [D.noC] at n
  | _, _, .tab _, n => by simp [D.noC] at n
  | _, _, .clo _ _ _ _ _, n => by simp [D.noC] at n
theorem Reps.cut (t : Trk B F) : ∀ {vs : List V} {ds : List D}, Reps K F vs ds → noL ds = true → Reps K (cutC B F) vs ds
  | _, _, .nil, _ => .nil
  | _, _, .cons h r, n => .cons (Rep.cut t h (by simp [noL] at n; exact n.1)) (Reps.cut t r (by simp [noL] at n; exact n.2))
end
theorem RepO.cut (t : Trk B F) (hc : ∀ c, F c = some (LamX.CodeO c lamQ) → ¬B c) {o : HO} {d : D} (h : RepO K F o d) (n : noO d = true) : RepO K (cutC B F) o d := by
  cases h with
  | lst r => exact .lst (r.cut t (by simpa [noO, D.noC] using n))
  | ins e r => exact .ins e (r.cut t (by rw [noO, D.noC, noF_map] at n; exact n; all_goals nofun))
  | dic e r => exact .dic e (r.cut t (by rw [noO, D.noC, noK_map] at n; exact n; all_goals nofun))
  | dit e r => exact .dit e (r.cut t (by rw [noO, D.noC, noT_map] at n; exact n; all_goals nofun))
  | tab h => exact .tab (h.mono fun c e => by rw [cutC_out (hc c e)]; exact e)
theorem Same.cut {H : Hp} (hs : Same F H) : Same (cutC B F) (cutC B H) := fun b u e => by
  by_cases hb : B b
  · rw [cutC_in hb] at e; cases e
  · rw [cutC_out hb] at e ⊢; exact hs b u e
theorem Cells.cut {S : List Addr} {H : Hp} {R : Rs} (t : Trk B F) (hc : ∀ c, F c = some (LamX.CodeO c lamQ) → ¬B c) (c : Cells K S F H R) (n : R.all noO = true) : Cells K S (cutC B F) (cutC B H) R :=
  ⟨c.len, fun i a d h1 h2 => by
    obtain ⟨z1, o, z2, z3⟩ := c.at_ i a d h1 h2
    have hb : ¬B a := fun hb => by
      obtain ⟨o, u, z, _⟩ := t a hb
      rw [z1] at z; cases z
    exact ⟨by rw [cutC_out hb]; exact z1, o, by rw [cutC_out hb]; exact z2, z3.cut t hc (List.all_eq_true.mp n d (List.mem_of_getElem? h2))⟩, c.nd, c.tb⟩
end
/-- what was cut comes back -/
theorem ext_add {S S' : List Addr} {B : Addr → Prop} {F H F2 H2 : Hp} (t : Trk B F) (hs : Same F H) (e : Ext S (cutC B F) (cutC B H) S' F2 H2) (hn : ∀ b, B b → H2 b = none) (hS : ∀ b ∈ S', H2 b ≠ none) : Ext S F H S' (addC B F F2) (addC B H H2) := by
  have tH : ∀ {b}, B b → ∃ u, F b = some u ∧ H b = some u := fun {b} hb => by
    obtain ⟨o, u, z, _⟩ := t b hb
    exact ⟨_, z, hs _ _ z⟩
  refine ⟨e.s, fun b u z => ?_, fun b u z => ?_, fun b u z hb => ?_, fun b u z => ?_, fun b u z t n => ?_, fun b h1 h2 => ?_⟩
  · by_cases hb : B b
    · rw [addC_in hb]; exact z
    · rw [addC_out hb]; exact e.f b u (by rw [cutC_out hb]; exact z)
  · by_cases hb : B b
    · rw [addC_in hb] at z ⊢; exact hs b u z
    · rw [addC_out hb] at z ⊢; exact e.fh b u z
  · by_cases hB : B b
    · rw [addC_in hB]; exact z
    · rw [addC_out hB]; exact e.fr b u (by rw [cutC_out hB]; exact z) hb
  · by_cases hB : B b
    · exact ⟨u, by rw [addC_in hB]; exact z⟩
    · obtain ⟨u', z'⟩ := e.th b u (by rw [cutC_out hB]; exact z)
      exact ⟨u', by rw [addC_out hB]; exact z'⟩
  · by_cases hB : B b
    · obtain ⟨u2, z1, _⟩ := tH hB
      rw [n] at z1; cases z1
    · rw [addC_out hB]; exact e.nw b u (by rw [cutC_out hB]; exact z) t (by rw [cutC_out hB]; exact n)
  · by_cases hB : B b
    · exact absurd (hn b hB) (hS b h1)
    · have := e.sn b h1 h2
      rw [cutC_out hB] at this; exact this
theorem same_add {B : Addr → Prop} {F F2 : Hp} (hn : ∀ b, B b → F2 b = none) : Same F2 (addC B F F2) := fun b u e => by
  by_cases hb : B b
  · rw [hn b hb] at e; cases e
  · rw [addC_out hb]; exact e
theorem cells_add {K : PySem.W.Frag} {S' : List Addr} {B : Addr → Prop} {F H F2 H2 : Hp} {R : Rs} (c : Cells K S' F2 H2 R) (hs : Same F2 H2) (hn : ∀ b, B b → H2 b = none) : Cells K S' (addC B F F2) (addC B H H2) R :=
  ⟨c.len, fun i a d h1 h2 => by
    obtain ⟨z1, o, z2, z3⟩ := c.at_ i a d h1 h2
    have hb : ¬B a := fun hb => by rw [hn a hb] at z2; cases z2
    exact ⟨by rw [addC_out hb]; exact z1, o, by rw [addC_out hb]; exact z2, z3.mono (same_add fun b hb => hs.free (hn b hb))⟩, c.nd, c.tb⟩
end Pv

namespace Pv
open PySem PySem.Spec PyProof.Rows L2 Sr
/-! ### a lambda is called, its cells tracked -/
abbrev cloEnv (sc : Scope) (cl : List (Str × Addr)) (L f c : Addr) : Env := PySem.W.envX lamQ sc L f (.ref c) (cloFrom cl sc.names [])
/-- the context of its body -/
def cloCx (P : Program) (w : World) (K : PySem.W.Frag) (mg : Str → Option Value) (base : Heap) (N : List Str) (sc : Scope) (cl : List (Str × Addr)) (A : Around) (outer : List Env) (s : Shared) (H : Hp) (E : XK) (f c : Addr) : Cx where
  prog := P
  w := w
  K := K
  mg := mg
  base := base
  A := A.deeper (cloEnv sc cl s.heap.objs.size f c)
  N := N
  s_0 := s
  H_0 := H
  env := cloEnv sc cl s.heap.objs.size f c
  outer := outer
  stack := cloEnv sc cl s.heap.objs.size f c :: outer
  ex := []
  fn := fun _ => false
  calm := true
  pn := []
  xe := fun e s' => wpAny (model P w) (A.deeper (cloEnv sc cl s.heap.objs.size f c)) (leaving (cloEnv sc cl s.heap.objs.size f c) e) (fun _ s'' => L2.CX P w outer H s E e s'') (fun e' s'' => L2.CX P w outer H s E e' s'') s'
/-- the cells of the law's frame -/
def clB (cl : List (Str × Addr)) (b : Addr) : Prop := ∃ y, cl.lookup y = some b
section
variable {P : Program} {w : World} {K : PySem.W.Frag} {mg : Str → Option Value} {base : Heap} {A : Around} {outer : List Env} {s1 : Shared} {H1 F : Hp} {l : LamT} {cl : List (Str × Addr)} {σ : L2.St} {f c : Addr}
theorem clo_look (hfr : ∀ y ∈ l.scope.names, y.2 = .free → ∃ b, cl.lookup y.1 = some b) {y : Str} {b : Addr} (e : (cloFrom cl l.scope.names []).lookup y = some b) : cl.lookup y = some b := by
  rcases cloFrom_mem (mem_of_lookup e) with hm | ⟨h1, h2⟩
  · cases hm
  · obtain ⟨b1, hb⟩ := hfr _ h1 rfl
    have hb : cl.lookup y = some b1 := hb
    rw [h2, hb]; rfl
theorem env0_cut {B : Addr → Prop} (t : Trk B H1) (e0 : Env0 P w K mg base A outer s1 H1) : Env0 P w K mg base A outer s1 (cutC B H1) := by
  have le : ∀ {b}, H1 b = none → cutC B H1 b = none := fun {b} n => by
    by_cases hb : B b
    · exact cutC_in hb
    · rw [cutC_out hb]; exact n
  exact ⟨e0.frames, e0.mod, fun b o e => ⟨(e0.bs b o e).1, le (e0.bs b o e).2⟩, e0.bsz, e0.funs, fun b hb => le (e0.frf b hb), hok_cut t e0.hok, e0.bare⟩
theorem clo_in {E : XK} {h1 : Heap} {tk : Nat} {m : Str → Option Value} (S : LamS l) (cap : CapOk F l.N cl l.scope σ) (hs : Same F H1) (e0 : Env0 P w K mg base A outer s1 H1) (hd : A.handled = none) (hns : h1.Ns s1.heap.objs.size m) (kp : ∀ b o, s1.heap.get? b = some o → h1.get? b = some o) :
    Inv (cloCx P w K mg base l.N l.scope cl A outer s1 (cutC (clB cl) H1) E f c) [] σ (cutC (clB cl) H1) { s1 with heap := h1, toks := tk } := by
  obtain ⟨c1, c2, c3, c4, c5⟩ := cap
  have t : Trk (clB cl) H1 := fun b ⟨y, hy⟩ => by
    obtain ⟨o, u, z1, z2⟩ := c4 y b hy
    exact ⟨o, u, hs _ _ z1, z2⟩
  have e1 := env0_cut t e0
  have noex : ∀ b : Addr, b ∉ (cloCx P w K mg base l.N l.scope cl A outer s1 (cutC (clB cl) H1) E f c).ex := fun b z => absurd (show b ∈ ([] : List Addr) from z) (by simp)
  have cellG : ∀ {y : Str} {b : Addr}, cl.lookup y = some b → ∃ o u, F b = some (CellO b o) ∧ o.data = .cell u ∧ h1.get? b = some o := fun {y b} hy => by
    obtain ⟨o, u, z1, z2⟩ := c4 y b hy
    have z : ObjOk P w H1 s1.heap b (.ext fun h => h.get? b = some o) := e0.hok b _ (hs _ _ z1)
    exact ⟨o, u, z1, z2, kp _ _ z.1⟩
  have look : ∀ {y}, l.scope.names.lookup y = some .free → ∃ b, (cloFrom cl l.scope.names []).lookup y = some b := fun {y} hl => mem_lookup (cloFrom_has (cells := cl) (acc := []) (mem_of_lookup hl))
  have ok : (cloCx P w K mg base l.N l.scope cl A outer s1 (cutC (clB cl) H1) E f c).Ok := {
    mod := e0.mod, kind := S.kind, glob := rfl, blt := rfl, above := Nat.le_refl _
    inj := fun y z b h1 h2 => c3 y z b (clo_look c2 h1) (clo_look c2 h2)
    has := fun y hy => by
      rcases hy with hy | hy
      · exact absurd rfl (S.own _ (mem_of_lookup hy)).1
      · exact look hy
    cab := fun y b z _ => nomatch (show false = true from z)
    hd := fun _ => hd, frames := Around.frames_deeper e0.frames, stk := .inr ⟨rfl, rfl⟩, exf := fun b z => absurd z (noex b), bs := e1.bs, bsz := e0.bsz
    noex := fun b _ _ => noex b, exfs := fun b z => absurd z (noex b), funs := e0.funs, frf := e1.frf }
  refine { ok := ok, os := rfl, bare := e0.bare, base := Un.kept kp, loc := ⟨_, hns, fun i y v e1 e2 e3 => ?_⟩, cell := fun y b e => ?_, free := e1.hok.fresh (Nat.le_refl _), freeC := fun y b e => cutC_in ⟨y, clo_look c2 e⟩, pin := fun q hq => absurd (show q ∈ ([] : List (Addr × Obj)) ++ [] from hq) (by simp), hok := e1.hok.kept kp, len := c1 }
  · have e3 : Vis l.scope y := e3
    have e1 : l.N[i]? = some y := e1
    rcases e3 with k | k | k
    · exact absurd (List.mem_of_getElem? e1) ((S.own _ (mem_of_lookup k)).2 rfl)
    · exact absurd rfl (S.own _ (mem_of_lookup k)).1
    · obtain ⟨b, o, u, z1, z2, z3, z4⟩ := c5 i y v e1 e2 k
      obtain ⟨b', hb'⟩ := look k
      have e4 := clo_look c2 hb'
      rw [z1] at e4
      cases e4
      obtain ⟨o', u', y1, y2, y3⟩ := cellG z1
      rw [z2] at y1
      have eo : (fun h : Heap => h.get? b = some o) = fun h : Heap => h.get? b = some o' := by
        unfold CellO at y1
        injection (Option.some.inj y1)
      have z : ObjOk P w H1 s1.heap b (.ext fun h => h.get? b = some o) := e0.hok b _ (hs _ _ z2)
      exact ⟨u, z4, .inr ⟨.inr k, b, hb', o, kp _ _ z.1, z3⟩⟩
  · obtain ⟨o, u, z1, z2, z3⟩ := cellG (clo_look c2 e)
    exact ⟨u, o, z3, z2⟩
/-- the end: the cells come back -/
theorem cr_add {B : Addr → Prop} {Q : VK} {E : XK} {r : Result} {s' : Shared} (t : Trk B H1) (e0 : Env0 P w K mg base A outer s1 H1)
    (h : CR (L2.CX P w) outer P w (cutC B H1) s1 (fun v H2 => (∀ b, B b → H2 b = none) → Q v (addC B H1 H2)) (fun cls d H2 => (∀ b, B b → H2 b = none) → E cls d (addC B H1 H2)) r s') : CR (L2.CX P w) outer P w H1 s1 Q E r s' := by
  have gt : ∀ {b}, B b → ∃ o, s1.heap.get? b = some o ∧ b ∉ frs outer := fun {b} hb => by
    obtain ⟨o, u, z1, _, z3⟩ := trk_get t e0.hok hb
    exact ⟨o, z3, fun z => by rw [e0.frf b z] at z1; cases z1⟩
  cases r with
  | ok fl =>
    cases fl with
    | ret u =>
      obtain ⟨v, H2, os, bare, un, hok, rv, q⟩ := h
      have hn : ∀ b, B b → H2 b = none := fun b hb => by
        obtain ⟨o, z, _⟩ := gt hb
        exact un.free b o z (cutC_in hb) (by simp)
      exact ⟨v, addC B H1 H2, os, bare, un_add t un, hok_add t e0.hok (fun b o z hb => un.keep b o z (cutC_in hb) (gt hb).choose_spec.2 (by simp)) hn hok, rv, q hn⟩
    | next => exact h
    | brk => exact h
    | cont => exact h
  | error e =>
    obtain ⟨a, Bg, H2, cls, d, ea, fl, hok, ub, na, os, ag, q⟩ := h
    have hn : ∀ b, B b → H2 b = none := fun b hb => by
      obtain ⟨o, z, _⟩ := gt hb
      exact ub.free b o z (cutC_in hb)
    have hg : ∀ b o, s1.heap.get? b = some o → B b → Bg.get? b = some o := fun b o z hb => ub.keep b o z (cutC_in hb) (gt hb).choose_spec.2
    have naB : ¬B a := fun hb => by
      obtain ⟨o, z, _⟩ := gt hb
      have := hg a o z hb
      rw [fl.2.1] at this; cases this
    refine ⟨a, Bg, addC B H1 H2, cls, d, ea, fl, hok_add t e0.hok hg hn hok, { keep := fun b o e n hf => ub.keep b o e (by by_cases hb : B b; exact cutC_in hb; rw [cutC_out hb]; exact n) hf, slot := ub.slot, free := fun b o e n => ?_, there := ub.there, tups := fun b xs e => ?_, frzs := fun b o v e => ?_, tbls := fun b ps e => ?_ }, by rw [addC_out naB]; exact na, os, ag, q hn⟩
    · have hb : ¬B b := fun hb => by
        obtain ⟨o, w, h1, _⟩ := t b hb
        rw [n] at h1; cases h1
      rw [addC_out hb]; exact ub.free b o e (by rw [cutC_out hb]; exact n)
    · have hb := t.out e fun o => cellO_tup
      rw [addC_out hb]; exact ub.tups b xs (by rw [cutC_out hb]; exact e)
    · have hb := t.out e fun o => cellO_frz
      rw [addC_out hb]; exact ub.frzs b o v (by rw [cutC_out hb]; exact e)
    · have hb := t.out e fun o => cellO_tbl
      rw [addC_out hb]; exact ub.tbls b ps (by rw [cutC_out hb]; exact e)
end
/-- the captured slots are seen -/
theorem repE_env {K : PySem.W.Frag} {F : Hp} {a0 : Addr} : ∀ {σ : L2.St} {ρ : PEnv}, RepE K F a0 σ ρ → σ.length = ρ.length ∧ ∀ (i : Nat) (d : D), ρ[i]? = some (some d) → ∃ v, σ[i]? = some (some v) ∧ (Rep K F v d ∨ (d = .loc 0 ∧ v = .ref a0))
  | _, _, .nil => ⟨rfl, fun i d h => by simp at h⟩
  | _, _, .none r => by
    obtain ⟨h1, h2⟩ := repE_env r
    refine ⟨by simp [h1], fun i d h => ?_⟩
    cases i with
    | zero => cases h
    | succ i => exact h2 i d h
  | _, _, .some q r => by
    obtain ⟨h1, h2⟩ := repE_env r
    refine ⟨by simp [h1], fun i d h => ?_⟩
    cases i with
    | zero => cases h; exact ⟨_, rfl, .inl q⟩
    | succ i => exact h2 i d h
  | _, _, .loc r => by
    obtain ⟨h1, h2⟩ := repE_env r
    refine ⟨by simp [h1], fun i d h => ?_⟩
    cases i with
    | zero => cases h; exact ⟨_, rfl, .inr ⟨rfl, rfl⟩⟩
    | succ i => exact h2 i d h
def noE : PEnv → Bool
  | [] => true
  | none :: r => noE r
  | some (.loc _) :: r => noE r
  | some d :: r => d.noC && noE r
theorem RepE.cut {K : PySem.W.Frag} {F : Hp} {B : Addr → Prop} (t : Trk B F) : ∀ {a0 : Addr} {σ : L2.St} {ρ : PEnv}, RepE K F a0 σ ρ → noE ρ = true → RepE K (cutC B F) a0 σ ρ
  | _, _, _, .nil, _ => .nil
  | _, _, _, .none r, n => .none (RepE.cut t r n)
  | _, _, _, @RepE.some _ _ _ _ d _ ρ q r, n => by
    have h : d.noC = true ∧ noE ρ = true := by
      cases q <;> simp_all [noE, D.noC]
    exact .some (q.cut t h.1) (RepE.cut t r h.2)
  | _, _, _, .loc r, n => .loc (RepE.cut t r n)
section
variable {P : Program} {w : World} {K : PySem.W.Frag} {mg : Str → Option Value} {base : Heap}
/-- the lambda's text has the meaning g, wherever it is called -/
def LamBody (P : Program) (w : World) (K : PySem.W.Frag) (mg : Str → Option Value) (base : Heap) (k : Nat) (l : LamT) (g : G) : Prop := LamS l ∧ ∀ (cl : List (Str × Addr)) (A : Around) (outer : List Env) (s : Shared) (H : Hp) (E : XK) (f c : Addr), Room k (A.deeper (cloEnv l.scope cl s.heap.objs.size f c)) → Ev (cloCx P w K mg base l.N l.scope cl A outer s H E f c) E l.body g
theorem clo_run {k : Nat} {l : LamT} {g : G} (LB : LamBody P w K mg base k l g) {A : Around} {outer : List Env} {s1 : Shared} {H F : Hp} {S : List Addr} {R : Rs} {ρ : PEnv} {a0 f : Addr} {Q : VK} {E : XK} (hr : Room (k + 1) A) (e0 : Env0 P w K mg base A outer s1 H) (hs : Same F H) (c : Cells K S F H R) (hR : R[1]? = some (.tab a0)) (hn : noE ρ = true) (hnR : R.all noO = true)
    (r : Rep K F (.ref f) (.clo l ρ a0)) (h : Wp K E (fun _ F v d => Rep K F v d) S F H (g ρ R) Q) : PySem.W.FnAt f s1.heap ∧ codeAny (model P w) A (.call (.ref f) ⟨[], []⟩) (CR (L2.CX P w) outer P w H s1 Q E) s1 := by
  obtain ⟨LS, hbody⟩ := LB
  cases r with
  | clo hf hc hdv cap re =>
  rename_i cd cl dV σ
  obtain ⟨⟨doc, pm, ctv, hg⟩, _, _⟩ := e0.hok f _ (hs _ _ hf)
  obtain ⟨⟨oc, vs, t, hoc, hdc, hvc⟩, _, _⟩ := e0.hok cd _ (hs _ _ hc)
  obtain ⟨bs, hb, hl⟩ := LS.binds (cloFrom cl l.scope.names []) cd dV doc pm ctv s1 (hdv.imp id fun ⟨h4, T, e, hT⟩ => by
    obtain ⟨hz, its, rv, o, ho, hcl, n, hd⟩ := e0.hok T _ (hs _ _ hT)
    exact ⟨h4, T, o, its.toArray, n, e, ho, hd, by simpa using rv.length.symm⟩)
  refine ⟨⟨_, _, _, _, hg⟩, ?_⟩
  have tF : Trk (clB cl) F := fun b ⟨y, hy⟩ => cap.2.2.2.1 y b hy
  have tH : Trk (clB cl) H := fun b hb => by
    obtain ⟨o, u, z1, z2⟩ := tF b hb
    exact ⟨o, u, hs _ _ z1, z2⟩
  have hCC : ∀ c, F c = some (LamX.CodeO c lamQ) → ¬clB cl c := fun c' hc' hb => by
    obtain ⟨o, u, z1, z2, z3⟩ := trk_get tH e0.hok hb
    obtain ⟨⟨oc', vs', t', hoc', hdc', _⟩, _, _⟩ := e0.hok c' _ (hs _ _ hc')
    rw [hoc'] at z3
    cases z3
    rw [hdc'] at z2; cases z2
  obtain ⟨hl1, hE⟩ := repE_env (re.cut tF hn)
  refine codeAny_mono ?_ fun r s' hq => cr_add tH e0 hq
  refine PySem.W.kla_callFunE hr.depth hg rfl LS.co LS.gen rfl ⟨cd, oc, vs, t, rfl, hoc, hdc, hvc⟩ ?_
  refine hb _ _ _ _ (wpAny_newFunctionEnv (fun y hy => (LS.own y hy).1) hl (fun h1 hns hsb => ⟨(e0.mod.nolimit.keeps fun b o e => (e0.bs b o e).1).fresh _ hsb, ?_⟩) LS.kind)
  have kp : ∀ b o, s1.heap.get? b = some o → h1.get? b = some o := fun b o e => hsb.extBut b o (Nat.ne_of_lt (Heap.lt_size e)) (Heap.get?_push_of_some _ e)
  have J := clo_in (f := f) (c := cd) (E := fun cls d H2 => (∀ b, clB cl b → H2 b = none) → E cls d (addC (clB cl) H H2)) (tk := s1.toks + bs.length) LS cap hs e0 hr.hd hns kp
  show codeAny _ _ (.expr l.body (cloEnv l.scope cl s1.heap.objs.size f cd)) _ _
  have cc := c.cut tF hCC hnR
  have vw : View K S (cutC (clB cl) F) (cutC (clB cl) H) ρ R σ := ⟨Same.cut hs, fun i d e => by
    obtain ⟨v, z1, z2⟩ := hE i d e
    refine ⟨v, z1, z2.elim .inl fun ⟨e1, e2⟩ => .inr (.inl ⟨0, a0, e1, e2, ?_⟩)⟩
    exact (c.tb 1 a0 hR).2.1, cc, hl1.symm⟩
  refine PySem.W.kla_codeExpr (wpAny_mono ((hbody cl A outer s1 (cutC (clB cl) H) _ f cd (hr.deeper _)).run [] _ σ _ (fun v H2 => (∀ b, clB cl b → H2 b = none) → Q v (addC (clB cl) H H2)) J ⟨S, cutC (clB cl) F, ρ, R, vw, ?_⟩) (fun u s' hq => ?_) fun e s' hq => hq)
  · have nS : ∀ {S2 : List Addr} {F2 H2 : Hp} {R2 : Rs}, Cells K S2 F2 H2 R2 → ∀ b ∈ S2, H2 b ≠ none := fun {S2 F2 H2 R2} c2 b hb z => by
      obtain ⟨_, o, z2⟩ := c2.has hb
      rw [z] at z2; cases z2
    cases q : g ρ R with
    | ok x R2 =>
      rw [q] at h
      exact fun b S2 F2 H2 e2 c2 r2 hn2 => h b S2 _ _ (ext_add tF hs e2 hn2 (nS c2)) (cells_add c2 e2.fh hn2) (r2.mono (same_add fun b hb => e2.fh.free (hn2 b hb)))
    | exc cn fs R2 =>
      rw [q] at h
      refine fun d S2 F2 H2 e2 c2 x2 hn2 => h d S2 _ _ (ext_add tF hs e2 hn2 (nS c2)) (cells_add c2 e2.fh hn2) ?_
      cases x2 with
      | no => exact .no
      | at_ a1 a2 a3 => exact .at_ (same_add (fun b hb => e2.fh.free (hn2 b hb)) _ _ a1) a2 (a3.mono (same_add fun b hb => e2.fh.free (hn2 b hb)))
    | bad => rw [q] at h; exact h.elim
  · obtain ⟨w', H', J', rv, q⟩ := hq
    exact ⟨w', H', J'.os, J'.bare, J'.base, J'.hok, rv, q⟩
end
end Pv

namespace Pv
open PySem PySem.Spec PyProof.Rows L2 Sr
/-! ### raise -/
def gRaise (c : Str) : GS := fun _ R => .exc c [] R
theorem raise_ap {c : Str} {ρ : PEnv} {R : Rs} : gRaise c ρ R = .exc c [] R := rfl
section
variable {X : Cx} {E : XK} {own own' ol : List Nat}
end
/-! ### try: .. except C as e: .. (the suite returns, and reads e alone) -/
def gTryR (mt : Str → Bool) (res : Str → List (Str × D) → Rs → Res D) (b : GS) : GS := fun ρ R => match b ρ R with
  | .exc c fs R1 => if mt c then match res c fs R1 with
    | .ok d R2 => .rt d R2
    | _ => .bad
    else .bad
  | o => o
theorem tryR_ap {mt : Str → Bool} {res : Str → List (Str × D) → Rs → Res D} {b : GS} {ρ : PEnv} {R : Rs} : gTryR mt res b ρ R = match b ρ R with
  | .exc c fs R1 => if mt c then match res c fs R1 with
    | .ok d R2 => .rt d R2
    | _ => .bad
    else .bad
  | o => o := rfl
section
variable {X : Cx} {E : XK} {own own' ol ol2 : List Nat}
theorem Takes.len {W : WX} {pn : List (Addr × Obj)} {xe : Value → Shared → Prop} (t : Takes (X.tr pn xe) W) : Takes (X.tr pn xe) (fun c d σ H => σ.length = X.N.length → W c d σ H) := fun u s' ⟨a, B, sI, pins, σ, H, cls, d, e, I, nb, up, sky, na, os, ag, w⟩ =>
  t u s' ⟨a, B, sI, pins, σ, H, cls, d, e, I, nb, up, sky, na, os, ag, w I.len⟩
theorem st_tryR {x n : Str} {np pos' pos : Pos} {C : Str} {i : Nat} {body suite : List Stmt} {b0 : Stmt} {gb : GS} {mt : Str → Bool} {res : Str → List (Str × D) → Rs → Res D} {gh : Str → Addr → Option Addr → GS}
    (hs : X.stack = X.env :: X.outer) (hf : X.env.frame = some X.env.locals) (hN : X.N.Nodup) (hi : X.N[i]? = some n) (hln : X.env.kindOf n = some .local) (hc : Names X x (.ref (He.ga X.K C))) (tk : Takes X fun _ _ _ _ => False) (hio : i ∉ own)
    (hm : ∀ c, mt c = true → PySem.W.exmOne X.K (.ref (He.ga X.K c)) (.ref (He.ga X.K C)) = some true)
    (hb : ∀ (pn : List (Addr × Obj)) (xe : Value → Shared → Prop) (E' : XK), Passes (L2.CX X.prog X.w) (X.tr pn xe) E' → Sts (X.tr pn xe) E' own own ol body gb)
    (hsu : ∀ (c : Str), mt c = true → ∀ (a : Addr) (oe : Obj) (d : Option Addr) (pn : List (Addr × Obj)), Zc (.ref (He.ga X.K c)) d oe → (∃ vs, oe.data = .fields vs) → Sts (X.suite a ((a, oe) :: pn)) XF own ol2 ol (b0 :: suite) (gh c a d))
    (hres : ∀ (c : Str) (a : Addr) (d : Option Addr) (fs : List (Str × D)) (R : Rs) (v : D) (R2 : Rs), mt c = true → res c fs R = .ok v R2 → gh c a d ((List.replicate X.N.length none).set i (some (.exo a d fs))) R = .rt v R2) :
    Stm X E own own ol (.Try body [.ExceptHandler (some (.Name x np)) (some n) (b0 :: suite) pos'] [] [] pos) (gTryR mt res gb) := by
  refine ps_imp (ps_try_as (ts := fun a cls d Dn σ H => ∃ c, mt c = true ∧ cls = .ref (He.ga X.K c) ∧ tS X.K XF own ol2 ol (gh c a d) Dn σ H) (tb := fun W Dn σ H => ∃ E' : XK, (∀ cls d σ H, E' cls d H → σ.length = X.N.length → W cls d σ H) ∧ tS X.K E' own own ol gb Dn σ H) hs hf hN hi hln hc tk (fun W pn xe tkW _ => ?_) (fun a oe cls d pn hz hd => ?_)) fun Dn σ H ⟨S0, F0, H0, ρ, R, s, h⟩ => ?_
  · refine ⟨fun pins s σ H D I ⟨E', h1, h2⟩ => ?_⟩
    exact (hb pn xe E' (passes_call (Takes.len tkW) fun cls d σ H h => h1 cls d σ H h)).run pins s σ H D I h2
  · refine ⟨fun pins s σ H D I ⟨c, h1, h2, h3⟩ => ?_⟩
    subst h2
    exact (hsu c h1 a oe d pn hz hd).run pins s σ H D I h3
  · refine ⟨fun cls d H' => ∃ c fs R1 S F v R2, cls = .ref (He.ga X.K c) ∧ mt c = true ∧ Ext S0 F0 H0 S F H' ∧ Cells X.K S F H' R1 ∧ ExcAt X.K S F H' fs d ∧ res c fs R1 = .ok v R2 ∧ WpS X.K E S0 F0 H0 own ol (.rt v R2) Dn, fun cls d σ' H' ⟨c, fs, R1, S, F, v, R2, h1, h2, h3, h4, h5, h6, h7⟩ hl => ?_, S0, F0, H0, ρ, R, s, ?_⟩
    · subst h1
      refine ⟨true, hm c h2, fun _ a ha => ⟨c, h2, rfl, ?_⟩, fun z => by cases z⟩
      refine ⟨S0, F0, H0, (List.replicate X.N.length none).set i (some (.exo a d fs)), R1, ⟨S, F, ?_⟩, ?_⟩
      · have hiN : i < X.N.length := (List.getElem?_eq_some_iff.mp hi).1
        have get : ∀ (j : Nat) (e : D), ((List.replicate X.N.length (none : Option D)).set i (some (.exo a d fs)))[j]? = some (some e) → j = i ∧ e = .exo a d fs := fun j e q => by
          by_cases hj : i = j
          · subst hj
            rw [List.getElem?_set_self (by simpa using hiN)] at q
            cases q; exact ⟨rfl, rfl⟩
          · rw [List.getElem?_set_ne hj] at q
            have := List.mem_of_getElem? q
            simp at this
        refine ⟨h3, h4, fun j e q _ => ?_, fun j hj e q => ?_, fun j hj j2 hj2 e e2 v q => ?_, by simp [hl]⟩
        · obtain ⟨rfl, rfl⟩ := get j e q
          refine ⟨.ref a, by rw [List.getElem?_set_self (by rw [hl]; exact hiN)], .inr (.inr (.x ?_))⟩
          cases h5 with
          | no => exact .inl ⟨rfl, rfl⟩
          | at_ a1 a2 a3 => exact .inr ⟨_, _, rfl, a1, a2, a3⟩
        · obtain ⟨rfl, rfl⟩ := get j e q
          exact absurd hj hio
        · obtain ⟨rfl, rfl⟩ := get j e q
          exact absurd hj hio
      · rw [hres c a d fs R1 v R2 h2 h6]
        exact h7
    · unfold gTryR at h
      cases q : gb ρ R with
      | exc c fs R1 =>
        rw [q] at h
        dsimp only at h
        split at h
        · rename_i hmt
          cases q2 : res c fs R1 with
          | ok v R2 =>
            rw [q2] at h
            exact fun d S F H' e1 c1 x1 => ⟨c, fs, R1, S, F, v, R2, rfl, hmt, e1, c1, x1, q2, h⟩
          | exc _ _ _ => rw [q2] at h; exact h.elim
          | bad => rw [q2] at h; exact h.elim
        · exact h.elim
      | nx ρ1 R1 => rw [q] at h; exact h
      | rt d R1 => rw [q] at h; exact h
      | rf d R1 => rw [q] at h; exact h
      | bk ρ1 R1 => rw [q] at h; exact h
      | ct ρ1 R1 => rw [q] at h; exact h
      | bad => rw [q] at h; exact h.elim
end
end Pv

namespace Pv
open PySem PySem.Spec PyProof.Rows L2 Sr
/-! ### isinstance(e, C), e.f of the exception that a suite holds -/
theorem class_of_exc {prog : Program} {w : World} {A : Around} {E : Value → Shared → Prop} {s : Shared} {K : PySem.W.Frag} {x D : Addr} {ox : Obj} {od : Option Obj} {Q : Option Value → Shared → Prop} (C : ExcC K D) (X : K.In s.heap) (I : PySem.W.InstAt s.heap x ox D od) (h : Q (some (.ref D)) { s with toks := s.toks + 1 }) :
    wpAny (model prog w) A (getAttr? (.ref x) "__class__") Q E s := by
  have hf : PySem.W.findObj K D od "__class__" = some (.bind (.builtin "getset_descriptor.__get__") (.builtin "object.__class__")) := by
    obtain ⟨cd, hcd, _⟩ := PySem.W.any_some C.hd
    unfold PySem.W.findObj
    rw [hcd, Option.bind_some, C.ha, Option.bind_some]
    simp [C.hn, C.ht]
  obtain ⟨hp, g, d, t, os⟩ := s
  have L0 := I.type (M := model prog w)
  have L1 := PySem.W.looks_findIn (M := model prog w) X C.hg
  have L2 := PySem.W.looks_findIn (M := model prog w) X C.hk
  have L3 := PySem.W.looks_find (M := model prog w) X I hf
  have sub : PySem.W.Looks (model prog w) hp (isInstance (.ref x) (.type "BaseException")) true := L0.andThen (PySem.W.looks_subIn X C.hs)
  have z0 : (false && onTheHeap (Value.builtin "BaseException.__getattribute__")) = false := rfl
  have z1 : (onTheHeap (Value.ref D) && Value.builtin "BaseException.__getattribute__" == Value.builtin "object.__getattribute__") = false := by
    rw [show (Value.builtin "BaseException.__getattribute__" == Value.builtin "object.__getattribute__") = false from by decide +kernel] <;> rfl
  unfold getAttr? getAttrBy? getAttrBy
  refine wpAny_bind (wpAny_mkText (wpAny_bind (wpAny_attempt (wpAny_holding (wpAny_bind (L0.at (wpAny_bind (L1.at ?_))))))))
  show wpAny _ _ (if (onTheHeap (Value.ref D) && Value.builtin "BaseException.__getattribute__" == Value.builtin "object.__getattribute__") = true then _ else _) _ _ _
  rw [z1, if_neg Bool.false_ne_true]
  unfold getAttrByItsOwn hookBefore
  refine wpAny_bind ?_
  rw [if_pos (show onTheHeap (Value.ref D) = true from rfl)]
  refine L2.at ?_
  refine wpAny_bind (wpAny_attempt (wpAny_holding ?_))
  unfold callGetattribute
  rw [z0, if_neg Bool.false_ne_true]
  unfold boundAndCalled
  rw [PySem.F.excAttr_ValueError.ga.bind (.ref x)]
  refine wpAny_bind (wpAny_pure ?_)
  show wpAny _ _ (call (.builtin "BaseException.__getattribute__") [.ref x, .str "__class__" t]) _ _ _
  refine wpAny_call (codeAny_call_builtin PySem.F.excAttr_ValueError.ga.plain PySem.F.entry_bexc_ga ?_)
  refine @PySem.W.check_slot (model prog w) _ _ ⟨hp, g, d, t + 1, os⟩ "BaseException.__getattribute__" "BaseException" "__getattribute__" (.ref x) [.str "__class__" t] [] _ (by decide +kernel) (by decide +kernel) sub (PySem.F.args_bexc_ga (.ref x) (.str "__class__" t)) ?_
  unfold Builtin.«object.__getattribute__»
  refine wpAny_bind (wpAny_of_eq (a := ((Value.ref x : Value), [Value.str "__class__" t])) (by first | rfl | (simp only [slotArgs]; rfl)) ?_)
  refine wpAny_bind (wpAny_pure (wpAny_bind (L0.at (wpAny_bind (L3.at ?_)))))
  show wpAny _ _ (holding [Value.builtin "object.__class__"] (call (.builtin "getset_descriptor.__get__") [.builtin "object.__class__", .ref x, .ref D]) >>= ret) _ _ _
  refine wpAny_bind (wpAny_holding (wpAny_call (PySem.W.class_get (s := ⟨hp, g, d, t + 1, os⟩) X I C.hm ?_)))
  refine wpAny_pure ?_
  show wpAny _ _ (handedOut (.ref D)) _ _ _
  rw [PySem.W.handedOut_of (v := .ref D) rfl]
  first
    | exact wpAny_pure (wpAny_pure h)
    | exact wpAny_pure h
    | exact wpAny_pure (wpAny_bind (wpAny_pure (wpAny_pure h)))
theorem kit_exc {K : PySem.W.Frag} {x D : Addr} {ox : Obj} (C : ExcC K D) : PySem.W.KitX K (.ref x) (.ref D) (fun h => ∃ od, PySem.W.InstAt h x ox D od) := by
  have K0 := PySem.W.handS_kitx_exc (K := K) (x := x) (D := D) (ox := ox) C.hg C.hk C.hs C.hd C.ha C.hn C.ht C.hm
  refine ⟨fun M h k ⟨od, I⟩ => I.type, fun M h k ⟨od, I⟩ => ?_, K0.ne, fun X ⟨od, I⟩ k => class_of_exc C X I k⟩
  obtain ⟨cd, hcd, _⟩ := PySem.W.any_some C.hd
  unfold PySem.W.clsIn at hcd
  split at hcd
  · rename_i ho
    intro A' Q' E' s' k2 q
    unfold isType loadHead
    exact wpAny_bind (wpAny_loadPart (k2 _ _ (k _ _ ho)) (wpAny_pure q))
  · cases hcd
/-- isinstance(e, c), e the exception that the suite holds, with a dict or without -/
theorem call_isX {X : Cx} {a D : Addr} {oe : Obj} {pn : List (Addr × Obj)} {d : Option Addr} (C : ExcC X.K D) (hz : Zc (.ref D) d oe) (hf : ∃ vs, oe.data = .fields vs) : CallR (X.suite a ((a, oe) :: pn)) (.builtin "isinstance") (fun xs H Q => (d = none ∨ ∃ dd fs, d = some dd ∧ H dd = some (.xd fs)) ∧ rIsE X.K D a xs H Q) := by
  intro pins s σ H xs us Q I r ⟨hd, h⟩
  obtain ⟨c, cv, b, rfl, hcv, e, q⟩ := h
  cases r with
  | cons rx rr =>
  cases rr with
  | cons rt rr =>
  cases rr
  cases rx
  have ec := hcv _ rt
  subst ec
  obtain ⟨hget, _⟩ := I.pin (a, oe) (List.mem_append.mpr (.inl List.mem_cons_self))
  obtain ⟨vs, hv⟩ := hf
  have J : ∃ od, PySem.W.InstAt s.heap a oe D od := by
    obtain ⟨oc, od, oda, osl⟩ := oe
    obtain ⟨h1, h2⟩ := hz
    dsimp only at h1 h2 hv
    subst h1 h2 hv
    rcases hd with rfl | ⟨dd, fs, rfl, hx⟩
    · exact ⟨none, hget, rfl, rfl, trivial⟩
    · obtain ⟨mA, ⟨o, es, ep, ho, _⟩, _⟩ := I.hok dd _ hx
      exact ⟨some o, hget, rfl, rfl, ho⟩
  exact PySem.W.kia_one (kit_exc C) I.kIn J e (fun z => nomatch z) fun tk => ⟨.bl b, H, I.kept (t' := tk) fun _ _ z => z, rfl, q⟩
structure ErrC (K : PySem.W.Frag) (c : Str) : Prop where
  root : PySem.W.exmOne K (.ref (He.ga K c)) (.ref (He.ga K "RodError")) = some true
  val : PySem.W.kitOne K (.ref (He.ga K c)) (.type "ValueError") = some true
  kit : ∀ C ∈ errNames, PySem.W.kitOne K (.ref (He.ga K c)) (.ref (He.ga K C)) = some (decide (c = C))
  ex : ExcC K (He.ga K c)
  ix : PySem.W.findIn K (.ref (He.ga K c)) "index" = some none
  off : PySem.W.findIn K (.ref (He.ga K c)) "offset" = some none
theorem errIn_names {c : Str} (h : errIn c = true) : c ∈ errNames := by
  have h1 : errSel.all (fun c => errNames.contains c) = true := by decide +kernel
  have := List.all_eq_true.mp h1 c (by simpa [errIn] using h)
  simpa using this
theorem errB_ok {K : PySem.W.Frag} (h : errB K = true) {c : Str} (hc : errIn c = true) : ErrC K c := by
  have h1 := List.all_eq_true.mp h c (by simpa [errIn] using hc)
  unfold errC1 at h1
  simp only [Bool.and_eq_true, decide_eq_true_eq, List.all_eq_true] at h1
  obtain ⟨a1, a2, a3, a4, a5, a6, a7, a8, a9, a10, a11, a12, a13⟩ := h1
  exact ⟨a1, a2, a3, ⟨a4, a5, a6, a7, a8, a9, a10, a11⟩, a12, a13⟩
theorem ErrC.xf {K : PySem.W.Frag} {c : Str} (T : ErrC K c) : XfC K (He.ga K c) := ⟨T.ex.hg, T.ex.hk, T.ex.hs, T.ex.hd⟩
def gIsE (i : Nat) (a : Addr) (d : Option Addr) (b : Bool) : G := fun ρ R => match (ρ[i]? : Option (Option D)) with
  | some (some (.exo a' d' fs)) => if a' = a ∧ d' = d then .ok (.bl b) R else .bad
  | _ => .bad
def gXf (i : Nat) (a : Addr) (d : Option Addr) (f : Str) : G := fun ρ R => match (ρ[i]? : Option (Option D)) with
  | some (some (.exo a' d' fs)) => if a' = a ∧ d' = d then match (fs.lookup f : Option D) with
    | some x => .ok x R
    | none => .bad
    else .bad
  | _ => .bad
section
variable {X : Cx} {E : XK} {a : Addr} {oe : Obj} {pn : List (Addr × Obj)} {d : Option Addr} {c : Str} {i : Nat} {e : Expr}
theorem exo_at {S : List Addr} {F H : Hp} {ρ : PEnv} {R : Rs} {σ : L2.St} {a' : Addr} {fs : List (Str × D)} (v : View X.K S F H ρ R σ) (hi : ρ[i]? = some (some (.exo a' d fs))) : σ[i]? = some (some (.ref a')) ∧ ((d = none ∧ fs = []) ∨ ∃ (dd : Addr) (gs : List (Str × V)), d = some dd ∧ H dd = some (.xd gs) ∧ gs.map (·.1) = fs.map (·.1) ∧ Reps X.K F (gs.map (·.2)) (fs.map (·.2))) := by
  obtain ⟨u, h1, h2⟩ := v.env i _ hi
  rcases h2 with h2 | ⟨n, b, h2, _⟩ | h2
  · cases h2
  · cases h2
  · cases h2 with
    | x h => exact ⟨h1, h.imp id fun ⟨dd, gs, z1, z2, z3, z4⟩ => ⟨dd, gs, z1, v.fh _ _ z2, z3, z4⟩⟩
theorem isE_core {cv : Value} {vc : V} {b : Bool} {ec : Expr} {p1 p2 : Pos} (T : ErrC X.K c) (hz : Zc (.ref (He.ga X.K c)) d oe) (hf : ∃ vs, oe.data = .fields vs) (hm : X.mg "isinstance" = none) (hg : Gl X "isinstance" := by rfl)
    (he : PE (X.suite a ((a, oe) :: pn)) e (tVar i)) (hc : PE (X.suite a ((a, oe) :: pn)) ec (tC vc)) (hcv : ∀ u, RelV vc u → u = cv) (hk : PySem.W.kitOne X.K (.ref (He.ga X.K c)) cv = some b)
    (hs : starEach [e, ec] X.env = (false, eval e X.env) :: starEach [ec] X.env := by rfl) (hs2 : starEach [ec] X.env = (false, eval ec X.env) :: starEach [] X.env := by rfl) (hpl : (backTo p2 (starEach [ec] X.env)).any (·.1) = false := by rfl) :
    Ev (X.suite a ((a, oe) :: pn)) E (.Call (.Name "isinstance" p1) [e, ec] [] p2) (gIsE i a d b) := by
  refine pe_imp (pe_callB (call_isX T.ex hz hf) hg hm (by decide +kernel) (pa_cons he (pa_cons hc pa_nil hs2) hs) (by decide) (by decide) hs hpl) fun σ H Q ⟨S, F, ρ, R, v, h⟩ => ?_
  unfold gIsE at h
  split at h
  · rename_i a' d' fs hi
    split at h
    · rename_i hh
      obtain ⟨rfl, rfl⟩ := hh
      obtain ⟨h1, h2⟩ := exo_at v hi
      refine ⟨_, h1, ?_, vc, cv, b, rfl, hcv, hk, h.now v.fh v.cells (.bl _)⟩
      rcases h2 with h2 | ⟨dd, gs, z1, z2, _⟩
      · exact .inl h2.1
      · exact .inr ⟨dd, gs, z1, z2⟩
    · exact h.elim
  · exact h.elim
theorem ev_isE {C : Str} {p1 p2 p3 : Pos} (T : ErrC X.K c) (hC : errNames.contains C = true) (hz : Zc (.ref (He.ga X.K c)) d oe) (hf : ∃ vs, oe.data = .fields vs) (hm : X.mg "isinstance" = none) (hmC : X.mg C = some (.ref (He.ga X.K C)))
    (he : PE (X.suite a ((a, oe) :: pn)) e (tVar i)) (hg : Gl X "isinstance" := by rfl) (hgC : Gl X C := by rfl) (hdb : (C == ("__debug__" : Str)) = false := by decide)
    (hs : starEach [e, .Name C p3] X.env = (false, eval e X.env) :: starEach [.Name C p3] X.env := by rfl) : Ev (X.suite a ((a, oe) :: pn)) E (.Call (.Name "isinstance" p1) [e, .Name C p3] [] p2) (gIsE i a d (decide (c = C))) :=
  isE_core T hz hf hm hg he (pe_glob (X := X.suite a ((a, oe) :: pn)) (v := .ref (He.ga X.K C)) hgC hmC rfl hdb) (fun u r => r) (T.kit C (by simpa using hC)) hs
theorem ev_isV {p1 p2 p3 : Pos} (T : ErrC X.K c) (hz : Zc (.ref (He.ga X.K c)) d oe) (hf : ∃ vs, oe.data = .fields vs) (hm : X.mg "isinstance" = none) (hmV : X.mg "ValueError" = none)
    (he : PE (X.suite a ((a, oe) :: pn)) e (tVar i)) (hg : Gl X "isinstance" := by rfl) (hgV : Gl X "ValueError" := by rfl)
    (hs : starEach [e, .Name "ValueError" p3] X.env = (false, eval e X.env) :: starEach [.Name "ValueError" p3] X.env := by rfl) : Ev (X.suite a ((a, oe) :: pn)) E (.Call (.Name "isinstance" p1) [e, .Name "ValueError" p3] [] p2) (gIsE i a d true) :=
  isE_core T hz hf hm hg he (pe_bltn (X := X.suite a ((a, oe) :: pn)) (v := .ty "ValueError") hgV hmV (by decide +kernel) rfl) (fun u r => r) T.val hs
theorem ev_xf {f : Str} {pos : Pos} (T : ErrC X.K c) (hfn : f = "index" ∨ f = "offset") (hz : Zc (.ref (He.ga X.K c)) d oe) (hf : ∃ vs, oe.data = .fields vs) (he : PE (X.suite a ((a, oe) :: pn)) e (tVar i)) (hb : attributeBase e f X.env (eval e X.env) = eval e X.env := by rfl) :
    Ev (X.suite a ((a, oe) :: pn)) E (.Attribute e f pos) (gXf i a d f) := by
  have hno : PySem.W.findIn X.K (.ref (He.ga X.K c)) f = some none := by
    rcases hfn with rfl | rfl
    · exact T.ix
    · exact T.off
  refine pe_imp (pe_xf (X := X) (C := He.ga X.K c) (cls := .ref (He.ga X.K c)) T.xf hno hz hf he hb) fun σ H Q ⟨S, F, ρ, R, v, h⟩ => ?_
  unfold gXf at h
  split at h
  · rename_i a' d' fs hi
    split at h
    · rename_i hh
      obtain ⟨rfl, rfl⟩ := hh
      split at h
      · rename_i x hx
        obtain ⟨h1, h2⟩ := exo_at v hi
        refine ⟨_, h1, rfl, rfl, ?_⟩
        rcases h2 with h2 | ⟨dd, gs, z1, z2, z3, z4⟩
        · rw [h2.2] at hx; cases hx
        · obtain ⟨u, y1, y2⟩ := lookup_rep z3 z4 hx
          exact ⟨dd, gs, u, z1, z2, y1, h.now v.fh v.cells y2⟩
      · exact h.elim
    · exact h.elim
  · exact h.elim
end
end Pv

namespace Pv
open PySem PySem.Spec PyProof.Rows L2 Sr
/-! ### count, index of flat things; texts -/
def flD : D → Option V
  | .non => some .non
  | .bl b => some (.bl b)
  | .int i => some (.int i)
  | .str x => some (.str x)
  | _ => none
def flL : List D → Option (List V)
  | [] => some []
  | d :: r => (flD d).bind fun v => (flL r).bind fun vs => some (v :: vs)
theorem flD_rep {K : PySem.W.Frag} {F : Hp} {v w : V} {d : D} (r : Rep K F v d) (h : flD d = some w) : v = w ∧ flatV w = true := by
  cases d with
  | non => cases r; cases h; exact ⟨rfl, rfl⟩
  | bl b => cases r; cases h; exact ⟨rfl, rfl⟩
  | int i => cases r; cases h; exact ⟨rfl, rfl⟩
  | str x => cases r; cases h; exact ⟨rfl, rfl⟩
  | _ => cases h
theorem flL_rep {K : PySem.W.Frag} {F : Hp} : ∀ {vs ws : List V} {ds : List D}, Reps K F vs ds → flL ds = some ws → vs = ws ∧ ws.all flatV = true
  | _, _, _, .nil, h => by cases h; exact ⟨rfl, rfl⟩
  | _, ws, d :: ds, .cons r rs, h => by
    obtain ⟨v, h1, h2⟩ := Option.bind_eq_some_iff.mp h
    obtain ⟨us, h3, h4⟩ := Option.bind_eq_some_iff.mp h2
    cases h4
    obtain ⟨e1, e2⟩ := flD_rep r h1
    obtain ⟨e3, e4⟩ := flL_rep rs h3
    exact ⟨by rw [e1, e3], by rw [List.all_cons, e2, e4]; rfl⟩
def rCntF (K : PySem.W.Frag) : V → List V → Hp → VK → Prop := fun x xs H Q => ∃ (p : Addr) (ys : List V) (y : V), x = .ref p ∧ xs = [y] ∧ SqL K H p ys ∧ flatV y = true ∧ ys.all flatV = true ∧ Q (.int (ys.countP (fun z => eqV z y) : Nat)) H
theorem countU {y : V} : ∀ {ys : List V} {us : List Value}, Vals ys us → ys.all flatV = true → us.countP (eqU y) = ys.countP (fun z => eqV z y)
  | _, _, .nil, _ => rfl
  | z :: ys, u :: us, .cons r t, f => by
    rw [List.all_cons, Bool.and_eq_true] at f
    rw [List.countP_cons, List.countP_cons, countU t f.2, eqU_of r f.1]
theorem mt_countF {X : Cx} : MtR X "list.count" (rCntF X.K) := by
  intro pins s σ H x xs v us Q I rx rxs h
  obtain ⟨p, ys, y, rfl, rfl, hs, fy, fys, q⟩ := h
  cases rx
  obtain ⟨u, rfl, ru⟩ := rxs.one
  obtain ⟨its, rv, ⟨⟨cls, dd, data, sl⟩, n, ho, hc, hdn, hd⟩, hlen⟩ := I.list hs
  simp only at hc hd
  subst hc hd
  refine call_meets PySem.F.slot_list_count ⟨_, ho, rfl⟩ PySem.F.entry_list_count (PySem.F.args_list_count_2 _ _) (SeqAt.list_countAt p its.toArray n dd sl u (eqU y)) ⟨ho, fun u' hu' => mem_eqAt ru fy rv fys u' (by simpa using hu'), ?_⟩
  have ec : its.toArray.toList.countP (eqU y) = ys.countP (fun z => eqV z y) := countU rv fys
  refine ⟨.int (ys.countP (fun z => eqV z y) : Nat), H, I.tok _, ⟨s.toks, ?_⟩, q⟩
  show Value.int ((its.toArray.toList.countP (eqU y) : Nat) : Int) s.toks = _
  rw [ec]
def dCountF : D → List D → Rs → Res D := fun x ds R => match x, ds with
  | .lst xs, [y] => match flL xs, flD y with
    | some vs, some w => .ok (.int (vs.countP (fun z => eqV z w) : Nat)) R
    | _, _ => .bad
  | _, _ => .bad
def dIndexF : D → List D → Rs → Res D := fun x ds R => match x, ds with
  | .lst xs, [y] => match flL xs, flD y with
    | some vs, some w => match vs.findIdx? (fun z => eqV z w) with
      | some j => .ok (.int (j : Nat)) R
      | none => .bad
    | _, _ => .bad
  | _, _ => .bad
section
variable {X : Cx} {E : XK}
theorem m_countF : MtR X "list.count" (rCntF X.K) ∧ MtD X.K E (rCntF X.K) dCountF := ⟨mt_countF, fun S F H R x xs dx dxs Q hs c rx rxs h => by
  unfold dCountF at h
  split at h
  · rename_i ys y
    split at h
    · rename_i vs w h1 h2
      cases rx with
      | lst hf rs =>
      cases rxs with
      | cons ry rr =>
      cases rr
      obtain ⟨rfl, e2⟩ := flL_rep rs h1
      obtain ⟨rfl, e4⟩ := flD_rep ry h2
      exact ⟨_, _, _, rfl, rfl, SqL.of (hs _ _ hf), e4, e2, h.now hs c (.int _)⟩
    · exact h.elim
  · exact h.elim⟩
theorem m_indexF : MtR X "list.index" (rIndex X.K) ∧ MtD X.K E (rIndex X.K) dIndexF := ⟨mt_index, fun S F H R x xs dx dxs Q hs c rx rxs h => by
  unfold dIndexF at h
  split at h
  · rename_i ys y
    split at h
    · rename_i vs w h1 h2
      split at h
      · rename_i j hj
        cases rx with
        | lst hf rs =>
        cases rxs with
        | cons ry rr =>
        cases rr
        obtain ⟨rfl, e2⟩ := flL_rep rs h1
        obtain ⟨rfl, e4⟩ := flD_rep ry h2
        obtain ⟨hl, h3, h4⟩ := List.findIdx?_eq_some_iff_getElem.mp hj
        refine ⟨_, _, _, j, _, rfl, rfl, SqL.of (hs _ _ hf), e4, e2, List.getElem?_eq_getElem hl, h3, fun m z hm hz => ?_, h.now hs c (.int _)⟩
        have := h4 m hm
        obtain ⟨h5, h6⟩ := List.getElem?_eq_some_iff.mp hz
        rw [h6] at this
        simpa using this
      · exact h.elim
    · exact h.elim
  · exact h.elim⟩
/-- s + t of texts -/
def dCatS : D → D → Rs → Res D := fun x y R => match x, y with
  | .str a, .str b => if a.length + b.length ≤ sizeLine then .ok (.str (a ++ b)) R else .bad
  | _, _ => .bad
theorem o_catS : OpR X (binaryOp .Add) (fun x y H Q => ∃ i j, x = .str i ∧ y = .str j ∧ i.length + j.length ≤ sizeLine ∧ Q (.str (i ++ j)) H) ∧ OpD X.K E (fun x y H Q => ∃ i j, x = .str i ∧ y = .str j ∧ i.length + j.length ≤ sizeLine ∧ Q (.str (i ++ j)) H) dCatS := ⟨op_add_str, fun S F H R x y dx dy Q hs c rx ry h => by
  unfold dCatS at h
  split at h
  · split at h
    · rename_i hl
      cases rx; cases ry
      exact ⟨_, _, rfl, rfl, hl, h.now hs c (.str _)⟩
    · exact h.elim
  · exact h.elim⟩
/-- s.split(t) -/
def gSplit (ga gb : G) : G := fun ρ R => (ga ρ R).bind fun x R1 => match x with
  | .str a => (gb ρ R1).bind fun y R2 => match y with
    | .str b => if (b.length == 0) = false ∧ a.length + 2 ≤ sizeLine then .ok (.lst ((Txt.split a b).map .str)) R2 else .bad
    | _ => .bad
  | _ => .bad
theorem reps_strs {K : PySem.W.Frag} {F : Hp} : ∀ ys : List Str, Reps K F (ys.map V.str) (ys.map D.str)
  | [] => .nil
  | y :: r => .cons (.str y) (reps_strs r)
theorem ev_split {o e : Expr} {ga gb : G} {apos pos : Pos} (ho : Ev X E o ga) (he : Ev X E e gb) (hs : starEach [e] X.env = [(false, eval e X.env)] := by rfl) (hbase : attributeBase o "split" X.env (eval o X.env) = eval o X.env := by rfl) (hline : (apos.endLine == pos.line) = true := by rfl) :
    Ev X E (.Call (.Attribute o "split" apos) [e] [] pos) (gSplit ga gb) := pe_imp (pe_split ho he hs hbase hline) fun σ H Q ⟨S, F, ρ, R, v, h⟩ => by
  refine ⟨S, F, ρ, R, v, Wp.bind h fun x S1 F1 H1 dx R1 e1 c1 rx h1 => ?_⟩
  split at h1
  · cases rx
    refine ⟨⟨_, rfl⟩, S1, F1, ρ, R1, v.ext e1 c1, Wp.bind h1 fun y S2 F2 H2 dy R2 e2 c2 ry h2 => ?_⟩
    split at h2
    · split at h2
      · rename_i hc
        cases ry
        exact ⟨_, _, rfl, rfl, hc.1, hc.2, fun p hp => wp_lst e2.fh c2 (reps_strs _) h2 hp⟩
      · exact h2.elim
    · exact h2.elim
  · exact h1.elim
end
end Pv

namespace Pv
open PySem PySem.Spec PyProof.Rows L2 Sr
/-! ### the head's facts, the table of the law's lambdas left out -/
/-- the end of a law -/
theorem walk_ofW {l : PySem.W.OpenLaw} {n k : Nat} {q : Program} {loose : List Str} {XP : (Str → Option Value) → Heap → Prop} {YP : World → Heap → Prop} {d : DefRec} {CX : CXT} {x : Str} (hn : l.most = some n) (hn2 : n ≤ sizeLine) (hdf : d.params.defaults = []) (hr : Room k callerA)
    (F : ∀ (w : World) (mg : Str → Option Value) (fa : Addr) (h : Heap), YP w h → h.Ns mainGlobals mg → mg d.name = some (.ref fa) →
      ∃ (K : PySem.W.Frag) (fd : FuncData) (sp : Sp), K.In h ∧ PySem.W.CodeHd h (He.cT K ("law", none)).1 (tabP K) ∧ K.lookup (tabP K) = none ∧ h.get? (tabP K) = some { cls := .none, data := .fields #[] } ∧ (∀ (s : Shared) (u : Value), BindsTo s fd ⟨[u], []⟩ [(x, u)]) ∧
        (∀ (H : Hp) (a : Addr) (ns : List Int), ns.length ≤ n → H (tabP K) = some (.tbl #[]) → SqL K H a (ns.map V.int) → sp [.ref a] H (fun v _ => v = .bl true) fun _ _ _ => False) ∧
        ∀ base : Heap, K.In base → base.Ns mainGlobals mg → LamX.TabB base mg (He.cT K ("law", none)).1 (tabP K) → FnOk l.prog w K mg base CX k fa fd [x] sp)
    (hCX : ∀ (H : Hp) (s : Shared) (e : Value) (s' : Shared), CX [] H s (fun _ _ _ => False) e s' → False) : PySem.W.WalkO q loose XP YP l.row.toRowW d [] (fun f vs => PySem.call f vs) := by
  refine Att.attach_call hn hdf fun w s0 s1 mg mb fa o pm cd doc a vs ns G Y ho hd hcd hmg hobj hints hlen hg => ?_
  obtain ⟨K, fd, sp, KX, C, nT, hT, hb, hsp, hF⟩ := F w mg fa _ Y G.T.g hmg
  refine LamX.law_callTs (cs := [((He.cT K ("law", none)).1, tabP K)]) KX G.T.g G.T.b G.T.builtins G.T.nolimit hg ?_ ?_ ?_ G.T.bmain hobj hints (Nat.le_trans hlen hn2) hr (fun base k1 k2 k3 => hF base k1 k2 (k3 ((He.cT K ("law", none)).1, tabP K) (List.mem_singleton.mpr rfl))) hb (fun H hH hS => hsp H a ns hlen (hH ((He.cT K ("law", none)).1, tabP K) (List.mem_singleton.mpr rfl)) hS) fun H e s' => hCX H s1 e s'
  · intro p hp; rw [List.mem_singleton.mp hp]; exact hT
  · intro p hp; rw [List.mem_singleton.mp hp]; exact nT
  · intro p hp; rw [List.mem_singleton.mp hp]; exact C
end Pv

namespace Pv
open PySem PySem.Spec PyProof.Rows L2 Sr
/-! ### what a call raises, told as the laws tell it -/
def errOf (c : Str) (fs : List (Str × D)) : Option D := (errT.lookup c).bind fun p => if p.2 = "" then some (.tup [.str p.1, .int 0]) else (fs.lookup p.2).map fun x => .tup [.str p.1, x]
def errRes (c : Str) (fs : List (Str × D)) (R : Rs) : Res D := match errOf c fs with
  | some d => .ok d R
  | none => .bad
def errEnd (r : Res D) : Res D := match r with
  | .ok _ R => .ok .non R
  | .exc c fs R => if errIn c then errRes c fs R else .bad
  | .bad => .bad
/-! ### a closure is called -/
abbrev LamTab := List (LamT × G)
open Classical in
noncomputable def lamG (tab : LamTab) (l : LamT) : Option G := match tab[l.id]? with
  | some (l', g) => if l = l' then some g else none
  | none => none
noncomputable def gClo (tab : LamTab) (i : Nat) : G := fun ρ R => match (ρ[i]? : Option (Option D)) with
  | some (some (.clo l ρ' a0)) => match (R[1]? : Option D) with
    | some (.tab a1) => if a0 = a1 ∧ noE ρ' = true ∧ R.all noO = true then match lamG tab l with
      | some g => g ρ' R
      | none => .bad
      else .bad
    | _ => .bad
  | _ => .bad
def TabB (P : Program) (w : World) (K : PySem.W.Frag) (mg : Str → Option Value) (base : Heap) (k : Nat) (tab : LamTab) : Prop := ∀ l g, lamG tab l = some g → LamBody P w K mg base k l g
section
variable {X : Cx} {E : XK}
theorem ev_clo {tab : LamTab} {k i : Nat} {fe : Expr} {p2 : Pos} {a : Str} {p1 : Pos} (hT : TabB X.prog X.w X.K X.mg X.base k tab) (hr : Room (k + 1) X.A) (hx : Passes (L2.CX X.prog X.w) X E) (he : PE X (.Name a p1) (tVar i)) : Ev X E (.Call (.Name a p1) [] [] p2) (gClo tab i) := by
  refine ⟨fun pins s σ H Q I h => ?_⟩
  obtain ⟨S, F, ρ, R, v, h⟩ := h
  unfold gClo at h
  split at h
  · rename_i l ρ' a0 hi
    split at h
    · rename_i a1 hR
      split at h
      · rename_i hc
        obtain ⟨rfl, hn, hnR⟩ := hc
        split at h
        · rename_i g hg
          obtain ⟨u, h1, h2⟩ := v.env i _ hi
          have rp := h2.rep rfl
          have hu : ∃ f, u = .ref f := by cases rp; exact ⟨_, rfl⟩
          obtain ⟨f, rfl⟩ := hu
          refine wpAny_Call_Name_kw (thn (he.run pins s σ H (fun x H1 => x = .ref f ∧ H1 = H) I ⟨.ref f, h1, rfl, rfl⟩) fun u s1 ⟨x, H1, I1, r1, e1, e2⟩ => ?_)
          subst e1
          rw [e2] at I1
          obtain rfl : u = Value.ref f := r1
          obtain ⟨hf, rc⟩ := clo_run (Q := Q) (E := E) (hT l g hg) hr I1.env0 v.fh v.cells hR hn hnR rp h
          refine PySem.W.callWith_F0 hf ?_
          refine wpAny_call (codeAny_mono rc fun r s' hq => ?_)
          cases r with
          | error e => exact hx pins σ H s1 e s' I1 hq
          | ok fl =>
            cases fl with
            | ret u => exact I1.after hq
            | next => exact False.elim hq
            | brk => exact False.elim hq
            | cont => exact False.elim hq
        · exact h.elim
      · exact h.elim
    · exact h.elim
  · exact h.elim
end
/-! ### the law hands its lambdas to a def -/
def okCap : Option D → Option D
  | some (.loc 0) => some (.loc 0)
  | some d => if d.isLoc then none else some d
  | none => none
def capt (cs : List Nat) : Nat → PEnv → PEnv
  | _, [] => []
  | k, d :: r => (if cs.contains k then okCap d else none) :: capt cs (k + 1) r
open Classical in
noncomputable def conv1 (tab : LamTab) (cl : List (Str × Addr)) (ρ : PEnv) (a0 : Addr) : D → D
  | .lam l cl' => if cl' = cl ∧ (lamG tab l).isSome = true then .clo l (capt l.cs 0 ρ) a0 else .lam l cl'
  | d => d
noncomputable def convD (tab : LamTab) (cl : List (Str × Addr)) (ρ : PEnv) (a0 : Addr) : D → D
  | .lst xs => .lst (xs.map (conv1 tab cl ρ a0))
  | d => conv1 tab cl ρ a0 d
noncomputable def gCallC (tab : LamTab) (n : Nat) (f : List D → Rs → Res D) (cl : List (Str × Addr)) (gs : GA) : G := fun ρ R => (gs ρ R).bind fun ds R1 => match (R1[1]? : Option D) with
  | some (.tab a0) => if ds.length = n then match f (ds.map (convD tab cl ρ a0)) R1 with
    | .ok z R2 => if z.noC = true ∧ R2.all noO = true then .ok z R2 else .bad
    | _ => .bad
    else .bad
  | _ => .bad
theorem repE_capt {K : PySem.W.Frag} {F : Hp} {a0 : Addr} (cs : List Nat) : ∀ {k : Nat} {σ : L2.St} {ρ : PEnv}, ρ.length = σ.length → (∀ (i : Nat) (d : D), ρ[i]? = some (some d) → ∃ v, σ[i]? = some (some v) ∧ ((d.isLoc = false → Rep K F v d) ∧ (d = .loc 0 → v = .ref a0))) → RepE K F a0 σ (capt cs k ρ)
  | _, [], [], _, _ => .nil
  | k, v :: σ, d :: ρ, hl, h => by
    have ih : RepE K F a0 σ (capt cs (k + 1) ρ) := repE_capt cs (by simpa using hl) fun i d e => h (i + 1) d e
    unfold capt
    by_cases hc : cs.contains k = true
    · rw [if_pos hc]
      cases d with
      | none => exact .none ih
      | some d =>
        obtain ⟨u, h1, h2, h3⟩ := h 0 d rfl
        have hv : v = some u := by simpa using h1
        subst hv
        by_cases h0 : d = .loc 0
        · subst h0
          rw [h3 rfl]
          exact .loc ih
        · have e : okCap (some d) = if d.isLoc then none else some d := by
            unfold okCap
            split
            · rename_i q; cases q; exact absurd rfl h0
            · rename_i q; cases q; rfl
            · rename_i q; cases q
          rw [e]
          split
          · exact .none ih
          · rename_i hl
            exact .some (h2 (by simpa using hl)) ih
    · rw [if_neg hc]; exact .none ih
section
variable {X : Cx} {pins : List (Addr × Obj)} {σ : L2.St} {H F : Hp} {s : Shared} {S : List Addr} {R : Rs} {ρ : PEnv} {a0 : Addr}
/-- the law's cells, as they stand -/
def celH (s : Shared) : Hp := fun b => (s.heap.get? b).map (CellO b)
theorem cel_trk (I : Inv X pins σ H s) : ∀ b, clB X.env.cells b → ∃ o u, celH s b = some (CellO b o) ∧ o.data = .cell u ∧ s.heap.get? b = some o ∧ H b = none := fun b ⟨y, hy⟩ => by
  obtain ⟨u, o, ho, hd⟩ := I.cell y b hy
  exact ⟨o, u, by unfold celH; rw [ho]; rfl, hd, ho, I.freeC y b hy⟩
theorem cel_cap {l : LamT} (L : LamOk X l) (I : Inv X pins σ H s) : CapOk (addC (clB X.env.cells) (celH s) F) l.N X.env.cells l.scope σ := by
  refine ⟨by rw [I.len, L.hN], L.has I.ok, fun x y b h1 h2 => I.ok.inj x y b h1 h2, fun y b hy => ?_, fun i y v e1 e2 e3 => ?_⟩
  · obtain ⟨o, u, h1, h2, _⟩ := cel_trk I b ⟨y, hy⟩
    exact ⟨o, u, by rw [addC_in ⟨y, hy⟩]; exact h1, h2⟩
  · rw [← L.hN] at e1
    have fr := L.free _ (mem_of_lookup e3) rfl
    obtain ⟨m, _, hl⟩ := I.loc
    obtain ⟨u, r, q⟩ := hl i y v e1 e2 (fr.elim (fun k => .inr (.inl k)) fun k => .inr (.inr k))
    rcases q with ⟨k', _⟩ | ⟨_, b, hb, o, ho, hd⟩
    · have k' : X.env.scope.names.lookup y = some .local := k'
      rcases fr with k2 | k2 <;> rw [show X.env.scope.names.lookup y = _ from k2] at k' <;> cases k'
    · exact ⟨b, o, u, hb, by rw [addC_in ⟨y, hb⟩]; unfold celH; rw [ho]; rfl, hd, r⟩
theorem cel_none (I : Inv X pins σ H s) (hs : Same F H) : ∀ b, clB X.env.cells b → F b = none := fun b hb => hs.free (cel_trk I b hb).choose_spec.choose_spec.2.2.2
theorem rep_conv1 {tab : LamTab} (hL : ∀ l g, lamG tab l = some g → LamOk X l) (I : Inv X pins σ H s) (v : View X.K S F H ρ R σ) (hR : R[1]? = some (.tab a0)) {F2 : Hp} (h2 : Same F F2) (hF : ∀ b, clB X.env.cells b → F2 b = none) {u : V} {d : D} (r : Rep X.K F2 u d) : Rep X.K (addC (clB X.env.cells) (celH s) F2) u (conv1 tab X.env.cells ρ a0 d) := by
  have hS : Same F2 (addC (clB X.env.cells) (celH s) F2) := same_add hF
  cases r with
  | lam h1 h2' h3 =>
    rename_i f c l cl dV
    show Rep _ _ _ (if cl = X.env.cells ∧ (lamG tab l).isSome = true then D.clo l (capt l.cs 0 ρ) a0 else .lam l cl)
    split
    · rename_i e
      obtain ⟨e, hg⟩ := e
      subst e
      obtain ⟨g, hg⟩ := Option.isSome_iff_exists.mp hg
      have L := hL l g hg
      refine .clo (hS _ _ h1) (hS _ _ h2') (h3.mono hS) (cel_cap L I) (repE_capt _ v.len fun i d e => ?_)
      obtain ⟨u, z1, z2⟩ := v.env i d e
      refine ⟨u, z1, fun hl => (z2.rep hl).mono (h2.trans hS), fun e0 => ?_⟩
      subst e0
      rcases z2 with z2 | ⟨n, b, q1, q2, q3⟩ | z2
      · cases z2
      · cases q1
        have := (v.cells.tb 1 a0 hR).2.1
        rw [q3] at this
        cases this
        exact q2
      · cases z2
    · exact .lam (hS _ _ h1) (hS _ _ h2') (h3.mono hS)
  | non => exact .non
  | bl b => exact .bl b
  | int i => exact .int i
  | str x => exact .str x
  | tup h r => exact (Rep.tup h r).mono hS
  | lst h r => exact (Rep.lst h r).mono hS
  | arm h e r => exact (Rep.arm h e r).mono hS
  | ins h e r => exact (Rep.ins h e r).mono hS
  | dic h e r => exact (Rep.dic h e r).mono hS
  | dit h e r => exact (Rep.dit h e r).mono hS
  | ty n => exact .ty n
  | cls c => exact .cls c
  | tab h => exact (Rep.tab h).mono hS
  | clo a b c d e => exact (Rep.clo a b c d e).mono hS
theorem reps_conv1 {tab : LamTab} (hL : ∀ l g, lamG tab l = some g → LamOk X l) (I : Inv X pins σ H s) (v : View X.K S F H ρ R σ) (hR : R[1]? = some (.tab a0)) {F2 : Hp} (h2 : Same F F2) (hF : ∀ b, clB X.env.cells b → F2 b = none) : ∀ {us : List V} {ds : List D}, Reps X.K F2 us ds → Reps X.K (addC (clB X.env.cells) (celH s) F2) us (ds.map (conv1 tab X.env.cells ρ a0))
  | _, _, .nil => .nil
  | _, _, .cons h r => .cons (rep_conv1 hL I v hR h2 hF h) (reps_conv1 hL I v hR h2 hF r)
theorem rep_convD {tab : LamTab} (hL : ∀ l g, lamG tab l = some g → LamOk X l) (I : Inv X pins σ H s) (v : View X.K S F H ρ R σ) (hR : R[1]? = some (.tab a0)) {F2 : Hp} (h2 : Same F F2) (hF : ∀ b, clB X.env.cells b → F2 b = none) {u : V} {d : D} (r : Rep X.K F2 u d) : Rep X.K (addC (clB X.env.cells) (celH s) F2) u (convD tab X.env.cells ρ a0 d) := by
  cases d with
  | lst xs =>
    cases r with
    | lst h rs => exact .lst (same_add hF _ _ h) (reps_conv1 hL I v hR h2 hF rs)
  | _ => exact rep_conv1 hL I v hR h2 hF r
theorem reps_convD {tab : LamTab} (hL : ∀ l g, lamG tab l = some g → LamOk X l) (I : Inv X pins σ H s) (v : View X.K S F H ρ R σ) (hR : R[1]? = some (.tab a0)) {F2 : Hp} (h2 : Same F F2) (hF : ∀ b, clB X.env.cells b → F2 b = none) : ∀ {us : List V} {ds : List D}, Reps X.K F2 us ds → Reps X.K (addC (clB X.env.cells) (celH s) F2) us (ds.map (convD tab X.env.cells ρ a0))
  | _, _, .nil => .nil
  | _, _, .cons h r => .cons (rep_convD hL I v hR h2 hF h) (reps_convD hL I v hR h2 hF r)
end
end Pv

namespace Pv
open PySem PySem.Spec PyProof.Rows L2 Sr
section
variable {X : Cx} {pins : List (Addr × Obj)} {σ : L2.St} {H F : Hp} {s : Shared} {S : List Addr} {R : Rs} {ρ : PEnv} {a0 : Addr}
/-- the callee's start: the law's cells are tracked -/
theorem env0_add (I : Inv X pins σ H s) (hfn : ∀ y, X.fn y = true) (hst : X.stack = X.env :: X.outer) (hfr : X.env.frame = some X.env.locals) : Env0 X.prog X.w X.K X.mg X.base X.A X.stack s (addC (clB X.env.cells) (celH s) H) := by
  have e0 := I.env0
  have fresh : ∀ b, clB X.env.cells b → X.s_0.heap.objs.size ≤ b := fun b ⟨y, hy⟩ => I.ok.cab y b (hfn y) hy
  refine ⟨e0.frames, e0.mod, fun b o e => ⟨(e0.bs b o e).1, ?_⟩, e0.bsz, e0.funs, fun b hb => ?_, fun b u e => ?_, e0.bare⟩
  · have hb : ¬clB X.env.cells b := fun hb => absurd (Heap.lt_size e) (Nat.not_lt.mpr (Nat.le_trans I.ok.bsz (fresh b hb)))
    rw [addC_out hb]; exact (e0.bs b o e).2
  · have hb' : ¬clB X.env.cells b := fun hb' => by
      obtain ⟨o, u, _, h2, h3, _⟩ := cel_trk I b hb'
      rcases List.mem_cons.mp (I.stkSub b hb) with z | z
      · subst z
        obtain ⟨m, ⟨o', es, ep, ho', hd', _⟩, _⟩ := I.loc
        rw [h3] at ho'
        cases ho'
        rw [h2] at hd'; cases hd'
      · obtain ⟨_, o', ho', _⟩ := I.ok.funs.mem z
        exact absurd (Heap.lt_size ho') (Nat.not_lt.mpr (fresh b hb'))
    rw [addC_out hb']; exact e0.frf b hb
  · by_cases hb : clB X.env.cells b
    · rw [addC_in hb] at e
      obtain ⟨o, w, h1, h2, h3, _⟩ := cel_trk I b hb
      rw [h1] at e
      cases e
      exact ⟨h3, ⟨o, h3⟩, fun g1 g2 z k => k _ z⟩
    · rw [addC_out hb] at e
      refine (I.hok b u e).stay (fun _ _ _ z => z) (fun c hc => ?_) fun c xs hc => ?_
      · by_cases hc2 : clB X.env.cells c
        · obtain ⟨o, w, _, _, _, h4⟩ := cel_trk I c hc2
          rw [h4] at hc; cases hc
        · rw [addC_out hc2]; exact hc
      · by_cases hc2 : clB X.env.cells c
        · obtain ⟨o, w, _, _, _, h4⟩ := cel_trk I c hc2
          rw [h4] at hc; cases hc
        · rw [addC_out hc2]; exact hc
/-- the end: they are let go -/
theorem ce_cut {Q : VK} {u : Value} {s' : Shared} (I : Inv X pins σ H s)
    (h : CE X.stack X.prog X.w (addC (clB X.env.cells) (celH s) H) s (fun v H' => (∀ b, clB X.env.cells b → H' b = celH s b) ∧ Q v (cutC (clB X.env.cells) H')) u s') : CE X.stack X.prog X.w H s Q u s' := by
  obtain ⟨v, H', os, bare, un, hok, rv, hk, q⟩ := h
  have t : Trk (clB X.env.cells) H' := fun b hb => by
    obtain ⟨o, w, h1, h2, _⟩ := cel_trk I b hb
    exact ⟨o, w, by rw [hk b hb]; exact h1, h2⟩
  have out : ∀ {b u}, H b = some u → ¬clB X.env.cells b := fun {b u} e hb => by
    obtain ⟨o, w, _, _, _, h4⟩ := cel_trk I b hb
    rw [h4] at e; cases e
  refine ⟨v, cutC (clB X.env.cells) H', os, bare, { keep := fun b o e n hf hx => ?_, slot := fun b o e n hf hx => ?_, free := fun b o e n hx => ?_, there := un.there, tups := fun b xs e => ?_, frzs := fun b o z e => ?_, tbls := fun b ps e => ?_ }, hok_cut t hok, rv, q⟩
  · by_cases hb : clB X.env.cells b
    · obtain ⟨o1, w, h1, h2, h3, _⟩ := cel_trk I b hb
      rw [e] at h3
      cases h3
      have z : ObjOk X.prog X.w H' s'.heap b (.ext fun h => h.get? b = some o) := hok b _ (by rw [hk b hb]; exact h1)
      exact z.1
    · exact un.keep b o e (by rw [addC_out hb]; exact n) hf hx
  · by_cases hb : clB X.env.cells b
    · obtain ⟨o1, w, h1, h2, h3, _⟩ := cel_trk I b hb
      rw [e] at h3
      cases h3
      have z : ObjOk X.prog X.w H' s'.heap b (.ext fun h => h.get? b = some o) := hok b _ (by rw [hk b hb]; exact h1)
      exact ⟨o.slots, z.1⟩
    · exact un.slot b o e (by rw [addC_out hb]; exact n) hf hx
  · by_cases hb : clB X.env.cells b
    · exact cutC_in hb
    · rw [cutC_out hb]; exact un.free b o e (by rw [addC_out hb]; exact n) hx
  · have hb := out e
    rw [cutC_out hb]; exact un.tups b xs (by rw [addC_out hb]; exact e)
  · have hb := out e
    rw [cutC_out hb]; exact un.frzs b o z (by rw [addC_out hb]; exact e)
  · have hb := out e
    rw [cutC_out hb]; exact un.tbls b ps (by rw [addC_out hb]; exact e)
theorem ext_cut {S' : List Addr} {B : Addr → Prop} {F1 H1 F' H' : Hp} (hF : ∀ b, B b → F b = none) (hH : ∀ b, B b → H b = none) (e : Ext S (addC B F1 F) (addC B H1 H) S' F' H') : Ext S F H S' (cutC B F') (cutC B H') := by
  have oF : ∀ {b u}, F b = some u → ¬B b := fun {b u} z hb => by rw [hF b hb] at z; cases z
  have oH : ∀ {b u}, H b = some u → ¬B b := fun {b u} z hb => by rw [hH b hb] at z; cases z
  refine ⟨e.s, fun b u z => ?_, Same.cut e.fh, fun b u z hb => ?_, fun b u z => ?_, fun b u z t n => ?_, fun b h1 h2 => ?_⟩
  · have hb := oF z
    rw [cutC_out hb]; exact e.f b u (by rw [addC_out hb]; exact z)
  · have hB := oH z
    rw [cutC_out hB]; exact e.fr b u (by rw [addC_out hB]; exact z) hb
  · have hB := oH z
    obtain ⟨u', z'⟩ := e.th b u (by rw [addC_out hB]; exact z)
    exact ⟨u', by rw [cutC_out hB]; exact z'⟩
  · have hB := oH z
    rw [cutC_out hB]; exact e.nw b u (by rw [addC_out hB]; exact z) t (by rw [addC_out hB]; exact n)
  · by_cases hB : B b
    · exact hH b hB
    · have := e.sn b h1 h2
      rw [addC_out hB] at this; exact this
theorem ev_callC {E : XK} {n k : Nat} {x : Str} {ps : List Str} {f : List D → Rs → Res D} {tab : LamTab} {e : Expr} {es : List Expr} {gs : GA} {p pos : Pos} (FN : Fn X.prog X.w X.K X.mg X.base (L2.CX X.prog X.w) k x ps (spP X.K n f)) (hr : Room k X.A) (hL : ∀ l g, lamG tab l = some g → LamOk X l) (ha : EvA X E (e :: es) gs)
    (hfn : ∀ y, X.fn y = true := by intro _; rfl) (hst : X.stack = X.env :: X.outer := by rfl) (hfr : X.env.frame = some X.env.locals := by rfl) (hg : Gl X x := by rfl) (hdb : (x == ("__debug__" : Str)) = false := by decide)
    (he : starEach (e :: es) X.env = (false, eval e X.env) :: starEach es X.env := by rfl) (hpl : (backTo pos (starEach es X.env)).any (·.1) = false := by rfl) : Ev X E (.Call (.Name x p) (e :: es) [] pos) (gCallC tab n f X.env.cells gs) := by
  refine ⟨fun pins s σ H Q I h => ?_⟩
  obtain ⟨S, F, ρ, R, v, h⟩ := h
  obtain ⟨fa, fd, hm, hk, hb, FO, _⟩ := FN.ex
  refine wpAny_Call_Name_kw (ld_glob I hg hm ?_ hdb)
  refine PySem.W.callWith_K (h₀ := X.base) I.ok.mod.kin hk (thn (ha.run pos pins s σ H (fun vs H1 => ∃ S1 F1 ds R1, Ext S F H S1 F1 H1 ∧ Cells X.K S1 F1 H1 R1 ∧ Reps X.K F1 vs ds ∧ Wp X.K E (fun _ F v d => Rep X.K F v d) S1 F1 H1 (match (R1[1]? : Option D) with
      | some (.tab a0) => if ds.length = n then match f (ds.map (convD tab X.env.cells ρ a0)) R1 with
        | .ok z R2 => if z.noC = true ∧ R2.all noO = true then .ok z R2 else .bad
        | _ => .bad
        else .bad
      | _ => .bad) Q) I ⟨S, F, ρ, R, v, Wp.bind h fun xs S1 F1 H1 ds R1 e1 c1 rx h1 => ⟨S1, F1, ds, R1, e1, c1, rx, h1⟩⟩) fun us s1 ⟨vs, H1, I1, r, q⟩ => ⟨I1.kIn, ?_⟩) he hpl
  obtain ⟨S1, F1, ds, R1, e1, c1, rx, h1⟩ := q
  have v1 : View X.K S1 F1 H1 ρ R1 σ := v.ext e1 c1
  split at h1
  · rename_i a0 hR
    split at h1
    · rename_i hn
      split at h1
      · rename_i z R2 hf
        split at h1
        · rename_i hc
          have hF := cel_none I1 e1.fh
          have hH : ∀ b, clB X.env.cells b → H1 b = none := fun b hb => (cel_trk I1 b hb).choose_spec.choose_spec.2.2.2
          have rd := reps_convD (tab := tab) hL I1 v1 hR (.refl F1) hF rx
          have ca : Cells X.K S1 (addC (clB X.env.cells) (celH s1) F1) (addC (clB X.env.cells) (celH s1) H1) R1 := cells_add c1 e1.fh hH
          have sa : Same (addC (clB X.env.cells) (celH s1) F1) (addC (clB X.env.cells) (celH s1) H1) := fun b u y => by
            by_cases hb : clB X.env.cells b
            · rw [addC_in hb] at y ⊢; exact y
            · rw [addC_out hb] at y ⊢; exact e1.fh b u y
          have hl : us.length = ps.length := by
            rw [← r.length]
            exact FO.len vs (addC (clB X.env.cells) (celH s1) H1) (fun _ _ => True) XF ⟨S1, _, R1, _, sa, ca, rd, by rw [List.length_map]; exact hn, by rw [hf]; exact fun _ _ _ _ _ _ _ => trivial⟩
          have b := hb s1 us I1.kIn (by rw [List.append_nil]; exact hl)
          rw [List.append_nil] at b
          refine wpAny_call (codeAny_mono (FO.run X.A X.stack s1 (addC (clB X.env.cells) (celH s1) H1) ⟨us, []⟩ us vs (fun v H' => (∀ b, clB X.env.cells b → H' b = celH s1 b) ∧ Q v (cutC (clB X.env.cells) H')) XF hr (env0_add I1 hfn hst hfr) b r
            ⟨S1, addC (clB X.env.cells) (celH s1) F1, R1, ds.map (convD tab X.env.cells ρ a0), sa, ca, rd, by rw [List.length_map]; exact hn, ?_⟩) fun r s' hq => ?_)
          · rw [hf]
            intro w S' F' H' e' c' r'
            have eC : ∀ b, clB X.env.cells b → ∃ o u, F' b = some (CellO b o) ∧ H' b = celH s1 b ∧ o.data = .cell u ∧ s1.heap.get? b = some o := fun b hb => by
              obtain ⟨o, u, y1, y2, y3, _⟩ := cel_trk I1 b hb
              have : F' b = some (CellO b o) := e'.f b _ (by rw [addC_in hb]; exact y1)
              exact ⟨o, u, this, by rw [y1]; exact e'.fh b _ this, y2, y3⟩
            have t : Trk (clB X.env.cells) F' := fun b hb => by
              obtain ⟨o, u, y1, _, y3, _⟩ := eC b hb
              exact ⟨o, u, y1, y3⟩
            have hCC : ∀ c, F' c = some (LamX.CodeO c lamQ) → ¬clB X.env.cells c := fun c hc' hb => by
              obtain ⟨o, u, y1, _, y3, y4⟩ := eC c hb
              rw [hc'] at y1
              have y5 := Option.some.inj y1
              unfold LamX.CodeO CellO at y5
              injection y5 with y5
              have y6 := congrFun y5 s1.heap
              obtain ⟨oc, vs', t', z1, z2, _⟩ := y6.mpr y4
              rw [y4] at z1
              cases z1
              rw [y3] at z2; cases z2
            exact ⟨fun b hb => (eC b hb).choose_spec.choose_spec.2.1, h1 w S' _ _ (ext_cut hF hH e') (c'.cut t hCC hc.2) (r'.cut t hc.1)⟩
          · cases r with
            | error e =>
              obtain ⟨_, _, _, _, _, _, _, _, _, _, _, _, z⟩ := hq
              exact z.elim
            | ok fl =>
              cases fl with
              | ret u => exact I1.after (ce_cut I1 hq)
              | next => exact False.elim hq
              | brk => exact False.elim hq
              | cont => exact False.elim hq
        · exact h1.elim
      · exact h1.elim
    · exact h1.elim
  · exact h1.elim
end
end Pv

namespace Pv
open PySem PySem.Spec PyProof.Rows L2 Sr
/-! ### paths into a text -/
def noExpr : Expr := .Name "" ⟨0, 0, 0, 0⟩
def noStmt : Stmt := .Pass ⟨0, 0, 0, 0⟩
def kidsE : Expr → List Expr
  | .BoolOp _ vs _ => vs
  | .BinOp l _ r _ => [l, r]
  | .UnaryOp _ o _ => [o]
  | .IfExp t b o _ => [t, b, o]
  | .ListComp e gs _ _ => e :: gs.flatMap fun g => g.iter :: g.ifs
  | .Compare l _ cs _ => l :: cs
  | .Call f as _ _ => f :: as
  | .Attribute v _ _ => [v]
  | .Subscript v s _ => [v, s]
  | .Starred v _ => [v]
  | .List es _ => es
  | .Tuple es _ _ => es
  | _ => []
def kidsS : Stmt → List Expr
  | .Return (some v) _ => [v]
  | .Assign _ v _ => [v]
  | .AugAssign _ _ v _ => [v]
  | .For _ i _ _ _ => [i]
  | .While t _ _ _ => [t]
  | .If t _ _ _ => [t]
  | .Expr v _ => [v]
  | _ => []
def subsS : Stmt → List Stmt
  | .For _ _ b o _ => b ++ o
  | .While _ b o _ => b ++ o
  | .If _ b o _ => b ++ o
  | _ => []
def kE (i : Nat) (e : Expr) : Expr := (kidsE e).getD i noExpr
def kS (i : Nat) (s : Stmt) : Expr := (kidsS s).getD i noExpr
def sS (i : Nat) (s : Stmt) : Stmt := (subsS s).getD i noStmt
def noArgs : Arguments := ⟨[], [], none, [], [], none, []⟩
def lamAt (i : Nat) (N : List Str) (cs : List Nat) (dv : List Int) : Expr → LamT
  | .Lambda a b s _ => ⟨i, N, cs, a, b, s, dv⟩
  | _ => ⟨i, N, cs, noArgs, noExpr, default, dv⟩
/-! ### the table of a law's lambdas -/
inductive AllT (p : LamT → G → Prop) : LamTab → Prop where
  | nil : AllT p []
  | cons {l : LamT} {g : G} {t : LamTab} : p l g → AllT p t → AllT p ((l, g) :: t)
theorem AllT.at_ {p : LamT → G → Prop} {tab : LamTab} (h : AllT p tab) : ∀ {i : Nat} {l : LamT} {g : G}, tab[i]? = some (l, g) → p l g := by
  induction h with
  | nil => intro i l g e; simp at e
  | cons h1 _ ih =>
    intro i l g e
    cases i with
    | zero => cases e; exact h1
    | succ i => exact ih e
theorem lamG_all {p : LamT → G → Prop} {tab : LamTab} (h : AllT p tab) : ∀ l g, lamG tab l = some g → p l g := fun l g e => by
  unfold lamG at e
  split at e
  · rename_i l' g' h1
    split at e
    · rename_i hh
      cases e
      subst hh
      exact h.at_ h1
    · cases e
  · cases e
theorem lamG_at {tab : LamTab} {l : LamT} {g : G} (h : tab[l.id]? = some (l, g)) : lamG tab l = some g := by
  unfold lamG
  rw [h]
  simp
theorem takes_nil {X : Cx} : Takes X (fun _ _ _ _ => False) := fun _ _ x => by
  obtain ⟨_, _, _, _, _, _, _, _, _, _, _, _, _, _, _, _, w⟩ := x
  exact w.elim
theorem lam_b0 {l : LamT} {cl : List (Str × Addr)} {c : Addr} {dV doc pm ctv : Value} {s : Shared} (hd : dV = .none) (h : bindArgs (PySem.W.kdv_fn "<lambda>" lamQ l.params (.expr l.body) l.scope cl .none doc pm (.ref c) ctv) ⟨[], []⟩ = pure []) :
    ∃ bs : List (Str × Value), BindsTo s (PySem.W.kdv_fn "<lambda>" lamQ l.params (.expr l.body) l.scope cl dV doc pm (.ref c) ctv) ⟨[], []⟩ bs ∧ ∀ y ∈ bs, l.scope.names.lookup y.1 = some .local := by
  subst hd
  exact ⟨[], .of_eq h, by simp⟩
theorem err_call {tab : LamTab} {l : LamT} {g : G} {f : List D → Rs → Res D} {cl : List (Str × Addr)} {ρ : PEnv} {st : D} {a0 : Addr} {r : Res D} (hl : lamG tab l = some g) (hf : ∀ ρ' R, f [.clo l ρ' a0] R = errEnd (gClo tab 0 [some (.clo l ρ' a0)] R))
    (hn : noE (capt l.cs 0 ρ) = true) (ho : noO st = true) (hr : g (capt l.cs 0 ρ) [st, .tab a0] = r) :
    gCallC tab 1 f cl (gCons (gLam l cl) gNil) ρ [st, .tab a0] = match errEnd r with
      | .ok z R2 => if z.noC = true ∧ R2.all noO = true then .ok z R2 else .bad
      | _ => .bad := by
  have ho2 : ([st, D.tab a0] : Rs).all noO = true := by
    show (noO st && (true && true)) = true
    rw [ho] <;> rfl
  have h1 : gClo tab 0 [some (.clo l (capt l.cs 0 ρ) a0)] [st, .tab a0] = r := by
    simp only [gClo, List.getElem?_cons_zero, List.getElem?_cons_succ]
    rw [if_pos ⟨trivial, hn, ho2⟩, hl]
    exact hr
  have h2 : convD tab cl ρ a0 (.lam l cl) = .clo l (capt l.cs 0 ρ) a0 := by
    simp [convD, conv1, hl]
  simp only [gCallC, gCons, gLam, gNil, Res.bind, List.getElem?_cons_zero, List.getElem?_cons_succ, List.map_cons, List.map_nil, List.length_cons, List.length_nil, h2, hf, h1, if_true] <;> rfl
end Pv

namespace Pv
open PySem PySem.Spec PyProof.Rows L2 Sr
/-! ### a lambda with one default that it never reads -/
/-! ### xs[::-1] -/
end Pv

namespace Pv
open PySem PySem.Spec PyProof.Rows L2 Sr
/-! ### own instance * anything plain (the own method says what it thinks of it) -/
section
open PySem.W PySem.Calls
variable {prog : Program} {w : World} {A : Around} {E : Value → Shared → Prop} {s : Shared} {h₀ : Heap} {L : Addr} {m : Str → Option Value} {K : PySem.W.Frag} {x C f : Addr} {ox : Obj} {od : Option Obj} {T : String}
end
section
variable {X : Cx} {CX : CXT} {k : Nat} {ps : List Str} {E : XK}
end
end Pv

/-! ### own exceptions whose __init__ says super().__init__(f"word {x}") and self.x = x -/
/-- what is wanted of the program itself: its file; no name super at its top -/
class PfOk (P : PySem.Program) : Prop where
  file : ((P.main.file : PySem.Str) == ("/claim/cut.py" : PySem.Str)) = true
  top : (P.main.scope.names.lookup ("super" : PySem.Str)).isSome = false
namespace Pv
open PySem PySem.Spec PyProof.Rows L2 Sr
section
variable {prog : Program} {w : World} {A : Around} {E : Value → Shared → Prop} {h : Heap} {g : Array GenState} {d : Drawn} {t : Nat} {os : OsState}
variable {nm q : Str} {C N : Addr} {bs bm : List Value} {hdct : Bool} {sn : List Str} {sub : List Value} {ab : Bool} {col : Option Bool} {dd : Option Addr} {k0 k1 k2 k3 k5 : Option Value}
theorem call_bwV {u e t0 : Addr} {rest : List Value} {Q : Value → Shared → Prop}
    (hC : h.get? C = some (excClassObj nm q C N bs bm hdct sn sub ab col dd k0 k1 k2 k3 k5 "ValueError.__new__")) (he : h.get? e = some (HandSPX.excO C t0)) (hu : h.get? u = some (PySem.W.kxs_mw "ValueError.__init__" e)) (hrest : rest.length ≤ sizeLine)
    (hq : ∀ h' t1, (∀ b o, b ≠ e → h.get? b = some o → h'.get? b = some o) → h'.get? e = some (HandSPX.excO C t1) → Q .none ⟨h', g, d, t, os⟩) :
    wpAny (model prog w) A (call (.ref u) rest) Q E ⟨h, g, d, t, os⟩ := by
  refine wpAny_call (codeAny_of_tree ?_)
  show wpAny _ A.in1 (callAny (.ref u) ⟨rest, []⟩) _ _ _
  simp only [callAny]
  refine wpAny_bind (wpAny_load hu ?_)
  simp only [PySem.W.kxs_mw, show (Value.type "method-wrapper" == Value.type "method" || Value.type "method-wrapper" == Value.type "builtin_function_or_method" || Value.type "method-wrapper" == Value.type "method-wrapper") = true by decide, if_true]
  refine W.KFB.if_so (by decide) ?_
  refine wpAny_bind (ESX.check_bound F.excBase_ValueError hC he rfl ?_)
  refine wpAny_bind (wpAny_pure (wpAny_pure ?_))
  refine ⟨Code.quiet_builtin _ (by decide +kernel), codeAny_builtin F.excBase_ValueError.initEntry ?_⟩
  rw [Around.under_plainId F.excBase_ValueError.init.plain _]
  wp_walk
  refine hq _ h.objs.size (fun b o hb ho => ?_) ?_
  · rw [Heap.get?_update_other _ _ (Ne.symm hb)]
    exact Heap.get?_push_of_some _ ho
  · rw [Heap.get?_update_self _ (Heap.get?_push_of_some _ he) rfl]
    rfl
end
theorem pin_add {X : Cx} {pins : List (Addr × Obj)} {σ : L2.St} {H : Hp} {s : Shared} {h' : Heap} {a : Addr} {o : Obj} {t' : Nat} (I : Inv X pins σ H s) (k : ∀ b u, s.heap.get? b = some u → h'.get? b = some u) (ha : s.heap.objs.size ≤ a) (ho : h'.get? a = some o) (hd : ∀ v, o.data ≠ .cell v) :
    Inv X ((a, o) :: pins) σ H { s with heap := h', toks := t' } := by
  have J : Inv X pins σ H { s with heap := h', toks := t' } := I.kept k
  refine J.pins_of fun p hp => ?_
  rcases List.mem_cons.mp hp with rfl | hp
  · exact ⟨ho, I.hok.fresh ha, Nat.ne_of_gt (Nat.lt_of_lt_of_le I.lt ha), I.nofs ha, hd⟩
  · exact J.pin p (List.mem_append_right _ hp)
theorem pin_off {X : Cx} {p : Addr × Obj} {pins : List (Addr × Obj)} {σ : L2.St} {H : Hp} {s : Shared} (I : Inv X (p :: pins) σ H s) : Inv X pins σ H s := I.pins_of fun r hr => I.pin r (List.mem_append_right _ (List.mem_cons_of_mem _ hr))
/-! ### what the head says of such a class -/
theorem clsVE_ok {K : PySem.W.Frag} {C : Addr} (h : clsVE K C = true) : ∃ nm q N bs bm sn sub ab col dd k0 k1 k2 k3 k5, K.lookup C = some (excClassObj nm q C N bs bm true sn sub ab col dd k0 k1 k2 k3 k5 "ValueError.__new__") ∧ PySem.HandSPX.refsVE bm = true := by
  unfold clsVE at h
  split at h
  · rename_i dd cd sl ho
    split at h
    · rename_i C' bm k0 k1 k2 k3 n k5 hm hs
      simp only [Bool.and_eq_true, beq_iff_eq, Bool.not_eq_true'] at h
      obtain ⟨⟨⟨⟨rfl, rfl⟩, hdel⟩, hdi⟩, ht⟩ := h
      obtain ⟨nm, bs, mro, ns, qn, hd, sn, sub, ab, col, del⟩ := cd
      dsimp only at hm hdel hdi
      subst hm hdel hdi
      have hsl : sl = #[k0, k1, k2, k3, some (.builtin "ValueError.__new__"), k5] := by
        cases sl with
        | mk l => exact congrArg Array.mk hs
      subst hsl
      exact ⟨_, _, _, _, _, _, _, _, _, _, _, _, _, _, _, ho, ht⟩
    · cases h
  · cases h
theorem eName?_ok {e : Expr} {x : Str} (h : eName? e = some x) : ∃ p, e = .Name x p := by
  unfold eName? at h; split at h
  · cases h; exact ⟨_, rfl⟩
  · cases h
theorem eAttr?_ok {e o : Expr} {x : Str} {p : Pos} (h : eAttr? e = some (o, x, p)) : e = .Attribute o x p := by
  unfold eAttr? at h; split at h
  · cases h; exact rfl
  · cases h
theorem eCall?_ok {e f : Expr} {a : List Expr} {p : Pos} (h : eCall? e = some (f, a, p)) : e = .Call f a [] p := by
  unfold eCall? at h; split at h
  · cases h; exact rfl
  · cases h
theorem eJoin?_ok {e : Expr} {a : List Expr} (h : eJoin? e = some a) : ∃ p, e = .JoinedStr a p := by
  unfold eJoin? at h; split at h
  · cases h; exact ⟨_, rfl⟩
  · cases h
theorem eFmt?_ok {e o : Expr} {c : Int} (h : eFmt? e = some (o, c)) : ∃ p, e = .FormattedValue o c none p := by
  unfold eFmt? at h; split at h
  · cases h; exact ⟨_, rfl⟩
  · cases h
theorem eStr?_ok {e : Expr} {x : Str} (h : eStr? e = some x) : ∃ j p, e = .Constant (.str x) j p := by
  unfold eStr? at h; split at h
  · cases h; exact ⟨_, _, rfl⟩
  · cases h
theorem sExpr?_ok {s : Stmt} {e : Expr} (h : sExpr? s = some e) : ∃ p, s = .Expr e p := by
  unfold sExpr? at h; split at h
  · cases h; exact ⟨_, rfl⟩
  · cases h
theorem sAsg?_ok {s : Stmt} {t e : Expr} (h : sAsg? s = some (t, e)) : ∃ p, s = .Assign [t] e p := by
  unfold sAsg? at h; split at h
  · cases h; exact ⟨_, rfl⟩
  · cases h
theorem isSup_ok {f pre : Str} {s : Stmt} (h : isSup f pre s = true) : ∃ q0 q1 q2 q3 q4 q5 q6 q7 q8 j, (q2.endLine == q7.line) = true ∧ s = .Expr (.Call (.Attribute (.Call (.Name "super" q0) [] [] q1) "__init__" q2) [.JoinedStr [.Constant (.str pre) j q3, .FormattedValue (.Name f q4) (-1) none q5] q6] [] q7) q8 := by
  unfold isSup at h
  split at h
  · rename_i e he
    obtain ⟨q8, rfl⟩ := sExpr?_ok he
    split at h
    · rename_i m j q7 hc
      obtain rfl := eCall?_ok hc
      rw [Bool.and_eq_true] at h
      obtain ⟨h1, h2⟩ := h
      split at h1
      · rename_i o i q2 ha
        obtain rfl := eAttr?_ok ha
        rw [Bool.and_eq_true, Bool.and_eq_true, decide_eq_true_eq] at h1
        obtain ⟨⟨rfl, hl⟩, h1⟩ := h1
        split at h1
        · rename_i n q1 hn
          obtain rfl := eCall?_ok hn
          obtain ⟨q0, rfl⟩ := eName?_ok (of_decide_eq_true h1)
          split at h2
          · rename_i a b hj
            obtain ⟨q6, rfl⟩ := eJoin?_ok hj
            rw [Bool.and_eq_true, decide_eq_true_eq] at h2
            obtain ⟨h2, h3⟩ := h2
            obtain ⟨jj, q3, rfl⟩ := eStr?_ok h2
            split at h3
            · rename_i x c hf
              obtain ⟨q5, rfl⟩ := eFmt?_ok hf
              rw [Bool.and_eq_true, decide_eq_true_eq, decide_eq_true_eq] at h3
              obtain ⟨rfl, h3⟩ := h3
              obtain ⟨q4, rfl⟩ := eName?_ok h3
              exact ⟨_, _, _, _, _, _, _, _, _, _, hl, rfl⟩
            · cases h3
          · cases h2
        · cases h1
      · cases h1
    · cases h
  · cases h
theorem isSt_ok {f : Str} {s : Stmt} (h : isSt f s = true) : ∃ q0 q1 q2 q3, s = .Assign [.Attribute (.Name "self" q0) f q1] (.Name f q2) q3 := by
  unfold isSt at h
  split at h
  · rename_i t e he
    obtain ⟨q3, rfl⟩ := sAsg?_ok he
    rw [Bool.and_eq_true, decide_eq_true_eq] at h
    obtain ⟨h1, h2⟩ := h
    obtain ⟨q2, rfl⟩ := eName?_ok h1
    split at h2
    · rename_i o x q1 ha
      obtain rfl := eAttr?_ok ha
      rw [Bool.and_eq_true, decide_eq_true_eq, decide_eq_true_eq] at h2
      obtain ⟨rfl, h2⟩ := h2
      obtain ⟨q0, rfl⟩ := eName?_ok h2
      exact ⟨_, _, _, _, rfl⟩
    · cases h2
  · cases h
theorem exiPar_ok {f : Str} {a : Arguments} (h : exiPar f a = true) : ∃ n1 p1 n2 p2, a = ⟨[], [⟨"self", n1, p1⟩, ⟨f, n2, p2⟩], none, [], [], none, []⟩ := by
  unfold exiPar at h; split at h
  · rw [Bool.and_eq_true, decide_eq_true_eq, decide_eq_true_eq] at h
    obtain ⟨rfl, rfl⟩ := h
    exact ⟨_, _, _, _, rfl⟩
  · cases h
theorem exiCode_ok {K : PySem.W.Frag} {a : Addr} (h : exiCode K a = true) : ∃ c d vs sl t, K.lookup a = some ⟨c, d, .fields vs, sl⟩ ∧ vs[2]? = some (.str "/claim/cut.py" t) := by
  unfold exiCode at h; split at h
  · rename_i ho
    split at h
    · rename_i hv
      have e := of_decide_eq_true h
      subst e
      exact ⟨_, _, _, _, _, ho, hv⟩
    · cases h
  · cases h
theorem exiCell_ok {K : PySem.W.Frag} {a C : Addr} (h : exiCell K a C = true) : ∃ c d sl, K.lookup a = some ⟨c, d, .cell (some (.ref C)), sl⟩ := by
  unfold exiCell at h; split at h
  · rename_i ho
    have e := beq_iff_eq.mp h
    subst e
    exact ⟨_, _, _, ho⟩
  · cases h
structure ExiF (K : PySem.W.Frag) (C fI : Addr) (f pre : Str) : Prop where
  ex : ∃ (oc : Value) (od : Option Addr) (osl : Array (Option Value)) (nm qual : Str) (params : Arguments) (s1 s2 : Stmt) (sc : Scope) (doc pm ct : Value) (an : Option Addr) (cda cc : Addr),
    K.lookup fI = some ⟨oc, od, .func (PySem.W.fnX nm qual params [s1, s2] sc [("__class__", cc)] .none .none doc pm an (.ref cda) ct), osl⟩ ∧ exiCell K cc C = true ∧ exiCode K cda = true ∧ PySem.W.codeIn K (.ref cda) qual = true ∧ exiPar f params = true ∧ isSup f pre s1 = true ∧ isSt f s2 = true ∧
    NdefX.nscB ["self", f, "__class__"] ["self", f] ["__class__"] sc = true ∧ sc.names.lookup ("super" : Str) = some NameKind.globalImplicit
theorem exiFn_ok {K : PySem.W.Frag} {C fI : Addr} {f pre : Str} (h : exiFn K C fI f pre = true) : ExiF K C fI f pre := by
  unfold exiFn at h
  split at h
  · rename_i oc od fd osl ho
    simp only [Bool.and_eq_true, decide_eq_true_eq, beq_iff_eq] at h
    obtain ⟨h1, h2, h3, h4, h5, h6, h7, h8, h9⟩ := h
    split at h1
    · rename_i x cc cda hcl hcd
      simp only [Bool.and_eq_true, decide_eq_true_eq] at h1
      obtain ⟨rfl, h10, h11, h12⟩ := h1
      unfold exiBody at h3
      split at h3
      · rename_i s1 s2 hb
        rw [Bool.and_eq_true] at h3
        obtain ⟨nm, qual, params, body, scope, globals, closure, dV, kV, doc, pm, an, code, ct, bi⟩ := fd
        dsimp only at *
        subst hcl hcd hb h6 h7 h8 h9
        exact ⟨⟨_, _, _, _, _, _, _, _, _, _, _, _, _, _, _, ho, h10, h11, h12, h2, h3.1, h3.2, h4, h5⟩⟩
      · cases h3
    · cases h1
  · cases h
structure ExiC (K : PySem.W.Frag) (c f pre : Str) : Prop where
  ox : OexC K (He.ga K c)
  noat : PySem.W.findIn K (.ref (He.ga K c)) f = some none
  ini : PySem.W.findIn K (.ref (He.ga K c)) "__init__" = some (some (.ref (He.ma K (He.ga K c) "__init__")))
  tI : PySem.W.typeIn K (.ref (He.ma K (He.ga K c) "__init__")) = some (.type "function")
  sup : PySem.W.ks_superIn K (He.ga K c) (He.ga K c) "__init__" = some (some (.builtin "ValueError.__init__"))
  sub : PySem.W.subIn K (.ref (He.ga K c)) (.type "ValueError") = some true
  mro : PySem.W.mroIn K (He.ga K c) (.ref (He.ga K c)) = some true
  nop : PySem.W.nsIn K cStatics "thirdparty.any" = some none
  fn : ExiF K (He.ga K c) (He.ma K (He.ga K c) "__init__") f pre
theorem exiB_ok {K : PySem.W.Frag} {c f pre : Str} (h : exiB K c f pre = true) : ExiC K c f pre := by
  unfold exiB at h
  simp only [Bool.and_eq_true, decide_eq_true_eq] at h
  obtain ⟨h1, h2, h3, h4, h5, h6, h7, h8, h9, h10, h11, h12, h13⟩ := h
  exact ⟨⟨clsVE_ok h1, h2, h3, h4, h5⟩, h6, h7, h8, h9, h10, h11, h12, exiFn_ok h13⟩
end Pv

namespace Pv
open PySem PySem.Spec PyProof.Rows L2 Sr
set_option exponentiation.threshold 4000 in
theorem log_small {i : Int} (h : smB i = true) : i.natAbs.log2 < 1920 := by
  have h1 := (smB_iff i).mp h
  by_cases h0 : i.natAbs = 0
  · rw [h0]; decide
  · refine (Nat.log2_lt h0).mpr (Nat.lt_of_lt_of_le (m := 2 ^ 64) ?_ (Nat.pow_le_pow_right (by decide) (by decide)))
    omega
theorem he_method {o : Expr} {name : Str} {apos pos : Pos} {args : List Expr} {env : Env} (hl : (apos.endLine == pos.line) = true) (hfew : methodCallForm args.length (backTo pos (starEach args env)) [] = true) :
    eval (.Call (.Attribute o name apos) args [] pos) env = (do
      let ov ← attributeBase o name env (eval o env)
      standAt apos.atName
      let (f, first) ← holding [ov] (getMethod ov name (do return (← importBound o env).getD true))
      callWith pos f first (backTo pos (starEach args env)) []) := by
  have hpos : methodCallPos true o env apos pos = pure pos := by unfold methodCallPos; simp [hl]
  have hk : backToKw pos (keywordEach [] env) = [] := rfl
  have e1 : eval (.Call (.Attribute o name apos) args [] pos) env = (do
      let ov ← attributeBase o name env (eval o env)
      standAt apos.atName
      methodCall o name apos pos env ov (args.length + ([] : List Keyword).length) (backTo pos (starEach args env)) (backToKw pos (keywordEach [] env))) := by first | rfl | rw [arm_eval_Call]
  rw [e1, hk]
  have e2 : methodCallForm (args.length + ([] : List Keyword).length) (backTo pos (starEach args env)) [] = true := hfew
  unfold methodCall calleeOf
  simp only [e2, if_true, hpos, pure_bind]
/-- what such an __init__ keeps -/
def spExi (K : PySem.W.Frag) (C : Addr) (f : Str) : Sp := fun vs H Q E => ∃ (a : Addr) (i : Int), vs = [.ref a, .int i] ∧ smB i = true ∧ H a = some (exo a C none) ∧ ∀ dx, H dx = none → dx ≠ a → Q .non (upd (upd H dx (exd dx [(f, .int i)])) a (exo a C (some dx)))
section
variable {P : Program} {w : World} {K : PySem.W.Frag} {mg : Str → Option Value} {base : Heap} {CX : CXT}
theorem fn_exi [hP : PfOk P] {c f pre : Str} (hpre : (pre : Str).length ≤ 1000) (T : ExiC K c f pre) (hsu : mg "super" = none) (hf : f = "index" ∨ f = "offset") :
    ∃ fd : FuncData, FnOk P w K mg base CX 1 (He.ma K (He.ga K c) "__init__") fd ["self", f] (spExi K (He.ga K c) f) ∧ L2.Binds K fd ["self", f] [] := by
  obtain ⟨oc, od, osl, nm, qual, params, s1, s2, sc, doc, pm, ct, an, cda, cc, hfn, hcell, hcode, hcd, hpar, hs1, hs2, hsc, hks⟩ := T.fn.ex
  obtain ⟨n1, p1, n2, p2, rfl⟩ := exiPar_ok hpar
  obtain ⟨q0, q1, q2, q3, q4, q5, q6, q7, q8, j, hline, rfl⟩ := isSup_ok hs1
  obtain ⟨r0, r1, r2, r3, rfl⟩ := isSt_ok hs2
  obtain ⟨oc2, od2, vs2, sl2, tf, hcda, hvs2⟩ := exiCode_ok hcode
  obtain ⟨oc3, od3, sl3, hcc⟩ := exiCell_ok hcell
  have hf3 : (f == ("__debug__" : Str)) = false := by rcases hf with rfl | rfl <;> decide
  have hf4 : (f == ("__classdict__" : Str)) = false := by rcases hf with rfl | rfl <;> decide
  have S : NdefX.NScope ["self", f, "__class__"] ["self", f] ["__class__"] sc := NdefX.nscope_by hsc
  refine ⟨PySem.W.fnX nm qual ⟨[], [⟨"self", n1, p1⟩, ⟨f, n2, p2⟩], none, [], [], none, []⟩ [.Expr (.Call (.Attribute (.Call (.Name "super" q0) [] [] q1) "__init__" q2) [.JoinedStr [.Constant (.str pre) j q3, .FormattedValue (.Name f q4) (-1) none q5] q6] [] q7) q8, .Assign [.Attribute (.Name "self" r0) f r1] (.Name f r2) r3] sc [("__class__", cc)] .none .none doc pm an (.ref cda) ct, ⟨fun vs H Q E h => by obtain ⟨a, i, rfl, _⟩ := h; rfl, fun A outer s H args us vs Q E hr e0 hb rv hsp => ?_⟩, L2.Binds.all fun us hl => by rcases hf with rfl | rfl <;> exact (match us, hl with | [_, _], _ => rfl)⟩
  obtain ⟨a, i, rfl, hi, ha, q⟩ := hsp
  have KX : K.In s.heap := e0.mod.kin.keeps fun b o e => (e0.bs b o e).1
  have lim : s.heap.NoLimit := e0.mod.nolimit.keeps fun b o e => (e0.bs b o e).1
  have inB : ∀ {b : Addr} {o : Obj}, K.lookup b = some o → s.heap.get? b = some o ∧ H b = none := fun {b o} e => e0.bs b o (e0.mod.kin _ _ e)
  refine ks_codeAny_call_defAt (fd := PySem.W.fnX nm qual _ _ sc [("__class__", cc)] .none .none doc pm an (.ref cda) ct) hr.depth (inB hfn).1 rfl lim (PySem.W.codeRec_of KX hcd) rfl hb S.nocell (fun ⟨n, _⟩ hy => S.par n (List.of_mem_zip hy).1) (fun h₁ hns kp => ?_) S.co S.gen S.kind
  let F : NdefX.NF := ⟨nm, qual, ⟨[], [⟨"self", n1, p1⟩, ⟨f, n2, p2⟩], none, [], [], none, []⟩, [.Expr (.Call (.Attribute (.Call (.Name "super" q0) [] [] q1) "__init__" q2) [.JoinedStr [.Constant (.str pre) j q3, .FormattedValue (.Name f q4) (-1) none q5] q6] [] q7) q8, .Assign [.Attribute (.Name "self" r0) f r1] (.Name f r2) r3], sc, [("__class__", cc)], cda⟩
  have C : NdefX.CellsAt F.cl ["__class__"] [some (.ref (He.ga K c))] s.heap H := by
    have lk : ∀ {y : Str} {b : Addr}, F.cl.lookup y = some b → y = "__class__" ∧ b = cc := fun {y b} e => by
      have e' : List.lookup y [(("__class__" : Str), cc)] = some b := e
      simp only [List.lookup] at e'
      split at e'
      · rename_i hy
        cases e'
        exact ⟨eq_of_beq hy, rfl⟩
      · cases e'
    have hic : s.heap.IsCell cc (some (.ref (He.ga K c))) := ⟨_, (inB hcc).1, rfl⟩
    refine ⟨rfl, fun y b e => ?_, fun x y b e1 e2 => (lk e1).1.trans (lk e2).1.symm, fun k y e => ?_⟩
    · obtain ⟨_, rfl⟩ := lk e
      exact ⟨(inB hcc).2, _, hic⟩
    · match k, e with
      | 0, e =>
        cases e
        exact ⟨cc, rfl, fun v ev => by cases ev; exact ⟨_, rfl, hic⟩⟩
      | k + 1, e => simp at e
  have I : L2.Inv (NdefX.ncx CX P w K mg base ["self", f, "__class__"] F (He.ma K (He.ga K c) "__init__") A outer s H E) [] (NdefX.startF ["self", f, "__class__"] [.ref a, .int i] [some (.ref (He.ga K c))]) H { s with heap := h₁, toks := s.toks + (List.zip (["self", f] : List Str) us).length } := NdefX.inv_startN S hr.hd e0 rfl rv C hns kp
  have fin : ∀ {σ' : L2.St} {H' : Hp} {s' : Shared}, L2.Inv (NdefX.ncx CX P w K mg base ["self", f, "__class__"] F (He.ma K (He.ga K c) "__init__") A outer s H E) [] σ' H' s' → Q .non H' → CE outer P w H s Q .none s' :=
    fun {σ' H' s'} J q => ⟨.non, H', J.os, J.bare, J.base, J.hok, rfl, q⟩
  have hN : (["self", f, "__class__"] : List Str).Nodup := S.nd
  have vf : Vis sc f := .inl (S.par f (by simp))
  have vs : Vis sc "self" := .inl (S.par "self" (by simp))
  -- self at this state
  have kX : ∀ {b : Addr} {o : Obj}, K.lookup b = some o → h₁.get? b = some o := fun e => kp _ _ (inB e).1
  obtain ⟨nmC, qC, NC, bsC, bmC, snC, subC, abC, colC, ddC, k0, k1, k2, k3, k5, hC, hbm⟩ := T.ox.cls
  obtain ⟨t1, hoe⟩ := L2.exo_at I.hok ha
  have hKX : K.In h₁ := KX.keeps kp
  have Ix : PySem.W.InstAt h₁ a ({ cls := .ref (He.ga K c), dict := none, data := .fields #[.ref t1, .none, .none, .none, .bool false, .none] } : Obj) (He.ga K c) none := ⟨hoe, rfl, rfl, trivial⟩
  obtain ⟨m, hns1, hlk⟩ := I.loc
  obtain ⟨u0, ru0, lk0⟩ := hlk 0 "self" (.ref a) rfl rfl vs
  have eu0 : u0 = .ref a := ru0
  subst eu0
  have hms : m "self" = some (.ref a) := by
    rcases lk0 with ⟨_, z⟩ | ⟨z, _⟩
    · exact z
    · exfalso
      have e := S.par "self" (by simp)
      have z' : sc.names.lookup ("self" : Str) = some .cell ∨ sc.names.lookup ("self" : Str) = some .free := z
      rw [e] at z'
      rcases z' with z' | z' <;> cases z'
  obtain ⟨mb, hb1, hb2⟩ := e0.mod.blt
  have kb : ∀ b o, base.get? b = some o → h₁.get? b = some o := fun b o e => kp _ _ (e0.bs b o e).1
  have hfree : sc.names.lookup ("__class__" : Str) = some .free := S.frk "__class__" (by simp)
  refine ks_wpAt_execs_cons (ks_wpAt_Expr_any (ks_wpAt_MethodCall (pl := _) ?_ (he_method hline rfl)) (by unfold interactive; have e := S.kind; simp [callEnv, newEnv, e]) rfl)
  refine ks_wpAt_super_base (of := ⟨oc, od, .func (PySem.W.fnX nm qual _ _ sc [("__class__", cc)] .none .none doc pm an (.ref cda) ct), osl⟩) (oc := ⟨oc2, od2, .fields vs2, sl2⟩) hks hfree (by decide) rfl (kX hfn) rfl (by rfl) rfl (kX hcda) rfl hvs2 hP.file hP.top ?_
  refine PySem.W.ks_loadName_global S.kind hks ?_
  refine Calls.loadGlobal_builtin (e0.mod.glob.keeps kb) hsu (hb1.keeps kb) ((hb2 "super" (by decide)).trans PyProof.Rows.Boot.«super») ⟨rfl, ?_⟩
  refine wpAny_loadName_free (c := cc) S.kind hfree (by rfl) ⟨_, kX hcc, rfl⟩ ?_
  refine wpAny_loadName_local S.kind (S.par "self" (by simp)) hns1 hms ?_
  refine ks_wpAny_isType_cls (kX hC) rfl ⟨rfl, ?_⟩
  have hclC : PySem.W.clsIn K (He.ga K c) = some { name := nmC, bases := bsC, mro := .ref (He.ga K c) :: bmC, ns := NC, qualname := qC, hasDict := true, slotNames := snC, subclasses := subC, abstract := abC, collection := colC, hasDel := false } := by unfold PySem.W.clsIn; rw [hC] <;> rfl
  refine ks_wpAny_call_super (kX hC) rfl hoe rfl (fun c e => by cases e) (PySem.W.looks_mroIn hKX T.mro) (fun h2 hso kp2 => ?_)
  have I2 : L2.Inv (NdefX.ncx CX P w K mg base ["self", f, "__class__"] F (He.ma K (He.ga K c) "__init__") A outer s H E) [] (NdefX.startF ["self", f, "__class__"] [.ref a, .int i] [some (.ref (He.ga K c))]) H { s with heap := h2, toks := s.toks + (List.zip (["self", f] : List Str) us).length } := I.kept (t' := s.toks + (List.zip (["self", f] : List Str) us).length) kp2
  have hKX2 : K.In h2 := hKX.keeps kp2
  have Ix2 : PySem.W.InstAt h2 a ({ cls := .ref (He.ga K c), dict := none, data := .fields #[.ref t1, .none, .none, .none, .bool false, .none] } : Obj) (He.ga K c) none := ⟨kp2 _ _ hoe, rfl, rfl, trivial⟩
  have hsup := T.sup
  unfold PySem.W.ks_superIn at hsup
  rw [hclC] at hsup
  refine PySem.W.kxs_getMethod PySem.W.kxs_ValueError hso (PySem.W.looks_opaque hKX2 T.nop) (l₀ := .ref (He.ga K c) :: bmC) (fun A Q E s k q => wpAny_bind ((PySem.W.looks_clsIn hKX2 hclC) A _ E s k (wpAny_pure q))) rfl hKX2 hsup (Ix2.type.andThen (PySem.W.looks_subIn hKX2 T.sub)) (PySem.W.ks_ne hKX2 Ix2 hclC) (by decide) ?_
  have I3 := pin_add (t' := s.toks + (List.zip (["self", f] : List Str) us).length + 1) (h' := h2.push (PySem.W.kxs_mw "ValueError.__init__" a)) (o := PySem.W.kxs_mw "ValueError.__init__" a) I2 (fun b o e => Heap.get?_push_of_some _ e) (Nat.le_refl _) (Heap.get?_push_at rfl rfl) (fun v z => by cases z)
  have hz : sizeLine = 16777216 := sizeLine_eq
  have hpj : PE (NdefX.ncx CX P w K mg base ["self", f, "__class__"] F (He.ma K (He.ga K c) "__init__") A outer s H E) (.JoinedStr [.Constant (.str pre) j q3, .FormattedValue (.Name f q4) (-1) none q5] q6) _ :=
    pe_joined (.cons pe_str (.cons (pe_fmt (pe_var (i := 1) rfl vf hf3 hf4)) .nil))
  have hpa := pa_cons hpj pa_nil (by rfl)
  refine PySem.W.kxs_callWith (i := "ValueError.__init__") (x := a) (by rfl) (Calls.evalArgs_plain ?_)
  refine wpAny_mono (hpa.run q7 _ _ _ H (fun us H1 => H1 = H ∧ us.length ≤ 1000) I3 ?_) (fun us s4 hus => ?_) (fun e s4 he => he)
  · have hl2 : (Str.empty ++ pre).length ≤ 1000 := by rw [show (Str.empty ++ pre).length = Str.empty.length + pre.length from Str.length_append _ _]; show 0 + _ ≤ _; omega
    refine ⟨pre, rfl, by omega, .int i, rfl, .inr ⟨i, rfl, log_small hi, toString i, rfl, ?_, rfl, by show 1 ≤ 1000; decide⟩⟩
    rw [show (Str.empty ++ pre ++ toString i).length = (Str.empty ++ pre).length + (toString i : Str).length from Str.length_append _ _]
    have := int_text_length_le (k := 1920) (by decide) (log_small hi)
    have e2 : (toString i : Str).length = (toString i).length := PySem.ofString_length _
    omega
  · obtain ⟨vs4, H4, I4, rv4, rfl, hl4⟩ := hus
    have hp4 := (I4.pin (_, _) (List.mem_append_right _ List.mem_cons_self)).1
    have J4 := pin_off I4
    obtain ⟨t4, ho4⟩ := L2.exo_at J4.hok ha
    obtain ⟨h4, g4, d4, k4, o4⟩ := s4
    refine ⟨hp4, ?_⟩
    have hl5 : us.length ≤ sizeLine := by rw [← rv4.length]; omega
    refine call_bwV (J4.kIn _ _ hC) ho4 hp4 hl5 fun h5 t5 k5 hx5 => ?_
    have J5 : L2.Inv (NdefX.ncx CX P w K mg base ["self", f, "__class__"] F (He.ma K (He.ga K c) "__init__") A outer s H4 E) [] (NdefX.startF ["self", f, "__class__"] [.ref a, .int i] [some (.ref (He.ga K c))]) H4 ⟨h5, g4, d4, k4, o4⟩ := by
      have J := J4.write (t' := k4) (x := a) (e := a) (o := exo a (He.ga K c) none) (by rw [ha]; exact True.intro) (.inl rfl) k5 ⟨_, hx5⟩ (exo_ok hx5)
      have eu : upd H4 a (exo a (He.ga K c) none) = H4 := by
        funext b
        by_cases hb : b = a
        · rw [hb, upd_same, ha]
        · rw [upd_ne hb]
      rw [eu] at J
      exact J
    refine ks_wpAt_execs_cons (wpAt_of_wpAny ?_)
    refine wpAny_mono ((ps_ost (f := f) (o := .Name "self" r0) (e := .Name f r2) (pe_var (i := 0) rfl vs) (pe_var (i := 1) rfl vf hf3 hf4)).run [] _ _ _ { nx := fun _ H' => Q .non H', rt := fun _ _ => False } J5 ?_) (fun fl s6 h6 => ?_) (fun e s6 he => he)
    · exact ⟨.int i, rfl, .ref a, rfl, a, He.ga K c, rfl, T.ox, T.noat, .inl ⟨ha, q⟩⟩
    · cases fl with
      | next =>
        obtain ⟨σ6, H6, J6, q6⟩ := h6
        exact wpAt_of_wpAny (wpAny_pure (fin J6 q6))
      | ret u => 
        obtain ⟨_, _, _, _, _, q6⟩ := h6
        exact q6.elim
      | brk => 
        obtain ⟨_, _, _, q6⟩ := h6
        exact q6.elim
      | cont => 
        obtain ⟨_, _, _, q6⟩ := h6
        exact q6.elim
end
/-- raise C(e), C's __init__ keeping the number e as f -/
def gRaiseI (c f : Str) (g : G) : GS := fun ρ R => (g ρ R).out fun d R1 => match d with
  | .int i => if smB i = true then .exc c [(f, .int i)] R1 else .bad
  | _ => .bad
theorem raiseI_ap {c f : Str} {g : G} {ρ : PEnv} {R : Rs} : gRaiseI c f g ρ R = (g ρ R).out fun d R1 => match d with
  | .int i => if smB i = true then .exc c [(f, .int i)] R1 else .bad
  | _ => .bad := rfl
section
variable {X : Cx} {E : XK} {own own' ol : List Nat}
theorem st_raiseI {c f pre : Str} {p pos1 pos : Pos} {e : Expr} {g : G} (hs : X.stack = X.env :: X.outer) (hf : X.env.frame = some X.env.locals) (hex : X.ex = []) {E1 : Value → Shared → Prop}
    (hx : X.xe = fun e s' => wpAny (model X.prog X.w) X.A (leaving X.env e) (fun _ s'' => L2.CX X.prog X.w X.outer X.H_0 X.s_0 E e s'') E1 s') (hc : X.calm = true) (hP : PfOk X.prog) (T : ExiC X.K c f pre) (hpre : pre.length ≤ 1000) (hff : f = "index" ∨ f = "offset") (hsu : X.mg "super" = none) (hr : Room 2 X.A) (hm : X.mg c = some (.ref (He.ga X.K c)))
    (he : Ev X E e g) (hg : Gl X c := by rfl) (hdb : (c == ("__debug__" : Str)) = false := by decide) (hst : starEach [e] X.env = (false, eval e X.env) :: starEach [] X.env := by rfl) :
    Stm X E own own' ol (.Raise (some (.Call (.Name c p) [e] [] pos1)) none pos) (gRaiseI c f g) := by
  obtain ⟨fd, F1, hb⟩ := fn_exi (P := X.prog) (w := X.w) (mg := X.mg) (base := X.base) (CX := L2.CX X.prog X.w) hpre T hsu hff
  refine ps_imp (ps_raise hc (takes_of hs hf hex hx) (pmk_oex (CX := L2.CX X.prog X.w) T.ox T.ini T.tI F1 hr hb (dvs := []) .nil pass_no hg hm (pa_cons he pa_nil hst) hdb hst rfl)) fun Dn σ H ⟨S0, F0, H0, ρ, R, s, h⟩ => ?_
  refine see_wp (m := .g) rfl s h fun v d R1 S F S1 F1 H1 s ef eg cells r ext h1 => ?_
  split at h1
  · rename_i i
    split at h1
    · rename_i hi
      cases r
      refine ⟨by show 1 ≤ 1000; decide, fun a ha => ⟨a, i, rfl, hi, upd_same, fun dx hdx hne => ⟨rfl, dx, [(f, .int i)], upd_same, ?_, ?_, ?_⟩⟩⟩
      · rw [upd_ne hne, upd_same]
      · rw [upd_ne hne] at hdx; exact hdx
      · rw [upd_ne hne] at hdx
        have eH : upd (del (upd (upd (upd H1 a (exo a (He.ga X.K c) none)) dx (exd dx [(f, .int i)])) a (exo a (He.ga X.K c) (some dx))) a) dx (.xd [(f, .int i)]) = upd H1 dx (.xd [(f, .int i)]) := by
          funext b
          by_cases hb : b = dx
          · subst hb; rw [upd_same, upd_same]
          · rw [upd_ne hb, upd_ne hb]
            by_cases ha' : b = a
            · subst ha'; rw [del_same, ha]
            · rw [del_ne ha', upd_ne ha', upd_ne hb, upd_ne ha']
        rw [eH]
        have fh : Same F1 H1 := ext.fh
        exact h1 (some dx) S1 (upd F1 dx (.xd [(f, .int i)])) _ (ext.trans (Ext.new fh hdx)) (cells.new fh hdx) (.at_ upd_same rfl (.cons (.int _) .nil))
    · exact h1.elim
  · exact h1.elim
end
end Pv

namespace Pv
open PySem PySem.Spec PyProof.Rows L2 Sr
/-! ### dicts that are walked: they are locked meanwhile -/
/-- what stands in a dict's cell -/
def isDc : HO → Prop
  | .dK _ => True
  | .dT _ => True
  | _ => False
/-- no dict, locked or not -/
def ndc : HO → Bool
  | .dK _ => false
  | .dT _ => false
  | .frz _ (.dK _) => false
  | .frz _ (.dT _) => false
  | _ => true
/-- the same, but for the locks of dicts -/
def Swp (F G : Hp) : Prop := ∀ a, F a = G a ∨ (∃ fs, Rd F a (.dK fs) ∧ Rd G a (.dK fs)) ∨ ∃ fs, Rd F a (.dT fs) ∧ Rd G a (.dT fs)
theorem rd_inj {F : Hp} {a : Addr} {u w : HO} (h : Rd F a u) (h' : Rd F a w) (hu : ∀ o x, u ≠ .frz o x) (hw : ∀ o x, w ≠ .frz o x) : u = w := by
  rcases h with h | ⟨o, h⟩ <;> rcases h' with h' | ⟨o', h'⟩ <;> rw [h] at h' <;> cases h'
  · rfl
  · exact absurd rfl (hu _ _)
  · exact absurd rfl (hw _ _)
  · rfl
section
variable {K : PySem.W.Frag} {F G : Hp}
theorem nrd {a : Addr} {u w : HO} (e : F a = some u) (hn : ndc u = true) (hw : isDc w) : ¬ Rd F a w := fun h => by
  rcases h with h | ⟨o, h⟩
  · rw [e] at h; cases h
    cases u <;> first | exact False.elim hw | exact (Bool.false_ne_true hn).elim
  · rw [e] at h; cases h
    cases w <;> first | exact False.elim hw | exact (Bool.false_ne_true hn).elim
theorem Swp.at_ (h : Swp F G) {a : Addr} {u : HO} (e : F a = some u) (hn : ndc u = true) : G a = some u := by
  rcases h a with q | ⟨fs, q, _⟩ | ⟨fs, q, _⟩
  · rw [← q]; exact e
  · exact absurd q (nrd e hn trivial)
  · exact absurd q (nrd e hn trivial)
theorem Swp.dK (h : Swp F G) {a : Addr} {fs : List (Key × V)} (e : Rd F a (.dK fs)) : Rd G a (.dK fs) := by
  rcases h a with z | ⟨gs, z1, z2⟩ | ⟨gs, z1, z2⟩
  · rcases e with e | ⟨o, e⟩
    · exact .inl (by rw [← z]; exact e)
    · exact .inr ⟨o, by rw [← z]; exact e⟩
  · have := rd_inj e z1 (by simp) (by simp)
    cases this; exact z2
  · have := rd_inj e z1 (by simp) (by simp)
    cases this
theorem Swp.dT (h : Swp F G) {a : Addr} {fs : List (List Key × V)} (e : Rd F a (.dT fs)) : Rd G a (.dT fs) := by
  rcases h a with z | ⟨gs, z1, z2⟩ | ⟨gs, z1, z2⟩
  · rcases e with e | ⟨o, e⟩
    · exact .inl (by rw [← z]; exact e)
    · exact .inr ⟨o, by rw [← z]; exact e⟩
  · have := rd_inj e z1 (by simp) (by simp)
    cases this
  · have := rd_inj e z1 (by simp) (by simp)
    cases this; exact z2
end
section
variable {K : PySem.W.Frag} {S S' : List Addr} {F H F' H' F0 H0 : Hp} {R : Rs} {a : Addr} {u z : HO} {ρ : PEnv} {σ : L2.St} {E : XK}
end
section
variable {X : Cx} {E : XK} {e : Expr} {g : G}
/-! what is walked -/
variable {tg : Expr} {apos cpos : Pos}
/-! ### [x for k in d if t] -/
variable {vs : List Nat} {T : TD} {t : TG} {tt : GT} {ge : G} {elt iter : Expr} {ifs : List Expr} {scope : Scope} {own : List (Str × Nat)} {pos : Pos} {i : Nat} {f : List (Key × D) → List D}
end
end Pv

/-! ### set(xs), xs a list of ints; sorted(set(xs)), len(set(xs)) -/
namespace L2
open PySem PySem.Spec PyProof.Rows
section
variable {P : Program} {w : World} {A : Around} {E : Value → Shared → Prop} {s : Shared}
/-- the empty set that set(..) lays first -/
abbrev newSet (w : World) : Obj := { cls := .type "set", dict := none, data := .set #[] 0 (.fresh 0 0 (!w.params.followText "set-order")) }
set_option maxRecDepth 100000 in
set_option maxHeartbeats 3200000 in
theorem setL_call {l : Addr} {items : Array Value} (ns : List Int) {Q : Value → Shared → Prop} (hh : A.handled = none) (hl : s.heap.IsList l items) (hit : IntsAre items.toList ns) (hb : ns.length + 1 < scanBound)
    (h : ∀ (h' : Heap) (tk c : Nat), SetR w h' s.heap.objs.size (fun j => decide (j ∈ ns)) c → (∀ b o, s.heap.get? b = some o → h'.get? b = some o) → Q (.ref s.heap.objs.size) { s with heap := h', toks := tk }) :
    wpAny (model P w) A (call (.type "set") [.ref l]) Q E s := by
  have hisz : items.size = ns.length := by rw [← Array.length_toList]; exact IntsAre.length hit
  obtain ⟨c, tl, hmro⟩ := F.called_set.mro
  have a1 := F.called_set.made
  have a2 := F.called_set.sub
  have a3 := F.called_set.notType
  have a4 := F.called_set.canCreate
  have a5 := F.typeCall_set_1 (.ref l)
  refine wpAny_call (codeAny_of_tree ?_)
  show wpAny _ _ (callAny (.type "set") _) _ _ _
  refine wpAny_pure ⟨Code.quiet_builtin _ (by decide +kernel), codeAny_builtin F.entry_type_call ?_⟩
  rw [Around.under_plain (weight_type_call_type "set" [.ref l] []) rfl]
  repeat (any_goals (first | assumption | wp_step))
  refine codeAny_mono (code_set_led1 (.ref l) (E := E) (Q₁ := fun v t => v = .ref s.heap.objs.size ∧ t = { s with heap := s.heap.push (newSet w) }) ⟨rfl, rfl⟩) fun r t hr => ?_
  cases r with
  | error e => exact hr
  | ok fl =>
    cases fl with
    | ret v =>
      obtain ⟨rfl, rfl⟩ := hr
      have hS : (s.heap.push (newSet w)).get? s.heap.objs.size = some (newSet w) := Heap.get?_push_size _ rfl
      have hT : Shared.TypeIs { s with heap := s.heap.push (newSet w) } (.ref s.heap.objs.size) "set" := ⟨_, hS, rfl⟩
      have b1 := F.called_set.init.lookup
      have b2 := F.called_set.init.bind (.ref s.heap.objs.size)
      repeat (any_goals (first | assumption | wp_step))
      refine codeAny_mono (codeAny_call_builtin (R := wants (fun r t => r = .none ∧ ∃ h' tk c, t = { s with heap := h', toks := tk } ∧ SetR w h' s.heap.objs.size (fun j => decide (j ∈ ns)) c ∧
          (∀ b o, s.heap.get? b = some o → h'.get? b = some o)) E) F.called_set.init.plain F.entry_set_init (check_set_init_1 hT ?_)) fun r t hr => ?_
      · obtain ⟨⟨oc, od, ot, os⟩, hol, hcl, nl, hdl⟩ := hl
        simp only at hcl hdl
        subst hcl hdl
        have hlS : l < s.heap.objs.size := Heap.lt_size hol
        have g1 : (s.heap.push (newSet w)).get? l = some { cls := .type "list", dict := od, data := .seq items nl, slots := os } := Heap.get?_push_of_some _ hol
        have c1 := F.sub_list_set
        have c2 := F.sub_list_frozenset
        have c3 : (Value.type "list" == Value.type "dict") = false := by decide
        have hl1 : (s.heap.push (newSet w)).IsList l items := ⟨_, g1, rfl, nl, rfl⟩
        unfold Builtin.«set.__init__» noKeywords Builtin.Frozenset.updateFrom
        generalize hPI : pyIter = PI
        wp_walk
        subst hPI
        refine wpAny_pyIter_list hl1 (wpAny_bind (wpAny_runValue ?_))
        have hh3 : A.in1.in1.in1.handled = none := by simp [hh]
        have hz : (s.heap.push (newSet w)).objs.size = s.heap.objs.size + 1 := by rw [Heap.size_push]
        have hneI : l ≠ (s.heap.push (newSet w)).objs.size := by rw [hz]; exact Nat.ne_of_lt (Nat.lt_succ_of_lt hlS)
        have hSf : s.heap.objs.size ∉ [(s.heap.push (newSet w)).objs.size, l] := by
          rw [hz]; simp only [List.mem_cons, List.not_mem_nil, or_false, not_or]
          exact ⟨Nat.ne_of_lt (Nat.lt_succ_self _), Nat.ne_of_gt hlS⟩
        refine set_update_ints ((Walks.list hh3 _ l hneI items).toS) s.heap.objs.size hSf ns hisz hb (fun i v hv => ?_) (items.size - 0) 0 _ (by omega) (Nat.zero_le _)
          ⟨⟨_, Heap.get?_push_size _ rfl, rfl, rfl⟩, hl1.push _⟩ ⟨0, Nat.le_refl 0, setR_new_at (Heap.get?_push_of_some _ hS)⟩ fun t c' hm hc' hS' => ?_
        · have hi : i < ns.length := by rw [← hisz]; exact (Array.getElem?_eq_some_iff.mp hv).1
          obtain ⟨k, e⟩ := IntsAre.int_at hit i v (by rw [Array.getElem?_toList]; exact hv)
          exact ⟨ns[i], k, List.getElem?_eq_getElem hi, by rw [e, List.getD_eq_getElem?_getD, List.getElem?_eq_getElem hi] <;> rfl⟩
        · obtain ⟨h', g2, d', tk', os'⟩ := t
          obtain rfl : g2 = s.gens := hm.gens
          obtain rfl : d' = s.drawn := hm.drawn
          obtain rfl : os' = s.os := hm.os
          show wpAny _ _ _ _ _ _
          refine wpAny_pure ?_
          show wpAny _ _ (ret Value.none) _ _ _
          refine wpAny_pure ⟨rfl, h', tk', c', rfl, hS', fun b o e => ?_⟩
          have hb0 : b < s.heap.objs.size := Heap.lt_size e
          refine hm.heap b o ?_ (Heap.get?_push_of_some _ (Heap.get?_push_of_some _ e))
          rw [hz]; simp only [List.mem_cons, List.not_mem_nil, or_false, not_or]
          exact ⟨Nat.ne_of_lt hb0, Nat.ne_of_lt (Nat.lt_succ_of_lt hb0)⟩
      · cases r with
        | error e => exact hr
        | ok fl =>
          cases fl with
          | ret r =>
            obtain ⟨rfl, h', tk, c', rfl, hS', hk'⟩ := hr
            repeat (any_goals (first | assumption | wp_step))
            exact h _ _ _ hS' hk'
          | _ => exact hr.elim
    | _ => exact hr.elim
end
/-- set(xs) -/
def rSetLI (K : PySem.W.Frag) (w : World) : List V → Hp → VK → Prop := fun vs H Q => ∃ (l : Addr) (ns : List Int), vs = [.ref l] ∧ SqL K H l (ns.map V.int) ∧ ns.length ≤ 4000 ∧ ∀ p c, H p = none → (∀ ms : List Int, ms.Nodup → (∀ k, k ∈ ms ↔ k ∈ ns) → ms.length = c) → Q (.ref p) (upd H p (SetO w p (fun j => decide (j ∈ ns)) c))
theorem setR_count {w : World} {h : Heap} {a : Addr} {ns : List Int} {c : Nat} (R : SetR w h a (fun j => decide (j ∈ ns)) c) {ms : List Int} (hn : ms.Nodup) (hm : ∀ k, k ∈ ms ↔ k ∈ ns) : ms.length = c := by
  obtain ⟨o, es, ep, t, ho, hex, hd, g, nd, hk, hb, hf, hc, _⟩ := R
  have pm : ms.Perm (es.toList.map keyOf) := (List.perm_ext_iff_of_nodup hn nd).mpr fun k => by rw [hm k, ← hk k, decide_eq_true_eq]
  rw [pm.length_eq, List.length_map, Array.length_toList]; exact hc
theorem cr_setLI {X : Cx} (hc : X.calm = true) : CallR X (.type "set") (rSetLI X.K X.w) := by
  intro pins s σ H vs us Q I r h
  obtain ⟨l, ns, rfl, hq, hlen, q⟩ := h
  rw [Vals.ref1 r]
  obtain ⟨its, rv, pl, hz⟩ := I.list hq
  refine setL_call ns (I.ok.hd hc) pl.isList (by simpa using RZ.intsAre_vals rv) (by unfold scanBound; omega) fun h' tk c R k => ?_
  have hn : H s.heap.objs.size = none := I.hok.fresh (Nat.le_refl _)
  have J : Inv X pins σ (upd H s.heap.objs.size (SetO X.w s.heap.objs.size (fun j => decide (j ∈ ns)) c)) { s with heap := h', toks := tk } :=
    I.call (ch := []) (Un.laid k (Nat.le_refl _) hn) (I.hok.laid k (Nat.le_refl _) (setO_new R)) I.bare (fun _ z => nomatch z)
  exact ⟨.ref s.heap.objs.size, _, J, rfl, q _ c hn fun ms h1 h2 => setR_count R h1 h2⟩
end L2

namespace Pv
open PySem PySem.Spec PyProof.Rows L2 Sr
/-! ### {k: x for .. in .. if t} -/
section
variable {X : Cx} {E : XK} {vs : List Nat} {it : GI} {T : TD} {t : TG} {tt : GT} {gk gv : G} {kx vx tg iter : Expr} {ifs : List Expr} {scope : Scope} {own : List (Str × Nat)} {pos : Pos} {i : Nat} {f : List (Key × D) → List D}
end
end Pv

namespace Pv
open PySem PySem.Spec PyProof.Rows L2 Sr
/-! ### for k in d: the dict is locked meanwhile -/
/-- cell a holds z if it holds anything -/
def upI (F : Hp) (a : Addr) (z : HO) : Hp := fun b => if b = a then (F a).map fun _ => z else F b
section
variable {K : PySem.W.Frag} {S0 S S' : List Addr} {F0 H0 F H F' H' : Hp} {R : Rs} {a : Addr} {u z : HO} {ρ : PEnv} {σ : L2.St} {E : XK} {own ol : List Nat}
end
section
variable {X : Cx} {E : XK} {own own' ol vs : List Nat} {tg iter : Expr} {body : List Stmt} {T : TD} {b : GS} {t : TG} {pos : Pos} {i : Nat} {f : List (Key × D) → List D}
end
end Pv

namespace Pv
open PySem PySem.Spec PyProof.Rows L2 Sr
/-! ### sorted(set(xs)), len(set(xs)): ints without repetition, ascending -/
def insU (x : Int) : List Int → List Int
  | [] => [x]
  | y :: r => if x < y then x :: y :: r else if x = y then y :: r else y :: insU x r
def sortU : List Int → List Int
  | [] => []
  | x :: r => insU x (sortU r)
theorem mem_insU {x k : Int} : ∀ {r : List Int}, k ∈ insU x r ↔ k = x ∨ k ∈ r
  | [] => by simp [insU]
  | y :: r => by
    unfold insU
    split
    · simp
    · split
      · rename_i h; subst h; simp
      · have := mem_insU (x := x) (k := k) (r := r)
        simp only [List.mem_cons, this]
        constructor <;> rintro (h | h | h) <;> simp [h]
theorem insU_asc {x : Int} : ∀ {r : List Int}, r.Pairwise (· < ·) → (insU x r).Pairwise (· < ·)
  | [], _ => by simp [insU]
  | y :: r, h => by
    obtain ⟨h1, h2⟩ := List.pairwise_cons.mp h
    unfold insU
    split
    · rename_i hl
      refine List.pairwise_cons.mpr ⟨fun k hk => ?_, h⟩
      rcases List.mem_cons.mp hk with rfl | hk
      · exact hl
      · have := h1 k hk; omega
    · split
      · exact h
      · refine List.pairwise_cons.mpr ⟨fun k hk => ?_, insU_asc h2⟩
        rcases mem_insU.mp hk with rfl | hk
        · omega
        · exact h1 k hk
theorem mem_sortU {k : Int} : ∀ {xs : List Int}, k ∈ sortU xs ↔ k ∈ xs
  | [] => by simp [sortU]
  | x :: r => by rw [sortU, mem_insU, mem_sortU (xs := r)]; simp
theorem sortU_asc : ∀ xs : List Int, (sortU xs).Pairwise (· < ·)
  | [] => .nil
  | x :: r => insU_asc (sortU_asc r)
theorem asc_nodup {xs : List Int} (h : xs.Pairwise (· < ·)) : xs.Nodup := h.imp fun h => by omega
theorem asc_eq : ∀ {xs ys : List Int}, xs.Pairwise (· < ·) → ys.Pairwise (· < ·) → (∀ k, k ∈ xs ↔ k ∈ ys) → xs = ys
  | [], [], _, _, _ => rfl
  | [], y :: ys, _, _, h => by have := (h y).mpr (by simp); simp at this
  | x :: xs, [], _, _, h => by have := (h x).mp (by simp); simp at this
  | x :: xs, y :: ys, h1, h2, h => by
    obtain ⟨a1, a2⟩ := List.pairwise_cons.mp h1
    obtain ⟨b1, b2⟩ := List.pairwise_cons.mp h2
    have e : x = y := by
      rcases List.mem_cons.mp ((h x).mp (by simp)) with e | e
      · exact e
      · rcases List.mem_cons.mp ((h y).mpr (by simp)) with e' | e'
        · exact e'.symm
        · have := b1 x e; have := a1 y e'; omega
    subst e
    refine congrArg (x :: ·) (asc_eq a2 b2 fun k => ⟨fun hk => ?_, fun hk => ?_⟩)
    · rcases List.mem_cons.mp ((h k).mp (by simp [hk])) with e | e
      · have := a1 k hk; omega
      · exact e
    · rcases List.mem_cons.mp ((h k).mpr (by simp [hk])) with e | e
      · have := b1 k hk; omega
      · exact e
theorem insU_len (x : Int) : ∀ r : List Int, (insU x r).length ≤ r.length + 1
  | [] => by simp [insU]
  | y :: r => by
    unfold insU
    split
    · simp
    · split
      · simp
      · have := insU_len x r; simp; omega
theorem sortU_len : ∀ xs : List Int, (sortU xs).length ≤ xs.length
  | [] => Nat.le_refl _
  | x :: r => by have := sortU_len r; have := insU_len x (sortU r); simp [sortU]; omega
def dSortSet : List D → Rs → Res D := fun ds R => match ds with
  | [.lst xs] => match intsOf xs with
    | some ns => if ns.length ≤ 60 then .ok (.lst ((sortU ns).map D.int)) R else .bad
    | none => .bad
  | _ => .bad
theorem sortSet_ap {ns : List Int} {R : Rs} (h : ns.length ≤ 60) : dSortSet [.lst (ns.map D.int)] R = .ok (.lst ((sortU ns).map D.int)) R := by
  unfold dSortSet
  simp only [intsOf_map, h, if_true]
section
variable {X : Cx} {E : XK} {e : Expr} {g : G} {gs : GA} {pos p p2 q : Pos}
theorem evf_sortSet (hc : X.calm = true) (hg : Gl X "sorted") (hm : X.mg "sorted" = none) (hg2 : Gl X "set") (hm2 : X.mg "set" = none) (ha : EvA X E [e] gs) (hs : starEach [e] X.env = [(false, eval e X.env)] := by rfl) :
    EvF X E (.Call (.Name "sorted" p) [.Call (.Name "set" p2) [e] [] q] [] pos) (gCB dSortSet gs) :=
  pe_imp (pe_callB (cr_sortedSet hc) hg hm (by rfl) (pa_cons (pe_callTy (cr_setLI hc) hg2 hm2 (by rfl) ha (by decide) (by decide) hs rfl) pa_nil) (by decide) (by decide) rfl rfl) fun σ H Q ⟨S, F, ρ, R, v, h⟩ => by
    refine ⟨S, F, ρ, R, v, Wf.bind h fun x S1 F1 H1 dx R1 e1 c1 rx h1 => ?_⟩
    unfold dSortSet at h1
    split at h1
    · split at h1
      · rename_i ns hns
        split at h1
        · rename_i hl
          cases rx with
          | cons r rn =>
          cases rn
          cases r with
          | @lst a vs _ hf rs =>
          have hds := intsOf_eq hns
          subst hds
          have hvs := Reps.of_ints rs
          subst hvs
          refine ⟨a, ns, rfl, SqL.of (e1.fh _ _ hf), by omega, fun p c hp hcnt => ?_⟩
          have hc' := hcnt (sortU ns) (asc_nodup (sortU_asc ns)) fun k => mem_sortU
          have hlen := sortU_len ns
          refine ⟨p, _, c, rfl, upd_same, by omega, fun ms p2 hs hm hl hp2 => ?_⟩
          have he : ms = sortU ns := asc_eq hs (sortU_asc ns) fun k => by rw [hm k, decide_eq_true_eq, mem_sortU]
          subst he
          have x1 : Ext S1 F1 H1 S1 F1 (upd H1 p (SetO X.w p (fun j => decide (j ∈ ns)) c)) := .newO e1.fh hp
          have c2 := c1.upd (o := SetO X.w p (fun j => decide (j ∈ ns)) c) (c1.fresh hp)
          have hp21 : H1 p2 = none := x1.back hp2
          exact h1 p2 (.lst ((sortU ns).map V.int)) S1 F1 _ (x1.trans (.newO x1.fh hp2)) (c2.upd (c2.fresh hp2)) upd_same (.lst (.ints _)) (e1.fh.free hp21) hp21 (c2.fresh hp2)
        · exact h1.elim
      · exact h1.elim
    · exact h1.elim
/-! ### dicts: list(d), sorted(d), len(d), d == e -/
end
end Pv
namespace Pv
open PySem PySem.Spec PyProof.Rows L2 Sr
end Pv

namespace L2
open PySem PySem.Spec PyProof.Rows
section
variable {X : Cx} {pins : List (Addr × Obj)} {σ : L2.St} {H : Hp} {s : Shared}
end
section
variable {X : Cx} {e : Expr} {es : List Expr} {te : TE} {t : TA} {p : Pos}
end
end L2
namespace Pv
open PySem PySem.Spec PyProof.Rows L2 Sr
section
variable {X : Cx} {E : XK} {e : Expr} {es : List Expr} {g : G} {gs : GA}
end
end Pv

namespace L2
open PySem PySem.Spec PyProof.Rows
/-! ### max of a list of tuples of whole numbers -/
section
variable {X : Cx}
end
end L2
namespace Pv
open PySem PySem.Spec PyProof.Rows L2 Sr
section
variable {X : Cx} {E : XK}
end
end Pv

namespace L2
open PySem PySem.Spec PyProof.Rows
/-! ### len(set(xs)) -/
end L2
namespace Pv
open PySem PySem.Spec PyProof.Rows L2 Sr
section
variable {X : Cx} {E : XK} {e : Expr} {gs : GA} {pos p p2 q : Pos}
end
end Pv

namespace PySem.W
open PySem PySem.Calls PyProof.Rows PyProof.V PySem.Spec
section
variable {prog : Program} {w : World} {A : Around} {E : Value → Shared → Prop} {s : Shared} {T : String} {r d : Addr} {n : Nat} {P : Nat → Value → Prop} {OK : Heap → Prop} {Q : Value → Shared → Prop}
end
end PySem.W
namespace L2
open PySem PySem.Spec PyProof.Rows
section
variable {X : Cx}
variable {o : Expr} {p pos apos mpos : Pos} {td : TE}
end
end L2
namespace Pv
open PySem PySem.Spec PyProof.Rows L2 Sr
section
variable {X : Cx} {E : XK} {o : Expr} {g : G} {p pos apos mpos : Pos}
end
end Pv

namespace L2
open PySem PySem.Spec PyProof.Rows
/-! ### one list of whole numbers greater than another -/
end L2
namespace Pv
open PySem PySem.Spec PyProof.Rows L2 Sr
section
variable {X : Cx} {E : XK}
end
end Pv

namespace L2
open PySem PySem.Spec PyProof.Rows
/-! ### {k: v} with one tuple for its key -/
end L2
namespace Pv
open PySem PySem.Spec PyProof.Rows L2 Sr
/-! ### dicts whose keys are tuples -/
section
variable {X : Cx} {E : XK} {o i a e f : Expr} {gd gk gx g : G} {gs : GA} {pos apos cpos : Pos} {own ol : List Nat}
end
end Pv

namespace Pv
open PySem PySem.Spec PyProof.Rows L2 Sr
/-! ### a slot whose old value is forgotten may be owned anew -/
section
variable {X : Cx} {E : XK} {own own' ol : List Nat}
end
/-! ### range(i, j, -1) -/
section
variable {X : Cx} {E : XK} {tg : Expr} {gs : GA}
end
end Pv

namespace L2
open PySem PySem.Spec PyProof.Rows
/-! ### one tuple of whole numbers less than another -/
end L2
namespace Pv
open PySem PySem.Spec PyProof.Rows L2 Sr
section
variable {X : Cx} {E : XK}
end
end Pv

namespace L2
open PySem PySem.Spec PyProof.Rows
/-! ### a tuple once, or not at all -/
end L2
namespace Pv
open PySem PySem.Spec PyProof.Rows L2 Sr
section
variable {X : Cx} {E : XK}
end
end Pv

namespace Pv
open PySem PySem.Spec PyProof.Rows L2 Sr
/-! ### defs whose result is a new cell -/
section
variable {K : PySem.W.Frag} {S : List Addr} {F H : Hp} {R : Rs} {E : XK} {Q : VK}
end
section
variable {fa : List He.Fa} {fn : List He.DefD} {gt : List PropD} {ex : PySem.W.Frag → Bool} {K : PySem.W.Frag} {mg : Str → Option Value} {P : Program} {w : World} {base : Heap}
end
section
variable {X : Cx} {E : XK} {own own' ol : List Nat} {a b c e o : Expr} {es rest : List Expr} {ga gb gc g g' : G} {gs : GA} {pos p : Pos} {n k : Nat} {f : List D → Rs → Res D} {x cc : Str} {ps : List Str} {CX : CXT}
end
end Pv
namespace Pv
open PySem PySem.Spec PyProof.Rows L2 Sr
end Pv

/-! ### list(zip(a, b)), a and b lists -/
namespace ZlX
open PySem PySem.Calls PyProof.Rows PyProof.V PySem.Spec PySem.W
structure ZG (xs ys : Array Value) (lo : Addr) (h : Heap) (as : List Addr) : Prop where
  rise : as.Pairwise (· < ·)
  above : ∀ a ∈ as, lo < a
  pairs : ∀ (j : Nat) (a : Addr), as[j]? = some a → ∃ x y, xs[j]? = some x ∧ ys[j]? = some y ∧ h.get? a = some { cls := .type "tuple", data := .seq #[x, y] }
theorem ZG.there {xs ys : Array Value} {lo : Addr} {h : Heap} {as : List Addr} (g : ZG xs ys lo h as) {a : Addr} (ha : a ∈ as) : a < h.objs.size := by
  obtain ⟨j, hj⟩ := List.mem_iff_getElem?.mp ha
  obtain ⟨_, _, _, _, e⟩ := g.pairs j a hj
  exact Heap.lt_size e
theorem ZG.low {xs ys : Array Value} {lo lo' : Addr} {h : Heap} {as : List Addr} (g : ZG xs ys lo h as) (hl : lo' ≤ lo) : ZG xs ys lo' h as := ⟨g.rise, fun a ha => Nat.lt_of_le_of_lt hl (g.above a ha), g.pairs⟩
/-- where the zip stands -/
structure ZSt (h : Heap) (z TI TO i1 i2 l1 l2 S : Addr) (xs ys : Array Value) (i : Nat) : Prop where
  ti : IsPair h TI (.ref i1) (.ref i2)
  h1 : h.IsListIter i1 l1 i
  h2 : h.IsListIter i2 l2 i
  l1 : h.IsList l1 xs
  l2 : h.IsList l2 ys
  z : (IsZip h z TI TO .none ∧ ∃ a b, IsPair h TO a b) ∨ ∃ T f oT, IsZipHeld h z TI TO T f ∧ h.get? T = some oT ∧ T ≠ z ∧ T ≠ i1 ∧ T ≠ i2 ∧ T ≠ S
structure ZOff (z TI TO i1 i2 l1 l2 S : Addr) : Prop where
  z : z ≠ S
  ti : TI ≠ S
  to : TO ≠ S
  i1 : i1 ≠ S
  i2 : i2 ≠ S
  l1 : l1 ≠ S
  l2 : l2 ≠ S
theorem ZSt.keep {h h' : Heap} {z TI TO i1 i2 l1 l2 S : Addr} {xs ys : Array Value} {i : Nat} (O : ZOff z TI TO i1 i2 l1 l2 S) (st : ZSt h z TI TO i1 i2 l1 l2 S xs ys i) (hk : ∀ b o, b ≠ S → h.get? b = some o → h'.get? b = some o) : ZSt h' z TI TO i1 i2 l1 l2 S xs ys i where
  ti := hk _ _ O.ti st.ti
  h1 := st.h1.at fun o e => hk _ o O.i1 e
  h2 := st.h2.at fun o e => hk _ o O.i2 e
  l1 := st.l1.at fun o e => hk _ o O.l1 e
  l2 := st.l2.at fun o e => hk _ o O.l2 e
  z := by
    rcases st.z with ⟨a, b, c, d⟩ | ⟨T, f, oT, a, b, c, d, e, g⟩
    · exact .inl ⟨hk _ _ O.z a, b, c, hk _ _ O.to d⟩
    · exact .inr ⟨T, f, oT, hk _ _ O.z a, hk _ _ g b, c, d, e, g⟩
section
variable {prog : Program} {w : World} {A : Around} {E : Value → Shared → Prop} {s : Shared} {z TI TO i1 i2 l1 l2 S : Addr} {xs ys : Array Value}
end
section
variable {prog : Program} {w : World} {A : Around} {s : Shared} {R : Result → Shared → Prop} {z TI TO i1 i2 l1 l2 S : Addr} {xs ys : Array Value}
end
section
variable {prog : Program} {w : World} {A : Around} {E : Value → Shared → Prop} {s : Shared} {z TI TO i1 i2 l1 l2 S : Addr} {xs ys : Array Value}
end
section
variable {prog : Program} {w : World} {A : Around} {E : Value → Shared → Prop} {s : Shared} {z TI TO i1 i2 l1 l2 : Addr} {xs ys : Array Value}
end
open L2
section
variable {X : Cx} {e e2 : Expr} {ta : TA} {p p2 q pos : Pos}
end
end ZlX
namespace Pv
open PySem PySem.Spec PyProof.Rows L2 Sr
section
variable {X : Cx} {E : XK} {e e2 : Expr} {gs : GA} {pos p p2 q : Pos}
end
end Pv

namespace Pv
open PySem PySem.Spec PyProof.Rows L2 Sr
/-! ### try: .. except C: .. whose body raises nothing -/
section
variable {X : Cx} {E : XK} {own own' ol : List Nat}
end
end Pv

/-! ### bool(x), x an instance with __len__; x == t, x an instance and t a known tuple -/
namespace BlX
open PySem PySem.Calls PyProof.Rows PyProof.V PySem.Spec PySem.W
section
variable {prog : Program} {w : World} {A : Around} {E : Value → Shared → Prop} {s : Shared} {K : Frag} {h₀ : Heap} {L : Addr} {m : Str → Option Value} {x C f : Addr} {ox : Obj} {od : Option Obj}
end
end BlX
namespace Pv
open PySem PySem.Spec PyProof.Rows L2 Sr
section
variable {X : Cx} {CX : CXT} {k : Nat} {f C : Addr} {sp : Sp} {E : XK}
/-! ### x == t, t a known tuple -/
end
section
variable {X : Cx} {CX : CXT} {k : Nat} {E : XK} {c : Str} {ps : List Str} {f : List D → Rs → Res D}
end
end Pv

namespace L2
open PySem PySem.Spec PyProof.Rows
/-! ### {a: b, c: d}, ints -/
/-! ### d == e, two dicts of ints that are equal -/
section
variable {X : Cx}
end
end L2
namespace Pv
open PySem PySem.Spec PyProof.Rows L2 Sr
section
variable {X : Cx} {E : XK} {k1 v1 k2 v2 : Expr} {pos : Pos}
theorem RepK.mem {K : PySem.W.Frag} {F : Hp} : ∀ {fs : List (Key × V)} {gs : List (Key × D)}, RepK K F fs gs → ∀ p ∈ fs, ∃ q ∈ gs, p.1 = q.1 ∧ Rep K F p.2 q.2
  | [], _, _, p, hp => by simp at hp
  | f :: fs, [], r, p, hp => by have := r.len; simp at this
  | f :: fs, g :: gs, r, p, hp => by
    obtain ⟨⟨h1, h2⟩, h3⟩ := RepK.cons_iff.mp r
    rcases List.mem_cons.mp hp with rfl | hp
    · exact ⟨g, by simp, h1, h2⟩
    · obtain ⟨q, hq, z⟩ := RepK.mem h3 p hp
      exact ⟨q, by simp [hq], z⟩
end
end Pv

namespace Sr
open PySem PySem.Spec PyProof.Rows L2
/-! ### x in xs, xs a list of instances of one class with an own == -/
section
variable {X : Cx} {CX : CXT} {k : Nat} {C : Addr} {sp : Sp} {E : XK}
open MeetsSeq SeqRoads2 AutoSeq1 in
open MeetsSeq SeqRoads2 AutoSeq1 in
end
end Sr
namespace Pv
open PySem PySem.Spec PyProof.Rows L2 Sr
/-! ### .. by data -/
section
variable {X : Cx} {CX : CXT} {k : Nat} {E : XK} {c : Str} {ps : List Str} {f : List D → Rs → Res D}
end
end Pv

namespace Pv
open PySem PySem.Spec PyProof.Rows L2 Sr
/-! ### [x for k in d], the keys of d are tuples -/
section
variable {X : Cx} {E : XK} {e : Expr} {g : G}
end
section
variable {X : Cx} {E : XK} {tg : Expr}
variable {vs : List Nat} {T : TD} {t : TG} {tt : GT} {ge : G} {elt iter : Expr} {ifs : List Expr} {scope : Scope} {own : List (Str × Nat)} {pos : Pos} {i : Nat} {f : List (List Key × D) → List D}
end
end Pv

namespace L2
open PySem PySem.Spec PyProof.Rows
section
variable {X : Cx}
/-! ### dict != dict of ints, when they are equal -/
end
end L2
namespace Pv
open PySem PySem.Spec PyProof.Rows L2 Sr
section
variable {X : Cx} {E : XK}
end
end Pv

namespace Pv
open PySem PySem.Spec PyProof.Rows L2 Sr
/-! ### instances that change -/
section
variable {X : Cx} {E : XK} {a b e o value : Expr} {es : List Expr} {ga gb g : G} {gs : GA} {pos p apos tpos : Pos} {n k : Nat} {c m x fl : Str} {ps : List Str} {CX : CXT} {own own' ol : List Nat}
/-- C(..): a new instance that nothing else holds -/
theorem evf_mk {f : Nat → List D → Rs → Res D} (M : MeB X.prog X.w X.K X.mg X.base CX k (He.ga X.K c) "__init__" ps (spL X.K n f)) (hmk : PySem.W.makesIn X.K (He.ga X.K c) = true) (hkc : PySem.W.keepIn X.K (.ref (He.ga X.K c)) = true) (hm : X.mg x = some (.ref (He.ga X.K c))) (hr : Room (k + 1) X.A) (hx : Passes CX X E) (ha : EvA X E (e :: es) gs)
    (hg : Gl X x := by rfl) (hdb : (x == ("__debug__" : Str)) = false := by decide)
    (he : starEach (e :: es) X.env = (false, eval e X.env) :: starEach es X.env := by rfl) (hpl : (backTo pos (starEach es X.env)).any (·.1) = false := by rfl) :
    EvF X E (.Call (.Name x p) (e :: es) [] pos) (gMk c n f gs) := pe_imp (pe_mk M hmk hkc hm hr hx ha hg hdb he hpl) fun σ H Q ⟨S, F, ρ, R, v, h⟩ => by
  refine ⟨S, F, ρ, R, v, Wf.bind h fun vs S1 F1 H1 ds R1 e1 c1 rx h1 => fun x dx hx hd hne => ?_⟩
  rw [List.append_nil]
  split at h1
  · rename_i hn
    have hlen := c1.len
    refine ⟨S1 ++ [x], F1, R1 ++ [.ins c []], R1.length, x, vs, ds, rfl, by rw [List.getElem?_append_right (by omega)]; simp [hlen], ?_, c1.snoc e1.fh hx hd hne, rx, hn, ?_⟩
    · exact fun b u q => by
        have q' := e1.fh b u q
        rw [upd_ne (ne_of_none q' hx), upd_ne (ne_of_none q' hd)]; exact q'
    cases q : f R1.length ds (R1 ++ [.ins c []]) with
    | bad => rw [q] at h1; exact h1
    | exc ec fs R2 =>
      rw [q] at h1
      simp only [mkEnd] at h1
      split at h1
      · rename_i hl2
        intro d S2 F2 H2 e2 c2 hx2
        obtain ⟨g1, g2, g3, g4, g5, g6⟩ := ext_snoc hx hd e2
        have hS2 := prefix_len e2.s (by rw [c2.len, hl2, hlen])
        subst hS2
        have hS1 : ∀ b ∈ S1, F2 b = none := fun b hb => (c2.has (List.mem_append_left _ hb)).1
        refine h1 d S1 F2 H2 ⟨List.prefix_refl _, g2, g3, g4, g5, g6, fun b z1 z2 => absurd z1 z2⟩ (c2.drop (.refl _) hS1) ?_
        cases hx2 with
        | no => exact .no
        | at_ a1 a2 a3 => exact .at_ a1 a2 a3
      · exact h1.elim
    | ok d R2 =>
      rw [q] at h1
      cases d with
      | non =>
        simp only [mkEnd] at h1
        split at h1
        · rename_i c' fs hlast
          split at h1
          · rename_i hc
            obtain ⟨hl2, rfl⟩ := hc
            intro b S2 F2 H2 e2 c2 rb
            cases rb
            refine ⟨rfl, ?_⟩
            obtain ⟨g1, g2, g3, g4, g5, g6⟩ := ext_snoc hx hd e2
            have hS2 := prefix_len e2.s (by rw [c2.len, hl2, hlen])
            subst hS2
            have hR2 : R2[S1.length]? = some (.ins c' fs) := by
              rw [List.getLast?_eq_getElem?] at hlast
              rw [← hlast, hl2, hlen]; rfl
            obtain ⟨n1, o, n3, n4⟩ := c2.at_ S1.length x (.ins c' fs) (by rw [List.getElem?_append_right (Nat.le_refl _)]; simp) hR2
            have hxS : x ∉ S1 := c1.fresh hx
            have hS1 : ∀ b ∈ S1, F2 b = none := fun b hb => (c2.has (List.mem_append_left _ hb)).1
            exact h1 x o S1 F2 H2 ⟨List.prefix_refl _, g2, g3, g4, g5, g6, fun b z1 z2 => absurd z1 z2⟩ (c2.drop (.refl _) hS1) n3 n4 n1 hx hxS
          · exact h1.elim
        · exact h1.elim
      | _ => exact h1.elim
  · exact h1.elim
/-- an owned slot's cell becomes one of the numbered cells -/
def isInsD : D → Bool
  | .ins _ _ => true
  | .lst _ => true
  | _ => false
def gLocal (i : Nat) (g : GS) : GS := fun ρ R => match ρ[i]? with
  | some (some d) => if isInsD d then g (ρ.set i (some (.loc R.length))) (R ++ [d]) else .bad
  | _ => .bad
theorem sts_local {i : Nat} {sts : List Stmt} {g : GS} (hi : i ∈ own) (h : Sts X E (own.filter (· ≠ i)) own' ol sts g) : Sts X E own own' ol sts (gLocal i g) := pss_imp h fun Dn σ H ⟨S0, F0, H0, ρ, R, ⟨S, F, s⟩, h⟩ => by
  unfold gLocal at h
  split at h
  · rename_i d hd
    split at h
    · rename_i hid
      obtain ⟨v, h1, a, o, rfl, h3, h4, h5, h6, h7⟩ := s.ow i hi d hd
      have hlen := s.cells.len
      have hab : ∀ b ∈ S, b ≠ a := fun b hb z => h6 (by rw [← z]; exact hb)
      have hc : Cells X.K (S ++ [a]) F H (R ++ [d]) := by
        refine ⟨by simp [hlen], fun j b d' q1 q2 => ?_, ?_, fun j b q2 => ?_⟩
        · by_cases hj : j < S.length
          · rw [List.getElem?_append_left hj] at q1
            rw [List.getElem?_append_left (by omega)] at q2
            exact s.cells.at_ j b d' q1 q2
          · rw [List.getElem?_append_right (by omega)] at q1
            rw [List.getElem?_append_right (by omega)] at q2
            have : j - S.length = 0 := by
              have := (List.getElem?_eq_some_iff.mp q1).1
              simp at this; omega
            rw [this] at q1
            rw [show j - R.length = 0 by omega] at q2
            simp at q1 q2
            subst q1 q2
            exact ⟨h5, o, h3, h4⟩
        · rw [List.nodup_append]
          exact ⟨s.cells.nd, by simp, fun b hb b' hb' => by simp at hb'; subst hb'; exact hab b hb⟩
        · by_cases hj : j < R.length
          · rw [List.getElem?_append_left hj] at q2
            obtain ⟨z1, z2, z3⟩ := s.cells.tb j b q2
            refine ⟨z1, ?_, ?_⟩
            · rw [List.getElem?_append_left (List.getElem?_eq_some_iff.mp z2).1]; exact z2
            · rw [List.getElem?_append_left (List.getElem?_eq_some_iff.mp z3).1]; exact z3
          · rw [List.getElem?_append_right (by omega)] at q2
            have hj0 : j - R.length = 0 := by
              have := (List.getElem?_eq_some_iff.mp q2).1
              simp at this; omega
            rw [hj0] at q2
            simp at q2
            subst q2
            cases hid
      have hl : S.length < (S ++ [a]).length := by simp
      have hla : (S ++ [a])[R.length]? = some a := by rw [List.getElem?_append_right (by omega)]; simp [hlen]
      refine ⟨S0, F0, H0, _, _, ⟨S ++ [a], F, ⟨?_, s.ext.f, s.ext.fh, s.ext.fr, s.ext.th, s.ext.nw, fun b q1 q2 => ?_⟩, hc, fun j d' q1 q2 => ?_, fun j hj d' q1 => ?_, fun j hj l hl' d1 d2 u q1 q2 q3 q4 => ?_, by simp [s.len]⟩, h⟩
      · exact s.ext.s.trans (List.prefix_append _ _)
      · rcases List.mem_append.mp q1 with q | q
        · exact s.ext.sn b q q2
        · simp at q; subst q; exact h7
      · by_cases ej : i = j
        · subst ej
          rw [List.getElem?_set] at q1
          simp only [if_true] at q1
          split at q1
          · cases q1
            exact ⟨_, h1, .inr (.inl ⟨_, a, rfl, rfl, hla⟩)⟩
          · cases q1
        · rw [List.getElem?_set_ne ej] at q1
          obtain ⟨w, w1, w2⟩ := s.sh j d' q1 fun z => q2 (List.mem_filter.mpr ⟨z, by simpa using (Ne.symm ej)⟩)
          exact ⟨w, w1, w2.mono (List.prefix_append _ _) (.refl _)⟩
      · obtain ⟨hj1, hj2⟩ := List.mem_filter.mp hj
        have ej : i ≠ j := fun z => by simp [z] at hj2
        rw [List.getElem?_set_ne ej] at q1
        obtain ⟨w, w1, b, o2, rfl, w3, w4, w5, w6, w7⟩ := s.ow j hj1 d' q1
        refine ⟨_, w1, b, o2, rfl, w3, w4, w5, fun z => ?_, w7⟩
        rcases List.mem_append.mp z with z | z
        · exact w6 z
        · simp at z; subst z
          exact ej (s.ap i hi j hj1 d d' _ hd q1 h1 w1)
      · obtain ⟨hj1, hj2⟩ := List.mem_filter.mp hj
        obtain ⟨hl1, hl2⟩ := List.mem_filter.mp hl'
        have ej : i ≠ j := fun z => by simp [z] at hj2
        have el : i ≠ l := fun z => by simp [z] at hl2
        rw [List.getElem?_set_ne ej] at q1
        rw [List.getElem?_set_ne el] at q2
        exact s.ap j hj1 l hl1 d1 d2 u q1 q2 q3 q4
    · exact h.elim
  · exact h.elim
/-- x.m(..), x a slot with a mutable instance -/
def gMethL (i : Nat) (c m : Str) (n : Nat) (f : Nat → List D → Rs → Res D) (gs : GA) : G := fun ρ R => match ρ[i]? with
  | some (some (.loc l)) => match R[l]? with
    | some (.ins c' fs) => if c' = c ∧ fs.lookup m = none then (gs ρ R).bind fun ds R1 => if ds.length + 1 = n then f l ds R1 else .bad
      else .bad
    | _ => .bad
  | _ => .bad
theorem ev_meL {i : Nat} {f : Nat → List D → Rs → Res D} {pl : Sem Bool} (M : MeB X.prog X.w X.K X.mg X.base CX k (He.ga X.K c) m ps (spL X.K n f)) (cl : Cls X.K (He.ga X.K c)) (hr : Room k X.A) (hx : Passes CX X E) (ho : PE X o (tVar i)) (ha : EvA X E (e :: es) gs)
    (hst : starEach (e :: es) X.env = (false, eval e X.env) :: starEach es X.env := by rfl) (hpl : (backTo pos (starEach es X.env)).any (·.1) = false := by rfl)
    (ht : eval (.Call (.Attribute o m apos) (e :: es) [] pos) X.env = (do
      let ov ← eval o X.env
      standAt apos.atName
      let (f, first) ← holding [ov] (getMethod ov m pl)
      callWith pos f first (backTo pos (starEach (e :: es) X.env)) (backToKw pos (keywordEach [] X.env))) := by rfl) : Ev X E (.Call (.Attribute o m apos) (e :: es) [] pos) (gMethL i c m n f gs) := pe_imp (pe_me M cl hr hx ho ha hst hpl ht) fun σ H Q ⟨S, F, ρ, R, v, h⟩ => by
  unfold gMethL at h
  split at h
  · rename_i l hl
    obtain ⟨a, q1, q2⟩ := loc_get v hl
    split at h
    · rename_i c' fs hfs
      split at h
      · rename_i hc
        obtain ⟨rfl, hc⟩ := hc
        obtain ⟨n1, o, n3, n4⟩ := v.cells.at_ l a _ q2 hfs
        cases n4 with
        | @ins dx _ fs' _ e1 e2 =>
        refine ⟨_, q1, a, _, _, rfl, n3, lookup_none (K := X.K) (F := F) e1 hc, S, F, ρ, R, v, Wp.bind h fun ys S2 F2 H2 dys R2 e2 c2 ry h2 => ?_⟩
        split at h2
        · rename_i hl2
          rw [List.append_nil]
          exact ⟨S2, F2, R2, l, a, ys, dys, rfl, pre_get e2.s q2, e2.fh, c2, ry, hl2, h2⟩
        · exact h2.elim
      · exact h.elim
    · exact h.elim
  · exact h.elim
theorem ev_meL0 {i : Nat} {f : Nat → List D → Rs → Res D} {pl : Sem Bool} (M : MeB X.prog X.w X.K X.mg X.base CX k (He.ga X.K c) m ps (spL X.K n f)) (cl : Cls X.K (He.ga X.K c)) (hr : Room k X.A) (hx : Passes CX X E) (ho : PE X o (tVar i))
    (ht : eval (.Call (.Attribute o m apos) [] [] pos) X.env = (do
      let ov ← eval o X.env
      standAt apos.atName
      let (f, first) ← holding [ov] (getMethod ov m pl)
      callWith pos f first (backTo pos (starEach [] X.env)) (backToKw pos (keywordEach [] X.env))) := by rfl) : Ev X E (.Call (.Attribute o m apos) [] [] pos) (gMethL i c m n f gNil) := pe_imp (pe_me0 M cl hr hx ho ht) fun σ H Q ⟨S, F, ρ, R, v, h⟩ => by
  unfold gMethL at h
  split at h
  · rename_i l hl
    obtain ⟨a, q1, q2⟩ := loc_get v hl
    split at h
    · rename_i c' fs hfs
      split at h
      · rename_i hc
        obtain ⟨rfl, hc⟩ := hc
        obtain ⟨n1, o, n3, n4⟩ := v.cells.at_ l a _ q2 hfs
        cases n4 with
        | @ins dx _ fs' _ e1 e2 =>
        refine ⟨_, q1, a, _, _, rfl, n3, lookup_none (K := X.K) (F := F) e1 hc, ?_⟩
        simp only [gNil, Res.bind_ok] at h
        split at h
        · rename_i hl2
          exact ⟨S, F, R, l, a, [], [], rfl, q2, v.fh, v.cells, .nil, hl2, h⟩
        · exact h.elim
      · exact h.elim
    · exact h.elim
  · exact h.elim
/-- x.f op= e, ints -/
def gAugFL (own : List Nat) (i : Nat) (c f : Str) (h : Int → Int → Int) (g : G) : GS := fun ρ R => match (hide own ρ)[i]? with
  | some (some (.loc l)) => match R[l]? with
    | some (.ins c' fs) => if c' = c then match fs.lookup f with
      | some (.int i0) => (g (see .f own ρ) R).out fun d R1 => match d, R1[l]? with
        | .int j, some (.ins c2 fs2) => if c2 = c ∧ fs2.length < 1000 then .nx ρ (R1.set l (.ins c (putFD f (.int (h i0 j)) fs2))) else .bad
        | _, _ => .bad
      | _ => .bad
      else .bad
    | _ => .bad
  | _ => .bad
theorem st_augFL {i : Nat} {op : Operator} {hf : Int → Int → Int} (hop : InOp X op (ipI hf)) (cl : Cls X.K (He.ga X.K c)) (hn : NoAttr X.K (He.ga X.K c) fl) (ho : PE X o (tVar i)) (he : Ev X E value g) :
    Stm X E own own ol (.AugAssign (.Attribute o fl tpos) op value pos) (gAugFL own i c fl hf g) := ps_imp (ps_fldaug ho he hop) fun Dn σ H ⟨S0, F0, H0, ρ, R, s, h⟩ => by
  unfold gAugFL at h
  split at h
  · rename_i l hl
    have s0 := s
    obtain ⟨S, F, s1⟩ := s0
    obtain ⟨a, q1, q2⟩ := loc_get s1.view hl
    split at h
    · rename_i c' fs hfs
      split at h
      · rename_i hc
        subst hc
        split at h
        · rename_i i0 hi0
          obtain ⟨n1, o, n3, n4⟩ := s1.cells.at_ l a _ q2 hfs
          cases n4 with
          | @ins dx _ fs' _ e1 e2 =>
          obtain ⟨w, h2, h3⟩ := lookup_rep e1 e2 hi0
          cases h3
          refine ⟨_, q1, a, _, _, _, _, rfl, n3, cl, hn, h2, see_wp rfl s h fun v d R1 S F S1 F1 H1 s ef eg cc r _ h1 => ?_⟩
          obtain ⟨F2, s2, _⟩ := s.seenR ef eg cc rfl
          split at h1
          · rename_i j c2 fs2 hR1
            split at h1
            · rename_i hc2
              obtain ⟨rfl, hl2⟩ := hc2
              cases r
              refine ⟨i0, j, rfl, rfl, ?_⟩
              obtain ⟨a', q1', q2'⟩ := loc_get s2.view hl
              rw [q1] at q1'
              cases q1'
              obtain ⟨m1, o2, m3, m4⟩ := s2.cells.at_ l a _ q2' hR1
              cases m4 with
              | @ins dx2 _ fs3 _ e3 e4 =>
              have rk : RepK X.K F2 fs3 fs2 := ⟨e3, e4⟩
              have z := putF_rep (f := fl) (.int (hf i0 j)) rk
              exact ⟨_, fs3, m3, by rw [rk.len]; exact hl2, h1 _ _ ⟨_, _, s2.putC q2' (.ins z.1 z.2)⟩⟩
            · exact h1.elim
          · exact h1.elim
        · exact h.elim
      · exact h.elim
    · exact h.elim
  · exact h.elim
theorem io_add : InOp X .Add (ipI fun i j => i + j) := fun pins s σ H x y u v Q I r1 r2 h => ip_add pins s σ H x y u v Q I r1 r2 h
end
/-! ### cells that a def leaves behind -/
def Res.cut {α : Type} (n : Nat) (r : Res α) : Res α := match r with
  | .ok a R => if n ≤ R.length then .ok a (R.take n) else .bad
  | .exc c fs R => if n ≤ R.length then .exc c fs (R.take n) else .bad
  | .bad => .bad
def cutR (f : List D → Rs → Res D) : List D → Rs → Res D := fun ds R => (f ds R).cut R.length
theorem cells_take {K : PySem.W.Frag} {S : List Addr} {F H : Hp} {R : Rs} (c : Cells K S F H R) (n : Nat) : Cells K (S.take n) F H (R.take n) := by
  refine ⟨by simp [c.len], fun i a d h1 h2 => ?_, c.nd.sublist (List.take_sublist _ _), fun i a h => ?_⟩
  · rw [List.getElem?_take] at h1 h2
    split at h1
    · rename_i hi
      rw [if_pos hi] at h2
      exact c.at_ i a d h1 h2
    · cases h1
  · rw [List.getElem?_take] at h
    split at h
    · rename_i hi
      obtain ⟨z1, z2, z3⟩ := c.tb i a h
      refine ⟨z1, ?_, ?_⟩
      · rw [List.getElem?_take, if_pos (by omega)]; exact z2
      · rw [List.getElem?_take, if_pos (by omega)]; exact z3
    · cases h
theorem ext_take {S S' : List Addr} {F H F' H' : Hp} (e : Ext S F H S' F' H') : Ext S F H (S'.take S.length) F' H' where
  s := by
    obtain ⟨t, rfl⟩ := e.s
    rw [List.take_left]
    exact List.prefix_refl _
  f := e.f
  fh := e.fh
  fr := e.fr
  th := e.th
  nw := e.nw
  sn := fun b h1 h2 => by
    obtain ⟨t, rfl⟩ := e.s
    rw [List.take_left] at h1
    exact absurd h1 h2
theorem wp_cut {K : PySem.W.Frag} {E : XK} {S : List Addr} {F H : Hp} {r : Res D} {Q : VK} (h : Wp K E (fun _ F v d => Rep K F v d) S F H (r.cut S.length) Q) : Wp K E (fun _ F v d => Rep K F v d) S F H r Q := by
  cases r with
  | ok a R' =>
    have h : Wp K E (fun _ F v d => Rep K F v d) S F H (if S.length ≤ R'.length then Res.ok a (R'.take S.length) else .bad) Q := h
    by_cases hn : S.length ≤ R'.length
    · rw [if_pos hn] at h
      intro b S' F' H' e c rb
      exact h b _ F' H' (ext_take e) (cells_take c _) rb
    · rw [if_neg hn] at h
      exact h.elim
  | exc cc fs R' =>
    have h : Wp K E (fun _ F v d => Rep K F v d) S F H (if S.length ≤ R'.length then Res.exc cc fs (R'.take S.length) else .bad) Q := h
    by_cases hn : S.length ≤ R'.length
    · rw [if_pos hn] at h
      intro d S' F' H' e c hx
      refine h d _ F' H' (ext_take e) (cells_take c _) ?_
      cases hx with
      | no => exact .no
      | at_ a1 a2 a3 => exact .at_ a1 a2 a3
    · rw [if_neg hn] at h
      exact h.elim
  | bad => exact h
theorem cut_imp {K : PySem.W.Frag} {n : Nat} {f : List D → Rs → Res D} (vs : List V) (H : Hp) (Q : VK) (E : XK) (h : spP K n (cutR f) vs H Q E) : spP K n f vs H Q E := by
  obtain ⟨S, F, R, ds, hs, c, r, hl, h⟩ := h
  refine ⟨S, F, R, ds, hs, c, r, hl, wp_cut ?_⟩
  unfold cutR at h
  rw [← c.len] at h
  exact h
end Pv

namespace Lw
open PySem PySem.Spec PyProof.Rows L2 Sr Pv
def m_is_int : GS := (gRet (gAndV (gCB (dIsK .int) (gCons (gVar 0) (gCons (gC (.ty "int")) gNil))) (gUn dNot (gCB (dIsK .bl) (gCons (gVar 0) (gCons (gC (.ty "bool")) gNil))))))
def f_is_int : List D → Rs → Res D := pureF (runB 1 m_is_int)

def m_is_int_in : GS := (gRet (gAndV (gCall 1 f_is_int (gCons (gVar 0) gNil)) (gCh dLe dLe (gVar 1) (gVar 0) (gVar 2))))
def f_is_int_in : List D → Rs → Res D := pureF (runB 3 m_is_int_in)

def m_never_falls : GS := (gSeq (gSet .f [] 1 (gC (.bl true)))
  (gSeq (gSet .f [] 2 (gC (.int 0)))
  (gSeq (gFor .f [] [3, 4] (gIt tupOf (gVar 0)) (dGTup 2 (dGCons (dName 3) (dGCons (dName 4) dGNil))) (gSeq (gAug .f [] 2 dAdd (gCB dInt1 (gCons (gVar 4) gNil)))
  (gSet .f [] 1 (gAndV (gVar 1) (gOp dGe (gVar 2) (gC (.int 0)))))))
  (gRet (gVar 1)))))
def f_never_falls : List D → Rs → Res D := pureF (runB 5 m_never_falls)

def m_Rig_init : GS := (gStF .f [] 0 "Rig" "told" (gVar 1))
def f_Rig_init : Nat → List D → Rs → Res D := runL 2 m_Rig_init

def m_Rig_arms : GS := (gRet (gFld "Rig" "told" (gVar 0)))
def f_Rig_arms : List D → Rs → Res D := pureF (runB 1 m_Rig_arms)

def m_Rig_is_forward : GS := (gRet (gCall 1 f_never_falls (gCons (gFld "Rig" "told" (gVar 0)) gNil)))
def f_Rig_is_forward : List D → Rs → Res D := pureF (runB 1 m_Rig_is_forward)

def m_Rig_eq : GS := (gRet (gAndV (gCB (dIsC "Rig") (gCons (gVar 1) (gCons (gC (.cls "Rig")) gNil))) (gOp (dEqD false) (gFld "Rig" "told" (gVar 0)) (gFld "Rig" "told" (gVar 1)))))
def f_Rig_eq : List D → Rs → Res D := pureF (runB 2 m_Rig_eq)

abbrev f_L_below := belowF
theorem upd_self (H : Hp) (d : Addr) {o : HO} (h : H d = some o := by assumption) : upd H d o = H := by
  funext b; unfold upd; split
  · rename_i e; rw [e, h]
  · rfl
def m_is_place : GS := (gRet (gCall 3 f_is_int_in (gCons (gVar 0) (gCons (gUn dNeg (gC (.int 1000000))) (gCons (gC (.int 1000000)) gNil)))))
def f_is_place : List D → Rs → Res D := pureF (runB 1 m_is_place)

def m_is_next : GS := (gSeq (gIfS .f [] (gB (gOp (dEqD false) (gVar 0) (gTup gNil))) (gRet (gOp dLe (gVar 1) (gC (.int 0)))) gNext)
  (gSeq (gIfS .f [] (gB (gOp (dEqS false) (gCB dLen (gCons (gVar 0) gNil)) (gC (.int 1)))) (gRet (gOp dGt (gVar 1) (gOp dIx (gVar 0) (gC (.int 0))))) gNext)
  (gRet (gCh dLt dLt (gCB dMinU (gCons (gSl (gVar 0) (gPart (gUn dNeg (gC (.int 2)))) gNoPart) gNil)) (gVar 1) (gCB dMaxU (gCons (gSl (gVar 0) (gPart (gUn dNeg (gC (.int 2)))) gNoPart) gNil))))))
def f_is_next : List D → Rs → Res D := pureF (runB 2 m_is_next)

def m_Memory_init : GS := (gSeq (gIfS .f [] (gOr (gNot (gB (gCB (dIsK .tup) (gCons (gVar 1) (gCons (gC (.ty "tuple")) gNil))))) (gB (gOp (dEqD false) (gVar 1) (gTup gNil)))) (gRaiseI "InvalidMemory" "index" (gC (.int 0))) gNext)
  (gSeq (gFor .f [] [2, 3] (gItA enumT (gCons (gVar 1) gNil)) (dGTup 2 (dGCons (dName 2) (dGCons (dName 3) dGNil))) (gIfS .f [] (gOr (gNot (gB (gCall 1 f_is_place (gCons (gVar 3) gNil)))) (gNot (gB (gCall 2 f_is_next (gCons (gSl (gVar 1) gNoPart (gPart (gVar 2))) (gCons (gVar 3) gNil)))))) (gRaiseI "InvalidMemory" "index" (gVar 2)) gNext))
  (gStF .f [] 0 "Memory" "told" (gVar 1))))
def f_Memory_init : Nat → List D → Rs → Res D := runL 4 m_Memory_init

def m_Memory_places : GS := (gRet (gFld "Memory" "told" (gVar 0)))
def f_Memory_places : List D → Rs → Res D := pureF (runB 1 m_Memory_places)

def m_Memory_place : GS := (gRet (gOp dIx (gFld "Memory" "told" (gVar 0)) (gUn dNeg (gC (.int 1)))))
def f_Memory_place : List D → Rs → Res D := pureF (runB 1 m_Memory_place)

def m_Memory_eq : GS := (gRet (gAndV (gCB (dIsC "Memory") (gCons (gVar 1) (gCons (gC (.cls "Memory")) gNil))) (gOp (dEqD false) (gFld "Memory" "told" (gVar 0)) (gFld "Memory" "told" (gVar 1)))))
def f_Memory_eq : List D → Rs → Res D := pureF (runB 2 m_Memory_eq)

def gh_L_error_of (c : Str) (a : Addr) (d : Option Addr) : GS := (gSeq (gSet .f [] 2 (gLst (gCons (gIsE 1 a d (decide (c = "InvalidSlack"))) (gCons (gIsE 1 a d (decide (c = "InvalidTimes"))) (gCons (gIsE 1 a d (decide (c = "NotForward"))) gNil)))))
  (gSeq (gSet .f [] 2 (gOp dCatL (gVar 2) (gLst (gCons (gIsE 1 a d (decide (c = "TooGreat"))) (gCons (gIsE 1 a d (decide (c = "InvalidPlace"))) (gCons (gIsE 1 a d (decide (c = "InvalidCount"))) gNil))))))
  (gSeq (gSet .f [] 2 (gOp dCatL (gVar 2) (gLst (gCons (gIsE 1 a d (decide (c = "InvalidRange"))) (gCons (gIsE 1 a d (decide (c = "OutOfBound"))) (gCons (gIsE 1 a d (decide (c = "Contradiction"))) gNil))))))
  (gSeq (gSet .f [] 2 (gOp dCatL (gVar 2) (gLst (gCons (gIsE 1 a d (decide (c = "InvalidName"))) (gCons (gIsE 1 a d (decide (c = "UnknownName"))) (gCons (gIsE 1 a d (decide (c = "InvalidPanel"))) gNil))))))
  (gSeq (gSet .f [] 2 (gOp dCatL (gVar 2) (gLst (gCons (gIsE 1 a d (decide (c = "UnlikeRigs"))) (gCons (gIsE 1 a d (decide (c = "InvalidRow"))) (gCons (gIsE 1 a d (decide (c = "InvalidEnds"))) gNil))))))
  (gSeq (gSet .f [] 2 (gOp dCatL (gVar 2) (gLst (gCons (gIsE 1 a d (decide (c = "InvalidMemory"))) (gCons (gIsE 1 a d (decide (c = "InvalidOperation"))) gNil)))))
  (gSeq (gSet .f [] 2 (gOp dCatL (gVar 2) (gLst (gCons (gIsE 1 a d (decide (c = "InvalidRecording"))) (gCons (gIsE 1 a d (decide (c = "NotationError"))) (gCons (gIsE 1 a d (decide (c = "DecodeError"))) gNil))))))
  (gSeq (gIfS .f [] (gOr (gB (gOp (dEqS true) (gBML dCountF (gVar 2) (gCons (gC (.bl true)) gNil)) (gC (.int 1)))) (gNot (gB (gIsE 1 a d true)))) (gRet (gTup (gCons (gC (.str "other")) (gCons (gC (.int 0)) gNil)))) gNext)
  (gSeq (gSet .f [] 3 (gC (.str "slack times forward great place count range bound contradiction name unknown panel unlike")))
  (gSeq (gSet .f [] 3 (gOp dCatS (gVar 3) (gC (.str " row ends memory operation recording notation decode"))))
  (gSeq (gSet .f [] 4 (gOp dIx (gSplit (gVar 3) (gC (.str " "))) (gBML dIndexF (gVar 2) (gCons (gC (.bl true)) gNil))))
  (gSeq (gIfS .f [] (gB (gOp (dInD false) (gVar 4) (gLst (gCons (gC (.str "row")) (gCons (gC (.str "ends")) (gCons (gC (.str "memory")) (gCons (gC (.str "operation")) (gCons (gC (.str "recording")) (gCons (gC (.str "notation")) gNil))))))))) (gRet (gTup (gCons (gVar 4) (gCons (gXf 1 a d "index") gNil)))) gNext)
  (gRet (gTup (gCons (gVar 4) (gCons (gIf (gB (gOp (dEqS false) (gVar 4) (gC (.str "decode")))) (gXf 1 a d "offset") (gC (.int 0))) gNil))))))))))))))))
noncomputable def m_L_error_of (tab : LamTab) : GS := (gSeq (gTryR errIn errRes (gDrop .f [] (gClo tab 0)))
  (gRet (gC .non)))
noncomputable def f_L_error_of (tab : LamTab) : List D → Rs → Res D := runB 5 (m_L_error_of tab)

def m_checksum : GS := (gSeq (gSet .f [] 1 (gC (.int 7)))
  (gSeq (gFor .f [] [2] (gIt lstOf (gVar 0)) (dName 2) (gSet .f [] 1 (gOp dMod (gCB dInt1 (gCons (gOp dAdd (gOp dMul (gC (.int 3)) (gVar 1)) (gVar 2)) gNil)) (gC (.int 253)))))
  (gRet (gVar 1))))
def f_checksum : List D → Rs → Res D := pureF (runB 3 m_checksum)

def m_Row_init : GS := (gSeq (gStF .f [] 0 "Row" "numbers" (gVar 1))
  (gStF .f [] 0 "Row" "spot" (gC (.int 0))))
def f_Row_init : Nat → List D → Rs → Res D := runL 2 m_Row_init

def m_Row_next_in : GS := (gSeq (gIfS .f [] (gOr (gB (gOp (dEqS false) (gFldL 0 "Row" "spot") (gCB dLen (gCons (gFldL 0 "Row" "numbers") gNil)))) (gNot (gB (gCall 3 f_is_int_in (gCons (gOp dIx (gFldL 0 "Row" "numbers") (gFldL 0 "Row" "spot")) (gCons (gVar 1) (gCons (gVar 2) gNil))))))) (gRaiseI "DecodeError" "offset" (gFldL 0 "Row" "spot")) gNext)
  (gSeq (gAugFL [] 0 "Row" "spot" (fun i j => i + j) (gC (.int 1)))
  (gRet (gOp dIx (gFldL 0 "Row" "numbers") (gOp dSub (gFldL 0 "Row" "spot") (gC (.int 1)))))))
def f_Row_next_in : Nat → List D → Rs → Res D := runL 3 m_Row_next_in

def m_Row_slack : GS := (gSeq (gSet .f [] 2 (gMethL 0 "Row" "next_in" 3 f_Row_next_in (gCons (gOp dFdiv (gVar 1) (gC (.int 256))) (gCons (gOp dFdiv (gC (.int 999)) (gC (.int 256))) gNil))))
  (gRet (gOp dAdd (gOp dMul (gC (.int 256)) (gVar 2)) (gMethL 0 "Row" "next_in" 3 f_Row_next_in (gCons (gCB dMax2 (gCons (gC (.int 0)) (gCons (gOp dSub (gVar 1) (gOp dMul (gC (.int 256)) (gVar 2))) gNil))) (gCons (gCB dMin2 (gCons (gC (.int 255)) (gCons (gOp dSub (gC (.int 999)) (gOp dMul (gC (.int 256)) (gVar 2))) gNil))) gNil))))))
def f_Row_slack : Nat → List D → Rs → Res D := runL 3 m_Row_slack

def m_Row_arm : GS := (gSeq (gSet .f [] 1 (gOp (dEqS false) (gMethL 0 "Row" "next_in" 3 f_Row_next_in (gCons (gC (.int 0)) (gCons (gC (.int 1)) gNil))) (gC (.int 1))))
  (gSeq (gPar [] [2, 3] [false, false] (gCons (gFldL 0 "Row" "spot") (gCons (gC (.int 0)) gNil)))
  (gSeq (gFor .f [] [4] (gItA rng1 (gCons (gC (.int 3)) gNil)) (dName 4) (gSet .f [] 3 (gOp dAdd (gOp dMul (gC (.int 256)) (gVar 3)) (gMethL 0 "Row" "next_in" 3 f_Row_next_in (gCons (gC (.int 0)) (gCons (gC (.int 255)) gNil))))))
  (gSeq (gIfS .f [] (gNot (gB (gCh dLe dLe (gC (.int 1)) (gVar 3) (gC (.int 1000000))))) (gRaiseI "DecodeError" "offset" (gVar 2)) gNext)
  (gRet (gIf (gB (gVar 1)) (gUn dNeg (gVar 3)) (gVar 3)))))))
def f_Row_arm : Nat → List D → Rs → Res D := runL 5 m_Row_arm

def m_decode : GS := (gSeq (gIfS .f [1, 2] (gNot (gB (gCB (dIsK .lst) (gCons (gVar 0) (gCons (gC (.ty "list")) gNil))))) (gRaiseI "DecodeError" "offset" (gC (.int 0))) gNext)
  (gSeq (gPar [1, 2] [1, 2] [true, true] (gCons (gMk "Row" 2 f_Row_init (gCons (gVar 0) gNil)) (gCons (gLst gNil) gNil)))
  (gLocal 1 (gSeq (gDrop .f [2] (gMethL 1 "Row" "next_in" 3 f_Row_next_in (gCons (gC (.int 82)) (gCons (gC (.int 82)) gNil))))
  (gSeq (gSet .f [2] 3 (gC (.int 0)))
  (gSeq (gFor .f [2] [4] (gItA rng1 (gCons (gMethL 1 "Row" "next_in" 3 f_Row_next_in (gCons (gC (.int 0)) (gCons (gC (.int 60)) gNil))) gNil)) (dName 4) (gSeq (gIfS .f [2] (gB (gOp dGt (gVar 3) (gC (.int 999)))) (gRaiseI "DecodeError" "offset" (gFldL 1 "Row" "spot")) gNext)
  (gSeq (gSet .f [2] 5 (gMethL 1 "Row" "slack" 2 f_Row_slack (gCons (gVar 3) gNil)))
  (gSeq (gApp .f [2] 2 (gTup (gCons (gVar 5) (gCons (gMethL 1 "Row" "arm" 1 f_Row_arm gNil) gNil))))
  (gSet .f [2] 3 (gOp dAdd (gVar 5) (gC (.int 1))))))))
  (gSeq (gSet .f [2] 6 (gCall 1 f_checksum (gCons (gSl (gVar 0) gNoPart (gPart (gFldL 1 "Row" "spot"))) gNil)))
  (gSeq (gDrop .f [2] (gMethL 1 "Row" "next_in" 3 f_Row_next_in (gCons (gVar 6) (gCons (gVar 6) gNil))))
  (gSeq (gIfS .f [2] (gB (gOp dLt (gFldL 1 "Row" "spot") (gCB dLen (gCons (gVar 0) gNil)))) (gRaiseI "DecodeError" "offset" (gFldL 1 "Row" "spot")) gNext)
  (gRet (gMk "Rig" 2 f_Rig_init (gCons (gCB dTupA (gCons (gVar 2) gNil)) gNil))))))))))))
def f_decode : List D → Rs → Res D := pureF (cutR (runB 7 m_decode))

def m_L_checksum : GS := (gSeq (gSet .f [] 1 (gC (.int 7)))
  (gSeq (gFor .f [] [2] (gIt lstOf (gVar 0)) (dName 2) (gSet .f [] 1 (gOp dMod (gCB dInt1 (gCons (gOp dAdd (gOp dMul (gC (.int 3)) (gVar 1)) (gVar 2)) gNil)) (gC (.int 253)))))
  (gRet (gVar 1))))
def f_L_checksum : List D → Rs → Res D := pureF (runB 3 m_L_checksum)

def m_L_numbers : GS := (gSeq (gSet .f [] 1 (gLst (gCons (gC (.int 82)) (gCons (gCB dLen (gCons (gVar 0) gNil)) gNil))))
  (gSeq (gFor .f [] [2, 3] (gIt tupOf (gVar 0)) (dGTup 2 (dGCons (dName 2) (dGCons (dName 3) dGNil))) (gSeq (gSet .f [] 4 (gCB dAbs (gCons (gVar 3) gNil)))
  (gSeq (gSet .f [] 1 (gOp dCatL (gVar 1) (gLst (gCons (gOp dFdiv (gVar 2) (gC (.int 256))) (gCons (gOp dMod (gCB dInt1 (gCons (gVar 2) gNil)) (gC (.int 256))) (gCons (gCB dInt1 (gCons (gOp dLt (gVar 3) (gC (.int 0))) gNil)) gNil))))))
  (gSet .f [] 1 (gOp dCatL (gVar 1) (gLst (gCons (gOp dFdiv (gVar 4) (gC (.int 65536))) (gCons (gOp dMod (gCB dInt1 (gCons (gOp dFdiv (gVar 4) (gC (.int 256))) gNil)) (gC (.int 256))) (gCons (gOp dMod (gCB dInt1 (gCons (gVar 4) gNil)) (gC (.int 256))) gNil)))))))))
  (gRet (gOp dCatL (gVar 1) (gLst (gCons (gCall 1 f_L_checksum (gCons (gVar 1) gNil)) gNil))))))
def f_L_numbers : List D → Rs → Res D := pureF (runB 5 m_L_numbers)


def RaW (H : Hp) (a : Addr) (n : Int) (_ : Nat) (σ' : L2.St) (H' : Hp) : Prop := ∃ (z : Int) (u : Option V), σ' = [some (.ref a), some (.int n), some (.int z), u] ∧ 0 ≤ z ∧ H' = H
def RaC (H1 : Hp) (D : Addr) (i : Nat) (H' : Hp) : Prop := Same H1 H' ∧ ∃ acc : List Int, H' D = some (.lst (List.map V.int acc)) ∧ acc.length ≤ i ∧ ∀ x ∈ acc, 0 ≤ x
def m_L_some_arms : GS := (gSeq (gSet .f [3] 2 (gCB dSortSet (gCons (gLc [6] (gItA rng1 (gCons (gCallL 0 2 f_L_below (gCons (gOp dAdd (gVar 1) (gC (.int 1))) gNil)) gNil)) (dName 6) gYes (gCallL 0 2 f_L_below (gCons (gOp dIx (gLst (gCons (gC (.int 20)) (gCons (gC (.int 1000)) gNil))) (gCallL 0 2 f_L_below (gCons (gC (.int 2)) gNil))) gNil))) gNil)))
  (gSeq (gSetO .f [3] 3 (gLst gNil))
  (gSeq (gFor .f [3] [4] (gIt lstOf (gVar 2)) (dName 4) (gSeq (gSet .f [3] 5 (gOp dAdd (gC (.int 1)) (gCallL 0 2 f_L_below (gCons (gOp dIx (gLst (gCons (gC (.int 9)) (gCons (gC (.int 999)) (gCons (gC (.int 1000000)) gNil)))) (gCallL 0 2 f_L_below (gCons (gC (.int 3)) gNil))) gNil))))
  (gApp .f [3] 3 (gTup (gCons (gVar 4) (gCons (gOp dIx (gLst (gCons (gVar 5) (gCons (gOp dSub (gC (.int 0)) (gVar 5)) gNil))) (gCallL 0 2 f_L_below (gCons (gC (.int 2)) gNil))) gNil))))))
  (gRet (gCB dTupl (gCons (gVar 3) gNil))))))
def f_L_some_arms : Nat → List D → Rs → Res D := runL 7 m_L_some_arms

def l_0 : LamT := lamAt 0 ["_law_script", "_law_d", "_law_step", "_law_arms", "_law_numbers_here", "_law_kind", "_law_at", "_law_given", "_law_offset", "_law_slack", "_law_head", "_law_less", "_law_ends"] [7] [] (kE 1 (kE 0 (kS 0 (sS 13 ((defBody s_law).getD 1 noStmt)))))
theorem lc_0 : l_0.cs = [7] := rfl
def g_0 : G := (gCall 1 f_decode (gCons (gVar 7) gNil))
def l_1 : LamT := lamAt 1 ["_law_script", "_law_d", "_law_step", "_law_arms", "_law_numbers_here", "_law_kind", "_law_at", "_law_given", "_law_offset", "_law_slack", "_law_head", "_law_less", "_law_ends"] [] [] (kE 1 (kE 0 (kS 0 ((defBody s_law).getD 2 noStmt))))
theorem lc_1 : l_1.cs = [] := rfl
def g_1 : G := (gCall 1 f_decode (gCons (gLst (gCons (gC (.int 82)) (gCons (gC (.int 2)) (gCons (gC (.int 3)) (gCons (gC (.int 231)) (gCons (gC (.int 0)) (gCons (gC (.int 0)) (gCons (gC (.int 0)) (gCons (gC (.int 1)) (gCons (gC (.int 3)) (gCons (gC (.int 231)) (gCons (gC (.int 0)) (gCons (gC (.int 0)) (gCons (gC (.int 0)) (gCons (gC (.int 1)) gNil))))))))))))))) gNil))
def lamTab : LamTab := [(l_0, g_0), (l_1, g_1)]
theorem lt_0 : Pv.lamG lamTab l_0 = some g_0 := lamG_at rfl
theorem lt_1 : Pv.lamG lamTab l_1 = some g_1 := lamG_at rfl
noncomputable section
def ml339 (cl : List (Str × Addr)) : GS := (gSeq (gAsg .f [] [7, 8] (dGTup 2 (dGCons (dName 7) (dGCons (dName 8) dGNil))) (gTup (gCons (gOp dCatL (gOp dIx (gLst (gCons (gLst (gCons (gC (.int 81)) gNil)) (gCons (gLst (gCons (gC (.int 82)) (gCons (gC (.int 61)) gNil))) gNil))) (gCallL 1 2 f_L_below (gCons (gC (.int 2)) gNil))) (gSl (gVar 4) (gPart (gC (.int 2))) gNoPart)) (gCons (gC (.int 0)) gNil))))
  (gSet .f [] 8 (gCB dInt1 (gCons (gOp (dEqS false) (gOp dIx (gVar 7) (gC (.int 0))) (gC (.int 82))) gNil))))
def ml345 (cl : List (Str × Addr)) : GS := (gSeq (gAsg .f [] [7, 8] (dGTup 2 (dGCons (dName 7) (dGCons (dName 8) dGNil))) (gTup (gCons (gOp dCatL (gVar 10) (gLst (gCons (gOp dFdiv (gVar 11) (gC (.int 256))) (gCons (gOp dMod (gCB dInt1 (gCons (gVar 11) gNil)) (gC (.int 256))) (gCons (gC (.int 0)) (gCons (gC (.int 0)) (gCons (gC (.int 0)) (gCons (gC (.int 1)) gNil)))))))) (gCons (gC (.int 8)) gNil))))
  (gSet .f [] 8 (gIf (gB (gOp dGt (gOp dFdiv (gOp dAdd (gVar 9) (gC (.int 1))) (gC (.int 256))) (gOp dFdiv (gVar 11) (gC (.int 256))))) (gC (.int 8)) (gC (.int 9)))))
def ml344 (cl : List (Str × Addr)) : GS := (gSeq (gSet .f [] 11 (gCallL 1 2 f_L_below (gCons (gOp dAdd (gVar 9) (gC (.int 1))) gNil)))
  (ml345 cl))
def ml349 (cl : List (Str × Addr)) : GS := (gSeq (gAsg .f [] [7, 8] (dGTup 2 (dGCons (dName 7) (dGCons (dName 8) dGNil))) (gTup (gCons (gOp dCatL (gOp dCatL (gLst (gCons (gC (.int 82)) (gCons (gC (.int 1)) gNil))) (gOp dIx (gVar 12) (gCallL 1 2 f_L_below (gCons (gC (.int 6)) gNil)))) (gLst (gCons (gC (.int 9)) gNil))) (gCons (gC (.int 2)) gNil))))
  (gSet .f [] 8 (gIf (gB (gOp (dEqS false) (gOp dIx (gVar 7) (gC (.int 2))) (gC (.int 4)))) (gC (.int 2)) (gIf (gB (gOp (dEqS false) (gOp dIx (gVar 7) (gC (.int 2))) (gC (.int 3)))) (gC (.int 3)) (gIf (gB (gOp (dEqS false) (gOp dIx (gVar 7) (gC (.int 4))) (gC (.int 2)))) (gC (.int 4)) (gC (.int 5)))))))
def ml348 (cl : List (Str × Addr)) : GS := (gSeq (gSet .f [] 12 (gLst (gCons (gLst (gCons (gC (.int 4)) gNil)) (gCons (gLst (gCons (gC (.int 3)) (gCons (gC (.int 232)) gNil))) (gCons (gLst (gCons (gC (.int 0)) (gCons (gC (.int 5)) (gCons (gC (.int 2)) gNil)))) (gCons (gLst (gCons (gC (.int 0)) (gCons (gC (.int 5)) (gCons (gC (.int 0)) (gCons (gC (.int 0)) (gCons (gC (.int 0)) (gCons (gC (.int 0)) gNil))))))) (gCons (gLst (gCons (gC (.int 0)) (gCons (gC (.int 5)) (gCons (gC (.int 1)) (gCons (gC (.int 15)) (gCons (gC (.int 66)) (gCons (gC (.int 65)) gNil))))))) (gCons (gLst (gCons (gC (.int 0)) (gCons (gC (.int 5)) (gCons (gC (.int 0)) (gCons (gC (.int 255)) (gCons (gC (.int 0)) (gCons (gC (.int 0)) gNil))))))) gNil))))))))
  (ml349 cl))
def ml351 (cl : List (Str × Addr)) : GS := (gSeq (gIfS .f [] (gB (gOp (dEqS false) (gVar 5) (gC (.int 7)))) (gAsg .f [] [7, 8] (dGTup 2 (dGCons (dName 7) (dGCons (dName 8) dGNil))) (gTup (gCons (gOp dIx (gLst (gCons (gC .non) (gCons (gCB dTupl (gCons (gVar 4) gNil)) (gCons (gC (.int 5)) (gCons (gC (.str "R")) gNil))))) (gCallL 1 2 f_L_below (gCons (gC (.int 4)) gNil))) (gCons (gC (.int 0)) gNil)))) gNext)
  (gIfS .f [] (gB (gOp (dEqD true) (gCallC lamTab 1 (f_L_error_of lamTab) cl (gCons (gLam l_0 cl) gNil)) (gTup (gCons (gC (.str "decode")) (gCons (gVar 8) gNil))))) (gRet (gC (.bl false))) gNext))
def ml347 (cl : List (Str × Addr)) : GS := (gSeq (gIfS .f [] (gB (gOp (dEqS false) (gVar 5) (gC (.int 6)))) (ml348 cl) gNext)
  (ml351 cl))
def ml343 (cl : List (Str × Addr)) : GS := (gSeq (gIfS .f [] (gB (gOp (dEqS false) (gVar 5) (gC (.int 5)))) (ml344 cl) gNext)
  (ml347 cl))
def ml342 (cl : List (Str × Addr)) : GS := (gSeq (gSet .f [] 10 (gLst (gCons (gC (.int 82)) (gCons (gC (.int 2)) (gCons (gOp dFdiv (gVar 9) (gC (.int 256))) (gCons (gOp dMod (gCB dInt1 (gCons (gVar 9) gNil)) (gC (.int 256))) (gCons (gC (.int 0)) (gCons (gC (.int 0)) (gCons (gC (.int 0)) (gCons (gC (.int 1)) gNil))))))))))
  (ml343 cl))
def ml341 (cl : List (Str × Addr)) : GS := (gSeq (gSet .f [] 9 (gCallL 1 2 f_L_below (gCons (gC (.int 999)) gNil)))
  (ml342 cl))
def ml338 (cl : List (Str × Addr)) : GS := (gSeq (gIfS .f [] (gB (gOp (dEqS false) (gVar 5) (gC (.int 4)))) (ml339 cl) gNext)
  (ml341 cl))
def ml336 (cl : List (Str × Addr)) : GS := (gSeq (gIfS .f [] (gB (gOp (dEqS false) (gVar 5) (gC (.int 3)))) (gAsg .f [] [7, 8] (dGTup 2 (dGCons (dName 7) (dGCons (dName 8) dGNil))) (gTup (gCons (gOp dCatL (gSl (gVar 4) gNoPart (gPart (gUn dNeg (gC (.int 1))))) (gLst (gCons (gOp dMod (gCB dInt1 (gCons (gOp dAdd (gOp dAdd (gOp dIx (gVar 4) (gUn dNeg (gC (.int 1)))) (gC (.int 1))) (gCallL 1 2 f_L_below (gCons (gC (.int 250)) gNil))) gNil)) (gC (.int 256))) gNil))) (gCons (gOp dSub (gCB dLen (gCons (gVar 4) gNil)) (gC (.int 1))) gNil)))) gNext)
  (ml338 cl))
def ml334 (cl : List (Str × Addr)) : GS := (gSeq (gIfS .f [] (gB (gOp (dEqS false) (gVar 5) (gC (.int 2)))) (gAsg .f [] [7, 8] (dGTup 2 (dGCons (dName 7) (dGCons (dName 8) dGNil))) (gTup (gCons (gOp dCatL (gOp dCatL (gSl (gVar 4) gNoPart (gPart (gVar 6))) (gLst (gCons (gOp dIx (gLst (gCons (gC (.int 256)) (gCons (gOp dSub (gC (.int 0)) (gC (.int 1))) (gCons (gC .non) (gCons (gC (.bl true)) (gCons (gC (.str "1")) gNil)))))) (gCallL 1 2 f_L_below (gCons (gC (.int 5)) gNil))) gNil))) (gSl (gVar 4) (gPart (gOp dAdd (gVar 6) (gC (.int 1)))) gNoPart)) (gCons (gVar 6) gNil)))) gNext)
  (ml336 cl))
def ml332 (cl : List (Str × Addr)) : GS := (gSeq (gIfS .f [] (gB (gOp (dEqS false) (gVar 5) (gC (.int 1)))) (gAsg .f [] [7, 8] (dGTup 2 (dGCons (dName 7) (dGCons (dName 8) dGNil))) (gTup (gCons (gOp dCatL (gVar 4) (gLst (gCons (gCallL 1 2 f_L_below (gCons (gC (.int 256)) gNil)) gNil))) (gCons (gCB dLen (gCons (gVar 4) gNil)) gNil)))) gNext)
  (ml334 cl))
def ml331 (cl : List (Str × Addr)) : GS := (gSeq (gAsg .f [] [7, 8] (dGTup 2 (dGCons (dName 7) (dGCons (dName 8) dGNil))) (gTup (gCons (gSl (gVar 4) gNoPart (gPart (gVar 6))) (gCons (gVar 6) gNil))))
  (ml332 cl))
def ml330 (cl : List (Str × Addr)) : GS := (gSeq (gSet .f [] 6 (gCallL 1 2 f_L_below (gCons (gCB dLen (gCons (gVar 4) gNil)) gNil)))
  (ml331 cl))
def ml329 (cl : List (Str × Addr)) : GS := (gSeq (gPar [] [4, 5] [false, false] (gCons (gCall 1 f_L_numbers (gCons (gVar 3) gNil)) (gCons (gCallL 1 2 f_L_below (gCons (gC (.int 8)) gNil)) gNil)))
  (ml330 cl))
def ml328 (cl : List (Str × Addr)) : GS := (gSeq (gSet .f [] 3 (gCallL 1 2 f_L_some_arms (gCons (gC (.int 5)) gNil)))
  (ml329 cl))
def ml327 (cl : List (Str × Addr)) : GS := (gSeq (gFor .f [] [2] (gItA rng1 (gCons (gC (.int 3)) gNil)) (dName 2) (ml328 cl))
  (gRet (gOp (dEqD false) (gCallC lamTab 1 (f_L_error_of lamTab) cl (gCons (gLam l_1 cl) gNil)) (gTup (gCons (gC (.str "decode")) (gCons (gC (.int 8)) gNil))))))
def m_law (cl : List (Str × Addr)) : GS := (ml327 cl)
end
end Lw
namespace Lw
open PySem PySem.Spec PyProof.Rows L2 Sr Pv Rg
variable {A0 : Addr}
theorem cmul_l {i j : Int} (h : small i) : CMul i j := .inl h
/-- arms as they stand in a rig -/
structure Fit (a : Arms) : Prop where
  c : Canon a
  len : a.length ≤ 60
  arm : ∀ p ∈ a, -1000000 ≤ p.2 ∧ p.2 ≤ 1000000
  deep : ∀ p ∈ a, p.1 ≤ 999
theorem line60 {n : Nat} (h : n ≤ 100000) : n ≤ sizeLine := Nat.le_trans h (by decide)
theorem Fit.small {a : Arms} (h : Fit a) : ∀ p ∈ a, Pv.small p.2 := fun p hp => by have := h.arm p hp; unfold Pv.small; omega
theorem Fit.line {a : Arms} (h : Fit a) : a.length ≤ sizeLine := line60 (Nat.le_trans h.len (by decide))
theorem nf_loop {x : Option D} {R : Rs} : ∀ (a : Arms) (t : Int) (b : Bool) (u v : Option D), ∃ t' u' v', loopG (dGTup 2 (dGCons (dName 3) (dGCons (dName 4) dGNil))) (gSeq (gAug .f [] 2 dAdd (gCB dInt1 (Pv.gCons (gVar 4) Pv.gNil))) (gSet .f [] 1 (gAndV (gVar 1) (gOp dGe (gVar 2) (gC (.int 0)))))) (a.map prD) [x, some (.bl b), some (.int t), u, v] R = .nx [x, some (.bl (b && nf a t)), some (.int t'), u', v'] R
  | [], t, b, u, v => ⟨t, u, v, by simp [loopG, nf]⟩
  | p :: a, t, b, u, v => by
    obtain ⟨t', u', v', h⟩ := nf_loop (x := x) (R := R) a (t + p.2) (b && decide (0 ≤ t + p.2)) (some (.int p.1)) (some (.int p.2))
    refine ⟨t', u', v', ?_⟩
    rw [List.map_cons, loopG]
    cases b <;> simp only [prD, raise_ap, raiseI_ap, calmF_ap, le_line, lt_line, var_ap, c_ap, op_ap, un_ap, b_ap, and_ap, or_ap, not_ap, if_ap, andV_ap, orV_ap, ch_ap, nil_ap, cons_ap, star_ap, tup_ap, lst_ap, arm_ap, cb_ap, noPart_ap, part_ap, sl_ap, slL_ap, call_ap, callL_ap, mk_ap, fld_ap, prop_ap, meth_ap, callI_ap, get2_ap, dnew_ap, it_ap, itA_ap, yes_ap, next_ap, seq_ap, set_ap, setO_ap, drop_ap, ret_ap, retN_ap, brk_ap, cnt_ap, never_ap, ifS_ap, aug_ap, app_ap, ext_ap, pop_ap, par_ap, asg_ap, dset_ap, stF_ap, stF2_ap, fldL_ap, see_f, see_g, okM_f, okM_g, okR_f, okR_g, okO_f, okO_g, hide_nil, hide_cons, setAll_cons, setAll_nil, wipe_nil, wipe_cons, runB_ap, runL_ap, startL_ap, startD_ap, out1_nx, out1_rt, dName_ap, dGTup_ap, dGLst_ap, dGCons_ap, dGNil_ap, dAdd_ap, dSub_ap, dMul_ap, dFdiv_ap, dMod_ap, dLt_ap, dLe_ap, dGt_ap, dGe_ap, bOf_ap, dNeg_ap, dNot_ap, eqS_int, eqS_bl, eqS_str, dInt1_ap, dInt1_bl, dMax2_ap, dMin2_ap, dAbs_ap, dSum_ap, dAny_ap, dAll_ap, dLen_l, dLen_t, dLen_a, dIx_l, dIx_t, dIx_a, dTup_ap, dLst_ap, dArm_ap, dList_l, dList_t, dTupl_ap, dTupA_ap, lstOf_ap, tupOf_t, tupOf_a, itemsOf_t, itemsOf_l, dSl_l, dSl_t, dSlL_ap, dCatL_ap, dIsN_ap, rng1_ap, rng2_ap, dRange_1, dRange_2, dRange3_ap, ownB_ap, ownT_ap, ownN_ap, eqI_ap, isC_y, il_int, il_bl, il_str, il_non, il_tup, il_lst, il_armD, il_ins, il_dic, il_ar, il_rig, Bool.false_eq_true, if_false, if_true, Res.bind_ok, Res.bind_bad, Res.out_ok, Res.out_bad, Res.calm_ok, List.map_cons, List.map_nil, List.length_cons, List.length_nil, Nat.reduceAdd, Nat.reduceSub, List.replicate, List.cons_append, List.nil_append, List.getElem?_cons_zero, List.getElem?_cons_succ, List.set_cons_succ, List.set_cons_zero, Bool.true_and, Bool.and_true, Bool.not_false, Bool.not_true, List.contains_nil, Option.bind_some, for_ap, lc_ap, Nat.reduceEqDiff, Nat.reduceLeDiff, Bool.false_xor, Bool.true_xor, and_self, decide_true, decide_false, List.lookup, List.all_cons, List.all_nil, List.contains_cons, Nat.reduceBEq, Bool.or_false, Bool.false_or, Bool.or_true, Bool.true_or, beq_self_eq_true, List.contains_nil, nf, Bool.and_assoc, Bool.false_and] at h ⊢ <;> exact h
theorem e_never_falls {a : Arms} {R : Rs} : f_never_falls [arD a] R = .ok (.bl (nf a 0)) R := by
  unfold f_never_falls
  refine pureF_ok ?_
  unfold m_never_falls
  simp only [raise_ap, raiseI_ap, calmF_ap, le_line, lt_line, var_ap, c_ap, op_ap, un_ap, b_ap, and_ap, or_ap, not_ap, if_ap, andV_ap, orV_ap, ch_ap, nil_ap, cons_ap, star_ap, tup_ap, lst_ap, arm_ap, cb_ap, noPart_ap, part_ap, sl_ap, slL_ap, call_ap, callL_ap, mk_ap, fld_ap, prop_ap, meth_ap, callI_ap, get2_ap, dnew_ap, it_ap, itA_ap, yes_ap, next_ap, seq_ap, set_ap, setO_ap, drop_ap, ret_ap, retN_ap, brk_ap, cnt_ap, never_ap, ifS_ap, aug_ap, app_ap, ext_ap, pop_ap, par_ap, asg_ap, dset_ap, stF_ap, stF2_ap, fldL_ap, see_f, see_g, okM_f, okM_g, okR_f, okR_g, okO_f, okO_g, hide_nil, hide_cons, setAll_cons, setAll_nil, wipe_nil, wipe_cons, runB_ap, runL_ap, startL_ap, startD_ap, out1_nx, out1_rt, dName_ap, dGTup_ap, dGLst_ap, dGCons_ap, dGNil_ap, dAdd_ap, dSub_ap, dMul_ap, dFdiv_ap, dMod_ap, dLt_ap, dLe_ap, dGt_ap, dGe_ap, bOf_ap, dNeg_ap, dNot_ap, eqS_int, eqS_bl, eqS_str, dInt1_ap, dInt1_bl, dMax2_ap, dMin2_ap, dAbs_ap, dSum_ap, dAny_ap, dAll_ap, dLen_l, dLen_t, dLen_a, dIx_l, dIx_t, dIx_a, dTup_ap, dLst_ap, dArm_ap, dList_l, dList_t, dTupl_ap, dTupA_ap, lstOf_ap, tupOf_t, tupOf_a, itemsOf_t, itemsOf_l, dSl_l, dSl_t, dSlL_ap, dCatL_ap, dIsN_ap, rng1_ap, rng2_ap, dRange_1, dRange_2, dRange3_ap, ownB_ap, ownT_ap, ownN_ap, eqI_ap, isC_y, il_int, il_bl, il_str, il_non, il_tup, il_lst, il_armD, il_ins, il_dic, il_ar, il_rig, Bool.false_eq_true, if_false, if_true, Res.bind_ok, Res.bind_bad, Res.out_ok, Res.out_bad, Res.calm_ok, List.map_cons, List.map_nil, List.length_cons, List.length_nil, Nat.reduceAdd, Nat.reduceSub, List.replicate, List.cons_append, List.nil_append, List.getElem?_cons_zero, List.getElem?_cons_succ, List.set_cons_succ, List.set_cons_zero, Bool.true_and, Bool.and_true, Bool.not_false, Bool.not_true, List.contains_nil, Option.bind_some, for_ap, lc_ap, Nat.reduceEqDiff, Nat.reduceLeDiff, Bool.false_xor, Bool.true_xor, and_self, decide_true, decide_false, List.lookup, List.all_cons, List.all_nil, List.contains_cons, Nat.reduceBEq, Bool.or_false, Bool.false_or, Bool.or_true, Bool.true_or, beq_self_eq_true, List.contains_nil, arD]
  obtain ⟨t', u', v', h⟩ := nf_loop (x := some (.arm (a.map prD))) (R := []) a 0 true none none
  rw [h]
  simp only [raise_ap, raiseI_ap, calmF_ap, le_line, lt_line, var_ap, c_ap, op_ap, un_ap, b_ap, and_ap, or_ap, not_ap, if_ap, andV_ap, orV_ap, ch_ap, nil_ap, cons_ap, star_ap, tup_ap, lst_ap, arm_ap, cb_ap, noPart_ap, part_ap, sl_ap, slL_ap, call_ap, callL_ap, mk_ap, fld_ap, prop_ap, meth_ap, callI_ap, get2_ap, dnew_ap, it_ap, itA_ap, yes_ap, next_ap, seq_ap, set_ap, setO_ap, drop_ap, ret_ap, retN_ap, brk_ap, cnt_ap, never_ap, ifS_ap, aug_ap, app_ap, ext_ap, pop_ap, par_ap, asg_ap, dset_ap, stF_ap, stF2_ap, fldL_ap, see_f, see_g, okM_f, okM_g, okR_f, okR_g, okO_f, okO_g, hide_nil, hide_cons, setAll_cons, setAll_nil, wipe_nil, wipe_cons, runB_ap, runL_ap, startL_ap, startD_ap, out1_nx, out1_rt, dName_ap, dGTup_ap, dGLst_ap, dGCons_ap, dGNil_ap, dAdd_ap, dSub_ap, dMul_ap, dFdiv_ap, dMod_ap, dLt_ap, dLe_ap, dGt_ap, dGe_ap, bOf_ap, dNeg_ap, dNot_ap, eqS_int, eqS_bl, eqS_str, dInt1_ap, dInt1_bl, dMax2_ap, dMin2_ap, dAbs_ap, dSum_ap, dAny_ap, dAll_ap, dLen_l, dLen_t, dLen_a, dIx_l, dIx_t, dIx_a, dTup_ap, dLst_ap, dArm_ap, dList_l, dList_t, dTupl_ap, dTupA_ap, lstOf_ap, tupOf_t, tupOf_a, itemsOf_t, itemsOf_l, dSl_l, dSl_t, dSlL_ap, dCatL_ap, dIsN_ap, rng1_ap, rng2_ap, dRange_1, dRange_2, dRange3_ap, ownB_ap, ownT_ap, ownN_ap, eqI_ap, isC_y, il_int, il_bl, il_str, il_non, il_tup, il_lst, il_armD, il_ins, il_dic, il_ar, il_rig, Bool.false_eq_true, if_false, if_true, Res.bind_ok, Res.bind_bad, Res.out_ok, Res.out_bad, Res.calm_ok, List.map_cons, List.map_nil, List.length_cons, List.length_nil, Nat.reduceAdd, Nat.reduceSub, List.replicate, List.cons_append, List.nil_append, List.getElem?_cons_zero, List.getElem?_cons_succ, List.set_cons_succ, List.set_cons_zero, Bool.true_and, Bool.and_true, Bool.not_false, Bool.not_true, List.contains_nil, Option.bind_some, for_ap, lc_ap, Nat.reduceEqDiff, Nat.reduceLeDiff, Bool.false_xor, Bool.true_xor, and_self, decide_true, decide_false, List.lookup, List.all_cons, List.all_nil, List.contains_cons, Nat.reduceBEq, Bool.or_false, Bool.false_or, Bool.or_true, Bool.true_or, beq_self_eq_true, List.contains_nil]
/-! ### tables of weights -/
theorem srt_eq (ws : Arms) : srt ws = ((isort (ws.map (·.1))).filter fun s => decide (look ws s ≠ 0)).map fun s => (s, look ws s) := by
  unfold srt
  rw [List.filter_map]
  rfl
theorem atI_nat {α : Type} (xs : List α) (k : Nat) : atI xs (k : Int) = xs[k]? := by
  unfold atI ixN
  rw [if_pos (Int.natCast_nonneg k)]
  by_cases h : k < xs.length
  · rw [if_pos (by omega)]; simp
  · rw [if_neg (by omega), List.getElem?_eq_none (by omega)]; rfl
theorem loopG_range {T : TD} {b : GS} {enc : Nat → D} {n : Nat} (I : Nat → PEnv → Rs → Prop) {ρ : PEnv} {R : Rs} (h0 : I 0 ρ R) (hs : ∀ i ρ R, i < n → I i ρ R → ∃ ρ1, T (enc i) ρ = some ρ1 ∧ ∃ ρ2 R2, (b ρ1 R = .nx ρ2 R2 ∨ b ρ1 R = .ct ρ2 R2) ∧ I (i + 1) ρ2 R2) : ∃ ρ2 R2, loopG T b ((List.range n).map enc) ρ R = .nx ρ2 R2 ∧ I n ρ2 R2 := by
  have : ∀ (m i : Nat) (ρ : PEnv) (R : Rs), i + m = n → I i ρ R → ∃ ρ2 R2, loopG T b ((List.range' i m).map enc) ρ R = .nx ρ2 R2 ∧ I n ρ2 R2 := by
    intro m
    induction m with
    | zero => intro i ρ R e h; simp at e; subst e; exact ⟨ρ, R, rfl, h⟩
    | succ m ih =>
      intro i ρ R e h
      obtain ⟨ρ1, h1, ρ2, R2, h2, h3⟩ := hs i ρ R (by omega) h
      obtain ⟨ρ3, R3, h4, h5⟩ := ih (i + 1) ρ2 R2 (by omega) h3
      refine ⟨ρ3, R3, ?_, h5⟩
      rw [List.range'_succ, List.map_cons]
      rcases h2 with h2 | h2 <;> simp only [loopG, h1, h2, h4]
  have := this n 0 ρ R (by omega) h0
  rwa [← List.range_eq_range'] at this
/-! ### == of arms -/
def arP (a : Arms) : PyData := .tuple (a.map fun p => .tuple [.int p.1, .int p.2])
theorem pdL_pr : ∀ a : Arms, pdL (a.map prD) = some (a.map fun p => .tuple [.int p.1, .int p.2])
  | [] => by simp [pdL]
  | p :: a => by simp [pdL, prD, D.pd, pdL_pr a]
theorem pd_ar (a : Arms) : (arD a).pd = some (arP a) := by simp [arD, D.pd, pdL_pr, arP]
theorem lay_pr : ∀ a : Arms, PyData.canLayAll0 (a.map fun p => .tuple [.int p.1, .int p.2]) = true
  | [] => rfl
  | p :: a => by
    rw [List.map_cons]
    show (PyData.canLay0 (.tuple [.int p.1, .int p.2]) && PyData.canLayAll0 _) = true
    rw [lay_pr a]; rfl
theorem depth_pr : ∀ a : Arms, PyData.depthAll (a.map fun p => .tuple [.int p.1, .int p.2]) ≤ 4
  | [] => by decide
  | p :: a => by
    have := depth_pr a
    simp only [List.map_cons, PyData.depthAll, PyData.depth]
    omega
theorem shaped_ar (a : Arms) : SeqAt.shaped (arP a) = true := by
  have h := depth_pr a
  have h2 := lay_pr a
  unfold SeqAt.shaped arP
  simp only [PyData.canLay0, h2, PyData.depth, Bool.true_and]
  exact decide_eq_true (by omega)
theorem eqv_pr : ∀ a b : Arms, PyData.eqvAll (a.map fun p => .tuple [.int p.1, .int p.2]) (b.map fun p => .tuple [.int p.1, .int p.2]) = decide (a = b)
  | [], [] => rfl
  | [], _ :: _ => rfl
  | _ :: _, [] => rfl
  | p :: a, q :: b => by
    rw [List.map_cons, List.map_cons]
    show (PyData.eqv (.tuple [.int p.1, .int p.2]) (.tuple [.int q.1, .int q.2]) && PyData.eqvAll _ _) = _
    rw [eqv_pr a b]
    have : PyData.eqv (.tuple [.int p.1, .int p.2]) (.tuple [.int q.1, .int q.2]) = (p.1 == q.1 && (p.2 == q.2 && true)) := rfl
    rw [this]
    by_cases h1 : p.1 = q.1 <;> by_cases h2 : p.2 = q.2 <;> simp [h1, h2, Prod.ext_iff]
theorem eqv_ar (a b : Arms) : PyData.eqv (arP a) (arP b) = decide (a = b) := by
  show PyData.eqvAll _ _ = _
  exact eqv_pr a b
theorem eqD_ar {n : Bool} {a b : Arms} {R : Rs} : dEqD n (arD a) (arD b) R = .ok (.bl (n ^^ decide (a = b))) R := by
  simp only [dEqD, pd_ar, shaped_ar, eqv_ar, Bool.and_self, if_true]
/-! ### rigs -/
theorem e_rig_init {a : Arms} {R : Rs} : f_Rig_init R.length [arD a] (R ++ [.ins "Rig" []]) = .ok .non (R ++ [rigD a]) := by
  unfold f_Rig_init m_Rig_init
  simp only [raise_ap, raiseI_ap, calmF_ap, le_line, lt_line, var_ap, c_ap, op_ap, un_ap, b_ap, and_ap, or_ap, not_ap, if_ap, andV_ap, orV_ap, ch_ap, nil_ap, cons_ap, star_ap, tup_ap, lst_ap, arm_ap, cb_ap, noPart_ap, part_ap, sl_ap, slL_ap, call_ap, callL_ap, mk_ap, fld_ap, prop_ap, meth_ap, callI_ap, get2_ap, dnew_ap, it_ap, itA_ap, yes_ap, next_ap, seq_ap, set_ap, setO_ap, drop_ap, ret_ap, retN_ap, brk_ap, cnt_ap, never_ap, ifS_ap, aug_ap, app_ap, ext_ap, pop_ap, par_ap, asg_ap, dset_ap, stF_ap, stF2_ap, fldL_ap, see_f, see_g, okM_f, okM_g, okR_f, okR_g, okO_f, okO_g, hide_nil, hide_cons, setAll_cons, setAll_nil, wipe_nil, wipe_cons, runB_ap, runL_ap, startL_ap, startD_ap, out1_nx, out1_rt, dName_ap, dGTup_ap, dGLst_ap, dGCons_ap, dGNil_ap, dAdd_ap, dSub_ap, dMul_ap, dFdiv_ap, dMod_ap, dLt_ap, dLe_ap, dGt_ap, dGe_ap, bOf_ap, dNeg_ap, dNot_ap, eqS_int, eqS_bl, eqS_str, dInt1_ap, dInt1_bl, dMax2_ap, dMin2_ap, dAbs_ap, dSum_ap, dAny_ap, dAll_ap, dLen_l, dLen_t, dLen_a, dIx_l, dIx_t, dIx_a, dTup_ap, dLst_ap, dArm_ap, dList_l, dList_t, dTupl_ap, dTupA_ap, lstOf_ap, tupOf_t, tupOf_a, itemsOf_t, itemsOf_l, dSl_l, dSl_t, dSlL_ap, dCatL_ap, dIsN_ap, rng1_ap, rng2_ap, dRange_1, dRange_2, dRange3_ap, ownB_ap, ownT_ap, ownN_ap, eqI_ap, isC_y, il_int, il_bl, il_str, il_non, il_tup, il_lst, il_armD, il_ins, il_dic, il_ar, il_rig, Bool.false_eq_true, if_false, if_true, Res.bind_ok, Res.bind_bad, Res.out_ok, Res.out_bad, Res.calm_ok, List.map_cons, List.map_nil, List.length_cons, List.length_nil, Nat.reduceAdd, Nat.reduceSub, List.replicate, List.cons_append, List.nil_append, List.getElem?_cons_zero, List.getElem?_cons_succ, List.set_cons_succ, List.set_cons_zero, Bool.true_and, Bool.and_true, Bool.not_false, Bool.not_true, List.contains_nil, Option.bind_some, for_ap, lc_ap, Nat.reduceEqDiff, Nat.reduceLeDiff, Bool.false_xor, Bool.true_xor, and_self, decide_true, decide_false, List.lookup, List.all_cons, List.all_nil, List.contains_cons, Nat.reduceBEq, Bool.or_false, Bool.false_or, Bool.or_true, Bool.true_or, beq_self_eq_true, List.contains_nil]
  have h1 : (R ++ [D.ins "Rig" []])[R.length]? = some (D.ins "Rig" []) := by simp
  simp only [h1, raise_ap, raiseI_ap, calmF_ap, le_line, lt_line, var_ap, c_ap, op_ap, un_ap, b_ap, and_ap, or_ap, not_ap, if_ap, andV_ap, orV_ap, ch_ap, nil_ap, cons_ap, star_ap, tup_ap, lst_ap, arm_ap, cb_ap, noPart_ap, part_ap, sl_ap, slL_ap, call_ap, callL_ap, mk_ap, fld_ap, prop_ap, meth_ap, callI_ap, get2_ap, dnew_ap, it_ap, itA_ap, yes_ap, next_ap, seq_ap, set_ap, setO_ap, drop_ap, ret_ap, retN_ap, brk_ap, cnt_ap, never_ap, ifS_ap, aug_ap, app_ap, ext_ap, pop_ap, par_ap, asg_ap, dset_ap, stF_ap, stF2_ap, fldL_ap, see_f, see_g, okM_f, okM_g, okR_f, okR_g, okO_f, okO_g, hide_nil, hide_cons, setAll_cons, setAll_nil, wipe_nil, wipe_cons, runB_ap, runL_ap, startL_ap, startD_ap, out1_nx, out1_rt, dName_ap, dGTup_ap, dGLst_ap, dGCons_ap, dGNil_ap, dAdd_ap, dSub_ap, dMul_ap, dFdiv_ap, dMod_ap, dLt_ap, dLe_ap, dGt_ap, dGe_ap, bOf_ap, dNeg_ap, dNot_ap, eqS_int, eqS_bl, eqS_str, dInt1_ap, dInt1_bl, dMax2_ap, dMin2_ap, dAbs_ap, dSum_ap, dAny_ap, dAll_ap, dLen_l, dLen_t, dLen_a, dIx_l, dIx_t, dIx_a, dTup_ap, dLst_ap, dArm_ap, dList_l, dList_t, dTupl_ap, dTupA_ap, lstOf_ap, tupOf_t, tupOf_a, itemsOf_t, itemsOf_l, dSl_l, dSl_t, dSlL_ap, dCatL_ap, dIsN_ap, rng1_ap, rng2_ap, dRange_1, dRange_2, dRange3_ap, ownB_ap, ownT_ap, ownN_ap, eqI_ap, isC_y, il_int, il_bl, il_str, il_non, il_tup, il_lst, il_armD, il_ins, il_dic, il_ar, il_rig, Bool.false_eq_true, if_false, if_true, Res.bind_ok, Res.bind_bad, Res.out_ok, Res.out_bad, Res.calm_ok, List.map_cons, List.map_nil, List.length_cons, List.length_nil, Nat.reduceAdd, Nat.reduceSub, List.replicate, List.cons_append, List.nil_append, List.getElem?_cons_zero, List.getElem?_cons_succ, List.set_cons_succ, List.set_cons_zero, Bool.true_and, Bool.and_true, Bool.not_false, Bool.not_true, List.contains_nil, Option.bind_some, for_ap, lc_ap, Nat.reduceEqDiff, Nat.reduceLeDiff, Bool.false_xor, Bool.true_xor, and_self, decide_true, decide_false, List.lookup, List.all_cons, List.all_nil, List.contains_cons, Nat.reduceBEq, Bool.or_false, Bool.false_or, Bool.or_true, Bool.true_or, beq_self_eq_true, List.contains_nil, putFD, Nat.zero_lt_succ]
  simp [rigD, out1]
theorem mk_rig {a : Arms} {R : Rs} : mkEnd "Rig" R.length (f_Rig_init R.length [arD a] (R ++ [.ins "Rig" []])) = .ok (rigD a) R := by
  rw [e_rig_init]; exact mkEnd_ok rfl
theorem rig_told {a : Arms} : (List.lookup ("told" : Str) [(("told" : Str), arD a)]) = some (arD a) := by simp [List.lookup]
theorem e_rig_arms {a : Arms} {R : Rs} : f_Rig_arms [rigD a] R = .ok (arD a) R := by
  unfold f_Rig_arms
  refine pureF_ok ?_
  unfold m_Rig_arms
  simp only [raise_ap, raiseI_ap, calmF_ap, le_line, lt_line, var_ap, c_ap, op_ap, un_ap, b_ap, and_ap, or_ap, not_ap, if_ap, andV_ap, orV_ap, ch_ap, nil_ap, cons_ap, star_ap, tup_ap, lst_ap, arm_ap, cb_ap, noPart_ap, part_ap, sl_ap, slL_ap, call_ap, callL_ap, mk_ap, fld_ap, prop_ap, meth_ap, callI_ap, get2_ap, dnew_ap, it_ap, itA_ap, yes_ap, next_ap, seq_ap, set_ap, setO_ap, drop_ap, ret_ap, retN_ap, brk_ap, cnt_ap, never_ap, ifS_ap, aug_ap, app_ap, ext_ap, pop_ap, par_ap, asg_ap, dset_ap, stF_ap, stF2_ap, fldL_ap, see_f, see_g, okM_f, okM_g, okR_f, okR_g, okO_f, okO_g, hide_nil, hide_cons, setAll_cons, setAll_nil, wipe_nil, wipe_cons, runB_ap, runL_ap, startL_ap, startD_ap, out1_nx, out1_rt, dName_ap, dGTup_ap, dGLst_ap, dGCons_ap, dGNil_ap, dAdd_ap, dSub_ap, dMul_ap, dFdiv_ap, dMod_ap, dLt_ap, dLe_ap, dGt_ap, dGe_ap, bOf_ap, dNeg_ap, dNot_ap, eqS_int, eqS_bl, eqS_str, dInt1_ap, dInt1_bl, dMax2_ap, dMin2_ap, dAbs_ap, dSum_ap, dAny_ap, dAll_ap, dLen_l, dLen_t, dLen_a, dIx_l, dIx_t, dIx_a, dTup_ap, dLst_ap, dArm_ap, dList_l, dList_t, dTupl_ap, dTupA_ap, lstOf_ap, tupOf_t, tupOf_a, itemsOf_t, itemsOf_l, dSl_l, dSl_t, dSlL_ap, dCatL_ap, dIsN_ap, rng1_ap, rng2_ap, dRange_1, dRange_2, dRange3_ap, ownB_ap, ownT_ap, ownN_ap, eqI_ap, isC_y, il_int, il_bl, il_str, il_non, il_tup, il_lst, il_armD, il_ins, il_dic, il_ar, il_rig, Bool.false_eq_true, if_false, if_true, Res.bind_ok, Res.bind_bad, Res.out_ok, Res.out_bad, Res.calm_ok, List.map_cons, List.map_nil, List.length_cons, List.length_nil, Nat.reduceAdd, Nat.reduceSub, List.replicate, List.cons_append, List.nil_append, List.getElem?_cons_zero, List.getElem?_cons_succ, List.set_cons_succ, List.set_cons_zero, Bool.true_and, Bool.and_true, Bool.not_false, Bool.not_true, List.contains_nil, Option.bind_some, for_ap, lc_ap, Nat.reduceEqDiff, Nat.reduceLeDiff, Bool.false_xor, Bool.true_xor, and_self, decide_true, decide_false, List.lookup, List.all_cons, List.all_nil, List.contains_cons, Nat.reduceBEq, Bool.or_false, Bool.false_or, Bool.or_true, Bool.true_or, beq_self_eq_true, List.contains_nil, rigD, rig_told]
theorem e_rig_fwd {a : Arms} {R : Rs} : f_Rig_is_forward [rigD a] R = .ok (.bl (nf a 0)) R := by
  unfold f_Rig_is_forward
  refine pureF_ok ?_
  unfold m_Rig_is_forward
  simp only [raise_ap, raiseI_ap, calmF_ap, le_line, lt_line, var_ap, c_ap, op_ap, un_ap, b_ap, and_ap, or_ap, not_ap, if_ap, andV_ap, orV_ap, ch_ap, nil_ap, cons_ap, star_ap, tup_ap, lst_ap, arm_ap, cb_ap, noPart_ap, part_ap, sl_ap, slL_ap, call_ap, callL_ap, mk_ap, fld_ap, prop_ap, meth_ap, callI_ap, get2_ap, dnew_ap, it_ap, itA_ap, yes_ap, next_ap, seq_ap, set_ap, setO_ap, drop_ap, ret_ap, retN_ap, brk_ap, cnt_ap, never_ap, ifS_ap, aug_ap, app_ap, ext_ap, pop_ap, par_ap, asg_ap, dset_ap, stF_ap, stF2_ap, fldL_ap, see_f, see_g, okM_f, okM_g, okR_f, okR_g, okO_f, okO_g, hide_nil, hide_cons, setAll_cons, setAll_nil, wipe_nil, wipe_cons, runB_ap, runL_ap, startL_ap, startD_ap, out1_nx, out1_rt, dName_ap, dGTup_ap, dGLst_ap, dGCons_ap, dGNil_ap, dAdd_ap, dSub_ap, dMul_ap, dFdiv_ap, dMod_ap, dLt_ap, dLe_ap, dGt_ap, dGe_ap, bOf_ap, dNeg_ap, dNot_ap, eqS_int, eqS_bl, eqS_str, dInt1_ap, dInt1_bl, dMax2_ap, dMin2_ap, dAbs_ap, dSum_ap, dAny_ap, dAll_ap, dLen_l, dLen_t, dLen_a, dIx_l, dIx_t, dIx_a, dTup_ap, dLst_ap, dArm_ap, dList_l, dList_t, dTupl_ap, dTupA_ap, lstOf_ap, tupOf_t, tupOf_a, itemsOf_t, itemsOf_l, dSl_l, dSl_t, dSlL_ap, dCatL_ap, dIsN_ap, rng1_ap, rng2_ap, dRange_1, dRange_2, dRange3_ap, ownB_ap, ownT_ap, ownN_ap, eqI_ap, isC_y, il_int, il_bl, il_str, il_non, il_tup, il_lst, il_armD, il_ins, il_dic, il_ar, il_rig, Bool.false_eq_true, if_false, if_true, Res.bind_ok, Res.bind_bad, Res.out_ok, Res.out_bad, Res.calm_ok, List.map_cons, List.map_nil, List.length_cons, List.length_nil, Nat.reduceAdd, Nat.reduceSub, List.replicate, List.cons_append, List.nil_append, List.getElem?_cons_zero, List.getElem?_cons_succ, List.set_cons_succ, List.set_cons_zero, Bool.true_and, Bool.and_true, Bool.not_false, Bool.not_true, List.contains_nil, Option.bind_some, for_ap, lc_ap, Nat.reduceEqDiff, Nat.reduceLeDiff, Bool.false_xor, Bool.true_xor, and_self, decide_true, decide_false, List.lookup, List.all_cons, List.all_nil, List.contains_cons, Nat.reduceBEq, Bool.or_false, Bool.false_or, Bool.or_true, Bool.true_or, beq_self_eq_true, List.contains_nil, rigD, rig_told, e_never_falls]
theorem e_is_int_in {i lo hi : Int} {R : Rs} : f_is_int_in [.int i, .int lo, .int hi] R = .ok (.bl (decide (lo ≤ i) && decide (i ≤ hi))) R := by
  have h0 : f_is_int [.int i] [] = .ok (.bl true) [] := rfl
  unfold f_is_int_in
  refine pureF_ok ?_
  unfold m_is_int_in
  simp only [raise_ap, raiseI_ap, calmF_ap, le_line, lt_line, var_ap, c_ap, op_ap, un_ap, b_ap, and_ap, or_ap, not_ap, if_ap, andV_ap, orV_ap, ch_ap, nil_ap, cons_ap, star_ap, tup_ap, lst_ap, arm_ap, cb_ap, noPart_ap, part_ap, sl_ap, slL_ap, call_ap, callL_ap, mk_ap, fld_ap, prop_ap, meth_ap, callI_ap, get2_ap, dnew_ap, it_ap, itA_ap, yes_ap, next_ap, seq_ap, set_ap, setO_ap, drop_ap, ret_ap, retN_ap, brk_ap, cnt_ap, never_ap, ifS_ap, aug_ap, app_ap, ext_ap, pop_ap, par_ap, asg_ap, dset_ap, stF_ap, stF2_ap, fldL_ap, see_f, see_g, okM_f, okM_g, okR_f, okR_g, okO_f, okO_g, hide_nil, hide_cons, setAll_cons, setAll_nil, wipe_nil, wipe_cons, runB_ap, runL_ap, startL_ap, startD_ap, out1_nx, out1_rt, dName_ap, dGTup_ap, dGLst_ap, dGCons_ap, dGNil_ap, dAdd_ap, dSub_ap, dMul_ap, dFdiv_ap, dMod_ap, dLt_ap, dLe_ap, dGt_ap, dGe_ap, bOf_ap, dNeg_ap, dNot_ap, eqS_int, eqS_bl, eqS_str, dInt1_ap, dInt1_bl, dMax2_ap, dMin2_ap, dAbs_ap, dSum_ap, dAny_ap, dAll_ap, dLen_l, dLen_t, dLen_a, dIx_l, dIx_t, dIx_a, dTup_ap, dLst_ap, dArm_ap, dList_l, dList_t, dTupl_ap, dTupA_ap, lstOf_ap, tupOf_t, tupOf_a, itemsOf_t, itemsOf_l, dSl_l, dSl_t, dSlL_ap, dCatL_ap, dIsN_ap, rng1_ap, rng2_ap, dRange_1, dRange_2, dRange3_ap, ownB_ap, ownT_ap, ownN_ap, eqI_ap, isC_y, il_int, il_bl, il_str, il_non, il_tup, il_lst, il_armD, il_ins, il_dic, il_ar, il_rig, Bool.false_eq_true, if_false, if_true, Res.bind_ok, Res.bind_bad, Res.out_ok, Res.out_bad, Res.calm_ok, List.map_cons, List.map_nil, List.length_cons, List.length_nil, Nat.reduceAdd, Nat.reduceSub, List.replicate, List.cons_append, List.nil_append, List.getElem?_cons_zero, List.getElem?_cons_succ, List.set_cons_succ, List.set_cons_zero, Bool.true_and, Bool.and_true, Bool.not_false, Bool.not_true, List.contains_nil, Option.bind_some, for_ap, lc_ap, Nat.reduceEqDiff, Nat.reduceLeDiff, Bool.false_xor, Bool.true_xor, and_self, decide_true, decide_false, List.lookup, List.all_cons, List.all_nil, List.contains_cons, Nat.reduceBEq, Bool.or_false, Bool.false_or, Bool.or_true, Bool.true_or, beq_self_eq_true, List.contains_nil, h0]
  by_cases h : lo ≤ i
  · simp only [h, raise_ap, raiseI_ap, calmF_ap, le_line, lt_line, var_ap, c_ap, op_ap, un_ap, b_ap, and_ap, or_ap, not_ap, if_ap, andV_ap, orV_ap, ch_ap, nil_ap, cons_ap, star_ap, tup_ap, lst_ap, arm_ap, cb_ap, noPart_ap, part_ap, sl_ap, slL_ap, call_ap, callL_ap, mk_ap, fld_ap, prop_ap, meth_ap, callI_ap, get2_ap, dnew_ap, it_ap, itA_ap, yes_ap, next_ap, seq_ap, set_ap, setO_ap, drop_ap, ret_ap, retN_ap, brk_ap, cnt_ap, never_ap, ifS_ap, aug_ap, app_ap, ext_ap, pop_ap, par_ap, asg_ap, dset_ap, stF_ap, stF2_ap, fldL_ap, see_f, see_g, okM_f, okM_g, okR_f, okR_g, okO_f, okO_g, hide_nil, hide_cons, setAll_cons, setAll_nil, wipe_nil, wipe_cons, runB_ap, runL_ap, startL_ap, startD_ap, out1_nx, out1_rt, dName_ap, dGTup_ap, dGLst_ap, dGCons_ap, dGNil_ap, dAdd_ap, dSub_ap, dMul_ap, dFdiv_ap, dMod_ap, dLt_ap, dLe_ap, dGt_ap, dGe_ap, bOf_ap, dNeg_ap, dNot_ap, eqS_int, eqS_bl, eqS_str, dInt1_ap, dInt1_bl, dMax2_ap, dMin2_ap, dAbs_ap, dSum_ap, dAny_ap, dAll_ap, dLen_l, dLen_t, dLen_a, dIx_l, dIx_t, dIx_a, dTup_ap, dLst_ap, dArm_ap, dList_l, dList_t, dTupl_ap, dTupA_ap, lstOf_ap, tupOf_t, tupOf_a, itemsOf_t, itemsOf_l, dSl_l, dSl_t, dSlL_ap, dCatL_ap, dIsN_ap, rng1_ap, rng2_ap, dRange_1, dRange_2, dRange3_ap, ownB_ap, ownT_ap, ownN_ap, eqI_ap, isC_y, il_int, il_bl, il_str, il_non, il_tup, il_lst, il_armD, il_ins, il_dic, il_ar, il_rig, Bool.false_eq_true, if_false, if_true, Res.bind_ok, Res.bind_bad, Res.out_ok, Res.out_bad, Res.calm_ok, List.map_cons, List.map_nil, List.length_cons, List.length_nil, Nat.reduceAdd, Nat.reduceSub, List.replicate, List.cons_append, List.nil_append, List.getElem?_cons_zero, List.getElem?_cons_succ, List.set_cons_succ, List.set_cons_zero, Bool.true_and, Bool.and_true, Bool.not_false, Bool.not_true, List.contains_nil, Option.bind_some, for_ap, lc_ap, Nat.reduceEqDiff, Nat.reduceLeDiff, Bool.false_xor, Bool.true_xor, and_self, decide_true, decide_false, List.lookup, List.all_cons, List.all_nil, List.contains_cons, Nat.reduceBEq, Bool.or_false, Bool.false_or, Bool.or_true, Bool.true_or, beq_self_eq_true, List.contains_nil]
  · simp only [h, raise_ap, raiseI_ap, calmF_ap, le_line, lt_line, var_ap, c_ap, op_ap, un_ap, b_ap, and_ap, or_ap, not_ap, if_ap, andV_ap, orV_ap, ch_ap, nil_ap, cons_ap, star_ap, tup_ap, lst_ap, arm_ap, cb_ap, noPart_ap, part_ap, sl_ap, slL_ap, call_ap, callL_ap, mk_ap, fld_ap, prop_ap, meth_ap, callI_ap, get2_ap, dnew_ap, it_ap, itA_ap, yes_ap, next_ap, seq_ap, set_ap, setO_ap, drop_ap, ret_ap, retN_ap, brk_ap, cnt_ap, never_ap, ifS_ap, aug_ap, app_ap, ext_ap, pop_ap, par_ap, asg_ap, dset_ap, stF_ap, stF2_ap, fldL_ap, see_f, see_g, okM_f, okM_g, okR_f, okR_g, okO_f, okO_g, hide_nil, hide_cons, setAll_cons, setAll_nil, wipe_nil, wipe_cons, runB_ap, runL_ap, startL_ap, startD_ap, out1_nx, out1_rt, dName_ap, dGTup_ap, dGLst_ap, dGCons_ap, dGNil_ap, dAdd_ap, dSub_ap, dMul_ap, dFdiv_ap, dMod_ap, dLt_ap, dLe_ap, dGt_ap, dGe_ap, bOf_ap, dNeg_ap, dNot_ap, eqS_int, eqS_bl, eqS_str, dInt1_ap, dInt1_bl, dMax2_ap, dMin2_ap, dAbs_ap, dSum_ap, dAny_ap, dAll_ap, dLen_l, dLen_t, dLen_a, dIx_l, dIx_t, dIx_a, dTup_ap, dLst_ap, dArm_ap, dList_l, dList_t, dTupl_ap, dTupA_ap, lstOf_ap, tupOf_t, tupOf_a, itemsOf_t, itemsOf_l, dSl_l, dSl_t, dSlL_ap, dCatL_ap, dIsN_ap, rng1_ap, rng2_ap, dRange_1, dRange_2, dRange3_ap, ownB_ap, ownT_ap, ownN_ap, eqI_ap, isC_y, il_int, il_bl, il_str, il_non, il_tup, il_lst, il_armD, il_ins, il_dic, il_ar, il_rig, Bool.false_eq_true, if_false, if_true, Res.bind_ok, Res.bind_bad, Res.out_ok, Res.out_bad, Res.calm_ok, List.map_cons, List.map_nil, List.length_cons, List.length_nil, Nat.reduceAdd, Nat.reduceSub, List.replicate, List.cons_append, List.nil_append, List.getElem?_cons_zero, List.getElem?_cons_succ, List.set_cons_succ, List.set_cons_zero, Bool.true_and, Bool.and_true, Bool.not_false, Bool.not_true, List.contains_nil, Option.bind_some, for_ap, lc_ap, Nat.reduceEqDiff, Nat.reduceLeDiff, Bool.false_xor, Bool.true_xor, and_self, decide_true, decide_false, List.lookup, List.all_cons, List.all_nil, List.contains_cons, Nat.reduceBEq, Bool.or_false, Bool.false_or, Bool.or_true, Bool.true_or, beq_self_eq_true, List.contains_nil, Bool.false_and]
theorem e_rig_eq {a b : Arms} {R : Rs} : f_Rig_eq [rigD a, rigD b] R = .ok (.bl (decide (a = b))) R := by
  unfold f_Rig_eq
  refine pureF_ok ?_
  unfold m_Rig_eq
  simp only [raise_ap, raiseI_ap, calmF_ap, le_line, lt_line, var_ap, c_ap, op_ap, un_ap, b_ap, and_ap, or_ap, not_ap, if_ap, andV_ap, orV_ap, ch_ap, nil_ap, cons_ap, star_ap, tup_ap, lst_ap, arm_ap, cb_ap, noPart_ap, part_ap, sl_ap, slL_ap, call_ap, callL_ap, mk_ap, fld_ap, prop_ap, meth_ap, callI_ap, get2_ap, dnew_ap, it_ap, itA_ap, yes_ap, next_ap, seq_ap, set_ap, setO_ap, drop_ap, ret_ap, retN_ap, brk_ap, cnt_ap, never_ap, ifS_ap, aug_ap, app_ap, ext_ap, pop_ap, par_ap, asg_ap, dset_ap, stF_ap, stF2_ap, fldL_ap, see_f, see_g, okM_f, okM_g, okR_f, okR_g, okO_f, okO_g, hide_nil, hide_cons, setAll_cons, setAll_nil, wipe_nil, wipe_cons, runB_ap, runL_ap, startL_ap, startD_ap, out1_nx, out1_rt, dName_ap, dGTup_ap, dGLst_ap, dGCons_ap, dGNil_ap, dAdd_ap, dSub_ap, dMul_ap, dFdiv_ap, dMod_ap, dLt_ap, dLe_ap, dGt_ap, dGe_ap, bOf_ap, dNeg_ap, dNot_ap, eqS_int, eqS_bl, eqS_str, dInt1_ap, dInt1_bl, dMax2_ap, dMin2_ap, dAbs_ap, dSum_ap, dAny_ap, dAll_ap, dLen_l, dLen_t, dLen_a, dIx_l, dIx_t, dIx_a, dTup_ap, dLst_ap, dArm_ap, dList_l, dList_t, dTupl_ap, dTupA_ap, lstOf_ap, tupOf_t, tupOf_a, itemsOf_t, itemsOf_l, dSl_l, dSl_t, dSlL_ap, dCatL_ap, dIsN_ap, rng1_ap, rng2_ap, dRange_1, dRange_2, dRange3_ap, ownB_ap, ownT_ap, ownN_ap, eqI_ap, isC_y, il_int, il_bl, il_str, il_non, il_tup, il_lst, il_armD, il_ins, il_dic, il_ar, il_rig, Bool.false_eq_true, if_false, if_true, Res.bind_ok, Res.bind_bad, Res.out_ok, Res.out_bad, Res.calm_ok, List.map_cons, List.map_nil, List.length_cons, List.length_nil, Nat.reduceAdd, Nat.reduceSub, List.replicate, List.cons_append, List.nil_append, List.getElem?_cons_zero, List.getElem?_cons_succ, List.set_cons_succ, List.set_cons_zero, Bool.true_and, Bool.and_true, Bool.not_false, Bool.not_true, List.contains_nil, Option.bind_some, for_ap, lc_ap, Nat.reduceEqDiff, Nat.reduceLeDiff, Bool.false_xor, Bool.true_xor, and_self, decide_true, decide_false, List.lookup, List.all_cons, List.all_nil, List.contains_cons, Nat.reduceBEq, Bool.or_false, Bool.false_or, Bool.or_true, Bool.true_or, beq_self_eq_true, List.contains_nil, show rigD a = .ins "Rig" [("told", arD a)] from rfl, show rigD b = .ins "Rig" [("told", arD b)] from rfl, rig_told, eqD_ar]
end Lw

namespace Lw
open PySem PySem.Spec PyProof.Rows L2 Sr Pv Rg
variable {A0 : Addr}
/-! ### trees as data -/
def trD : Tr → D
  | .rod s => .tup [.str "rod", .int s]
  | .mul t k => .tup [.str "*", trD t, .int k]
  | .neg t => .tup [.str "neg", trD t]
  | .add a b => .tup [.str "+", trD a, trD b]
  | .sub a b => .tup [.str "-", trD a, trD b]
  | .chn a b => .tup [.str ">>", trD a, trD b]
theorem il_tr (t : Tr) : (trD t).isLoc = false := by cases t <;> rfl
theorem at0 {α : Type} {x : α} {xs : List α} : atI (x :: xs) 0 = some x := by
  unfold atI ixN; rw [if_pos (by omega), if_pos (by simp only [List.length_cons]; omega)]; rfl
theorem at1 {α : Type} {x y : α} {xs : List α} : atI (x :: y :: xs) 1 = some y := by
  unfold atI ixN; rw [if_pos (by omega), if_pos (by simp only [List.length_cons]; omega)]; rfl
theorem at2 {α : Type} {x y z : α} {xs : List α} : atI (x :: y :: z :: xs) 2 = some z := by
  unfold atI ixN; rw [if_pos (by omega), if_pos (by simp only [List.length_cons]; omega)]; rfl
def Mv (S S' : Sw) : Prop := S' = S ∨ S' = upS S ∨ S' = dnS S
theorem Mv.rod {S S' : Sw} (h : Mv S S') {s : Int} (hs : 0 ≤ s) : eB [(s, 1)] S' = min (max (eB [(s, 1)] S) (pl S' - s)) (pl S') := by
  rcases h with rfl | rfl | rfl
  · exact (rod_stay hs _).symm
  · exact rod_up hs S
  · exact rod_dn hs S
end Lw

namespace Lw
open PySem PySem.Spec PyProof.Rows L2 Sr Pv Rg
variable {A0 : Addr}
/-! ### rows of places -/
def inD (xs : List Int) : List D := xs.map D.int
def inP (xs : List Int) : List PyData := xs.map PyData.int
/-! ### curves -/
def onS (k : Nat) : Sw := (0, List.replicate k true)
theorem sum_on (a : Arms) : ∀ (k : Nat) (j : Int), sumB a j (List.replicate k true) = cv a (j + k) - cv a j
  | 0, j => by simp [sumB]
  | k + 1, j => by
    rw [List.replicate_succ, sumB, sum_on a k, if_pos rfl]
    have e : j + 1 + (k : Int) = j + ((k + 1 : Nat) : Int) := by omega
    rw [e]
    show cv a (j + 1) - cv a j + _ = _
    omega
theorem catL_ok {xs ys : List D} {R : Rs} (h : xs.length + ys.length ≤ sizeLine) : dCatL (.lst xs) (.lst ys) R = .ok (.lst (xs ++ ys)) R := by
  rw [dCatL_ap]; exact if_pos h
theorem lst_ok {xs : List D} {R : Rs} (h : xs.length ≤ sizeLine) : dLst xs R = .ok (.lst xs) R := by
  rw [dLst_ap]; exact if_pos h
theorem in_len (rs : List Int) : (inD rs).length = rs.length := by simp [inD]
theorem pdL_in : ∀ xs : List Int, pdL (inD xs) = some (inP xs)
  | [] => rfl
  | x :: xs => by
    show pdL (D.int x :: inD xs) = _
    simp only [pdL, D.pd, pdL_in xs]
    rfl
theorem lay_in : ∀ xs : List Int, PyData.canLayAll0 (inP xs) = true
  | [] => rfl
  | x :: xs => by
    show (PyData.canLay0 (.int x) && PyData.canLayAll0 (inP xs)) = true
    rw [lay_in xs]; rfl
theorem depth_in : ∀ xs : List Int, PyData.depthAll (inP xs) ≤ 4
  | [] => by decide
  | x :: xs => by
    have := depth_in xs
    show PyData.depthAll (PyData.int x :: inP xs) ≤ 4
    simp only [PyData.depthAll, PyData.depth]
    omega
theorem eqv_in : ∀ xs ys : List Int, PyData.eqvAll (inP xs) (inP ys) = decide (xs = ys)
  | [], [] => rfl
  | [], _ :: _ => rfl
  | _ :: _, [] => rfl
  | x :: xs, y :: ys => by
    show (PyData.eqv (.int x) (.int y) && PyData.eqvAll (inP xs) (inP ys)) = _
    rw [eqv_in xs ys]
    have : PyData.eqv (.int x) (.int y) = (x == y) := rfl
    rw [this]
    by_cases h1 : x = y <;> simp [h1]
/-! ### the source, and trees drawn from it -/
def srcD (st : List Int) : D := .lst (st.map D.int)
theorem e_bel {st : List Int} {n : Int} (h : stOk st = true) (h0 : 0 < n) (h1 : n < 1073741824) : ∃ c st', (∀ A0 : Addr, belowF 0 [.int n] [srcD st, .tab A0] = .ok (.int c) [srcD st', .tab A0]) ∧ 0 ≤ c ∧ c < n ∧ stOk st' = true := by
  obtain ⟨a, b, c⟩ := below_ok h h0
  exact ⟨_, _, fun _ => belowF_eq h h0 h1, a, b, c⟩
end Lw

namespace Lw
open PySem PySem.Spec PyProof.Rows L2 Sr Pv Rg
variable {A0 : Addr}
/-! ### rigs as values of the operators -/
theorem ownB_rig {h : List D → Rs → Res D} {a b : Arms} {R : Rs} : dOwnB "Rig" h (rigD a) (rigD b) R = h [rigD a, rigD b] R := ownB_ap
theorem ownT_rig {h : List D → Rs → Res D} {a : Arms} {i : Int} {R : Rs} : dOwnT "Rig" h (rigD a) (.int i) R = h [rigD a, .int i] R := ownT_ap
theorem ownN_rig {h : List D → Rs → Res D} {a : Arms} {R : Rs} : dOwnN "Rig" h (rigD a) R = h [rigD a] R := ownN_ap
theorem eqI_rig {n : Bool} {a b : Arms} {R : Rs} : dEqI "Rig" n f_Rig_eq (rigD a) (rigD b) R = .ok (.bl (n ^^ decide (a = b))) R := by
  unfold rigD
  rw [eqI_ap]
  have := e_rig_eq (a := a) (b := b) (R := R)
  unfold rigD at this
  rw [this]
  rfl
def propR (c : Str) (h : List D → Rs → Res D) : D → Rs → Res D := fun d R1 => match d with
  | .ins c' fs => if c' = c then h [.ins c' fs] R1 else .bad
  | _ => .bad
theorem propR_ap {c : Str} {h : List D → Rs → Res D} {g : G} {ρ : PEnv} {R : Rs} : gProp c h g ρ R = (g ρ R).bind (propR c h) := rfl
theorem propR_rig {h : List D → Rs → Res D} {a : Arms} {R : Rs} : propR "Rig" h (rigD a) R = h [rigD a] R := by simp [propR, rigD]
/-! ### bounds of combinations -/
theorem _root_.Rg.RB.times {b : Arms} {M' L' t : Int} {n' : Nat} (q : RB b M' L' n') (h1 : -3 ≤ t) (h2 : t ≤ 3) : RB (addA [] b t) (max 0 M') (0 + 3 * L') (0 + n') := (RB.nil (by decide) (by decide)).add q h1 h2
theorem rg2 : rngD 0 (2 : Int).toNat = [.int 0, .int 1] := rfl
theorem rg3 : rngD 0 (3 : Int).toNat = [.int 0, .int 1, .int 2] := rfl
theorem rg4 : rngD 0 (4 : Int).toNat = [.int 0, .int 1, .int 2, .int 3] := rfl
theorem in2 : inB 2 = true := by decide
theorem in3 : inB 3 = true := by decide
theorem in4 : inB 4 = true := by decide
theorem lcG_nil {T : TD} {tt : GT} {ge : G} {ρ : PEnv} {R : Rs} : lcG T tt ge [] ρ R = .ok [] R := rfl
theorem lcG_yes {T : TD} {ge : G} {d : D} {ds : List D} {ρ ρ1 : PEnv} {R : Rs} (h : T d ρ = some ρ1) : lcG T gYes ge (d :: ds) ρ R = (ge ρ1 R).bind fun y R2 => (lcG T gYes ge ds ρ R2).bind fun ys R3 => .ok (y :: ys) R3 := by
  simp only [lcG, h, gYes, Res.bind_ok]
theorem lcG_yesN {i : Nat} {ge : G} {d : D} {ds : List D} {ρ : PEnv} {R : Rs} : lcG (dName i) gYes ge (d :: ds) ρ R = (ge (ρ.set i (some d)) R).bind fun y R2 => (lcG (dName i) gYes ge ds ρ R2).bind fun ys R3 => .ok (y :: ys) R3 := lcG_yes rfl
theorem lawStart_ap {n : Nat} : lawStart n = none :: some (.loc 0) :: List.replicate (n - 2) none := rfl
theorem loop_inv {T : TD} {b : GS} {ds : List D} {ρ : PEnv} {R : Rs} {o : Out} (hL : loopG T b ds ρ R = o) (I : PEnv → Rs → Prop) (h0 : I ρ R) (hs : ∀ d ∈ ds, ∀ ρ R, I ρ R → ∃ ρ1, T d ρ = some ρ1 ∧ ∃ ρ2 R2, (b ρ1 R = .nx ρ2 R2 ∨ b ρ1 R = .ct ρ2 R2) ∧ I ρ2 R2) : ∃ ρ2 R2, o = .nx ρ2 R2 ∧ I ρ2 R2 := by
  subst hL
  induction ds generalizing ρ R with
  | nil => exact ⟨ρ, R, rfl, h0⟩
  | cons d ds ih =>
    obtain ⟨ρ1, h1, ρ2, R2, h2, h3⟩ := hs d (by simp) ρ R h0
    obtain ⟨ρ3, R3, h4, h5⟩ := ih h3 fun d hd => hs d (by simp [hd])
    refine ⟨ρ3, R3, ?_, h5⟩
    rcases h2 with h2 | h2 <;> simp only [loopG, h1, h2, h4]
end Lw

namespace Lw
open PySem PySem.Spec PyProof.Rows L2 Sr Pv Rg
variable {A0 : Addr}
open Mt (movedR followR shrink pas MemOk MemV endA swings iabs memR isNextR)
/-! ### slices and indexes -/
theorem cut_take {α : Type} (xs : List α) (k : Nat) : Pv.cutD xs none (some (k : Int)) = xs.take k := by
  unfold Pv.cutD
  rw [HT.sIx_nat, HT.sIx_none, List.drop_zero, Nat.sub_zero]
  by_cases h : k ≤ xs.length
  · rw [Nat.min_eq_left h]
  · rw [Nat.min_eq_right (by omega), List.take_of_length_le (Nat.le_refl _), List.take_of_length_le (by omega)]
theorem cut_drop {α : Type} (xs : List α) (k : Nat) : Pv.cutD xs (some (k : Int)) none = xs.drop k := by
  unfold Pv.cutD
  rw [HT.sIx_nat, HT.sIx_none]
  by_cases h : k ≤ xs.length
  · rw [Nat.min_eq_left h, List.take_of_length_le (by simp)]
  · rw [Nat.min_eq_right (by omega), List.drop_of_length_le (Nat.le_refl _), List.drop_of_length_le (by omega)]; simp
theorem cut_l2 {α : Type} (xs : List α) (b a : α) : Pv.cutD (xs ++ [b, a]) (some (-2)) none = [b, a] := by
  unfold Pv.cutD
  have e : HT.sIx (xs ++ [b, a]).length 0 (some (-2)) = xs.length := by unfold HT.sIx; simp; omega
  rw [e, HT.sIx_none]; simp
theorem at_m1 {α : Type} (xs : List α) (a : α) : atI (xs ++ [a]) (-1) = some a := by
  unfold atI ixN
  rw [if_neg (by omega), if_pos (by simp; omega)]
  simp only [Option.bind_some]
  rw [show (-1 + ((xs ++ [a]).length : Int)).toNat = xs.length by simp; omega]
  simp
/-! ### memories as data; the last place first -/
def plL (rs : List Int) : List D := rs.reverse.map D.int
def plD (rs : List Int) : D := .tup (plL rs)
def memD (rs : List Int) : D := .ins "Memory" [("told", plD rs)]
theorem plL_cons (a : Int) (r : List Int) : plL (a :: r) = plL r ++ [.int a] := by simp [plL]
theorem plL_cons2 (a b : Int) (r : List Int) : plL (a :: b :: r) = plL r ++ [.int b, .int a] := by simp [plL]
theorem plL_len (rs : List Int) : (plL rs).length = rs.length := by simp [plL]
theorem at_pl1 (a : Int) (r : List Int) : atI (plL (a :: r)) (-1) = some (.int a) := by rw [plL_cons, at_m1]
theorem il_pl {rs : List Int} : (plD rs).isLoc = false := rfl
theorem il_mem {rs : List Int} : (memD rs).isLoc = false := rfl
/-! ### ends -/
theorem plD_in (rs : List Int) : plD rs = .tup (inD rs.reverse) := rfl
/-! ### checks -/
def FarP (p : Int) : Prop := -1000000 ≤ p ∧ p ≤ 1000000
theorem e_is_place {p : Int} {R : Rs} (h : FarP p) : f_is_place [.int p] R = .ok (.bl true) R := by
  unfold f_is_place
  refine pureF_ok ?_
  unfold m_is_place
  have h1 := h.1
  have h2 := h.2
  have e : -1000000 ≤ p := h.1
  simp only [raise_ap, raiseI_ap, calmF_ap, le_line, lt_line, var_ap, c_ap, op_ap, un_ap, b_ap, and_ap, or_ap, not_ap, if_ap, andV_ap, orV_ap, ch_ap, nil_ap, cons_ap, star_ap, tup_ap, lst_ap, arm_ap, cb_ap, noPart_ap, part_ap, sl_ap, slL_ap, call_ap, callL_ap, mk_ap, fld_ap, prop_ap, meth_ap, callI_ap, get2_ap, dnew_ap, it_ap, itA_ap, yes_ap, next_ap, seq_ap, set_ap, setO_ap, drop_ap, ret_ap, retN_ap, brk_ap, cnt_ap, never_ap, ifS_ap, aug_ap, app_ap, ext_ap, pop_ap, par_ap, asg_ap, dset_ap, stF_ap, stF2_ap, fldL_ap, see_f, see_g, okM_f, okM_g, okR_f, okR_g, okO_f, okO_g, hide_nil, hide_cons, setAll_cons, setAll_nil, wipe_nil, wipe_cons, runB_ap, runL_ap, startL_ap, startD_ap, out1_nx, out1_rt, dName_ap, dGTup_ap, dGLst_ap, dGCons_ap, dGNil_ap, dAdd_ap, dSub_ap, dMul_ap, dFdiv_ap, dMod_ap, dLt_ap, dLe_ap, dGt_ap, dGe_ap, bOf_ap, dNeg_ap, dNot_ap, eqS_int, eqS_bl, eqS_str, dInt1_ap, dInt1_bl, dMax2_ap, dMin2_ap, dAbs_ap, dSum_ap, dAny_ap, dAll_ap, dLen_l, dLen_t, dLen_a, dIx_l, dIx_t, dIx_a, dTup_ap, dLst_ap, dArm_ap, dList_l, dList_t, dTupl_ap, dTupA_ap, lstOf_ap, tupOf_t, tupOf_a, itemsOf_t, itemsOf_l, dSl_l, dSl_t, dSlL_ap, dCatL_ap, dIsN_ap, rng1_ap, rng2_ap, dRange_1, dRange_2, dRange3_ap, ownB_ap, ownT_ap, ownN_ap, eqI_ap, isC_y, il_int, il_bl, il_str, il_non, il_tup, il_lst, il_armD, il_ins, il_dic, il_ar, il_rig, Bool.false_eq_true, if_false, if_true, Res.bind_ok, Res.bind_bad, Res.out_ok, Res.out_bad, Res.calm_ok, List.map_cons, List.map_nil, List.length_cons, List.length_nil, Nat.reduceAdd, Nat.reduceSub, List.replicate, List.cons_append, List.nil_append, List.getElem?_cons_zero, List.getElem?_cons_succ, List.set_cons_succ, List.set_cons_zero, Bool.true_and, Bool.and_true, Bool.not_false, Bool.not_true, List.contains_nil, Option.bind_some, for_ap, lc_ap, Nat.reduceEqDiff, Nat.reduceLeDiff, Bool.false_xor, Bool.true_xor, and_self, decide_true, decide_false, List.lookup, List.all_cons, List.all_nil, List.contains_cons, Nat.reduceBEq, Bool.or_false, Bool.false_or, Bool.or_true, Bool.true_or, beq_self_eq_true, List.contains_nil, e_is_int_in, e, h2]
theorem enD_in_get (ds : List Int) (i : Nat) : (enD (inD ds))[i]? = (ds[i]?).map fun x => .tup [.int i, .int x] := by
  rw [enD_get]
  simp only [inD, List.getElem?_map, Option.map_map]
  rfl
theorem enD_range (ds : List Int) : enD (inD ds) = (List.range ds.length).map fun i => .tup [.int (i : Int), .int (ds.getD i 0)] := by
  refine List.ext_getElem? fun i => ?_
  rw [enD_in_get, List.getElem?_map]
  by_cases h : i < ds.length
  · rw [List.getElem?_range h, List.getElem?_eq_getElem h]
    simp [List.getD, h]
  · rw [List.getElem?_eq_none (by omega), List.getElem?_eq_none (by simp; omega)]
    rfl
theorem isK_ll {xs : List D} {R : Rs} : dIsK .lst [.lst xs, .ty "list"] R = .ok (.bl true) R := rfl
theorem isK_tt {xs : List D} {R : Rs} : dIsK .tup [.tup xs, .ty "tuple"] R = .ok (.bl true) R := rfl
/-! ### Memory -/
theorem pd_t_in (xs : List Int) : (D.tup (inD xs)).pd = some (.tuple (inP xs)) := by
  simp only [D.pd, pdL_in]
  rfl
theorem shaped_t_in (xs : List Int) : SeqAt.shaped (.tuple (inP xs)) = true := by
  have h := depth_in xs
  have h2 := lay_in xs
  unfold SeqAt.shaped
  simp only [PyData.canLay0, h2, PyData.depth, Bool.true_and]
  exact decide_eq_true (by omega)
theorem eqD_t_in {n : Bool} {xs ys : List Int} {R : Rs} : dEqD n (.tup (inD xs)) (.tup (inD ys)) R = .ok (.bl (n ^^ decide (xs = ys))) R := by
  have e : PyData.eqv (.tuple (inP xs)) (.tuple (inP ys)) = decide (xs = ys) := eqv_in xs ys
  simp only [dEqD, pd_t_in, shaped_t_in, e, Bool.and_self, if_true]
theorem eqD_pl {n : Bool} {rs gs : List Int} {R : Rs} : dEqD n (plD rs) (plD gs) R = .ok (.bl (n ^^ decide (rs = gs))) R := by
  rw [plD_in, plD_in, eqD_t_in]
  have : decide (rs.reverse = gs.reverse) = decide (rs = gs) := by rw [decide_eq_decide]; exact ⟨fun h => by simpa using congrArg List.reverse h, fun h => by rw [h]⟩
  rw [this]
theorem e_is_next {rs : List Int} {p : Int} {R : Rs} : f_is_next [plD rs, .int p] R = .ok (.bl (isNextR rs p)) R := by
  unfold f_is_next
  refine pureF_ok ?_
  unfold m_is_next
  have e0 : D.tup [] = plD [] := rfl
  match rs with
  | [] =>
    simp only [raise_ap, raiseI_ap, calmF_ap, le_line, lt_line, var_ap, c_ap, op_ap, un_ap, b_ap, and_ap, or_ap, not_ap, if_ap, andV_ap, orV_ap, ch_ap, nil_ap, cons_ap, star_ap, tup_ap, lst_ap, arm_ap, cb_ap, noPart_ap, part_ap, sl_ap, slL_ap, call_ap, callL_ap, mk_ap, fld_ap, prop_ap, meth_ap, callI_ap, get2_ap, dnew_ap, it_ap, itA_ap, yes_ap, next_ap, seq_ap, set_ap, setO_ap, drop_ap, ret_ap, retN_ap, brk_ap, cnt_ap, never_ap, ifS_ap, aug_ap, app_ap, ext_ap, pop_ap, par_ap, asg_ap, dset_ap, stF_ap, stF2_ap, fldL_ap, see_f, see_g, okM_f, okM_g, okR_f, okR_g, okO_f, okO_g, hide_nil, hide_cons, setAll_cons, setAll_nil, wipe_nil, wipe_cons, runB_ap, runL_ap, startL_ap, startD_ap, out1_nx, out1_rt, dName_ap, dGTup_ap, dGLst_ap, dGCons_ap, dGNil_ap, dAdd_ap, dSub_ap, dMul_ap, dFdiv_ap, dMod_ap, dLt_ap, dLe_ap, dGt_ap, dGe_ap, bOf_ap, dNeg_ap, dNot_ap, eqS_int, eqS_bl, eqS_str, dInt1_ap, dInt1_bl, dMax2_ap, dMin2_ap, dAbs_ap, dSum_ap, dAny_ap, dAll_ap, dLen_l, dLen_t, dLen_a, dIx_l, dIx_t, dIx_a, dTup_ap, dLst_ap, dArm_ap, dList_l, dList_t, dTupl_ap, dTupA_ap, lstOf_ap, tupOf_t, tupOf_a, itemsOf_t, itemsOf_l, dSl_l, dSl_t, dSlL_ap, dCatL_ap, dIsN_ap, rng1_ap, rng2_ap, dRange_1, dRange_2, dRange3_ap, ownB_ap, ownT_ap, ownN_ap, eqI_ap, isC_y, il_int, il_bl, il_str, il_non, il_tup, il_lst, il_armD, il_ins, il_dic, il_ar, il_rig, Bool.false_eq_true, if_false, if_true, Res.bind_ok, Res.bind_bad, Res.out_ok, Res.out_bad, Res.calm_ok, List.map_cons, List.map_nil, List.length_cons, List.length_nil, Nat.reduceAdd, Nat.reduceSub, List.replicate, List.cons_append, List.nil_append, List.getElem?_cons_zero, List.getElem?_cons_succ, List.set_cons_succ, List.set_cons_zero, Bool.true_and, Bool.and_true, Bool.not_false, Bool.not_true, List.contains_nil, Option.bind_some, for_ap, lc_ap, Nat.reduceEqDiff, Nat.reduceLeDiff, Bool.false_xor, Bool.true_xor, and_self, decide_true, decide_false, List.lookup, List.all_cons, List.all_nil, List.contains_cons, Nat.reduceBEq, Bool.or_false, Bool.false_or, Bool.or_true, Bool.true_or, beq_self_eq_true, List.contains_nil, il_pl]
    rw [e0]
    simp only [raise_ap, raiseI_ap, calmF_ap, le_line, lt_line, var_ap, c_ap, op_ap, un_ap, b_ap, and_ap, or_ap, not_ap, if_ap, andV_ap, orV_ap, ch_ap, nil_ap, cons_ap, star_ap, tup_ap, lst_ap, arm_ap, cb_ap, noPart_ap, part_ap, sl_ap, slL_ap, call_ap, callL_ap, mk_ap, fld_ap, prop_ap, meth_ap, callI_ap, get2_ap, dnew_ap, it_ap, itA_ap, yes_ap, next_ap, seq_ap, set_ap, setO_ap, drop_ap, ret_ap, retN_ap, brk_ap, cnt_ap, never_ap, ifS_ap, aug_ap, app_ap, ext_ap, pop_ap, par_ap, asg_ap, dset_ap, stF_ap, stF2_ap, fldL_ap, see_f, see_g, okM_f, okM_g, okR_f, okR_g, okO_f, okO_g, hide_nil, hide_cons, setAll_cons, setAll_nil, wipe_nil, wipe_cons, runB_ap, runL_ap, startL_ap, startD_ap, out1_nx, out1_rt, dName_ap, dGTup_ap, dGLst_ap, dGCons_ap, dGNil_ap, dAdd_ap, dSub_ap, dMul_ap, dFdiv_ap, dMod_ap, dLt_ap, dLe_ap, dGt_ap, dGe_ap, bOf_ap, dNeg_ap, dNot_ap, eqS_int, eqS_bl, eqS_str, dInt1_ap, dInt1_bl, dMax2_ap, dMin2_ap, dAbs_ap, dSum_ap, dAny_ap, dAll_ap, dLen_l, dLen_t, dLen_a, dIx_l, dIx_t, dIx_a, dTup_ap, dLst_ap, dArm_ap, dList_l, dList_t, dTupl_ap, dTupA_ap, lstOf_ap, tupOf_t, tupOf_a, itemsOf_t, itemsOf_l, dSl_l, dSl_t, dSlL_ap, dCatL_ap, dIsN_ap, rng1_ap, rng2_ap, dRange_1, dRange_2, dRange3_ap, ownB_ap, ownT_ap, ownN_ap, eqI_ap, isC_y, il_int, il_bl, il_str, il_non, il_tup, il_lst, il_armD, il_ins, il_dic, il_ar, il_rig, Bool.false_eq_true, if_false, if_true, Res.bind_ok, Res.bind_bad, Res.out_ok, Res.out_bad, Res.calm_ok, List.map_cons, List.map_nil, List.length_cons, List.length_nil, Nat.reduceAdd, Nat.reduceSub, List.replicate, List.cons_append, List.nil_append, List.getElem?_cons_zero, List.getElem?_cons_succ, List.set_cons_succ, List.set_cons_zero, Bool.true_and, Bool.and_true, Bool.not_false, Bool.not_true, List.contains_nil, Option.bind_some, for_ap, lc_ap, Nat.reduceEqDiff, Nat.reduceLeDiff, Bool.false_xor, Bool.true_xor, and_self, decide_true, decide_false, List.lookup, List.all_cons, List.all_nil, List.contains_cons, Nat.reduceBEq, Bool.or_false, Bool.false_or, Bool.or_true, Bool.true_or, beq_self_eq_true, List.contains_nil, eqD_pl, il_pl, isNextR]
  | [a] =>
    have hd : decide ([a] = []) = false := by simp
    have e1 : plL [a] = [.int a] := rfl
    simp only [raise_ap, raiseI_ap, calmF_ap, le_line, lt_line, var_ap, c_ap, op_ap, un_ap, b_ap, and_ap, or_ap, not_ap, if_ap, andV_ap, orV_ap, ch_ap, nil_ap, cons_ap, star_ap, tup_ap, lst_ap, arm_ap, cb_ap, noPart_ap, part_ap, sl_ap, slL_ap, call_ap, callL_ap, mk_ap, fld_ap, prop_ap, meth_ap, callI_ap, get2_ap, dnew_ap, it_ap, itA_ap, yes_ap, next_ap, seq_ap, set_ap, setO_ap, drop_ap, ret_ap, retN_ap, brk_ap, cnt_ap, never_ap, ifS_ap, aug_ap, app_ap, ext_ap, pop_ap, par_ap, asg_ap, dset_ap, stF_ap, stF2_ap, fldL_ap, see_f, see_g, okM_f, okM_g, okR_f, okR_g, okO_f, okO_g, hide_nil, hide_cons, setAll_cons, setAll_nil, wipe_nil, wipe_cons, runB_ap, runL_ap, startL_ap, startD_ap, out1_nx, out1_rt, dName_ap, dGTup_ap, dGLst_ap, dGCons_ap, dGNil_ap, dAdd_ap, dSub_ap, dMul_ap, dFdiv_ap, dMod_ap, dLt_ap, dLe_ap, dGt_ap, dGe_ap, bOf_ap, dNeg_ap, dNot_ap, eqS_int, eqS_bl, eqS_str, dInt1_ap, dInt1_bl, dMax2_ap, dMin2_ap, dAbs_ap, dSum_ap, dAny_ap, dAll_ap, dLen_l, dLen_t, dLen_a, dIx_l, dIx_t, dIx_a, dTup_ap, dLst_ap, dArm_ap, dList_l, dList_t, dTupl_ap, dTupA_ap, lstOf_ap, tupOf_t, tupOf_a, itemsOf_t, itemsOf_l, dSl_l, dSl_t, dSlL_ap, dCatL_ap, dIsN_ap, rng1_ap, rng2_ap, dRange_1, dRange_2, dRange3_ap, ownB_ap, ownT_ap, ownN_ap, eqI_ap, isC_y, il_int, il_bl, il_str, il_non, il_tup, il_lst, il_armD, il_ins, il_dic, il_ar, il_rig, Bool.false_eq_true, if_false, if_true, Res.bind_ok, Res.bind_bad, Res.out_ok, Res.out_bad, Res.calm_ok, List.map_cons, List.map_nil, List.length_cons, List.length_nil, Nat.reduceAdd, Nat.reduceSub, List.replicate, List.cons_append, List.nil_append, List.getElem?_cons_zero, List.getElem?_cons_succ, List.set_cons_succ, List.set_cons_zero, Bool.true_and, Bool.and_true, Bool.not_false, Bool.not_true, List.contains_nil, Option.bind_some, for_ap, lc_ap, Nat.reduceEqDiff, Nat.reduceLeDiff, Bool.false_xor, Bool.true_xor, and_self, decide_true, decide_false, List.lookup, List.all_cons, List.all_nil, List.contains_cons, Nat.reduceBEq, Bool.or_false, Bool.false_or, Bool.or_true, Bool.true_or, beq_self_eq_true, List.contains_nil, il_pl]
    rw [e0]
    simp only [raise_ap, raiseI_ap, calmF_ap, le_line, lt_line, var_ap, c_ap, op_ap, un_ap, b_ap, and_ap, or_ap, not_ap, if_ap, andV_ap, orV_ap, ch_ap, nil_ap, cons_ap, star_ap, tup_ap, lst_ap, arm_ap, cb_ap, noPart_ap, part_ap, sl_ap, slL_ap, call_ap, callL_ap, mk_ap, fld_ap, prop_ap, meth_ap, callI_ap, get2_ap, dnew_ap, it_ap, itA_ap, yes_ap, next_ap, seq_ap, set_ap, setO_ap, drop_ap, ret_ap, retN_ap, brk_ap, cnt_ap, never_ap, ifS_ap, aug_ap, app_ap, ext_ap, pop_ap, par_ap, asg_ap, dset_ap, stF_ap, stF2_ap, fldL_ap, see_f, see_g, okM_f, okM_g, okR_f, okR_g, okO_f, okO_g, hide_nil, hide_cons, setAll_cons, setAll_nil, wipe_nil, wipe_cons, runB_ap, runL_ap, startL_ap, startD_ap, out1_nx, out1_rt, dName_ap, dGTup_ap, dGLst_ap, dGCons_ap, dGNil_ap, dAdd_ap, dSub_ap, dMul_ap, dFdiv_ap, dMod_ap, dLt_ap, dLe_ap, dGt_ap, dGe_ap, bOf_ap, dNeg_ap, dNot_ap, eqS_int, eqS_bl, eqS_str, dInt1_ap, dInt1_bl, dMax2_ap, dMin2_ap, dAbs_ap, dSum_ap, dAny_ap, dAll_ap, dLen_l, dLen_t, dLen_a, dIx_l, dIx_t, dIx_a, dTup_ap, dLst_ap, dArm_ap, dList_l, dList_t, dTupl_ap, dTupA_ap, lstOf_ap, tupOf_t, tupOf_a, itemsOf_t, itemsOf_l, dSl_l, dSl_t, dSlL_ap, dCatL_ap, dIsN_ap, rng1_ap, rng2_ap, dRange_1, dRange_2, dRange3_ap, ownB_ap, ownT_ap, ownN_ap, eqI_ap, isC_y, il_int, il_bl, il_str, il_non, il_tup, il_lst, il_armD, il_ins, il_dic, il_ar, il_rig, Bool.false_eq_true, if_false, if_true, Res.bind_ok, Res.bind_bad, Res.out_ok, Res.out_bad, Res.calm_ok, List.map_cons, List.map_nil, List.length_cons, List.length_nil, Nat.reduceAdd, Nat.reduceSub, List.replicate, List.cons_append, List.nil_append, List.getElem?_cons_zero, List.getElem?_cons_succ, List.set_cons_succ, List.set_cons_zero, Bool.true_and, Bool.and_true, Bool.not_false, Bool.not_true, List.contains_nil, Option.bind_some, for_ap, lc_ap, Nat.reduceEqDiff, Nat.reduceLeDiff, Bool.false_xor, Bool.true_xor, and_self, decide_true, decide_false, List.lookup, List.all_cons, List.all_nil, List.contains_cons, Nat.reduceBEq, Bool.or_false, Bool.false_or, Bool.or_true, Bool.true_or, beq_self_eq_true, List.contains_nil, eqD_pl, il_pl, hd]
    unfold plD
    simp only [raise_ap, raiseI_ap, calmF_ap, le_line, lt_line, var_ap, c_ap, op_ap, un_ap, b_ap, and_ap, or_ap, not_ap, if_ap, andV_ap, orV_ap, ch_ap, nil_ap, cons_ap, star_ap, tup_ap, lst_ap, arm_ap, cb_ap, noPart_ap, part_ap, sl_ap, slL_ap, call_ap, callL_ap, mk_ap, fld_ap, prop_ap, meth_ap, callI_ap, get2_ap, dnew_ap, it_ap, itA_ap, yes_ap, next_ap, seq_ap, set_ap, setO_ap, drop_ap, ret_ap, retN_ap, brk_ap, cnt_ap, never_ap, ifS_ap, aug_ap, app_ap, ext_ap, pop_ap, par_ap, asg_ap, dset_ap, stF_ap, stF2_ap, fldL_ap, see_f, see_g, okM_f, okM_g, okR_f, okR_g, okO_f, okO_g, hide_nil, hide_cons, setAll_cons, setAll_nil, wipe_nil, wipe_cons, runB_ap, runL_ap, startL_ap, startD_ap, out1_nx, out1_rt, dName_ap, dGTup_ap, dGLst_ap, dGCons_ap, dGNil_ap, dAdd_ap, dSub_ap, dMul_ap, dFdiv_ap, dMod_ap, dLt_ap, dLe_ap, dGt_ap, dGe_ap, bOf_ap, dNeg_ap, dNot_ap, eqS_int, eqS_bl, eqS_str, dInt1_ap, dInt1_bl, dMax2_ap, dMin2_ap, dAbs_ap, dSum_ap, dAny_ap, dAll_ap, dLen_l, dLen_t, dLen_a, dIx_l, dIx_t, dIx_a, dTup_ap, dLst_ap, dArm_ap, dList_l, dList_t, dTupl_ap, dTupA_ap, lstOf_ap, tupOf_t, tupOf_a, itemsOf_t, itemsOf_l, dSl_l, dSl_t, dSlL_ap, dCatL_ap, dIsN_ap, rng1_ap, rng2_ap, dRange_1, dRange_2, dRange3_ap, ownB_ap, ownT_ap, ownN_ap, eqI_ap, isC_y, il_int, il_bl, il_str, il_non, il_tup, il_lst, il_armD, il_ins, il_dic, il_ar, il_rig, Bool.false_eq_true, if_false, if_true, Res.bind_ok, Res.bind_bad, Res.out_ok, Res.out_bad, Res.calm_ok, List.map_cons, List.map_nil, List.length_cons, List.length_nil, Nat.reduceAdd, Nat.reduceSub, List.replicate, List.cons_append, List.nil_append, List.getElem?_cons_zero, List.getElem?_cons_succ, List.set_cons_succ, List.set_cons_zero, Bool.true_and, Bool.and_true, Bool.not_false, Bool.not_true, List.contains_nil, Option.bind_some, for_ap, lc_ap, Nat.reduceEqDiff, Nat.reduceLeDiff, Bool.false_xor, Bool.true_xor, and_self, decide_true, decide_false, List.lookup, List.all_cons, List.all_nil, List.contains_cons, Nat.reduceBEq, Bool.or_false, Bool.false_or, Bool.or_true, Bool.true_or, beq_self_eq_true, List.contains_nil, e1, at0]
    simp [isNextR, out1]
  | b :: a :: r =>
    have hd : decide (b :: a :: r = []) = false := by simp
    simp only [raise_ap, raiseI_ap, calmF_ap, le_line, lt_line, var_ap, c_ap, op_ap, un_ap, b_ap, and_ap, or_ap, not_ap, if_ap, andV_ap, orV_ap, ch_ap, nil_ap, cons_ap, star_ap, tup_ap, lst_ap, arm_ap, cb_ap, noPart_ap, part_ap, sl_ap, slL_ap, call_ap, callL_ap, mk_ap, fld_ap, prop_ap, meth_ap, callI_ap, get2_ap, dnew_ap, it_ap, itA_ap, yes_ap, next_ap, seq_ap, set_ap, setO_ap, drop_ap, ret_ap, retN_ap, brk_ap, cnt_ap, never_ap, ifS_ap, aug_ap, app_ap, ext_ap, pop_ap, par_ap, asg_ap, dset_ap, stF_ap, stF2_ap, fldL_ap, see_f, see_g, okM_f, okM_g, okR_f, okR_g, okO_f, okO_g, hide_nil, hide_cons, setAll_cons, setAll_nil, wipe_nil, wipe_cons, runB_ap, runL_ap, startL_ap, startD_ap, out1_nx, out1_rt, dName_ap, dGTup_ap, dGLst_ap, dGCons_ap, dGNil_ap, dAdd_ap, dSub_ap, dMul_ap, dFdiv_ap, dMod_ap, dLt_ap, dLe_ap, dGt_ap, dGe_ap, bOf_ap, dNeg_ap, dNot_ap, eqS_int, eqS_bl, eqS_str, dInt1_ap, dInt1_bl, dMax2_ap, dMin2_ap, dAbs_ap, dSum_ap, dAny_ap, dAll_ap, dLen_l, dLen_t, dLen_a, dIx_l, dIx_t, dIx_a, dTup_ap, dLst_ap, dArm_ap, dList_l, dList_t, dTupl_ap, dTupA_ap, lstOf_ap, tupOf_t, tupOf_a, itemsOf_t, itemsOf_l, dSl_l, dSl_t, dSlL_ap, dCatL_ap, dIsN_ap, rng1_ap, rng2_ap, dRange_1, dRange_2, dRange3_ap, ownB_ap, ownT_ap, ownN_ap, eqI_ap, isC_y, il_int, il_bl, il_str, il_non, il_tup, il_lst, il_armD, il_ins, il_dic, il_ar, il_rig, Bool.false_eq_true, if_false, if_true, Res.bind_ok, Res.bind_bad, Res.out_ok, Res.out_bad, Res.calm_ok, List.map_cons, List.map_nil, List.length_cons, List.length_nil, Nat.reduceAdd, Nat.reduceSub, List.replicate, List.cons_append, List.nil_append, List.getElem?_cons_zero, List.getElem?_cons_succ, List.set_cons_succ, List.set_cons_zero, Bool.true_and, Bool.and_true, Bool.not_false, Bool.not_true, List.contains_nil, Option.bind_some, for_ap, lc_ap, Nat.reduceEqDiff, Nat.reduceLeDiff, Bool.false_xor, Bool.true_xor, and_self, decide_true, decide_false, List.lookup, List.all_cons, List.all_nil, List.contains_cons, Nat.reduceBEq, Bool.or_false, Bool.false_or, Bool.or_true, Bool.true_or, beq_self_eq_true, List.contains_nil, il_pl]
    rw [e0]
    simp only [raise_ap, raiseI_ap, calmF_ap, le_line, lt_line, var_ap, c_ap, op_ap, un_ap, b_ap, and_ap, or_ap, not_ap, if_ap, andV_ap, orV_ap, ch_ap, nil_ap, cons_ap, star_ap, tup_ap, lst_ap, arm_ap, cb_ap, noPart_ap, part_ap, sl_ap, slL_ap, call_ap, callL_ap, mk_ap, fld_ap, prop_ap, meth_ap, callI_ap, get2_ap, dnew_ap, it_ap, itA_ap, yes_ap, next_ap, seq_ap, set_ap, setO_ap, drop_ap, ret_ap, retN_ap, brk_ap, cnt_ap, never_ap, ifS_ap, aug_ap, app_ap, ext_ap, pop_ap, par_ap, asg_ap, dset_ap, stF_ap, stF2_ap, fldL_ap, see_f, see_g, okM_f, okM_g, okR_f, okR_g, okO_f, okO_g, hide_nil, hide_cons, setAll_cons, setAll_nil, wipe_nil, wipe_cons, runB_ap, runL_ap, startL_ap, startD_ap, out1_nx, out1_rt, dName_ap, dGTup_ap, dGLst_ap, dGCons_ap, dGNil_ap, dAdd_ap, dSub_ap, dMul_ap, dFdiv_ap, dMod_ap, dLt_ap, dLe_ap, dGt_ap, dGe_ap, bOf_ap, dNeg_ap, dNot_ap, eqS_int, eqS_bl, eqS_str, dInt1_ap, dInt1_bl, dMax2_ap, dMin2_ap, dAbs_ap, dSum_ap, dAny_ap, dAll_ap, dLen_l, dLen_t, dLen_a, dIx_l, dIx_t, dIx_a, dTup_ap, dLst_ap, dArm_ap, dList_l, dList_t, dTupl_ap, dTupA_ap, lstOf_ap, tupOf_t, tupOf_a, itemsOf_t, itemsOf_l, dSl_l, dSl_t, dSlL_ap, dCatL_ap, dIsN_ap, rng1_ap, rng2_ap, dRange_1, dRange_2, dRange3_ap, ownB_ap, ownT_ap, ownN_ap, eqI_ap, isC_y, il_int, il_bl, il_str, il_non, il_tup, il_lst, il_armD, il_ins, il_dic, il_ar, il_rig, Bool.false_eq_true, if_false, if_true, Res.bind_ok, Res.bind_bad, Res.out_ok, Res.out_bad, Res.calm_ok, List.map_cons, List.map_nil, List.length_cons, List.length_nil, Nat.reduceAdd, Nat.reduceSub, List.replicate, List.cons_append, List.nil_append, List.getElem?_cons_zero, List.getElem?_cons_succ, List.set_cons_succ, List.set_cons_zero, Bool.true_and, Bool.and_true, Bool.not_false, Bool.not_true, List.contains_nil, Option.bind_some, for_ap, lc_ap, Nat.reduceEqDiff, Nat.reduceLeDiff, Bool.false_xor, Bool.true_xor, and_self, decide_true, decide_false, List.lookup, List.all_cons, List.all_nil, List.contains_cons, Nat.reduceBEq, Bool.or_false, Bool.false_or, Bool.or_true, Bool.true_or, beq_self_eq_true, List.contains_nil, eqD_pl, il_pl, hd]
    unfold plD
    have hne : ¬ (((r.length + 1 + 1 : Nat) : Int) = 1) := by omega
    have e1 : Pv.cutD (plL (b :: a :: r)) (some (-2)) none = [.int a, .int b] := by rw [plL_cons2, cut_l2]
    simp only [raise_ap, raiseI_ap, calmF_ap, le_line, lt_line, var_ap, c_ap, op_ap, un_ap, b_ap, and_ap, or_ap, not_ap, if_ap, andV_ap, orV_ap, ch_ap, nil_ap, cons_ap, star_ap, tup_ap, lst_ap, arm_ap, cb_ap, noPart_ap, part_ap, sl_ap, slL_ap, call_ap, callL_ap, mk_ap, fld_ap, prop_ap, meth_ap, callI_ap, get2_ap, dnew_ap, it_ap, itA_ap, yes_ap, next_ap, seq_ap, set_ap, setO_ap, drop_ap, ret_ap, retN_ap, brk_ap, cnt_ap, never_ap, ifS_ap, aug_ap, app_ap, ext_ap, pop_ap, par_ap, asg_ap, dset_ap, stF_ap, stF2_ap, fldL_ap, see_f, see_g, okM_f, okM_g, okR_f, okR_g, okO_f, okO_g, hide_nil, hide_cons, setAll_cons, setAll_nil, wipe_nil, wipe_cons, runB_ap, runL_ap, startL_ap, startD_ap, out1_nx, out1_rt, dName_ap, dGTup_ap, dGLst_ap, dGCons_ap, dGNil_ap, dAdd_ap, dSub_ap, dMul_ap, dFdiv_ap, dMod_ap, dLt_ap, dLe_ap, dGt_ap, dGe_ap, bOf_ap, dNeg_ap, dNot_ap, eqS_int, eqS_bl, eqS_str, dInt1_ap, dInt1_bl, dMax2_ap, dMin2_ap, dAbs_ap, dSum_ap, dAny_ap, dAll_ap, dLen_l, dLen_t, dLen_a, dIx_l, dIx_t, dIx_a, dTup_ap, dLst_ap, dArm_ap, dList_l, dList_t, dTupl_ap, dTupA_ap, lstOf_ap, tupOf_t, tupOf_a, itemsOf_t, itemsOf_l, dSl_l, dSl_t, dSlL_ap, dCatL_ap, dIsN_ap, rng1_ap, rng2_ap, dRange_1, dRange_2, dRange3_ap, ownB_ap, ownT_ap, ownN_ap, eqI_ap, isC_y, il_int, il_bl, il_str, il_non, il_tup, il_lst, il_armD, il_ins, il_dic, il_ar, il_rig, Bool.false_eq_true, if_false, if_true, Res.bind_ok, Res.bind_bad, Res.out_ok, Res.out_bad, Res.calm_ok, List.map_cons, List.map_nil, List.length_cons, List.length_nil, Nat.reduceAdd, Nat.reduceSub, List.replicate, List.cons_append, List.nil_append, List.getElem?_cons_zero, List.getElem?_cons_succ, List.set_cons_succ, List.set_cons_zero, Bool.true_and, Bool.and_true, Bool.not_false, Bool.not_true, List.contains_nil, Option.bind_some, for_ap, lc_ap, Nat.reduceEqDiff, Nat.reduceLeDiff, Bool.false_xor, Bool.true_xor, and_self, decide_true, decide_false, List.lookup, List.all_cons, List.all_nil, List.contains_cons, Nat.reduceBEq, Bool.or_false, Bool.false_or, Bool.or_true, Bool.true_or, beq_self_eq_true, List.contains_nil, plL_len, hne, e1, dMinU, dMaxU, intsOf, Option.map_some, loI, hiI, isNextR]
    by_cases hm : min a b < p
    · simp only [hm, raise_ap, raiseI_ap, calmF_ap, le_line, lt_line, var_ap, c_ap, op_ap, un_ap, b_ap, and_ap, or_ap, not_ap, if_ap, andV_ap, orV_ap, ch_ap, nil_ap, cons_ap, star_ap, tup_ap, lst_ap, arm_ap, cb_ap, noPart_ap, part_ap, sl_ap, slL_ap, call_ap, callL_ap, mk_ap, fld_ap, prop_ap, meth_ap, callI_ap, get2_ap, dnew_ap, it_ap, itA_ap, yes_ap, next_ap, seq_ap, set_ap, setO_ap, drop_ap, ret_ap, retN_ap, brk_ap, cnt_ap, never_ap, ifS_ap, aug_ap, app_ap, ext_ap, pop_ap, par_ap, asg_ap, dset_ap, stF_ap, stF2_ap, fldL_ap, see_f, see_g, okM_f, okM_g, okR_f, okR_g, okO_f, okO_g, hide_nil, hide_cons, setAll_cons, setAll_nil, wipe_nil, wipe_cons, runB_ap, runL_ap, startL_ap, startD_ap, out1_nx, out1_rt, dName_ap, dGTup_ap, dGLst_ap, dGCons_ap, dGNil_ap, dAdd_ap, dSub_ap, dMul_ap, dFdiv_ap, dMod_ap, dLt_ap, dLe_ap, dGt_ap, dGe_ap, bOf_ap, dNeg_ap, dNot_ap, eqS_int, eqS_bl, eqS_str, dInt1_ap, dInt1_bl, dMax2_ap, dMin2_ap, dAbs_ap, dSum_ap, dAny_ap, dAll_ap, dLen_l, dLen_t, dLen_a, dIx_l, dIx_t, dIx_a, dTup_ap, dLst_ap, dArm_ap, dList_l, dList_t, dTupl_ap, dTupA_ap, lstOf_ap, tupOf_t, tupOf_a, itemsOf_t, itemsOf_l, dSl_l, dSl_t, dSlL_ap, dCatL_ap, dIsN_ap, rng1_ap, rng2_ap, dRange_1, dRange_2, dRange3_ap, ownB_ap, ownT_ap, ownN_ap, eqI_ap, isC_y, il_int, il_bl, il_str, il_non, il_tup, il_lst, il_armD, il_ins, il_dic, il_ar, il_rig, Bool.false_eq_true, if_false, if_true, Res.bind_ok, Res.bind_bad, Res.out_ok, Res.out_bad, Res.calm_ok, List.map_cons, List.map_nil, List.length_cons, List.length_nil, Nat.reduceAdd, Nat.reduceSub, List.replicate, List.cons_append, List.nil_append, List.getElem?_cons_zero, List.getElem?_cons_succ, List.set_cons_succ, List.set_cons_zero, Bool.true_and, Bool.and_true, Bool.not_false, Bool.not_true, List.contains_nil, Option.bind_some, for_ap, lc_ap, Nat.reduceEqDiff, Nat.reduceLeDiff, Bool.false_xor, Bool.true_xor, and_self, decide_true, decide_false, List.lookup, List.all_cons, List.all_nil, List.contains_cons, Nat.reduceBEq, Bool.or_false, Bool.false_or, Bool.or_true, Bool.true_or, beq_self_eq_true, List.contains_nil]
    · simp only [hm, raise_ap, raiseI_ap, calmF_ap, le_line, lt_line, var_ap, c_ap, op_ap, un_ap, b_ap, and_ap, or_ap, not_ap, if_ap, andV_ap, orV_ap, ch_ap, nil_ap, cons_ap, star_ap, tup_ap, lst_ap, arm_ap, cb_ap, noPart_ap, part_ap, sl_ap, slL_ap, call_ap, callL_ap, mk_ap, fld_ap, prop_ap, meth_ap, callI_ap, get2_ap, dnew_ap, it_ap, itA_ap, yes_ap, next_ap, seq_ap, set_ap, setO_ap, drop_ap, ret_ap, retN_ap, brk_ap, cnt_ap, never_ap, ifS_ap, aug_ap, app_ap, ext_ap, pop_ap, par_ap, asg_ap, dset_ap, stF_ap, stF2_ap, fldL_ap, see_f, see_g, okM_f, okM_g, okR_f, okR_g, okO_f, okO_g, hide_nil, hide_cons, setAll_cons, setAll_nil, wipe_nil, wipe_cons, runB_ap, runL_ap, startL_ap, startD_ap, out1_nx, out1_rt, dName_ap, dGTup_ap, dGLst_ap, dGCons_ap, dGNil_ap, dAdd_ap, dSub_ap, dMul_ap, dFdiv_ap, dMod_ap, dLt_ap, dLe_ap, dGt_ap, dGe_ap, bOf_ap, dNeg_ap, dNot_ap, eqS_int, eqS_bl, eqS_str, dInt1_ap, dInt1_bl, dMax2_ap, dMin2_ap, dAbs_ap, dSum_ap, dAny_ap, dAll_ap, dLen_l, dLen_t, dLen_a, dIx_l, dIx_t, dIx_a, dTup_ap, dLst_ap, dArm_ap, dList_l, dList_t, dTupl_ap, dTupA_ap, lstOf_ap, tupOf_t, tupOf_a, itemsOf_t, itemsOf_l, dSl_l, dSl_t, dSlL_ap, dCatL_ap, dIsN_ap, rng1_ap, rng2_ap, dRange_1, dRange_2, dRange3_ap, ownB_ap, ownT_ap, ownN_ap, eqI_ap, isC_y, il_int, il_bl, il_str, il_non, il_tup, il_lst, il_armD, il_ins, il_dic, il_ar, il_rig, Bool.false_eq_true, if_false, if_true, Res.bind_ok, Res.bind_bad, Res.out_ok, Res.out_bad, Res.calm_ok, List.map_cons, List.map_nil, List.length_cons, List.length_nil, Nat.reduceAdd, Nat.reduceSub, List.replicate, List.cons_append, List.nil_append, List.getElem?_cons_zero, List.getElem?_cons_succ, List.set_cons_succ, List.set_cons_zero, Bool.true_and, Bool.and_true, Bool.not_false, Bool.not_true, List.contains_nil, Option.bind_some, for_ap, lc_ap, Nat.reduceEqDiff, Nat.reduceLeDiff, Bool.false_xor, Bool.true_xor, and_self, decide_true, decide_false, List.lookup, List.all_cons, List.all_nil, List.contains_cons, Nat.reduceBEq, Bool.or_false, Bool.false_or, Bool.or_true, Bool.true_or, beq_self_eq_true, List.contains_nil, Bool.false_and]
theorem pl_take (rs : List Int) (i : Nat) : plL (rs.drop (rs.length - i)) = (plL rs).take i := by
  unfold plL
  rw [← List.map_take, List.take_reverse]
theorem plD_enum (rs : List Int) : enD (plL rs) = (List.range rs.length).map fun i => .tup [.int (i : Int), .int (rs.reverse.getD i 0)] := by
  have := enD_range rs.reverse
  rw [List.length_reverse] at this
  exact this
theorem e_mem_init {rs : List Int} {R : Rs} (m : MemOk rs) : f_Memory_init R.length [plD rs] (R ++ [.ins "Memory" []]) = .ok .non (R ++ [memD rs]) := by
  unfold f_Memory_init m_Memory_init
  have e0 : D.tup [] = plD [] := rfl
  have hne : decide (rs = []) = false := by simp [m.1]
  have ek : ∀ R, dIsK .tup [plD rs, .ty "tuple"] R = .ok (.bl true) R := fun R => isK_tt
  have ee : ∀ R, enumT [plD rs] R = .ok (enD (plL rs)) R := fun R => rfl
  simp only [raise_ap, raiseI_ap, calmF_ap, le_line, lt_line, var_ap, c_ap, op_ap, un_ap, b_ap, and_ap, or_ap, not_ap, if_ap, andV_ap, orV_ap, ch_ap, nil_ap, cons_ap, star_ap, tup_ap, lst_ap, arm_ap, cb_ap, noPart_ap, part_ap, sl_ap, slL_ap, call_ap, callL_ap, mk_ap, fld_ap, prop_ap, meth_ap, callI_ap, get2_ap, dnew_ap, it_ap, itA_ap, yes_ap, next_ap, seq_ap, set_ap, setO_ap, drop_ap, ret_ap, retN_ap, brk_ap, cnt_ap, never_ap, ifS_ap, aug_ap, app_ap, ext_ap, pop_ap, par_ap, asg_ap, dset_ap, stF_ap, stF2_ap, fldL_ap, see_f, see_g, okM_f, okM_g, okR_f, okR_g, okO_f, okO_g, hide_nil, hide_cons, setAll_cons, setAll_nil, wipe_nil, wipe_cons, runB_ap, runL_ap, startL_ap, startD_ap, out1_nx, out1_rt, dName_ap, dGTup_ap, dGLst_ap, dGCons_ap, dGNil_ap, dAdd_ap, dSub_ap, dMul_ap, dFdiv_ap, dMod_ap, dLt_ap, dLe_ap, dGt_ap, dGe_ap, bOf_ap, dNeg_ap, dNot_ap, eqS_int, eqS_bl, eqS_str, dInt1_ap, dInt1_bl, dMax2_ap, dMin2_ap, dAbs_ap, dSum_ap, dAny_ap, dAll_ap, dLen_l, dLen_t, dLen_a, dIx_l, dIx_t, dIx_a, dTup_ap, dLst_ap, dArm_ap, dList_l, dList_t, dTupl_ap, dTupA_ap, lstOf_ap, tupOf_t, tupOf_a, itemsOf_t, itemsOf_l, dSl_l, dSl_t, dSlL_ap, dCatL_ap, dIsN_ap, rng1_ap, rng2_ap, dRange_1, dRange_2, dRange3_ap, ownB_ap, ownT_ap, ownN_ap, eqI_ap, isC_y, il_int, il_bl, il_str, il_non, il_tup, il_lst, il_armD, il_ins, il_dic, il_ar, il_rig, Bool.false_eq_true, if_false, if_true, Res.bind_ok, Res.bind_bad, Res.out_ok, Res.out_bad, Res.calm_ok, List.map_cons, List.map_nil, List.length_cons, List.length_nil, Nat.reduceAdd, Nat.reduceSub, List.replicate, List.cons_append, List.nil_append, List.getElem?_cons_zero, List.getElem?_cons_succ, List.set_cons_succ, List.set_cons_zero, Bool.true_and, Bool.and_true, Bool.not_false, Bool.not_true, List.contains_nil, Option.bind_some, for_ap, lc_ap, Nat.reduceEqDiff, Nat.reduceLeDiff, Bool.false_xor, Bool.true_xor, and_self, decide_true, decide_false, List.lookup, List.all_cons, List.all_nil, List.contains_cons, Nat.reduceBEq, Bool.or_false, Bool.false_or, Bool.or_true, Bool.true_or, beq_self_eq_true, List.contains_nil, il_pl, ek]
  rw [e0]
  simp only [raise_ap, raiseI_ap, calmF_ap, le_line, lt_line, var_ap, c_ap, op_ap, un_ap, b_ap, and_ap, or_ap, not_ap, if_ap, andV_ap, orV_ap, ch_ap, nil_ap, cons_ap, star_ap, tup_ap, lst_ap, arm_ap, cb_ap, noPart_ap, part_ap, sl_ap, slL_ap, call_ap, callL_ap, mk_ap, fld_ap, prop_ap, meth_ap, callI_ap, get2_ap, dnew_ap, it_ap, itA_ap, yes_ap, next_ap, seq_ap, set_ap, setO_ap, drop_ap, ret_ap, retN_ap, brk_ap, cnt_ap, never_ap, ifS_ap, aug_ap, app_ap, ext_ap, pop_ap, par_ap, asg_ap, dset_ap, stF_ap, stF2_ap, fldL_ap, see_f, see_g, okM_f, okM_g, okR_f, okR_g, okO_f, okO_g, hide_nil, hide_cons, setAll_cons, setAll_nil, wipe_nil, wipe_cons, runB_ap, runL_ap, startL_ap, startD_ap, out1_nx, out1_rt, dName_ap, dGTup_ap, dGLst_ap, dGCons_ap, dGNil_ap, dAdd_ap, dSub_ap, dMul_ap, dFdiv_ap, dMod_ap, dLt_ap, dLe_ap, dGt_ap, dGe_ap, bOf_ap, dNeg_ap, dNot_ap, eqS_int, eqS_bl, eqS_str, dInt1_ap, dInt1_bl, dMax2_ap, dMin2_ap, dAbs_ap, dSum_ap, dAny_ap, dAll_ap, dLen_l, dLen_t, dLen_a, dIx_l, dIx_t, dIx_a, dTup_ap, dLst_ap, dArm_ap, dList_l, dList_t, dTupl_ap, dTupA_ap, lstOf_ap, tupOf_t, tupOf_a, itemsOf_t, itemsOf_l, dSl_l, dSl_t, dSlL_ap, dCatL_ap, dIsN_ap, rng1_ap, rng2_ap, dRange_1, dRange_2, dRange3_ap, ownB_ap, ownT_ap, ownN_ap, eqI_ap, isC_y, il_int, il_bl, il_str, il_non, il_tup, il_lst, il_armD, il_ins, il_dic, il_ar, il_rig, Bool.false_eq_true, if_false, if_true, Res.bind_ok, Res.bind_bad, Res.out_ok, Res.out_bad, Res.calm_ok, List.map_cons, List.map_nil, List.length_cons, List.length_nil, Nat.reduceAdd, Nat.reduceSub, List.replicate, List.cons_append, List.nil_append, List.getElem?_cons_zero, List.getElem?_cons_succ, List.set_cons_succ, List.set_cons_zero, Bool.true_and, Bool.and_true, Bool.not_false, Bool.not_true, List.contains_nil, Option.bind_some, for_ap, lc_ap, Nat.reduceEqDiff, Nat.reduceLeDiff, Bool.false_xor, Bool.true_xor, and_self, decide_true, decide_false, List.lookup, List.all_cons, List.all_nil, List.contains_cons, Nat.reduceBEq, Bool.or_false, Bool.false_or, Bool.or_true, Bool.true_or, beq_self_eq_true, List.contains_nil, eqD_pl, il_pl, hne, ee, plD_enum]
  obtain ⟨ρ2, R2, h1, h2⟩ := loopG_range (T := dGTup 2 (dGCons (dName 2) (dGCons (dName 3) dGNil))) (n := rs.length) (enc := fun i : Nat => D.tup [.int (i : Int), .int (rs.reverse.getD i 0)])
    (b := gIfS .f [] (gOr (gNot (gB (gCall 1 f_is_place (Pv.gCons (gVar 3) Pv.gNil)))) (gNot (gB (gCall 2 f_is_next (Pv.gCons (gSl (gVar 1) gNoPart (gPart (gVar 2))) (Pv.gCons (gVar 3) Pv.gNil)))))) (gRaiseI "InvalidMemory" "index" (gVar 2)) gNext)
    (fun i ρ R1 => R1 = R ++ [.ins "Memory" []] ∧ ∃ u v, ρ = [some (.loc R.length), some (plD rs), u, v])
    (ρ := [some (.loc R.length), some (plD rs), none, none]) (R := R ++ [.ins "Memory" []]) ⟨rfl, none, none, rfl⟩ (by
      rintro i ρ R1 hi ⟨rfl, u, v, rfl⟩
      refine ⟨_, rfl, ?_⟩
      have hk := Mt.memV_at (k := rs.length - 1 - i) m.2 (by omega)
      have e1 : rs.reverse.getD i 0 = rs[rs.length - 1 - i] := by
        simp [List.getD, hi]
      have e2 : ∀ R, dSl (plD rs) none (some (i : Int)) R = .ok (plD (rs.drop (rs.length - i))) R := fun R => by
        unfold plD
        rw [dSl_t, cut_take, pl_take]
      have e3 : rs.length - 1 - i + 1 = rs.length - i := by omega
      rw [e3] at hk
      rw [e1]
      simp only [raise_ap, raiseI_ap, calmF_ap, le_line, lt_line, var_ap, c_ap, op_ap, un_ap, b_ap, and_ap, or_ap, not_ap, if_ap, andV_ap, orV_ap, ch_ap, nil_ap, cons_ap, star_ap, tup_ap, lst_ap, arm_ap, cb_ap, noPart_ap, part_ap, sl_ap, slL_ap, call_ap, callL_ap, mk_ap, fld_ap, prop_ap, meth_ap, callI_ap, get2_ap, dnew_ap, it_ap, itA_ap, yes_ap, next_ap, seq_ap, set_ap, setO_ap, drop_ap, ret_ap, retN_ap, brk_ap, cnt_ap, never_ap, ifS_ap, aug_ap, app_ap, ext_ap, pop_ap, par_ap, asg_ap, dset_ap, stF_ap, stF2_ap, fldL_ap, see_f, see_g, okM_f, okM_g, okR_f, okR_g, okO_f, okO_g, hide_nil, hide_cons, setAll_cons, setAll_nil, wipe_nil, wipe_cons, runB_ap, runL_ap, startL_ap, startD_ap, out1_nx, out1_rt, dName_ap, dGTup_ap, dGLst_ap, dGCons_ap, dGNil_ap, dAdd_ap, dSub_ap, dMul_ap, dFdiv_ap, dMod_ap, dLt_ap, dLe_ap, dGt_ap, dGe_ap, bOf_ap, dNeg_ap, dNot_ap, eqS_int, eqS_bl, eqS_str, dInt1_ap, dInt1_bl, dMax2_ap, dMin2_ap, dAbs_ap, dSum_ap, dAny_ap, dAll_ap, dLen_l, dLen_t, dLen_a, dIx_l, dIx_t, dIx_a, dTup_ap, dLst_ap, dArm_ap, dList_l, dList_t, dTupl_ap, dTupA_ap, lstOf_ap, tupOf_t, tupOf_a, itemsOf_t, itemsOf_l, dSl_l, dSl_t, dSlL_ap, dCatL_ap, dIsN_ap, rng1_ap, rng2_ap, dRange_1, dRange_2, dRange3_ap, ownB_ap, ownT_ap, ownN_ap, eqI_ap, isC_y, il_int, il_bl, il_str, il_non, il_tup, il_lst, il_armD, il_ins, il_dic, il_ar, il_rig, Bool.false_eq_true, if_false, if_true, Res.bind_ok, Res.bind_bad, Res.out_ok, Res.out_bad, Res.calm_ok, List.map_cons, List.map_nil, List.length_cons, List.length_nil, Nat.reduceAdd, Nat.reduceSub, List.replicate, List.cons_append, List.nil_append, List.getElem?_cons_zero, List.getElem?_cons_succ, List.set_cons_succ, List.set_cons_zero, Bool.true_and, Bool.and_true, Bool.not_false, Bool.not_true, List.contains_nil, Option.bind_some, for_ap, lc_ap, Nat.reduceEqDiff, Nat.reduceLeDiff, Bool.false_xor, Bool.true_xor, and_self, decide_true, decide_false, List.lookup, List.all_cons, List.all_nil, List.contains_cons, Nat.reduceBEq, Bool.or_false, Bool.false_or, Bool.or_true, Bool.true_or, beq_self_eq_true, List.contains_nil, il_pl, e2, e_is_place hk.1, e_is_next, hk.2]
      exact ⟨_, _, .inl rfl, rfl, _, _, rfl⟩)
  obtain ⟨rfl, u, v, rfl⟩ := h2
  simp only [h1, raise_ap, raiseI_ap, calmF_ap, le_line, lt_line, var_ap, c_ap, op_ap, un_ap, b_ap, and_ap, or_ap, not_ap, if_ap, andV_ap, orV_ap, ch_ap, nil_ap, cons_ap, star_ap, tup_ap, lst_ap, arm_ap, cb_ap, noPart_ap, part_ap, sl_ap, slL_ap, call_ap, callL_ap, mk_ap, fld_ap, prop_ap, meth_ap, callI_ap, get2_ap, dnew_ap, it_ap, itA_ap, yes_ap, next_ap, seq_ap, set_ap, setO_ap, drop_ap, ret_ap, retN_ap, brk_ap, cnt_ap, never_ap, ifS_ap, aug_ap, app_ap, ext_ap, pop_ap, par_ap, asg_ap, dset_ap, stF_ap, stF2_ap, fldL_ap, see_f, see_g, okM_f, okM_g, okR_f, okR_g, okO_f, okO_g, hide_nil, hide_cons, setAll_cons, setAll_nil, wipe_nil, wipe_cons, runB_ap, runL_ap, startL_ap, startD_ap, out1_nx, out1_rt, dName_ap, dGTup_ap, dGLst_ap, dGCons_ap, dGNil_ap, dAdd_ap, dSub_ap, dMul_ap, dFdiv_ap, dMod_ap, dLt_ap, dLe_ap, dGt_ap, dGe_ap, bOf_ap, dNeg_ap, dNot_ap, eqS_int, eqS_bl, eqS_str, dInt1_ap, dInt1_bl, dMax2_ap, dMin2_ap, dAbs_ap, dSum_ap, dAny_ap, dAll_ap, dLen_l, dLen_t, dLen_a, dIx_l, dIx_t, dIx_a, dTup_ap, dLst_ap, dArm_ap, dList_l, dList_t, dTupl_ap, dTupA_ap, lstOf_ap, tupOf_t, tupOf_a, itemsOf_t, itemsOf_l, dSl_l, dSl_t, dSlL_ap, dCatL_ap, dIsN_ap, rng1_ap, rng2_ap, dRange_1, dRange_2, dRange3_ap, ownB_ap, ownT_ap, ownN_ap, eqI_ap, isC_y, il_int, il_bl, il_str, il_non, il_tup, il_lst, il_armD, il_ins, il_dic, il_ar, il_rig, Bool.false_eq_true, if_false, if_true, Res.bind_ok, Res.bind_bad, Res.out_ok, Res.out_bad, Res.calm_ok, List.map_cons, List.map_nil, List.length_cons, List.length_nil, Nat.reduceAdd, Nat.reduceSub, List.replicate, List.cons_append, List.nil_append, List.getElem?_cons_zero, List.getElem?_cons_succ, List.set_cons_succ, List.set_cons_zero, Bool.true_and, Bool.and_true, Bool.not_false, Bool.not_true, List.contains_nil, Option.bind_some, for_ap, lc_ap, Nat.reduceEqDiff, Nat.reduceLeDiff, Bool.false_xor, Bool.true_xor, and_self, decide_true, decide_false, List.lookup, List.all_cons, List.all_nil, List.contains_cons, Nat.reduceBEq, Bool.or_false, Bool.false_or, Bool.or_true, Bool.true_or, beq_self_eq_true, List.contains_nil, il_pl]
  simp [memD, putFD, out1]
theorem mk_mem {rs : List Int} {R : Rs} (m : MemOk rs) : mkEnd "Memory" R.length (f_Memory_init R.length [plD rs] (R ++ [.ins "Memory" []])) = .ok (memD rs) R := by
  rw [e_mem_init m]; exact mkEnd_ok rfl
theorem mem_told {rs : List Int} : (List.lookup ("told" : Str) [(("told" : Str), plD rs)]) = some (plD rs) := by simp [List.lookup]
theorem e_mem_places {rs : List Int} {R : Rs} : f_Memory_places [memD rs] R = .ok (plD rs) R := by
  unfold f_Memory_places
  refine pureF_ok ?_
  unfold m_Memory_places memD
  simp only [raise_ap, raiseI_ap, calmF_ap, le_line, lt_line, var_ap, c_ap, op_ap, un_ap, b_ap, and_ap, or_ap, not_ap, if_ap, andV_ap, orV_ap, ch_ap, nil_ap, cons_ap, star_ap, tup_ap, lst_ap, arm_ap, cb_ap, noPart_ap, part_ap, sl_ap, slL_ap, call_ap, callL_ap, mk_ap, fld_ap, prop_ap, meth_ap, callI_ap, get2_ap, dnew_ap, it_ap, itA_ap, yes_ap, next_ap, seq_ap, set_ap, setO_ap, drop_ap, ret_ap, retN_ap, brk_ap, cnt_ap, never_ap, ifS_ap, aug_ap, app_ap, ext_ap, pop_ap, par_ap, asg_ap, dset_ap, stF_ap, stF2_ap, fldL_ap, see_f, see_g, okM_f, okM_g, okR_f, okR_g, okO_f, okO_g, hide_nil, hide_cons, setAll_cons, setAll_nil, wipe_nil, wipe_cons, runB_ap, runL_ap, startL_ap, startD_ap, out1_nx, out1_rt, dName_ap, dGTup_ap, dGLst_ap, dGCons_ap, dGNil_ap, dAdd_ap, dSub_ap, dMul_ap, dFdiv_ap, dMod_ap, dLt_ap, dLe_ap, dGt_ap, dGe_ap, bOf_ap, dNeg_ap, dNot_ap, eqS_int, eqS_bl, eqS_str, dInt1_ap, dInt1_bl, dMax2_ap, dMin2_ap, dAbs_ap, dSum_ap, dAny_ap, dAll_ap, dLen_l, dLen_t, dLen_a, dIx_l, dIx_t, dIx_a, dTup_ap, dLst_ap, dArm_ap, dList_l, dList_t, dTupl_ap, dTupA_ap, lstOf_ap, tupOf_t, tupOf_a, itemsOf_t, itemsOf_l, dSl_l, dSl_t, dSlL_ap, dCatL_ap, dIsN_ap, rng1_ap, rng2_ap, dRange_1, dRange_2, dRange3_ap, ownB_ap, ownT_ap, ownN_ap, eqI_ap, isC_y, il_int, il_bl, il_str, il_non, il_tup, il_lst, il_armD, il_ins, il_dic, il_ar, il_rig, Bool.false_eq_true, if_false, if_true, Res.bind_ok, Res.bind_bad, Res.out_ok, Res.out_bad, Res.calm_ok, List.map_cons, List.map_nil, List.length_cons, List.length_nil, Nat.reduceAdd, Nat.reduceSub, List.replicate, List.cons_append, List.nil_append, List.getElem?_cons_zero, List.getElem?_cons_succ, List.set_cons_succ, List.set_cons_zero, Bool.true_and, Bool.and_true, Bool.not_false, Bool.not_true, List.contains_nil, Option.bind_some, for_ap, lc_ap, Nat.reduceEqDiff, Nat.reduceLeDiff, Bool.false_xor, Bool.true_xor, and_self, decide_true, decide_false, List.lookup, List.all_cons, List.all_nil, List.contains_cons, Nat.reduceBEq, Bool.or_false, Bool.false_or, Bool.or_true, Bool.true_or, beq_self_eq_true, List.contains_nil, mem_told]
theorem e_mem_place {a : Int} {r : List Int} {R : Rs} : f_Memory_place [memD (a :: r)] R = .ok (.int a) R := by
  unfold f_Memory_place
  refine pureF_ok ?_
  unfold m_Memory_place memD
  simp only [raise_ap, raiseI_ap, calmF_ap, le_line, lt_line, var_ap, c_ap, op_ap, un_ap, b_ap, and_ap, or_ap, not_ap, if_ap, andV_ap, orV_ap, ch_ap, nil_ap, cons_ap, star_ap, tup_ap, lst_ap, arm_ap, cb_ap, noPart_ap, part_ap, sl_ap, slL_ap, call_ap, callL_ap, mk_ap, fld_ap, prop_ap, meth_ap, callI_ap, get2_ap, dnew_ap, it_ap, itA_ap, yes_ap, next_ap, seq_ap, set_ap, setO_ap, drop_ap, ret_ap, retN_ap, brk_ap, cnt_ap, never_ap, ifS_ap, aug_ap, app_ap, ext_ap, pop_ap, par_ap, asg_ap, dset_ap, stF_ap, stF2_ap, fldL_ap, see_f, see_g, okM_f, okM_g, okR_f, okR_g, okO_f, okO_g, hide_nil, hide_cons, setAll_cons, setAll_nil, wipe_nil, wipe_cons, runB_ap, runL_ap, startL_ap, startD_ap, out1_nx, out1_rt, dName_ap, dGTup_ap, dGLst_ap, dGCons_ap, dGNil_ap, dAdd_ap, dSub_ap, dMul_ap, dFdiv_ap, dMod_ap, dLt_ap, dLe_ap, dGt_ap, dGe_ap, bOf_ap, dNeg_ap, dNot_ap, eqS_int, eqS_bl, eqS_str, dInt1_ap, dInt1_bl, dMax2_ap, dMin2_ap, dAbs_ap, dSum_ap, dAny_ap, dAll_ap, dLen_l, dLen_t, dLen_a, dIx_l, dIx_t, dIx_a, dTup_ap, dLst_ap, dArm_ap, dList_l, dList_t, dTupl_ap, dTupA_ap, lstOf_ap, tupOf_t, tupOf_a, itemsOf_t, itemsOf_l, dSl_l, dSl_t, dSlL_ap, dCatL_ap, dIsN_ap, rng1_ap, rng2_ap, dRange_1, dRange_2, dRange3_ap, ownB_ap, ownT_ap, ownN_ap, eqI_ap, isC_y, il_int, il_bl, il_str, il_non, il_tup, il_lst, il_armD, il_ins, il_dic, il_ar, il_rig, Bool.false_eq_true, if_false, if_true, Res.bind_ok, Res.bind_bad, Res.out_ok, Res.out_bad, Res.calm_ok, List.map_cons, List.map_nil, List.length_cons, List.length_nil, Nat.reduceAdd, Nat.reduceSub, List.replicate, List.cons_append, List.nil_append, List.getElem?_cons_zero, List.getElem?_cons_succ, List.set_cons_succ, List.set_cons_zero, Bool.true_and, Bool.and_true, Bool.not_false, Bool.not_true, List.contains_nil, Option.bind_some, for_ap, lc_ap, Nat.reduceEqDiff, Nat.reduceLeDiff, Bool.false_xor, Bool.true_xor, and_self, decide_true, decide_false, List.lookup, List.all_cons, List.all_nil, List.contains_cons, Nat.reduceBEq, Bool.or_false, Bool.false_or, Bool.or_true, Bool.true_or, beq_self_eq_true, List.contains_nil, mem_told]
  unfold plD
  simp only [raise_ap, raiseI_ap, calmF_ap, le_line, lt_line, var_ap, c_ap, op_ap, un_ap, b_ap, and_ap, or_ap, not_ap, if_ap, andV_ap, orV_ap, ch_ap, nil_ap, cons_ap, star_ap, tup_ap, lst_ap, arm_ap, cb_ap, noPart_ap, part_ap, sl_ap, slL_ap, call_ap, callL_ap, mk_ap, fld_ap, prop_ap, meth_ap, callI_ap, get2_ap, dnew_ap, it_ap, itA_ap, yes_ap, next_ap, seq_ap, set_ap, setO_ap, drop_ap, ret_ap, retN_ap, brk_ap, cnt_ap, never_ap, ifS_ap, aug_ap, app_ap, ext_ap, pop_ap, par_ap, asg_ap, dset_ap, stF_ap, stF2_ap, fldL_ap, see_f, see_g, okM_f, okM_g, okR_f, okR_g, okO_f, okO_g, hide_nil, hide_cons, setAll_cons, setAll_nil, wipe_nil, wipe_cons, runB_ap, runL_ap, startL_ap, startD_ap, out1_nx, out1_rt, dName_ap, dGTup_ap, dGLst_ap, dGCons_ap, dGNil_ap, dAdd_ap, dSub_ap, dMul_ap, dFdiv_ap, dMod_ap, dLt_ap, dLe_ap, dGt_ap, dGe_ap, bOf_ap, dNeg_ap, dNot_ap, eqS_int, eqS_bl, eqS_str, dInt1_ap, dInt1_bl, dMax2_ap, dMin2_ap, dAbs_ap, dSum_ap, dAny_ap, dAll_ap, dLen_l, dLen_t, dLen_a, dIx_l, dIx_t, dIx_a, dTup_ap, dLst_ap, dArm_ap, dList_l, dList_t, dTupl_ap, dTupA_ap, lstOf_ap, tupOf_t, tupOf_a, itemsOf_t, itemsOf_l, dSl_l, dSl_t, dSlL_ap, dCatL_ap, dIsN_ap, rng1_ap, rng2_ap, dRange_1, dRange_2, dRange3_ap, ownB_ap, ownT_ap, ownN_ap, eqI_ap, isC_y, il_int, il_bl, il_str, il_non, il_tup, il_lst, il_armD, il_ins, il_dic, il_ar, il_rig, Bool.false_eq_true, if_false, if_true, Res.bind_ok, Res.bind_bad, Res.out_ok, Res.out_bad, Res.calm_ok, List.map_cons, List.map_nil, List.length_cons, List.length_nil, Nat.reduceAdd, Nat.reduceSub, List.replicate, List.cons_append, List.nil_append, List.getElem?_cons_zero, List.getElem?_cons_succ, List.set_cons_succ, List.set_cons_zero, Bool.true_and, Bool.and_true, Bool.not_false, Bool.not_true, List.contains_nil, Option.bind_some, for_ap, lc_ap, Nat.reduceEqDiff, Nat.reduceLeDiff, Bool.false_xor, Bool.true_xor, and_self, decide_true, decide_false, List.lookup, List.all_cons, List.all_nil, List.contains_cons, Nat.reduceBEq, Bool.or_false, Bool.false_or, Bool.or_true, Bool.true_or, beq_self_eq_true, List.contains_nil, at_pl1]
theorem e_mem_eq {rs gs : List Int} {R : Rs} : f_Memory_eq [memD rs, memD gs] R = .ok (.bl (decide (rs = gs))) R := by
  unfold f_Memory_eq
  refine pureF_ok ?_
  unfold m_Memory_eq memD
  simp only [raise_ap, raiseI_ap, calmF_ap, le_line, lt_line, var_ap, c_ap, op_ap, un_ap, b_ap, and_ap, or_ap, not_ap, if_ap, andV_ap, orV_ap, ch_ap, nil_ap, cons_ap, star_ap, tup_ap, lst_ap, arm_ap, cb_ap, noPart_ap, part_ap, sl_ap, slL_ap, call_ap, callL_ap, mk_ap, fld_ap, prop_ap, meth_ap, callI_ap, get2_ap, dnew_ap, it_ap, itA_ap, yes_ap, next_ap, seq_ap, set_ap, setO_ap, drop_ap, ret_ap, retN_ap, brk_ap, cnt_ap, never_ap, ifS_ap, aug_ap, app_ap, ext_ap, pop_ap, par_ap, asg_ap, dset_ap, stF_ap, stF2_ap, fldL_ap, see_f, see_g, okM_f, okM_g, okR_f, okR_g, okO_f, okO_g, hide_nil, hide_cons, setAll_cons, setAll_nil, wipe_nil, wipe_cons, runB_ap, runL_ap, startL_ap, startD_ap, out1_nx, out1_rt, dName_ap, dGTup_ap, dGLst_ap, dGCons_ap, dGNil_ap, dAdd_ap, dSub_ap, dMul_ap, dFdiv_ap, dMod_ap, dLt_ap, dLe_ap, dGt_ap, dGe_ap, bOf_ap, dNeg_ap, dNot_ap, eqS_int, eqS_bl, eqS_str, dInt1_ap, dInt1_bl, dMax2_ap, dMin2_ap, dAbs_ap, dSum_ap, dAny_ap, dAll_ap, dLen_l, dLen_t, dLen_a, dIx_l, dIx_t, dIx_a, dTup_ap, dLst_ap, dArm_ap, dList_l, dList_t, dTupl_ap, dTupA_ap, lstOf_ap, tupOf_t, tupOf_a, itemsOf_t, itemsOf_l, dSl_l, dSl_t, dSlL_ap, dCatL_ap, dIsN_ap, rng1_ap, rng2_ap, dRange_1, dRange_2, dRange3_ap, ownB_ap, ownT_ap, ownN_ap, eqI_ap, isC_y, il_int, il_bl, il_str, il_non, il_tup, il_lst, il_armD, il_ins, il_dic, il_ar, il_rig, Bool.false_eq_true, if_false, if_true, Res.bind_ok, Res.bind_bad, Res.out_ok, Res.out_bad, Res.calm_ok, List.map_cons, List.map_nil, List.length_cons, List.length_nil, Nat.reduceAdd, Nat.reduceSub, List.replicate, List.cons_append, List.nil_append, List.getElem?_cons_zero, List.getElem?_cons_succ, List.set_cons_succ, List.set_cons_zero, Bool.true_and, Bool.and_true, Bool.not_false, Bool.not_true, List.contains_nil, Option.bind_some, for_ap, lc_ap, Nat.reduceEqDiff, Nat.reduceLeDiff, Bool.false_xor, Bool.true_xor, and_self, decide_true, decide_false, List.lookup, List.all_cons, List.all_nil, List.contains_cons, Nat.reduceBEq, Bool.or_false, Bool.false_or, Bool.or_true, Bool.true_or, beq_self_eq_true, List.contains_nil, mem_told, eqD_pl]
end Lw

namespace Lw
open PySem PySem.Spec PyProof.Rows L2 Sr Pv Rg
variable {A0 : Addr}
open Mt (movedR followR MemOk MemV endA memR)
/-! ### the laws' own comparison -/
theorem rng1_ok {j : Int} {R : Rs} (h0 : 0 ≤ j) (h1 : j ≤ 100000) : rng1 [.int j] R = .ok (rngD 0 j.toNat) R := by
  rw [rng1_ap]; exact if_pos (inB_iff.mpr ⟨by omega, by omega⟩)
theorem lst_ok2 {a b : D} {R : Rs} : dLst [a, b] R = .ok (.lst [a, b]) R := lst_ok (line60 (by show 2 ≤ 100000; decide))
theorem lst_ok1 {a : D} {R : Rs} : dLst [a] R = .ok (.lst [a]) R := lst_ok (line60 (by show 1 ≤ 100000; decide))
theorem lst_ok3 {a b c : D} {R : Rs} : dLst [a, b, c] R = .ok (.lst [a, b, c]) R := lst_ok (line60 (by show 3 ≤ 100000; decide))
theorem lst_ok0 {R : Rs} : dLst [] R = .ok (.lst []) R := lst_ok (line60 (by show 0 ≤ 100000; decide))
/-! ### values of the operators -/
def callR (c : Str) (n : Nat) (h : List D → Rs → Res D) (gs : GA) (ρ : PEnv) : D → Rs → Res D := fun d R1 => match d with
  | .ins c' fs => if c' = c then (gs ρ R1).bind fun ds R2 => if ds.length + 1 = n then h (.ins c' fs :: ds) R2 else .bad
    else .bad
  | _ => .bad
theorem callR_ap {c : Str} {n : Nat} {h : List D → Rs → Res D} {g : G} {gs : GA} {ρ : PEnv} {R : Rs} : gCallI c n h g gs ρ R = (g ρ R).bind (callR c n h gs ρ) := rfl
theorem callR_rig {n : Nat} {h : List D → Rs → Res D} {gs : GA} {ρ : PEnv} {R : Rs} {a : Arms} : callR "Rig" n h gs ρ (rigD a) R = (gs ρ R).bind fun ds R2 => if ds.length + 1 = n then h (rigD a :: ds) R2 else .bad := by simp [callR, rigD]
theorem callR_mem {n : Nat} {h : List D → Rs → Res D} {gs : GA} {ρ : PEnv} {R : Rs} {a : List Int} : callR "Memory" n h gs ρ (memD a) R = (gs ρ R).bind fun ds R2 => if ds.length + 1 = n then h (memD a :: ds) R2 else .bad := by simp [callR, memD]
def methR (c k : Str) (n : Nat) (h : List D → Rs → Res D) (gs : GA) (ρ : PEnv) : D → Rs → Res D := fun d R1 => match d with
  | .ins c' fs => if c' = c ∧ fs.lookup k = none then (gs ρ R1).bind fun ds R2 => if ds.length + 1 = n then h (.ins c' fs :: ds) R2 else .bad
    else .bad
  | _ => .bad
theorem methR_ap {c k : Str} {n : Nat} {h : List D → Rs → Res D} {g : G} {gs : GA} {ρ : PEnv} {R : Rs} : gMeth c k n h g gs ρ R = (g ρ R).bind (methR c k n h gs ρ) := rfl
theorem methR_rig {k : Str} {n : Nat} {h : List D → Rs → Res D} {gs : GA} {ρ : PEnv} {R : Rs} {a : Arms} (hk : k ≠ "told") : methR "Rig" k n h gs ρ (rigD a) R = (gs ρ R).bind fun ds R2 => if ds.length + 1 = n then h (rigD a :: ds) R2 else .bad := by
  have : (k == ("told" : Str)) = false := by simpa using hk
  simp [methR, rigD, List.lookup, this]
theorem methR_at {n : Nat} {h : List D → Rs → Res D} {gs : GA} {ρ : PEnv} {R : Rs} {a : Arms} : methR "Rig" "at" n h gs ρ (rigD a) R = (gs ρ R).bind fun ds R2 => if ds.length + 1 = n then h (rigD a :: ds) R2 else .bad := methR_rig (by decide)
theorem methR_curve {n : Nat} {h : List D → Rs → Res D} {gs : GA} {ρ : PEnv} {R : Rs} {a : Arms} : methR "Rig" "curve" n h gs ρ (rigD a) R = (gs ρ R).bind fun ds R2 => if ds.length + 1 = n then h (rigD a :: ds) R2 else .bad := methR_rig (by decide)
theorem propR_mem {h : List D → Rs → Res D} {a : List Int} {R : Rs} : propR "Memory" h (memD a) R = h [memD a] R := by simp [propR, memD]
theorem eqI_mem {n : Bool} {a b : List Int} {R : Rs} : dEqI "Memory" n f_Memory_eq (memD a) (memD b) R = .ok (.bl (n ^^ decide (a = b))) R := by
  unfold memD
  rw [eqI_ap]
  have := e_mem_eq (rs := a) (gs := b) (R := R)
  unfold memD at this
  rw [this]
  rfl
def mkR (c : Str) (k : Nat → List D → Rs → Res D) (ds : List D) (R : Rs) : Res D := mkEnd c R.length (k R.length ds (R ++ [.ins c []]))
theorem mkR_ap {c : Str} {n : Nat} {k : Nat → List D → Rs → Res D} {gs : GA} {ρ : PEnv} {R : Rs} : gMk c n k gs ρ R = (gs ρ R).bind fun ds R1 => if ds.length + 1 = n then mkR c k ds R1 else .bad := rfl
theorem mkR_rest {R : Rs} : mkR "Memory" f_Memory_init [.tup [.int 0]] R = .ok (memD [0]) R := mk_mem Mt.memOk_rest
theorem mkR_rig {a : Arms} {R : Rs} : mkR "Rig" f_Rig_init [arD a] R = .ok (rigD a) R := mk_rig
/-! ### rows that are drawn -/
theorem draw_ints {P : Int → Prop} {i : Nat} {ge : G} {ρ : PEnv} (hg : ∀ (d : D) (st : List Int), stOk st = true → ∃ x st', (∀ A0 : Addr, ge (ρ.set i (some d)) [srcD st, .tab A0] = .ok (.int x) [srcD st', .tab A0]) ∧ P x ∧ stOk st' = true) : ∀ (ds : List D) (st : List Int), stOk st = true → ∃ xs st', (∀ A0 : Addr, lcG (dName i) gYes ge ds ρ [srcD st, .tab A0] = .ok (inD xs) [srcD st', .tab A0]) ∧ xs.length = ds.length ∧ (∀ x ∈ xs, P x) ∧ stOk st' = true
  | [], st, hs => ⟨[], st, fun _ => rfl, rfl, by simp, hs⟩
  | d :: ds, st, hs => by
    obtain ⟨x, st1, e1, p1, hs1⟩ := hg d st hs
    obtain ⟨xs, st2, e2, l2, p2, hs2⟩ := draw_ints hg ds st1 hs1
    refine ⟨x :: xs, st2, fun A0 => ?_, by simp [l2], ?_, hs2⟩
    · rw [lcG_yesN, e1, Res.bind_ok, e2]; rfl
    · intro y hy
      rcases List.mem_cons.mp hy with rfl | hy
      · exact p1
      · exact p2 y hy
theorem rngD_len (a : Int) (n : Nat) : (rngD a n).length = n := by simp [rngD]
end Lw

namespace Lw
open PySem PySem.Spec PyProof.Rows L2 Sr Pv Rg
variable {A0 : Addr}
open Mt (movedR followR MemOk MemV endA memR iabs wyG wyA swL lsum trav)
/-! ### swings, ways -/
end Lw

namespace Lw
open PySem PySem.Spec PyProof.Rows L2 Sr Pv Rg
variable {A0 : Addr}
open Mt (movedR followR MemOk MemV endA memR iabs)
/-! ### one move from rest -/
/-! ### where two rigs are unlike first -/
def Unl (a b : Arms) (d : D) : Prop :=
  (∃ h : Int, 1 ≤ h ∧ d = .int h ∧ cv a h ≠ cv b h ∧ (∀ k : Int, 1 ≤ k → k < h → cv a k = cv b k) ∧ (1 < h → pull a = pull b)) ∨ (d = .int (-1) ∧ cv a 1 = cv b 1 ∧ pull a ≠ pull b) ∨ (d = .non ∧ a = b)
theorem Unl.symm {a b : Arms} {d : D} (h : Unl a b d) : Unl b a d := by
  rcases h with ⟨x, x1, rfl, x2, x3, x4⟩ | ⟨rfl, x2, x3⟩ | ⟨rfl, rfl⟩
  · exact .inl ⟨x, x1, rfl, Ne.symm x2, fun k h1 h2 => (x3 k h1 h2).symm, fun h => (x4 h).symm⟩
  · exact .inr (.inl ⟨rfl, x2.symm, Ne.symm x3⟩)
  · exact .inr (.inr ⟨rfl, rfl⟩)
theorem gs_nonneg {a : Arms} (h : Canon a) : 0 ≤ gs a := by
  unfold gs
  split
  · rename_i q hq; exact (h.2 q (List.mem_of_getLast? hq)).1
  · exact Int.le_refl 0
theorem rng_up (i : Int) (n : Nat) : rngD i n = (List.range n).map fun k : Nat => D.int (i + (k : Int)) := rfl
end Lw

namespace Lw
open PySem PySem.Spec PyProof.Rows L2 Sr Pv Rg
variable {A0 : Addr}
open Mt (movedR followR MemOk MemV endA memR iabs)
/-! ### further functions of rigs and memories -/
end Lw

namespace Lw
open PySem PySem.Spec PyProof.Rows L2 Sr Pv Rg
variable {A0 : Addr}
open Mt (movedR followR MemOk MemV endA memR iabs)
/-! ### up to a height and down again -/
theorem dnN_onS {n j : Nat} (h : j ≤ n) : dnN j (onS n) = (0, List.replicate j false ++ List.replicate (n - j) true) := by
  have := dnN_on 0 j 0 (List.replicate (n - j) true)
  simp only [List.replicate_zero, List.nil_append] at this
  rw [← this]
  unfold onS
  congr 1
  rw [List.replicate_append_replicate]
  congr 2; omega
theorem eB_dn {a : Arms} (hc : Canon a) {n j : Nat} (h : j ≤ n) : eB a (dnN j (onS n)) = cv a n - cv a j := by
  rw [dnN_onS h]
  unfold eB
  have e := sumB_rep a false j 0 (List.replicate (n - j) true)
  have e2 := sum_on a (n - j) ((0 : Int) + j)
  simp only [Bool.false_eq_true, if_false] at e
  simp only [Int.zero_mul, Int.zero_add] at *
  rw [e, e2]
  congr 1
  congr 1; omega
end Lw

namespace Lw
open PySem PySem.Spec PyProof.Rows L2 Sr Pv Rg
variable {A0 : Addr}
/-! ### the laws' own arms -/
end Lw

namespace Lw
open PySem PySem.Spec PyProof.Rows L2 Sr Pv
variable {A0 : Addr}
/-! ### what a call raises -/
def errWords : List Str := ["slack", "times", "forward", "great", "place", "count", "range", "bound", "contradiction", "name", "unknown", "panel", "unlike", "row", "ends", "memory", "operation", "recording", "notation", "decode"]
theorem ofs_eq {a b : String} : (Str.ofString a = Str.ofString b) = (a = b) := by
  apply propext
  refine ⟨fun h => ?_, fun h => by rw [h]⟩
  rw [PySem.Str.ofString_eq_toList, PySem.Str.ofString_eq_toList] at h
  injection h with h
  have h2 : a.toList.map Char.toNat = b.toList.map Char.toNat := by simpa using congrArg Array.toList h
  exact String.ext ((List.map_inj_right (fun x y e => Char.ext (UInt32.toNat_inj.mp e))).mp h2)
theorem isE_eq {a : Addr} {d : Option Addr} {fs : List (Str × D)} {b : Bool} {q0 : Option D} {q : PEnv} {R : Rs} : gIsE 1 a d b (q0 :: some (.exo a d fs) :: q) R = .ok (.bl b) R := by
  show (if a = a ∧ d = d then _ else _) = _
  rw [if_pos ⟨rfl, rfl⟩]
theorem xf_eq {a : Addr} {d : Option Addr} {fs : List (Str × D)} {f : Str} {x : D} {q0 : Option D} {q : PEnv} {R : Rs} (h : fs.lookup f = some x) : gXf 1 a d f (q0 :: some (.exo a d fs) :: q) R = .ok x R := by
  show (if a = a ∧ d = d then (match (fs.lookup f : Option D) with | some x => Res.ok x R | none => .bad) else _) = _
  rw [if_pos ⟨rfl, rfl⟩, h]
theorem hr_InvalidSlack {a : Addr} {d : Option Addr} {fs : List (Str × D)} {R : Rs} {v : D} {R2 : Rs} (h : errRes "InvalidSlack" fs R = .ok v R2) : gh_L_error_of "InvalidSlack" a d ((List.replicate 5 none).set 1 (some (.exo a d fs))) R = .rt v R2 := by
  have h2 : errRes "InvalidSlack" fs R = .ok (.tup [.str "slack", .int 0]) R := by kernel_rfl
  rw [h2] at h
  cases h
  simp [gh_L_error_of, raise_ap, raiseI_ap, calmF_ap, le_line, lt_line, var_ap, c_ap, op_ap, un_ap, b_ap, and_ap, or_ap, not_ap, if_ap, andV_ap, orV_ap, ch_ap, nil_ap, cons_ap, star_ap, tup_ap, lst_ap, arm_ap, cb_ap, noPart_ap, part_ap, sl_ap, slL_ap, call_ap, callL_ap, mk_ap, fld_ap, prop_ap, meth_ap, callI_ap, get2_ap, dnew_ap, it_ap, itA_ap, yes_ap, next_ap, seq_ap, set_ap, setO_ap, drop_ap, ret_ap, retN_ap, brk_ap, cnt_ap, never_ap, ifS_ap, aug_ap, app_ap, ext_ap, pop_ap, par_ap, asg_ap, dset_ap, stF_ap, stF2_ap, fldL_ap, see_f, see_g, okM_f, okM_g, okR_f, okR_g, okO_f, okO_g, hide_nil, hide_cons, setAll_cons, setAll_nil, wipe_nil, wipe_cons, runB_ap, runL_ap, startL_ap, startD_ap, out1_nx, out1_rt, dName_ap, dGTup_ap, dGLst_ap, dGCons_ap, dGNil_ap, dAdd_ap, dSub_ap, dMul_ap, dFdiv_ap, dMod_ap, dLt_ap, dLe_ap, dGt_ap, dGe_ap, bOf_ap, dNeg_ap, dNot_ap, eqS_int, eqS_bl, eqS_str, dInt1_ap, dInt1_bl, dMax2_ap, dMin2_ap, dAbs_ap, dSum_ap, dAny_ap, dAll_ap, dLen_l, dLen_t, dLen_a, dIx_l, dIx_t, dIx_a, dTup_ap, dLst_ap, dArm_ap, dList_l, dList_t, dTupl_ap, dTupA_ap, lstOf_ap, tupOf_t, tupOf_a, itemsOf_t, itemsOf_l, dSl_l, dSl_t, dSlL_ap, dCatL_ap, dIsN_ap, rng1_ap, rng2_ap, dRange_1, dRange_2, dRange3_ap, ownB_ap, ownT_ap, ownN_ap, eqI_ap, isC_y, il_int, il_bl, il_str, il_non, il_tup, il_lst, il_armD, il_ins, il_dic, il_ar, il_rig, Bool.false_eq_true, if_false, if_true, Res.bind_ok, Res.bind_bad, Res.out_ok, Res.out_bad, Res.calm_ok, List.map_cons, List.map_nil, List.length_cons, List.length_nil, Nat.reduceAdd, Nat.reduceSub, List.replicate, List.cons_append, List.nil_append, List.getElem?_cons_zero, List.getElem?_cons_succ, List.set_cons_succ, List.set_cons_zero, Bool.true_and, Bool.and_true, Bool.not_false, Bool.not_true, List.contains_nil, Option.bind_some, for_ap, lc_ap, Nat.reduceEqDiff, Nat.reduceLeDiff, Bool.false_xor, Bool.true_xor, and_self, decide_true, decide_false, List.lookup, List.all_cons, List.all_nil, List.contains_cons, Nat.reduceBEq, Bool.or_false, Bool.false_or, Bool.or_true, Bool.true_or, beq_self_eq_true, List.contains_nil, isE_eq]
  kernel_rfl
theorem hr_InvalidTimes {a : Addr} {d : Option Addr} {fs : List (Str × D)} {R : Rs} {v : D} {R2 : Rs} (h : errRes "InvalidTimes" fs R = .ok v R2) : gh_L_error_of "InvalidTimes" a d ((List.replicate 5 none).set 1 (some (.exo a d fs))) R = .rt v R2 := by
  have h2 : errRes "InvalidTimes" fs R = .ok (.tup [.str "times", .int 0]) R := by kernel_rfl
  rw [h2] at h
  cases h
  simp [gh_L_error_of, raise_ap, raiseI_ap, calmF_ap, le_line, lt_line, var_ap, c_ap, op_ap, un_ap, b_ap, and_ap, or_ap, not_ap, if_ap, andV_ap, orV_ap, ch_ap, nil_ap, cons_ap, star_ap, tup_ap, lst_ap, arm_ap, cb_ap, noPart_ap, part_ap, sl_ap, slL_ap, call_ap, callL_ap, mk_ap, fld_ap, prop_ap, meth_ap, callI_ap, get2_ap, dnew_ap, it_ap, itA_ap, yes_ap, next_ap, seq_ap, set_ap, setO_ap, drop_ap, ret_ap, retN_ap, brk_ap, cnt_ap, never_ap, ifS_ap, aug_ap, app_ap, ext_ap, pop_ap, par_ap, asg_ap, dset_ap, stF_ap, stF2_ap, fldL_ap, see_f, see_g, okM_f, okM_g, okR_f, okR_g, okO_f, okO_g, hide_nil, hide_cons, setAll_cons, setAll_nil, wipe_nil, wipe_cons, runB_ap, runL_ap, startL_ap, startD_ap, out1_nx, out1_rt, dName_ap, dGTup_ap, dGLst_ap, dGCons_ap, dGNil_ap, dAdd_ap, dSub_ap, dMul_ap, dFdiv_ap, dMod_ap, dLt_ap, dLe_ap, dGt_ap, dGe_ap, bOf_ap, dNeg_ap, dNot_ap, eqS_int, eqS_bl, eqS_str, dInt1_ap, dInt1_bl, dMax2_ap, dMin2_ap, dAbs_ap, dSum_ap, dAny_ap, dAll_ap, dLen_l, dLen_t, dLen_a, dIx_l, dIx_t, dIx_a, dTup_ap, dLst_ap, dArm_ap, dList_l, dList_t, dTupl_ap, dTupA_ap, lstOf_ap, tupOf_t, tupOf_a, itemsOf_t, itemsOf_l, dSl_l, dSl_t, dSlL_ap, dCatL_ap, dIsN_ap, rng1_ap, rng2_ap, dRange_1, dRange_2, dRange3_ap, ownB_ap, ownT_ap, ownN_ap, eqI_ap, isC_y, il_int, il_bl, il_str, il_non, il_tup, il_lst, il_armD, il_ins, il_dic, il_ar, il_rig, Bool.false_eq_true, if_false, if_true, Res.bind_ok, Res.bind_bad, Res.out_ok, Res.out_bad, Res.calm_ok, List.map_cons, List.map_nil, List.length_cons, List.length_nil, Nat.reduceAdd, Nat.reduceSub, List.replicate, List.cons_append, List.nil_append, List.getElem?_cons_zero, List.getElem?_cons_succ, List.set_cons_succ, List.set_cons_zero, Bool.true_and, Bool.and_true, Bool.not_false, Bool.not_true, List.contains_nil, Option.bind_some, for_ap, lc_ap, Nat.reduceEqDiff, Nat.reduceLeDiff, Bool.false_xor, Bool.true_xor, and_self, decide_true, decide_false, List.lookup, List.all_cons, List.all_nil, List.contains_cons, Nat.reduceBEq, Bool.or_false, Bool.false_or, Bool.or_true, Bool.true_or, beq_self_eq_true, List.contains_nil, isE_eq]
  kernel_rfl
theorem hr_NotForward {a : Addr} {d : Option Addr} {fs : List (Str × D)} {R : Rs} {v : D} {R2 : Rs} (h : errRes "NotForward" fs R = .ok v R2) : gh_L_error_of "NotForward" a d ((List.replicate 5 none).set 1 (some (.exo a d fs))) R = .rt v R2 := by
  have h2 : errRes "NotForward" fs R = .ok (.tup [.str "forward", .int 0]) R := by kernel_rfl
  rw [h2] at h
  cases h
  simp [gh_L_error_of, raise_ap, raiseI_ap, calmF_ap, le_line, lt_line, var_ap, c_ap, op_ap, un_ap, b_ap, and_ap, or_ap, not_ap, if_ap, andV_ap, orV_ap, ch_ap, nil_ap, cons_ap, star_ap, tup_ap, lst_ap, arm_ap, cb_ap, noPart_ap, part_ap, sl_ap, slL_ap, call_ap, callL_ap, mk_ap, fld_ap, prop_ap, meth_ap, callI_ap, get2_ap, dnew_ap, it_ap, itA_ap, yes_ap, next_ap, seq_ap, set_ap, setO_ap, drop_ap, ret_ap, retN_ap, brk_ap, cnt_ap, never_ap, ifS_ap, aug_ap, app_ap, ext_ap, pop_ap, par_ap, asg_ap, dset_ap, stF_ap, stF2_ap, fldL_ap, see_f, see_g, okM_f, okM_g, okR_f, okR_g, okO_f, okO_g, hide_nil, hide_cons, setAll_cons, setAll_nil, wipe_nil, wipe_cons, runB_ap, runL_ap, startL_ap, startD_ap, out1_nx, out1_rt, dName_ap, dGTup_ap, dGLst_ap, dGCons_ap, dGNil_ap, dAdd_ap, dSub_ap, dMul_ap, dFdiv_ap, dMod_ap, dLt_ap, dLe_ap, dGt_ap, dGe_ap, bOf_ap, dNeg_ap, dNot_ap, eqS_int, eqS_bl, eqS_str, dInt1_ap, dInt1_bl, dMax2_ap, dMin2_ap, dAbs_ap, dSum_ap, dAny_ap, dAll_ap, dLen_l, dLen_t, dLen_a, dIx_l, dIx_t, dIx_a, dTup_ap, dLst_ap, dArm_ap, dList_l, dList_t, dTupl_ap, dTupA_ap, lstOf_ap, tupOf_t, tupOf_a, itemsOf_t, itemsOf_l, dSl_l, dSl_t, dSlL_ap, dCatL_ap, dIsN_ap, rng1_ap, rng2_ap, dRange_1, dRange_2, dRange3_ap, ownB_ap, ownT_ap, ownN_ap, eqI_ap, isC_y, il_int, il_bl, il_str, il_non, il_tup, il_lst, il_armD, il_ins, il_dic, il_ar, il_rig, Bool.false_eq_true, if_false, if_true, Res.bind_ok, Res.bind_bad, Res.out_ok, Res.out_bad, Res.calm_ok, List.map_cons, List.map_nil, List.length_cons, List.length_nil, Nat.reduceAdd, Nat.reduceSub, List.replicate, List.cons_append, List.nil_append, List.getElem?_cons_zero, List.getElem?_cons_succ, List.set_cons_succ, List.set_cons_zero, Bool.true_and, Bool.and_true, Bool.not_false, Bool.not_true, List.contains_nil, Option.bind_some, for_ap, lc_ap, Nat.reduceEqDiff, Nat.reduceLeDiff, Bool.false_xor, Bool.true_xor, and_self, decide_true, decide_false, List.lookup, List.all_cons, List.all_nil, List.contains_cons, Nat.reduceBEq, Bool.or_false, Bool.false_or, Bool.or_true, Bool.true_or, beq_self_eq_true, List.contains_nil, isE_eq]
  kernel_rfl
theorem hr_TooGreat {a : Addr} {d : Option Addr} {fs : List (Str × D)} {R : Rs} {v : D} {R2 : Rs} (h : errRes "TooGreat" fs R = .ok v R2) : gh_L_error_of "TooGreat" a d ((List.replicate 5 none).set 1 (some (.exo a d fs))) R = .rt v R2 := by
  have h2 : errRes "TooGreat" fs R = .ok (.tup [.str "great", .int 0]) R := by kernel_rfl
  rw [h2] at h
  cases h
  simp [gh_L_error_of, raise_ap, raiseI_ap, calmF_ap, le_line, lt_line, var_ap, c_ap, op_ap, un_ap, b_ap, and_ap, or_ap, not_ap, if_ap, andV_ap, orV_ap, ch_ap, nil_ap, cons_ap, star_ap, tup_ap, lst_ap, arm_ap, cb_ap, noPart_ap, part_ap, sl_ap, slL_ap, call_ap, callL_ap, mk_ap, fld_ap, prop_ap, meth_ap, callI_ap, get2_ap, dnew_ap, it_ap, itA_ap, yes_ap, next_ap, seq_ap, set_ap, setO_ap, drop_ap, ret_ap, retN_ap, brk_ap, cnt_ap, never_ap, ifS_ap, aug_ap, app_ap, ext_ap, pop_ap, par_ap, asg_ap, dset_ap, stF_ap, stF2_ap, fldL_ap, see_f, see_g, okM_f, okM_g, okR_f, okR_g, okO_f, okO_g, hide_nil, hide_cons, setAll_cons, setAll_nil, wipe_nil, wipe_cons, runB_ap, runL_ap, startL_ap, startD_ap, out1_nx, out1_rt, dName_ap, dGTup_ap, dGLst_ap, dGCons_ap, dGNil_ap, dAdd_ap, dSub_ap, dMul_ap, dFdiv_ap, dMod_ap, dLt_ap, dLe_ap, dGt_ap, dGe_ap, bOf_ap, dNeg_ap, dNot_ap, eqS_int, eqS_bl, eqS_str, dInt1_ap, dInt1_bl, dMax2_ap, dMin2_ap, dAbs_ap, dSum_ap, dAny_ap, dAll_ap, dLen_l, dLen_t, dLen_a, dIx_l, dIx_t, dIx_a, dTup_ap, dLst_ap, dArm_ap, dList_l, dList_t, dTupl_ap, dTupA_ap, lstOf_ap, tupOf_t, tupOf_a, itemsOf_t, itemsOf_l, dSl_l, dSl_t, dSlL_ap, dCatL_ap, dIsN_ap, rng1_ap, rng2_ap, dRange_1, dRange_2, dRange3_ap, ownB_ap, ownT_ap, ownN_ap, eqI_ap, isC_y, il_int, il_bl, il_str, il_non, il_tup, il_lst, il_armD, il_ins, il_dic, il_ar, il_rig, Bool.false_eq_true, if_false, if_true, Res.bind_ok, Res.bind_bad, Res.out_ok, Res.out_bad, Res.calm_ok, List.map_cons, List.map_nil, List.length_cons, List.length_nil, Nat.reduceAdd, Nat.reduceSub, List.replicate, List.cons_append, List.nil_append, List.getElem?_cons_zero, List.getElem?_cons_succ, List.set_cons_succ, List.set_cons_zero, Bool.true_and, Bool.and_true, Bool.not_false, Bool.not_true, List.contains_nil, Option.bind_some, for_ap, lc_ap, Nat.reduceEqDiff, Nat.reduceLeDiff, Bool.false_xor, Bool.true_xor, and_self, decide_true, decide_false, List.lookup, List.all_cons, List.all_nil, List.contains_cons, Nat.reduceBEq, Bool.or_false, Bool.false_or, Bool.or_true, Bool.true_or, beq_self_eq_true, List.contains_nil, isE_eq]
  kernel_rfl
theorem hr_InvalidPlace {a : Addr} {d : Option Addr} {fs : List (Str × D)} {R : Rs} {v : D} {R2 : Rs} (h : errRes "InvalidPlace" fs R = .ok v R2) : gh_L_error_of "InvalidPlace" a d ((List.replicate 5 none).set 1 (some (.exo a d fs))) R = .rt v R2 := by
  have h2 : errRes "InvalidPlace" fs R = .ok (.tup [.str "place", .int 0]) R := by kernel_rfl
  rw [h2] at h
  cases h
  simp [gh_L_error_of, raise_ap, raiseI_ap, calmF_ap, le_line, lt_line, var_ap, c_ap, op_ap, un_ap, b_ap, and_ap, or_ap, not_ap, if_ap, andV_ap, orV_ap, ch_ap, nil_ap, cons_ap, star_ap, tup_ap, lst_ap, arm_ap, cb_ap, noPart_ap, part_ap, sl_ap, slL_ap, call_ap, callL_ap, mk_ap, fld_ap, prop_ap, meth_ap, callI_ap, get2_ap, dnew_ap, it_ap, itA_ap, yes_ap, next_ap, seq_ap, set_ap, setO_ap, drop_ap, ret_ap, retN_ap, brk_ap, cnt_ap, never_ap, ifS_ap, aug_ap, app_ap, ext_ap, pop_ap, par_ap, asg_ap, dset_ap, stF_ap, stF2_ap, fldL_ap, see_f, see_g, okM_f, okM_g, okR_f, okR_g, okO_f, okO_g, hide_nil, hide_cons, setAll_cons, setAll_nil, wipe_nil, wipe_cons, runB_ap, runL_ap, startL_ap, startD_ap, out1_nx, out1_rt, dName_ap, dGTup_ap, dGLst_ap, dGCons_ap, dGNil_ap, dAdd_ap, dSub_ap, dMul_ap, dFdiv_ap, dMod_ap, dLt_ap, dLe_ap, dGt_ap, dGe_ap, bOf_ap, dNeg_ap, dNot_ap, eqS_int, eqS_bl, eqS_str, dInt1_ap, dInt1_bl, dMax2_ap, dMin2_ap, dAbs_ap, dSum_ap, dAny_ap, dAll_ap, dLen_l, dLen_t, dLen_a, dIx_l, dIx_t, dIx_a, dTup_ap, dLst_ap, dArm_ap, dList_l, dList_t, dTupl_ap, dTupA_ap, lstOf_ap, tupOf_t, tupOf_a, itemsOf_t, itemsOf_l, dSl_l, dSl_t, dSlL_ap, dCatL_ap, dIsN_ap, rng1_ap, rng2_ap, dRange_1, dRange_2, dRange3_ap, ownB_ap, ownT_ap, ownN_ap, eqI_ap, isC_y, il_int, il_bl, il_str, il_non, il_tup, il_lst, il_armD, il_ins, il_dic, il_ar, il_rig, Bool.false_eq_true, if_false, if_true, Res.bind_ok, Res.bind_bad, Res.out_ok, Res.out_bad, Res.calm_ok, List.map_cons, List.map_nil, List.length_cons, List.length_nil, Nat.reduceAdd, Nat.reduceSub, List.replicate, List.cons_append, List.nil_append, List.getElem?_cons_zero, List.getElem?_cons_succ, List.set_cons_succ, List.set_cons_zero, Bool.true_and, Bool.and_true, Bool.not_false, Bool.not_true, List.contains_nil, Option.bind_some, for_ap, lc_ap, Nat.reduceEqDiff, Nat.reduceLeDiff, Bool.false_xor, Bool.true_xor, and_self, decide_true, decide_false, List.lookup, List.all_cons, List.all_nil, List.contains_cons, Nat.reduceBEq, Bool.or_false, Bool.false_or, Bool.or_true, Bool.true_or, beq_self_eq_true, List.contains_nil, isE_eq]
  kernel_rfl
theorem hr_InvalidCount {a : Addr} {d : Option Addr} {fs : List (Str × D)} {R : Rs} {v : D} {R2 : Rs} (h : errRes "InvalidCount" fs R = .ok v R2) : gh_L_error_of "InvalidCount" a d ((List.replicate 5 none).set 1 (some (.exo a d fs))) R = .rt v R2 := by
  have h2 : errRes "InvalidCount" fs R = .ok (.tup [.str "count", .int 0]) R := by kernel_rfl
  rw [h2] at h
  cases h
  simp [gh_L_error_of, raise_ap, raiseI_ap, calmF_ap, le_line, lt_line, var_ap, c_ap, op_ap, un_ap, b_ap, and_ap, or_ap, not_ap, if_ap, andV_ap, orV_ap, ch_ap, nil_ap, cons_ap, star_ap, tup_ap, lst_ap, arm_ap, cb_ap, noPart_ap, part_ap, sl_ap, slL_ap, call_ap, callL_ap, mk_ap, fld_ap, prop_ap, meth_ap, callI_ap, get2_ap, dnew_ap, it_ap, itA_ap, yes_ap, next_ap, seq_ap, set_ap, setO_ap, drop_ap, ret_ap, retN_ap, brk_ap, cnt_ap, never_ap, ifS_ap, aug_ap, app_ap, ext_ap, pop_ap, par_ap, asg_ap, dset_ap, stF_ap, stF2_ap, fldL_ap, see_f, see_g, okM_f, okM_g, okR_f, okR_g, okO_f, okO_g, hide_nil, hide_cons, setAll_cons, setAll_nil, wipe_nil, wipe_cons, runB_ap, runL_ap, startL_ap, startD_ap, out1_nx, out1_rt, dName_ap, dGTup_ap, dGLst_ap, dGCons_ap, dGNil_ap, dAdd_ap, dSub_ap, dMul_ap, dFdiv_ap, dMod_ap, dLt_ap, dLe_ap, dGt_ap, dGe_ap, bOf_ap, dNeg_ap, dNot_ap, eqS_int, eqS_bl, eqS_str, dInt1_ap, dInt1_bl, dMax2_ap, dMin2_ap, dAbs_ap, dSum_ap, dAny_ap, dAll_ap, dLen_l, dLen_t, dLen_a, dIx_l, dIx_t, dIx_a, dTup_ap, dLst_ap, dArm_ap, dList_l, dList_t, dTupl_ap, dTupA_ap, lstOf_ap, tupOf_t, tupOf_a, itemsOf_t, itemsOf_l, dSl_l, dSl_t, dSlL_ap, dCatL_ap, dIsN_ap, rng1_ap, rng2_ap, dRange_1, dRange_2, dRange3_ap, ownB_ap, ownT_ap, ownN_ap, eqI_ap, isC_y, il_int, il_bl, il_str, il_non, il_tup, il_lst, il_armD, il_ins, il_dic, il_ar, il_rig, Bool.false_eq_true, if_false, if_true, Res.bind_ok, Res.bind_bad, Res.out_ok, Res.out_bad, Res.calm_ok, List.map_cons, List.map_nil, List.length_cons, List.length_nil, Nat.reduceAdd, Nat.reduceSub, List.replicate, List.cons_append, List.nil_append, List.getElem?_cons_zero, List.getElem?_cons_succ, List.set_cons_succ, List.set_cons_zero, Bool.true_and, Bool.and_true, Bool.not_false, Bool.not_true, List.contains_nil, Option.bind_some, for_ap, lc_ap, Nat.reduceEqDiff, Nat.reduceLeDiff, Bool.false_xor, Bool.true_xor, and_self, decide_true, decide_false, List.lookup, List.all_cons, List.all_nil, List.contains_cons, Nat.reduceBEq, Bool.or_false, Bool.false_or, Bool.or_true, Bool.true_or, beq_self_eq_true, List.contains_nil, isE_eq]
  kernel_rfl
theorem hr_InvalidRange {a : Addr} {d : Option Addr} {fs : List (Str × D)} {R : Rs} {v : D} {R2 : Rs} (h : errRes "InvalidRange" fs R = .ok v R2) : gh_L_error_of "InvalidRange" a d ((List.replicate 5 none).set 1 (some (.exo a d fs))) R = .rt v R2 := by
  have h2 : errRes "InvalidRange" fs R = .ok (.tup [.str "range", .int 0]) R := by kernel_rfl
  rw [h2] at h
  cases h
  simp [gh_L_error_of, raise_ap, raiseI_ap, calmF_ap, le_line, lt_line, var_ap, c_ap, op_ap, un_ap, b_ap, and_ap, or_ap, not_ap, if_ap, andV_ap, orV_ap, ch_ap, nil_ap, cons_ap, star_ap, tup_ap, lst_ap, arm_ap, cb_ap, noPart_ap, part_ap, sl_ap, slL_ap, call_ap, callL_ap, mk_ap, fld_ap, prop_ap, meth_ap, callI_ap, get2_ap, dnew_ap, it_ap, itA_ap, yes_ap, next_ap, seq_ap, set_ap, setO_ap, drop_ap, ret_ap, retN_ap, brk_ap, cnt_ap, never_ap, ifS_ap, aug_ap, app_ap, ext_ap, pop_ap, par_ap, asg_ap, dset_ap, stF_ap, stF2_ap, fldL_ap, see_f, see_g, okM_f, okM_g, okR_f, okR_g, okO_f, okO_g, hide_nil, hide_cons, setAll_cons, setAll_nil, wipe_nil, wipe_cons, runB_ap, runL_ap, startL_ap, startD_ap, out1_nx, out1_rt, dName_ap, dGTup_ap, dGLst_ap, dGCons_ap, dGNil_ap, dAdd_ap, dSub_ap, dMul_ap, dFdiv_ap, dMod_ap, dLt_ap, dLe_ap, dGt_ap, dGe_ap, bOf_ap, dNeg_ap, dNot_ap, eqS_int, eqS_bl, eqS_str, dInt1_ap, dInt1_bl, dMax2_ap, dMin2_ap, dAbs_ap, dSum_ap, dAny_ap, dAll_ap, dLen_l, dLen_t, dLen_a, dIx_l, dIx_t, dIx_a, dTup_ap, dLst_ap, dArm_ap, dList_l, dList_t, dTupl_ap, dTupA_ap, lstOf_ap, tupOf_t, tupOf_a, itemsOf_t, itemsOf_l, dSl_l, dSl_t, dSlL_ap, dCatL_ap, dIsN_ap, rng1_ap, rng2_ap, dRange_1, dRange_2, dRange3_ap, ownB_ap, ownT_ap, ownN_ap, eqI_ap, isC_y, il_int, il_bl, il_str, il_non, il_tup, il_lst, il_armD, il_ins, il_dic, il_ar, il_rig, Bool.false_eq_true, if_false, if_true, Res.bind_ok, Res.bind_bad, Res.out_ok, Res.out_bad, Res.calm_ok, List.map_cons, List.map_nil, List.length_cons, List.length_nil, Nat.reduceAdd, Nat.reduceSub, List.replicate, List.cons_append, List.nil_append, List.getElem?_cons_zero, List.getElem?_cons_succ, List.set_cons_succ, List.set_cons_zero, Bool.true_and, Bool.and_true, Bool.not_false, Bool.not_true, List.contains_nil, Option.bind_some, for_ap, lc_ap, Nat.reduceEqDiff, Nat.reduceLeDiff, Bool.false_xor, Bool.true_xor, and_self, decide_true, decide_false, List.lookup, List.all_cons, List.all_nil, List.contains_cons, Nat.reduceBEq, Bool.or_false, Bool.false_or, Bool.or_true, Bool.true_or, beq_self_eq_true, List.contains_nil, isE_eq]
  kernel_rfl
theorem hr_OutOfBound {a : Addr} {d : Option Addr} {fs : List (Str × D)} {R : Rs} {v : D} {R2 : Rs} (h : errRes "OutOfBound" fs R = .ok v R2) : gh_L_error_of "OutOfBound" a d ((List.replicate 5 none).set 1 (some (.exo a d fs))) R = .rt v R2 := by
  have h2 : errRes "OutOfBound" fs R = .ok (.tup [.str "bound", .int 0]) R := by kernel_rfl
  rw [h2] at h
  cases h
  simp [gh_L_error_of, raise_ap, raiseI_ap, calmF_ap, le_line, lt_line, var_ap, c_ap, op_ap, un_ap, b_ap, and_ap, or_ap, not_ap, if_ap, andV_ap, orV_ap, ch_ap, nil_ap, cons_ap, star_ap, tup_ap, lst_ap, arm_ap, cb_ap, noPart_ap, part_ap, sl_ap, slL_ap, call_ap, callL_ap, mk_ap, fld_ap, prop_ap, meth_ap, callI_ap, get2_ap, dnew_ap, it_ap, itA_ap, yes_ap, next_ap, seq_ap, set_ap, setO_ap, drop_ap, ret_ap, retN_ap, brk_ap, cnt_ap, never_ap, ifS_ap, aug_ap, app_ap, ext_ap, pop_ap, par_ap, asg_ap, dset_ap, stF_ap, stF2_ap, fldL_ap, see_f, see_g, okM_f, okM_g, okR_f, okR_g, okO_f, okO_g, hide_nil, hide_cons, setAll_cons, setAll_nil, wipe_nil, wipe_cons, runB_ap, runL_ap, startL_ap, startD_ap, out1_nx, out1_rt, dName_ap, dGTup_ap, dGLst_ap, dGCons_ap, dGNil_ap, dAdd_ap, dSub_ap, dMul_ap, dFdiv_ap, dMod_ap, dLt_ap, dLe_ap, dGt_ap, dGe_ap, bOf_ap, dNeg_ap, dNot_ap, eqS_int, eqS_bl, eqS_str, dInt1_ap, dInt1_bl, dMax2_ap, dMin2_ap, dAbs_ap, dSum_ap, dAny_ap, dAll_ap, dLen_l, dLen_t, dLen_a, dIx_l, dIx_t, dIx_a, dTup_ap, dLst_ap, dArm_ap, dList_l, dList_t, dTupl_ap, dTupA_ap, lstOf_ap, tupOf_t, tupOf_a, itemsOf_t, itemsOf_l, dSl_l, dSl_t, dSlL_ap, dCatL_ap, dIsN_ap, rng1_ap, rng2_ap, dRange_1, dRange_2, dRange3_ap, ownB_ap, ownT_ap, ownN_ap, eqI_ap, isC_y, il_int, il_bl, il_str, il_non, il_tup, il_lst, il_armD, il_ins, il_dic, il_ar, il_rig, Bool.false_eq_true, if_false, if_true, Res.bind_ok, Res.bind_bad, Res.out_ok, Res.out_bad, Res.calm_ok, List.map_cons, List.map_nil, List.length_cons, List.length_nil, Nat.reduceAdd, Nat.reduceSub, List.replicate, List.cons_append, List.nil_append, List.getElem?_cons_zero, List.getElem?_cons_succ, List.set_cons_succ, List.set_cons_zero, Bool.true_and, Bool.and_true, Bool.not_false, Bool.not_true, List.contains_nil, Option.bind_some, for_ap, lc_ap, Nat.reduceEqDiff, Nat.reduceLeDiff, Bool.false_xor, Bool.true_xor, and_self, decide_true, decide_false, List.lookup, List.all_cons, List.all_nil, List.contains_cons, Nat.reduceBEq, Bool.or_false, Bool.false_or, Bool.or_true, Bool.true_or, beq_self_eq_true, List.contains_nil, isE_eq]
  kernel_rfl
theorem hr_Contradiction {a : Addr} {d : Option Addr} {fs : List (Str × D)} {R : Rs} {v : D} {R2 : Rs} (h : errRes "Contradiction" fs R = .ok v R2) : gh_L_error_of "Contradiction" a d ((List.replicate 5 none).set 1 (some (.exo a d fs))) R = .rt v R2 := by
  have h2 : errRes "Contradiction" fs R = .ok (.tup [.str "contradiction", .int 0]) R := by kernel_rfl
  rw [h2] at h
  cases h
  simp [gh_L_error_of, raise_ap, raiseI_ap, calmF_ap, le_line, lt_line, var_ap, c_ap, op_ap, un_ap, b_ap, and_ap, or_ap, not_ap, if_ap, andV_ap, orV_ap, ch_ap, nil_ap, cons_ap, star_ap, tup_ap, lst_ap, arm_ap, cb_ap, noPart_ap, part_ap, sl_ap, slL_ap, call_ap, callL_ap, mk_ap, fld_ap, prop_ap, meth_ap, callI_ap, get2_ap, dnew_ap, it_ap, itA_ap, yes_ap, next_ap, seq_ap, set_ap, setO_ap, drop_ap, ret_ap, retN_ap, brk_ap, cnt_ap, never_ap, ifS_ap, aug_ap, app_ap, ext_ap, pop_ap, par_ap, asg_ap, dset_ap, stF_ap, stF2_ap, fldL_ap, see_f, see_g, okM_f, okM_g, okR_f, okR_g, okO_f, okO_g, hide_nil, hide_cons, setAll_cons, setAll_nil, wipe_nil, wipe_cons, runB_ap, runL_ap, startL_ap, startD_ap, out1_nx, out1_rt, dName_ap, dGTup_ap, dGLst_ap, dGCons_ap, dGNil_ap, dAdd_ap, dSub_ap, dMul_ap, dFdiv_ap, dMod_ap, dLt_ap, dLe_ap, dGt_ap, dGe_ap, bOf_ap, dNeg_ap, dNot_ap, eqS_int, eqS_bl, eqS_str, dInt1_ap, dInt1_bl, dMax2_ap, dMin2_ap, dAbs_ap, dSum_ap, dAny_ap, dAll_ap, dLen_l, dLen_t, dLen_a, dIx_l, dIx_t, dIx_a, dTup_ap, dLst_ap, dArm_ap, dList_l, dList_t, dTupl_ap, dTupA_ap, lstOf_ap, tupOf_t, tupOf_a, itemsOf_t, itemsOf_l, dSl_l, dSl_t, dSlL_ap, dCatL_ap, dIsN_ap, rng1_ap, rng2_ap, dRange_1, dRange_2, dRange3_ap, ownB_ap, ownT_ap, ownN_ap, eqI_ap, isC_y, il_int, il_bl, il_str, il_non, il_tup, il_lst, il_armD, il_ins, il_dic, il_ar, il_rig, Bool.false_eq_true, if_false, if_true, Res.bind_ok, Res.bind_bad, Res.out_ok, Res.out_bad, Res.calm_ok, List.map_cons, List.map_nil, List.length_cons, List.length_nil, Nat.reduceAdd, Nat.reduceSub, List.replicate, List.cons_append, List.nil_append, List.getElem?_cons_zero, List.getElem?_cons_succ, List.set_cons_succ, List.set_cons_zero, Bool.true_and, Bool.and_true, Bool.not_false, Bool.not_true, List.contains_nil, Option.bind_some, for_ap, lc_ap, Nat.reduceEqDiff, Nat.reduceLeDiff, Bool.false_xor, Bool.true_xor, and_self, decide_true, decide_false, List.lookup, List.all_cons, List.all_nil, List.contains_cons, Nat.reduceBEq, Bool.or_false, Bool.false_or, Bool.or_true, Bool.true_or, beq_self_eq_true, List.contains_nil, isE_eq]
  kernel_rfl
theorem hr_InvalidName {a : Addr} {d : Option Addr} {fs : List (Str × D)} {R : Rs} {v : D} {R2 : Rs} (h : errRes "InvalidName" fs R = .ok v R2) : gh_L_error_of "InvalidName" a d ((List.replicate 5 none).set 1 (some (.exo a d fs))) R = .rt v R2 := by
  have h2 : errRes "InvalidName" fs R = .ok (.tup [.str "name", .int 0]) R := by kernel_rfl
  rw [h2] at h
  cases h
  simp [gh_L_error_of, raise_ap, raiseI_ap, calmF_ap, le_line, lt_line, var_ap, c_ap, op_ap, un_ap, b_ap, and_ap, or_ap, not_ap, if_ap, andV_ap, orV_ap, ch_ap, nil_ap, cons_ap, star_ap, tup_ap, lst_ap, arm_ap, cb_ap, noPart_ap, part_ap, sl_ap, slL_ap, call_ap, callL_ap, mk_ap, fld_ap, prop_ap, meth_ap, callI_ap, get2_ap, dnew_ap, it_ap, itA_ap, yes_ap, next_ap, seq_ap, set_ap, setO_ap, drop_ap, ret_ap, retN_ap, brk_ap, cnt_ap, never_ap, ifS_ap, aug_ap, app_ap, ext_ap, pop_ap, par_ap, asg_ap, dset_ap, stF_ap, stF2_ap, fldL_ap, see_f, see_g, okM_f, okM_g, okR_f, okR_g, okO_f, okO_g, hide_nil, hide_cons, setAll_cons, setAll_nil, wipe_nil, wipe_cons, runB_ap, runL_ap, startL_ap, startD_ap, out1_nx, out1_rt, dName_ap, dGTup_ap, dGLst_ap, dGCons_ap, dGNil_ap, dAdd_ap, dSub_ap, dMul_ap, dFdiv_ap, dMod_ap, dLt_ap, dLe_ap, dGt_ap, dGe_ap, bOf_ap, dNeg_ap, dNot_ap, eqS_int, eqS_bl, eqS_str, dInt1_ap, dInt1_bl, dMax2_ap, dMin2_ap, dAbs_ap, dSum_ap, dAny_ap, dAll_ap, dLen_l, dLen_t, dLen_a, dIx_l, dIx_t, dIx_a, dTup_ap, dLst_ap, dArm_ap, dList_l, dList_t, dTupl_ap, dTupA_ap, lstOf_ap, tupOf_t, tupOf_a, itemsOf_t, itemsOf_l, dSl_l, dSl_t, dSlL_ap, dCatL_ap, dIsN_ap, rng1_ap, rng2_ap, dRange_1, dRange_2, dRange3_ap, ownB_ap, ownT_ap, ownN_ap, eqI_ap, isC_y, il_int, il_bl, il_str, il_non, il_tup, il_lst, il_armD, il_ins, il_dic, il_ar, il_rig, Bool.false_eq_true, if_false, if_true, Res.bind_ok, Res.bind_bad, Res.out_ok, Res.out_bad, Res.calm_ok, List.map_cons, List.map_nil, List.length_cons, List.length_nil, Nat.reduceAdd, Nat.reduceSub, List.replicate, List.cons_append, List.nil_append, List.getElem?_cons_zero, List.getElem?_cons_succ, List.set_cons_succ, List.set_cons_zero, Bool.true_and, Bool.and_true, Bool.not_false, Bool.not_true, List.contains_nil, Option.bind_some, for_ap, lc_ap, Nat.reduceEqDiff, Nat.reduceLeDiff, Bool.false_xor, Bool.true_xor, and_self, decide_true, decide_false, List.lookup, List.all_cons, List.all_nil, List.contains_cons, Nat.reduceBEq, Bool.or_false, Bool.false_or, Bool.or_true, Bool.true_or, beq_self_eq_true, List.contains_nil, isE_eq]
  kernel_rfl
theorem hr_UnknownName {a : Addr} {d : Option Addr} {fs : List (Str × D)} {R : Rs} {v : D} {R2 : Rs} (h : errRes "UnknownName" fs R = .ok v R2) : gh_L_error_of "UnknownName" a d ((List.replicate 5 none).set 1 (some (.exo a d fs))) R = .rt v R2 := by
  have h2 : errRes "UnknownName" fs R = .ok (.tup [.str "unknown", .int 0]) R := by kernel_rfl
  rw [h2] at h
  cases h
  simp [gh_L_error_of, raise_ap, raiseI_ap, calmF_ap, le_line, lt_line, var_ap, c_ap, op_ap, un_ap, b_ap, and_ap, or_ap, not_ap, if_ap, andV_ap, orV_ap, ch_ap, nil_ap, cons_ap, star_ap, tup_ap, lst_ap, arm_ap, cb_ap, noPart_ap, part_ap, sl_ap, slL_ap, call_ap, callL_ap, mk_ap, fld_ap, prop_ap, meth_ap, callI_ap, get2_ap, dnew_ap, it_ap, itA_ap, yes_ap, next_ap, seq_ap, set_ap, setO_ap, drop_ap, ret_ap, retN_ap, brk_ap, cnt_ap, never_ap, ifS_ap, aug_ap, app_ap, ext_ap, pop_ap, par_ap, asg_ap, dset_ap, stF_ap, stF2_ap, fldL_ap, see_f, see_g, okM_f, okM_g, okR_f, okR_g, okO_f, okO_g, hide_nil, hide_cons, setAll_cons, setAll_nil, wipe_nil, wipe_cons, runB_ap, runL_ap, startL_ap, startD_ap, out1_nx, out1_rt, dName_ap, dGTup_ap, dGLst_ap, dGCons_ap, dGNil_ap, dAdd_ap, dSub_ap, dMul_ap, dFdiv_ap, dMod_ap, dLt_ap, dLe_ap, dGt_ap, dGe_ap, bOf_ap, dNeg_ap, dNot_ap, eqS_int, eqS_bl, eqS_str, dInt1_ap, dInt1_bl, dMax2_ap, dMin2_ap, dAbs_ap, dSum_ap, dAny_ap, dAll_ap, dLen_l, dLen_t, dLen_a, dIx_l, dIx_t, dIx_a, dTup_ap, dLst_ap, dArm_ap, dList_l, dList_t, dTupl_ap, dTupA_ap, lstOf_ap, tupOf_t, tupOf_a, itemsOf_t, itemsOf_l, dSl_l, dSl_t, dSlL_ap, dCatL_ap, dIsN_ap, rng1_ap, rng2_ap, dRange_1, dRange_2, dRange3_ap, ownB_ap, ownT_ap, ownN_ap, eqI_ap, isC_y, il_int, il_bl, il_str, il_non, il_tup, il_lst, il_armD, il_ins, il_dic, il_ar, il_rig, Bool.false_eq_true, if_false, if_true, Res.bind_ok, Res.bind_bad, Res.out_ok, Res.out_bad, Res.calm_ok, List.map_cons, List.map_nil, List.length_cons, List.length_nil, Nat.reduceAdd, Nat.reduceSub, List.replicate, List.cons_append, List.nil_append, List.getElem?_cons_zero, List.getElem?_cons_succ, List.set_cons_succ, List.set_cons_zero, Bool.true_and, Bool.and_true, Bool.not_false, Bool.not_true, List.contains_nil, Option.bind_some, for_ap, lc_ap, Nat.reduceEqDiff, Nat.reduceLeDiff, Bool.false_xor, Bool.true_xor, and_self, decide_true, decide_false, List.lookup, List.all_cons, List.all_nil, List.contains_cons, Nat.reduceBEq, Bool.or_false, Bool.false_or, Bool.or_true, Bool.true_or, beq_self_eq_true, List.contains_nil, isE_eq]
  kernel_rfl
theorem hr_InvalidPanel {a : Addr} {d : Option Addr} {fs : List (Str × D)} {R : Rs} {v : D} {R2 : Rs} (h : errRes "InvalidPanel" fs R = .ok v R2) : gh_L_error_of "InvalidPanel" a d ((List.replicate 5 none).set 1 (some (.exo a d fs))) R = .rt v R2 := by
  have h2 : errRes "InvalidPanel" fs R = .ok (.tup [.str "panel", .int 0]) R := by kernel_rfl
  rw [h2] at h
  cases h
  simp [gh_L_error_of, raise_ap, raiseI_ap, calmF_ap, le_line, lt_line, var_ap, c_ap, op_ap, un_ap, b_ap, and_ap, or_ap, not_ap, if_ap, andV_ap, orV_ap, ch_ap, nil_ap, cons_ap, star_ap, tup_ap, lst_ap, arm_ap, cb_ap, noPart_ap, part_ap, sl_ap, slL_ap, call_ap, callL_ap, mk_ap, fld_ap, prop_ap, meth_ap, callI_ap, get2_ap, dnew_ap, it_ap, itA_ap, yes_ap, next_ap, seq_ap, set_ap, setO_ap, drop_ap, ret_ap, retN_ap, brk_ap, cnt_ap, never_ap, ifS_ap, aug_ap, app_ap, ext_ap, pop_ap, par_ap, asg_ap, dset_ap, stF_ap, stF2_ap, fldL_ap, see_f, see_g, okM_f, okM_g, okR_f, okR_g, okO_f, okO_g, hide_nil, hide_cons, setAll_cons, setAll_nil, wipe_nil, wipe_cons, runB_ap, runL_ap, startL_ap, startD_ap, out1_nx, out1_rt, dName_ap, dGTup_ap, dGLst_ap, dGCons_ap, dGNil_ap, dAdd_ap, dSub_ap, dMul_ap, dFdiv_ap, dMod_ap, dLt_ap, dLe_ap, dGt_ap, dGe_ap, bOf_ap, dNeg_ap, dNot_ap, eqS_int, eqS_bl, eqS_str, dInt1_ap, dInt1_bl, dMax2_ap, dMin2_ap, dAbs_ap, dSum_ap, dAny_ap, dAll_ap, dLen_l, dLen_t, dLen_a, dIx_l, dIx_t, dIx_a, dTup_ap, dLst_ap, dArm_ap, dList_l, dList_t, dTupl_ap, dTupA_ap, lstOf_ap, tupOf_t, tupOf_a, itemsOf_t, itemsOf_l, dSl_l, dSl_t, dSlL_ap, dCatL_ap, dIsN_ap, rng1_ap, rng2_ap, dRange_1, dRange_2, dRange3_ap, ownB_ap, ownT_ap, ownN_ap, eqI_ap, isC_y, il_int, il_bl, il_str, il_non, il_tup, il_lst, il_armD, il_ins, il_dic, il_ar, il_rig, Bool.false_eq_true, if_false, if_true, Res.bind_ok, Res.bind_bad, Res.out_ok, Res.out_bad, Res.calm_ok, List.map_cons, List.map_nil, List.length_cons, List.length_nil, Nat.reduceAdd, Nat.reduceSub, List.replicate, List.cons_append, List.nil_append, List.getElem?_cons_zero, List.getElem?_cons_succ, List.set_cons_succ, List.set_cons_zero, Bool.true_and, Bool.and_true, Bool.not_false, Bool.not_true, List.contains_nil, Option.bind_some, for_ap, lc_ap, Nat.reduceEqDiff, Nat.reduceLeDiff, Bool.false_xor, Bool.true_xor, and_self, decide_true, decide_false, List.lookup, List.all_cons, List.all_nil, List.contains_cons, Nat.reduceBEq, Bool.or_false, Bool.false_or, Bool.or_true, Bool.true_or, beq_self_eq_true, List.contains_nil, isE_eq]
  kernel_rfl
theorem hr_UnlikeRigs {a : Addr} {d : Option Addr} {fs : List (Str × D)} {R : Rs} {v : D} {R2 : Rs} (h : errRes "UnlikeRigs" fs R = .ok v R2) : gh_L_error_of "UnlikeRigs" a d ((List.replicate 5 none).set 1 (some (.exo a d fs))) R = .rt v R2 := by
  have h2 : errRes "UnlikeRigs" fs R = .ok (.tup [.str "unlike", .int 0]) R := by kernel_rfl
  rw [h2] at h
  cases h
  simp [gh_L_error_of, raise_ap, raiseI_ap, calmF_ap, le_line, lt_line, var_ap, c_ap, op_ap, un_ap, b_ap, and_ap, or_ap, not_ap, if_ap, andV_ap, orV_ap, ch_ap, nil_ap, cons_ap, star_ap, tup_ap, lst_ap, arm_ap, cb_ap, noPart_ap, part_ap, sl_ap, slL_ap, call_ap, callL_ap, mk_ap, fld_ap, prop_ap, meth_ap, callI_ap, get2_ap, dnew_ap, it_ap, itA_ap, yes_ap, next_ap, seq_ap, set_ap, setO_ap, drop_ap, ret_ap, retN_ap, brk_ap, cnt_ap, never_ap, ifS_ap, aug_ap, app_ap, ext_ap, pop_ap, par_ap, asg_ap, dset_ap, stF_ap, stF2_ap, fldL_ap, see_f, see_g, okM_f, okM_g, okR_f, okR_g, okO_f, okO_g, hide_nil, hide_cons, setAll_cons, setAll_nil, wipe_nil, wipe_cons, runB_ap, runL_ap, startL_ap, startD_ap, out1_nx, out1_rt, dName_ap, dGTup_ap, dGLst_ap, dGCons_ap, dGNil_ap, dAdd_ap, dSub_ap, dMul_ap, dFdiv_ap, dMod_ap, dLt_ap, dLe_ap, dGt_ap, dGe_ap, bOf_ap, dNeg_ap, dNot_ap, eqS_int, eqS_bl, eqS_str, dInt1_ap, dInt1_bl, dMax2_ap, dMin2_ap, dAbs_ap, dSum_ap, dAny_ap, dAll_ap, dLen_l, dLen_t, dLen_a, dIx_l, dIx_t, dIx_a, dTup_ap, dLst_ap, dArm_ap, dList_l, dList_t, dTupl_ap, dTupA_ap, lstOf_ap, tupOf_t, tupOf_a, itemsOf_t, itemsOf_l, dSl_l, dSl_t, dSlL_ap, dCatL_ap, dIsN_ap, rng1_ap, rng2_ap, dRange_1, dRange_2, dRange3_ap, ownB_ap, ownT_ap, ownN_ap, eqI_ap, isC_y, il_int, il_bl, il_str, il_non, il_tup, il_lst, il_armD, il_ins, il_dic, il_ar, il_rig, Bool.false_eq_true, if_false, if_true, Res.bind_ok, Res.bind_bad, Res.out_ok, Res.out_bad, Res.calm_ok, List.map_cons, List.map_nil, List.length_cons, List.length_nil, Nat.reduceAdd, Nat.reduceSub, List.replicate, List.cons_append, List.nil_append, List.getElem?_cons_zero, List.getElem?_cons_succ, List.set_cons_succ, List.set_cons_zero, Bool.true_and, Bool.and_true, Bool.not_false, Bool.not_true, List.contains_nil, Option.bind_some, for_ap, lc_ap, Nat.reduceEqDiff, Nat.reduceLeDiff, Bool.false_xor, Bool.true_xor, and_self, decide_true, decide_false, List.lookup, List.all_cons, List.all_nil, List.contains_cons, Nat.reduceBEq, Bool.or_false, Bool.false_or, Bool.or_true, Bool.true_or, beq_self_eq_true, List.contains_nil, isE_eq]
  kernel_rfl
theorem hr_InvalidRow {a : Addr} {d : Option Addr} {fs : List (Str × D)} {R : Rs} {v : D} {R2 : Rs} (h : errRes "InvalidRow" fs R = .ok v R2) : gh_L_error_of "InvalidRow" a d ((List.replicate 5 none).set 1 (some (.exo a d fs))) R = .rt v R2 := by
  have h2 : errRes "InvalidRow" fs R = (match (fs.lookup ("index" : Str)).map (fun x => D.tup [.str "row", x]) with | some d => Res.ok d R | none => .bad) := by kernel_rfl
  rw [h2] at h
  cases hx : fs.lookup ("index" : Str) with
  | none => rw [hx] at h; cases h
  | some x =>
    rw [hx] at h
    cases h
    have e1 : ∀ q : PEnv, gBML dCountF (gVar 2) (gCons (gC (.bl true)) gNil) (none :: some (.exo a d fs) :: some (.lst [.bl false, .bl false, .bl false, .bl false, .bl false, .bl false, .bl false, .bl false, .bl false, .bl false, .bl false, .bl false, .bl false, .bl true, .bl false, .bl false, .bl false, .bl false, .bl false, .bl false]) :: q) R = .ok (.int 1) R := fun q => by kernel_rfl
    have e2 : ∀ q : PEnv, gBML dIndexF (gVar 2) (gCons (gC (.bl true)) gNil) (none :: some (.exo a d fs) :: some (.lst [.bl false, .bl false, .bl false, .bl false, .bl false, .bl false, .bl false, .bl false, .bl false, .bl false, .bl false, .bl false, .bl false, .bl true, .bl false, .bl false, .bl false, .bl false, .bl false, .bl false]) :: q) R = .ok (.int 13) R := fun q => by kernel_rfl
    have e3 : ∀ q : PEnv, ∀ z, gSplit (gVar 3) (gC (.str " ")) (none :: some (.exo a d fs) :: z :: some (.str (("slack times forward great place count range bound contradiction name unknown panel unlike" : Str) ++ " row ends memory operation recording notation decode")) :: q) R = .ok (.lst (errWords.map .str)) R := fun q z => by kernel_rfl
    have e4 : dCatS (.str "slack times forward great place count range bound contradiction name unknown panel unlike") (.str " row ends memory operation recording notation decode") R = .ok (.str (("slack times forward great place count range bound contradiction name unknown panel unlike" : Str) ++ " row ends memory operation recording notation decode")) R := by kernel_rfl
    have e5 : dIx (.lst (errWords.map .str)) (.int 13) R = .ok (.str "row") R := by kernel_rfl
    have e6 : dInD false (.str "row") (.lst [.str "row", .str "ends", .str "memory", .str "operation", .str "recording", .str "notation"]) R = .ok (.bl true) R := by kernel_rfl
    have e7 : dEqS false (.str "decode") (.str "decode") R = .ok (.bl true) R := by kernel_rfl
    simp [gh_L_error_of, raise_ap, raiseI_ap, calmF_ap, le_line, lt_line, var_ap, c_ap, op_ap, un_ap, b_ap, and_ap, or_ap, not_ap, if_ap, andV_ap, orV_ap, ch_ap, nil_ap, cons_ap, star_ap, tup_ap, lst_ap, arm_ap, cb_ap, noPart_ap, part_ap, sl_ap, slL_ap, call_ap, callL_ap, mk_ap, fld_ap, prop_ap, meth_ap, callI_ap, get2_ap, dnew_ap, it_ap, itA_ap, yes_ap, next_ap, seq_ap, set_ap, setO_ap, drop_ap, ret_ap, retN_ap, brk_ap, cnt_ap, never_ap, ifS_ap, aug_ap, app_ap, ext_ap, pop_ap, par_ap, asg_ap, dset_ap, stF_ap, stF2_ap, fldL_ap, see_f, see_g, okM_f, okM_g, okR_f, okR_g, okO_f, okO_g, hide_nil, hide_cons, setAll_cons, setAll_nil, wipe_nil, wipe_cons, runB_ap, runL_ap, startL_ap, startD_ap, out1_nx, out1_rt, dName_ap, dGTup_ap, dGLst_ap, dGCons_ap, dGNil_ap, dAdd_ap, dSub_ap, dMul_ap, dFdiv_ap, dMod_ap, dLt_ap, dLe_ap, dGt_ap, dGe_ap, bOf_ap, dNeg_ap, dNot_ap, eqS_int, eqS_bl, dInt1_ap, dInt1_bl, dMax2_ap, dMin2_ap, dAbs_ap, dSum_ap, dAny_ap, dAll_ap, dLen_l, dLen_t, dLen_a, dIx_t, dIx_a, dTup_ap, dLst_ap, dArm_ap, dList_l, dList_t, dTupl_ap, dTupA_ap, lstOf_ap, tupOf_t, tupOf_a, itemsOf_t, itemsOf_l, dSl_l, dSl_t, dSlL_ap, dCatL_ap, dIsN_ap, rng1_ap, rng2_ap, dRange_1, dRange_2, dRange3_ap, ownB_ap, ownT_ap, ownN_ap, eqI_ap, isC_y, il_int, il_bl, il_str, il_non, il_tup, il_lst, il_armD, il_ins, il_dic, il_ar, il_rig, Bool.false_eq_true, if_false, if_true, Res.bind_ok, Res.bind_bad, Res.out_ok, Res.out_bad, Res.calm_ok, List.map_cons, List.map_nil, List.length_cons, List.length_nil, Nat.reduceAdd, Nat.reduceSub, List.replicate, List.cons_append, List.nil_append, List.getElem?_cons_zero, List.getElem?_cons_succ, List.set_cons_succ, List.set_cons_zero, Bool.true_and, Bool.and_true, Bool.not_false, Bool.not_true, List.contains_nil, Option.bind_some, for_ap, lc_ap, Nat.reduceEqDiff, Nat.reduceLeDiff, Bool.false_xor, Bool.true_xor, and_self, decide_true, decide_false, List.lookup, List.all_cons, List.all_nil, List.contains_cons, Nat.reduceBEq, Bool.or_false, Bool.false_or, Bool.or_true, Bool.true_or, beq_self_eq_true, List.contains_nil, isE_eq, xf_eq hx, ofs_eq, e1, e2, e3, e4, e5, e6, e7]
theorem hr_InvalidEnds {a : Addr} {d : Option Addr} {fs : List (Str × D)} {R : Rs} {v : D} {R2 : Rs} (h : errRes "InvalidEnds" fs R = .ok v R2) : gh_L_error_of "InvalidEnds" a d ((List.replicate 5 none).set 1 (some (.exo a d fs))) R = .rt v R2 := by
  have h2 : errRes "InvalidEnds" fs R = (match (fs.lookup ("index" : Str)).map (fun x => D.tup [.str "ends", x]) with | some d => Res.ok d R | none => .bad) := by kernel_rfl
  rw [h2] at h
  cases hx : fs.lookup ("index" : Str) with
  | none => rw [hx] at h; cases h
  | some x =>
    rw [hx] at h
    cases h
    have e1 : ∀ q : PEnv, gBML dCountF (gVar 2) (gCons (gC (.bl true)) gNil) (none :: some (.exo a d fs) :: some (.lst [.bl false, .bl false, .bl false, .bl false, .bl false, .bl false, .bl false, .bl false, .bl false, .bl false, .bl false, .bl false, .bl false, .bl false, .bl true, .bl false, .bl false, .bl false, .bl false, .bl false]) :: q) R = .ok (.int 1) R := fun q => by kernel_rfl
    have e2 : ∀ q : PEnv, gBML dIndexF (gVar 2) (gCons (gC (.bl true)) gNil) (none :: some (.exo a d fs) :: some (.lst [.bl false, .bl false, .bl false, .bl false, .bl false, .bl false, .bl false, .bl false, .bl false, .bl false, .bl false, .bl false, .bl false, .bl false, .bl true, .bl false, .bl false, .bl false, .bl false, .bl false]) :: q) R = .ok (.int 14) R := fun q => by kernel_rfl
    have e3 : ∀ q : PEnv, ∀ z, gSplit (gVar 3) (gC (.str " ")) (none :: some (.exo a d fs) :: z :: some (.str (("slack times forward great place count range bound contradiction name unknown panel unlike" : Str) ++ " row ends memory operation recording notation decode")) :: q) R = .ok (.lst (errWords.map .str)) R := fun q z => by kernel_rfl
    have e4 : dCatS (.str "slack times forward great place count range bound contradiction name unknown panel unlike") (.str " row ends memory operation recording notation decode") R = .ok (.str (("slack times forward great place count range bound contradiction name unknown panel unlike" : Str) ++ " row ends memory operation recording notation decode")) R := by kernel_rfl
    have e5 : dIx (.lst (errWords.map .str)) (.int 14) R = .ok (.str "ends") R := by kernel_rfl
    have e6 : dInD false (.str "ends") (.lst [.str "row", .str "ends", .str "memory", .str "operation", .str "recording", .str "notation"]) R = .ok (.bl true) R := by kernel_rfl
    have e7 : dEqS false (.str "decode") (.str "decode") R = .ok (.bl true) R := by kernel_rfl
    simp [gh_L_error_of, raise_ap, raiseI_ap, calmF_ap, le_line, lt_line, var_ap, c_ap, op_ap, un_ap, b_ap, and_ap, or_ap, not_ap, if_ap, andV_ap, orV_ap, ch_ap, nil_ap, cons_ap, star_ap, tup_ap, lst_ap, arm_ap, cb_ap, noPart_ap, part_ap, sl_ap, slL_ap, call_ap, callL_ap, mk_ap, fld_ap, prop_ap, meth_ap, callI_ap, get2_ap, dnew_ap, it_ap, itA_ap, yes_ap, next_ap, seq_ap, set_ap, setO_ap, drop_ap, ret_ap, retN_ap, brk_ap, cnt_ap, never_ap, ifS_ap, aug_ap, app_ap, ext_ap, pop_ap, par_ap, asg_ap, dset_ap, stF_ap, stF2_ap, fldL_ap, see_f, see_g, okM_f, okM_g, okR_f, okR_g, okO_f, okO_g, hide_nil, hide_cons, setAll_cons, setAll_nil, wipe_nil, wipe_cons, runB_ap, runL_ap, startL_ap, startD_ap, out1_nx, out1_rt, dName_ap, dGTup_ap, dGLst_ap, dGCons_ap, dGNil_ap, dAdd_ap, dSub_ap, dMul_ap, dFdiv_ap, dMod_ap, dLt_ap, dLe_ap, dGt_ap, dGe_ap, bOf_ap, dNeg_ap, dNot_ap, eqS_int, eqS_bl, dInt1_ap, dInt1_bl, dMax2_ap, dMin2_ap, dAbs_ap, dSum_ap, dAny_ap, dAll_ap, dLen_l, dLen_t, dLen_a, dIx_t, dIx_a, dTup_ap, dLst_ap, dArm_ap, dList_l, dList_t, dTupl_ap, dTupA_ap, lstOf_ap, tupOf_t, tupOf_a, itemsOf_t, itemsOf_l, dSl_l, dSl_t, dSlL_ap, dCatL_ap, dIsN_ap, rng1_ap, rng2_ap, dRange_1, dRange_2, dRange3_ap, ownB_ap, ownT_ap, ownN_ap, eqI_ap, isC_y, il_int, il_bl, il_str, il_non, il_tup, il_lst, il_armD, il_ins, il_dic, il_ar, il_rig, Bool.false_eq_true, if_false, if_true, Res.bind_ok, Res.bind_bad, Res.out_ok, Res.out_bad, Res.calm_ok, List.map_cons, List.map_nil, List.length_cons, List.length_nil, Nat.reduceAdd, Nat.reduceSub, List.replicate, List.cons_append, List.nil_append, List.getElem?_cons_zero, List.getElem?_cons_succ, List.set_cons_succ, List.set_cons_zero, Bool.true_and, Bool.and_true, Bool.not_false, Bool.not_true, List.contains_nil, Option.bind_some, for_ap, lc_ap, Nat.reduceEqDiff, Nat.reduceLeDiff, Bool.false_xor, Bool.true_xor, and_self, decide_true, decide_false, List.lookup, List.all_cons, List.all_nil, List.contains_cons, Nat.reduceBEq, Bool.or_false, Bool.false_or, Bool.or_true, Bool.true_or, beq_self_eq_true, List.contains_nil, isE_eq, xf_eq hx, ofs_eq, e1, e2, e3, e4, e5, e6, e7]
theorem hr_InvalidMemory {a : Addr} {d : Option Addr} {fs : List (Str × D)} {R : Rs} {v : D} {R2 : Rs} (h : errRes "InvalidMemory" fs R = .ok v R2) : gh_L_error_of "InvalidMemory" a d ((List.replicate 5 none).set 1 (some (.exo a d fs))) R = .rt v R2 := by
  have h2 : errRes "InvalidMemory" fs R = (match (fs.lookup ("index" : Str)).map (fun x => D.tup [.str "memory", x]) with | some d => Res.ok d R | none => .bad) := by kernel_rfl
  rw [h2] at h
  cases hx : fs.lookup ("index" : Str) with
  | none => rw [hx] at h; cases h
  | some x =>
    rw [hx] at h
    cases h
    have e1 : ∀ q : PEnv, gBML dCountF (gVar 2) (gCons (gC (.bl true)) gNil) (none :: some (.exo a d fs) :: some (.lst [.bl false, .bl false, .bl false, .bl false, .bl false, .bl false, .bl false, .bl false, .bl false, .bl false, .bl false, .bl false, .bl false, .bl false, .bl false, .bl true, .bl false, .bl false, .bl false, .bl false]) :: q) R = .ok (.int 1) R := fun q => by kernel_rfl
    have e2 : ∀ q : PEnv, gBML dIndexF (gVar 2) (gCons (gC (.bl true)) gNil) (none :: some (.exo a d fs) :: some (.lst [.bl false, .bl false, .bl false, .bl false, .bl false, .bl false, .bl false, .bl false, .bl false, .bl false, .bl false, .bl false, .bl false, .bl false, .bl false, .bl true, .bl false, .bl false, .bl false, .bl false]) :: q) R = .ok (.int 15) R := fun q => by kernel_rfl
    have e3 : ∀ q : PEnv, ∀ z, gSplit (gVar 3) (gC (.str " ")) (none :: some (.exo a d fs) :: z :: some (.str (("slack times forward great place count range bound contradiction name unknown panel unlike" : Str) ++ " row ends memory operation recording notation decode")) :: q) R = .ok (.lst (errWords.map .str)) R := fun q z => by kernel_rfl
    have e4 : dCatS (.str "slack times forward great place count range bound contradiction name unknown panel unlike") (.str " row ends memory operation recording notation decode") R = .ok (.str (("slack times forward great place count range bound contradiction name unknown panel unlike" : Str) ++ " row ends memory operation recording notation decode")) R := by kernel_rfl
    have e5 : dIx (.lst (errWords.map .str)) (.int 15) R = .ok (.str "memory") R := by kernel_rfl
    have e6 : dInD false (.str "memory") (.lst [.str "row", .str "ends", .str "memory", .str "operation", .str "recording", .str "notation"]) R = .ok (.bl true) R := by kernel_rfl
    have e7 : dEqS false (.str "decode") (.str "decode") R = .ok (.bl true) R := by kernel_rfl
    simp [gh_L_error_of, raise_ap, raiseI_ap, calmF_ap, le_line, lt_line, var_ap, c_ap, op_ap, un_ap, b_ap, and_ap, or_ap, not_ap, if_ap, andV_ap, orV_ap, ch_ap, nil_ap, cons_ap, star_ap, tup_ap, lst_ap, arm_ap, cb_ap, noPart_ap, part_ap, sl_ap, slL_ap, call_ap, callL_ap, mk_ap, fld_ap, prop_ap, meth_ap, callI_ap, get2_ap, dnew_ap, it_ap, itA_ap, yes_ap, next_ap, seq_ap, set_ap, setO_ap, drop_ap, ret_ap, retN_ap, brk_ap, cnt_ap, never_ap, ifS_ap, aug_ap, app_ap, ext_ap, pop_ap, par_ap, asg_ap, dset_ap, stF_ap, stF2_ap, fldL_ap, see_f, see_g, okM_f, okM_g, okR_f, okR_g, okO_f, okO_g, hide_nil, hide_cons, setAll_cons, setAll_nil, wipe_nil, wipe_cons, runB_ap, runL_ap, startL_ap, startD_ap, out1_nx, out1_rt, dName_ap, dGTup_ap, dGLst_ap, dGCons_ap, dGNil_ap, dAdd_ap, dSub_ap, dMul_ap, dFdiv_ap, dMod_ap, dLt_ap, dLe_ap, dGt_ap, dGe_ap, bOf_ap, dNeg_ap, dNot_ap, eqS_int, eqS_bl, dInt1_ap, dInt1_bl, dMax2_ap, dMin2_ap, dAbs_ap, dSum_ap, dAny_ap, dAll_ap, dLen_l, dLen_t, dLen_a, dIx_t, dIx_a, dTup_ap, dLst_ap, dArm_ap, dList_l, dList_t, dTupl_ap, dTupA_ap, lstOf_ap, tupOf_t, tupOf_a, itemsOf_t, itemsOf_l, dSl_l, dSl_t, dSlL_ap, dCatL_ap, dIsN_ap, rng1_ap, rng2_ap, dRange_1, dRange_2, dRange3_ap, ownB_ap, ownT_ap, ownN_ap, eqI_ap, isC_y, il_int, il_bl, il_str, il_non, il_tup, il_lst, il_armD, il_ins, il_dic, il_ar, il_rig, Bool.false_eq_true, if_false, if_true, Res.bind_ok, Res.bind_bad, Res.out_ok, Res.out_bad, Res.calm_ok, List.map_cons, List.map_nil, List.length_cons, List.length_nil, Nat.reduceAdd, Nat.reduceSub, List.replicate, List.cons_append, List.nil_append, List.getElem?_cons_zero, List.getElem?_cons_succ, List.set_cons_succ, List.set_cons_zero, Bool.true_and, Bool.and_true, Bool.not_false, Bool.not_true, List.contains_nil, Option.bind_some, for_ap, lc_ap, Nat.reduceEqDiff, Nat.reduceLeDiff, Bool.false_xor, Bool.true_xor, and_self, decide_true, decide_false, List.lookup, List.all_cons, List.all_nil, List.contains_cons, Nat.reduceBEq, Bool.or_false, Bool.false_or, Bool.or_true, Bool.true_or, beq_self_eq_true, List.contains_nil, isE_eq, xf_eq hx, ofs_eq, e1, e2, e3, e4, e5, e6, e7]
theorem hr_InvalidOperation {a : Addr} {d : Option Addr} {fs : List (Str × D)} {R : Rs} {v : D} {R2 : Rs} (h : errRes "InvalidOperation" fs R = .ok v R2) : gh_L_error_of "InvalidOperation" a d ((List.replicate 5 none).set 1 (some (.exo a d fs))) R = .rt v R2 := by
  have h2 : errRes "InvalidOperation" fs R = (match (fs.lookup ("index" : Str)).map (fun x => D.tup [.str "operation", x]) with | some d => Res.ok d R | none => .bad) := by kernel_rfl
  rw [h2] at h
  cases hx : fs.lookup ("index" : Str) with
  | none => rw [hx] at h; cases h
  | some x =>
    rw [hx] at h
    cases h
    have e1 : ∀ q : PEnv, gBML dCountF (gVar 2) (gCons (gC (.bl true)) gNil) (none :: some (.exo a d fs) :: some (.lst [.bl false, .bl false, .bl false, .bl false, .bl false, .bl false, .bl false, .bl false, .bl false, .bl false, .bl false, .bl false, .bl false, .bl false, .bl false, .bl false, .bl true, .bl false, .bl false, .bl false]) :: q) R = .ok (.int 1) R := fun q => by kernel_rfl
    have e2 : ∀ q : PEnv, gBML dIndexF (gVar 2) (gCons (gC (.bl true)) gNil) (none :: some (.exo a d fs) :: some (.lst [.bl false, .bl false, .bl false, .bl false, .bl false, .bl false, .bl false, .bl false, .bl false, .bl false, .bl false, .bl false, .bl false, .bl false, .bl false, .bl false, .bl true, .bl false, .bl false, .bl false]) :: q) R = .ok (.int 16) R := fun q => by kernel_rfl
    have e3 : ∀ q : PEnv, ∀ z, gSplit (gVar 3) (gC (.str " ")) (none :: some (.exo a d fs) :: z :: some (.str (("slack times forward great place count range bound contradiction name unknown panel unlike" : Str) ++ " row ends memory operation recording notation decode")) :: q) R = .ok (.lst (errWords.map .str)) R := fun q z => by kernel_rfl
    have e4 : dCatS (.str "slack times forward great place count range bound contradiction name unknown panel unlike") (.str " row ends memory operation recording notation decode") R = .ok (.str (("slack times forward great place count range bound contradiction name unknown panel unlike" : Str) ++ " row ends memory operation recording notation decode")) R := by kernel_rfl
    have e5 : dIx (.lst (errWords.map .str)) (.int 16) R = .ok (.str "operation") R := by kernel_rfl
    have e6 : dInD false (.str "operation") (.lst [.str "row", .str "ends", .str "memory", .str "operation", .str "recording", .str "notation"]) R = .ok (.bl true) R := by kernel_rfl
    have e7 : dEqS false (.str "decode") (.str "decode") R = .ok (.bl true) R := by kernel_rfl
    simp [gh_L_error_of, raise_ap, raiseI_ap, calmF_ap, le_line, lt_line, var_ap, c_ap, op_ap, un_ap, b_ap, and_ap, or_ap, not_ap, if_ap, andV_ap, orV_ap, ch_ap, nil_ap, cons_ap, star_ap, tup_ap, lst_ap, arm_ap, cb_ap, noPart_ap, part_ap, sl_ap, slL_ap, call_ap, callL_ap, mk_ap, fld_ap, prop_ap, meth_ap, callI_ap, get2_ap, dnew_ap, it_ap, itA_ap, yes_ap, next_ap, seq_ap, set_ap, setO_ap, drop_ap, ret_ap, retN_ap, brk_ap, cnt_ap, never_ap, ifS_ap, aug_ap, app_ap, ext_ap, pop_ap, par_ap, asg_ap, dset_ap, stF_ap, stF2_ap, fldL_ap, see_f, see_g, okM_f, okM_g, okR_f, okR_g, okO_f, okO_g, hide_nil, hide_cons, setAll_cons, setAll_nil, wipe_nil, wipe_cons, runB_ap, runL_ap, startL_ap, startD_ap, out1_nx, out1_rt, dName_ap, dGTup_ap, dGLst_ap, dGCons_ap, dGNil_ap, dAdd_ap, dSub_ap, dMul_ap, dFdiv_ap, dMod_ap, dLt_ap, dLe_ap, dGt_ap, dGe_ap, bOf_ap, dNeg_ap, dNot_ap, eqS_int, eqS_bl, dInt1_ap, dInt1_bl, dMax2_ap, dMin2_ap, dAbs_ap, dSum_ap, dAny_ap, dAll_ap, dLen_l, dLen_t, dLen_a, dIx_t, dIx_a, dTup_ap, dLst_ap, dArm_ap, dList_l, dList_t, dTupl_ap, dTupA_ap, lstOf_ap, tupOf_t, tupOf_a, itemsOf_t, itemsOf_l, dSl_l, dSl_t, dSlL_ap, dCatL_ap, dIsN_ap, rng1_ap, rng2_ap, dRange_1, dRange_2, dRange3_ap, ownB_ap, ownT_ap, ownN_ap, eqI_ap, isC_y, il_int, il_bl, il_str, il_non, il_tup, il_lst, il_armD, il_ins, il_dic, il_ar, il_rig, Bool.false_eq_true, if_false, if_true, Res.bind_ok, Res.bind_bad, Res.out_ok, Res.out_bad, Res.calm_ok, List.map_cons, List.map_nil, List.length_cons, List.length_nil, Nat.reduceAdd, Nat.reduceSub, List.replicate, List.cons_append, List.nil_append, List.getElem?_cons_zero, List.getElem?_cons_succ, List.set_cons_succ, List.set_cons_zero, Bool.true_and, Bool.and_true, Bool.not_false, Bool.not_true, List.contains_nil, Option.bind_some, for_ap, lc_ap, Nat.reduceEqDiff, Nat.reduceLeDiff, Bool.false_xor, Bool.true_xor, and_self, decide_true, decide_false, List.lookup, List.all_cons, List.all_nil, List.contains_cons, Nat.reduceBEq, Bool.or_false, Bool.false_or, Bool.or_true, Bool.true_or, beq_self_eq_true, List.contains_nil, isE_eq, xf_eq hx, ofs_eq, e1, e2, e3, e4, e5, e6, e7]
theorem hr_InvalidRecording {a : Addr} {d : Option Addr} {fs : List (Str × D)} {R : Rs} {v : D} {R2 : Rs} (h : errRes "InvalidRecording" fs R = .ok v R2) : gh_L_error_of "InvalidRecording" a d ((List.replicate 5 none).set 1 (some (.exo a d fs))) R = .rt v R2 := by
  have h2 : errRes "InvalidRecording" fs R = (match (fs.lookup ("index" : Str)).map (fun x => D.tup [.str "recording", x]) with | some d => Res.ok d R | none => .bad) := by kernel_rfl
  rw [h2] at h
  cases hx : fs.lookup ("index" : Str) with
  | none => rw [hx] at h; cases h
  | some x =>
    rw [hx] at h
    cases h
    have e1 : ∀ q : PEnv, gBML dCountF (gVar 2) (gCons (gC (.bl true)) gNil) (none :: some (.exo a d fs) :: some (.lst [.bl false, .bl false, .bl false, .bl false, .bl false, .bl false, .bl false, .bl false, .bl false, .bl false, .bl false, .bl false, .bl false, .bl false, .bl false, .bl false, .bl false, .bl true, .bl false, .bl false]) :: q) R = .ok (.int 1) R := fun q => by kernel_rfl
    have e2 : ∀ q : PEnv, gBML dIndexF (gVar 2) (gCons (gC (.bl true)) gNil) (none :: some (.exo a d fs) :: some (.lst [.bl false, .bl false, .bl false, .bl false, .bl false, .bl false, .bl false, .bl false, .bl false, .bl false, .bl false, .bl false, .bl false, .bl false, .bl false, .bl false, .bl false, .bl true, .bl false, .bl false]) :: q) R = .ok (.int 17) R := fun q => by kernel_rfl
    have e3 : ∀ q : PEnv, ∀ z, gSplit (gVar 3) (gC (.str " ")) (none :: some (.exo a d fs) :: z :: some (.str (("slack times forward great place count range bound contradiction name unknown panel unlike" : Str) ++ " row ends memory operation recording notation decode")) :: q) R = .ok (.lst (errWords.map .str)) R := fun q z => by kernel_rfl
    have e4 : dCatS (.str "slack times forward great place count range bound contradiction name unknown panel unlike") (.str " row ends memory operation recording notation decode") R = .ok (.str (("slack times forward great place count range bound contradiction name unknown panel unlike" : Str) ++ " row ends memory operation recording notation decode")) R := by kernel_rfl
    have e5 : dIx (.lst (errWords.map .str)) (.int 17) R = .ok (.str "recording") R := by kernel_rfl
    have e6 : dInD false (.str "recording") (.lst [.str "row", .str "ends", .str "memory", .str "operation", .str "recording", .str "notation"]) R = .ok (.bl true) R := by kernel_rfl
    have e7 : dEqS false (.str "decode") (.str "decode") R = .ok (.bl true) R := by kernel_rfl
    simp [gh_L_error_of, raise_ap, raiseI_ap, calmF_ap, le_line, lt_line, var_ap, c_ap, op_ap, un_ap, b_ap, and_ap, or_ap, not_ap, if_ap, andV_ap, orV_ap, ch_ap, nil_ap, cons_ap, star_ap, tup_ap, lst_ap, arm_ap, cb_ap, noPart_ap, part_ap, sl_ap, slL_ap, call_ap, callL_ap, mk_ap, fld_ap, prop_ap, meth_ap, callI_ap, get2_ap, dnew_ap, it_ap, itA_ap, yes_ap, next_ap, seq_ap, set_ap, setO_ap, drop_ap, ret_ap, retN_ap, brk_ap, cnt_ap, never_ap, ifS_ap, aug_ap, app_ap, ext_ap, pop_ap, par_ap, asg_ap, dset_ap, stF_ap, stF2_ap, fldL_ap, see_f, see_g, okM_f, okM_g, okR_f, okR_g, okO_f, okO_g, hide_nil, hide_cons, setAll_cons, setAll_nil, wipe_nil, wipe_cons, runB_ap, runL_ap, startL_ap, startD_ap, out1_nx, out1_rt, dName_ap, dGTup_ap, dGLst_ap, dGCons_ap, dGNil_ap, dAdd_ap, dSub_ap, dMul_ap, dFdiv_ap, dMod_ap, dLt_ap, dLe_ap, dGt_ap, dGe_ap, bOf_ap, dNeg_ap, dNot_ap, eqS_int, eqS_bl, dInt1_ap, dInt1_bl, dMax2_ap, dMin2_ap, dAbs_ap, dSum_ap, dAny_ap, dAll_ap, dLen_l, dLen_t, dLen_a, dIx_t, dIx_a, dTup_ap, dLst_ap, dArm_ap, dList_l, dList_t, dTupl_ap, dTupA_ap, lstOf_ap, tupOf_t, tupOf_a, itemsOf_t, itemsOf_l, dSl_l, dSl_t, dSlL_ap, dCatL_ap, dIsN_ap, rng1_ap, rng2_ap, dRange_1, dRange_2, dRange3_ap, ownB_ap, ownT_ap, ownN_ap, eqI_ap, isC_y, il_int, il_bl, il_str, il_non, il_tup, il_lst, il_armD, il_ins, il_dic, il_ar, il_rig, Bool.false_eq_true, if_false, if_true, Res.bind_ok, Res.bind_bad, Res.out_ok, Res.out_bad, Res.calm_ok, List.map_cons, List.map_nil, List.length_cons, List.length_nil, Nat.reduceAdd, Nat.reduceSub, List.replicate, List.cons_append, List.nil_append, List.getElem?_cons_zero, List.getElem?_cons_succ, List.set_cons_succ, List.set_cons_zero, Bool.true_and, Bool.and_true, Bool.not_false, Bool.not_true, List.contains_nil, Option.bind_some, for_ap, lc_ap, Nat.reduceEqDiff, Nat.reduceLeDiff, Bool.false_xor, Bool.true_xor, and_self, decide_true, decide_false, List.lookup, List.all_cons, List.all_nil, List.contains_cons, Nat.reduceBEq, Bool.or_false, Bool.false_or, Bool.or_true, Bool.true_or, beq_self_eq_true, List.contains_nil, isE_eq, xf_eq hx, ofs_eq, e1, e2, e3, e4, e5, e6, e7]
theorem hr_NotationError {a : Addr} {d : Option Addr} {fs : List (Str × D)} {R : Rs} {v : D} {R2 : Rs} (h : errRes "NotationError" fs R = .ok v R2) : gh_L_error_of "NotationError" a d ((List.replicate 5 none).set 1 (some (.exo a d fs))) R = .rt v R2 := by
  have h2 : errRes "NotationError" fs R = (match (fs.lookup ("index" : Str)).map (fun x => D.tup [.str "notation", x]) with | some d => Res.ok d R | none => .bad) := by kernel_rfl
  rw [h2] at h
  cases hx : fs.lookup ("index" : Str) with
  | none => rw [hx] at h; cases h
  | some x =>
    rw [hx] at h
    cases h
    have e1 : ∀ q : PEnv, gBML dCountF (gVar 2) (gCons (gC (.bl true)) gNil) (none :: some (.exo a d fs) :: some (.lst [.bl false, .bl false, .bl false, .bl false, .bl false, .bl false, .bl false, .bl false, .bl false, .bl false, .bl false, .bl false, .bl false, .bl false, .bl false, .bl false, .bl false, .bl false, .bl true, .bl false]) :: q) R = .ok (.int 1) R := fun q => by kernel_rfl
    have e2 : ∀ q : PEnv, gBML dIndexF (gVar 2) (gCons (gC (.bl true)) gNil) (none :: some (.exo a d fs) :: some (.lst [.bl false, .bl false, .bl false, .bl false, .bl false, .bl false, .bl false, .bl false, .bl false, .bl false, .bl false, .bl false, .bl false, .bl false, .bl false, .bl false, .bl false, .bl false, .bl true, .bl false]) :: q) R = .ok (.int 18) R := fun q => by kernel_rfl
    have e3 : ∀ q : PEnv, ∀ z, gSplit (gVar 3) (gC (.str " ")) (none :: some (.exo a d fs) :: z :: some (.str (("slack times forward great place count range bound contradiction name unknown panel unlike" : Str) ++ " row ends memory operation recording notation decode")) :: q) R = .ok (.lst (errWords.map .str)) R := fun q z => by kernel_rfl
    have e4 : dCatS (.str "slack times forward great place count range bound contradiction name unknown panel unlike") (.str " row ends memory operation recording notation decode") R = .ok (.str (("slack times forward great place count range bound contradiction name unknown panel unlike" : Str) ++ " row ends memory operation recording notation decode")) R := by kernel_rfl
    have e5 : dIx (.lst (errWords.map .str)) (.int 18) R = .ok (.str "notation") R := by kernel_rfl
    have e6 : dInD false (.str "notation") (.lst [.str "row", .str "ends", .str "memory", .str "operation", .str "recording", .str "notation"]) R = .ok (.bl true) R := by kernel_rfl
    have e7 : dEqS false (.str "decode") (.str "decode") R = .ok (.bl true) R := by kernel_rfl
    simp [gh_L_error_of, raise_ap, raiseI_ap, calmF_ap, le_line, lt_line, var_ap, c_ap, op_ap, un_ap, b_ap, and_ap, or_ap, not_ap, if_ap, andV_ap, orV_ap, ch_ap, nil_ap, cons_ap, star_ap, tup_ap, lst_ap, arm_ap, cb_ap, noPart_ap, part_ap, sl_ap, slL_ap, call_ap, callL_ap, mk_ap, fld_ap, prop_ap, meth_ap, callI_ap, get2_ap, dnew_ap, it_ap, itA_ap, yes_ap, next_ap, seq_ap, set_ap, setO_ap, drop_ap, ret_ap, retN_ap, brk_ap, cnt_ap, never_ap, ifS_ap, aug_ap, app_ap, ext_ap, pop_ap, par_ap, asg_ap, dset_ap, stF_ap, stF2_ap, fldL_ap, see_f, see_g, okM_f, okM_g, okR_f, okR_g, okO_f, okO_g, hide_nil, hide_cons, setAll_cons, setAll_nil, wipe_nil, wipe_cons, runB_ap, runL_ap, startL_ap, startD_ap, out1_nx, out1_rt, dName_ap, dGTup_ap, dGLst_ap, dGCons_ap, dGNil_ap, dAdd_ap, dSub_ap, dMul_ap, dFdiv_ap, dMod_ap, dLt_ap, dLe_ap, dGt_ap, dGe_ap, bOf_ap, dNeg_ap, dNot_ap, eqS_int, eqS_bl, dInt1_ap, dInt1_bl, dMax2_ap, dMin2_ap, dAbs_ap, dSum_ap, dAny_ap, dAll_ap, dLen_l, dLen_t, dLen_a, dIx_t, dIx_a, dTup_ap, dLst_ap, dArm_ap, dList_l, dList_t, dTupl_ap, dTupA_ap, lstOf_ap, tupOf_t, tupOf_a, itemsOf_t, itemsOf_l, dSl_l, dSl_t, dSlL_ap, dCatL_ap, dIsN_ap, rng1_ap, rng2_ap, dRange_1, dRange_2, dRange3_ap, ownB_ap, ownT_ap, ownN_ap, eqI_ap, isC_y, il_int, il_bl, il_str, il_non, il_tup, il_lst, il_armD, il_ins, il_dic, il_ar, il_rig, Bool.false_eq_true, if_false, if_true, Res.bind_ok, Res.bind_bad, Res.out_ok, Res.out_bad, Res.calm_ok, List.map_cons, List.map_nil, List.length_cons, List.length_nil, Nat.reduceAdd, Nat.reduceSub, List.replicate, List.cons_append, List.nil_append, List.getElem?_cons_zero, List.getElem?_cons_succ, List.set_cons_succ, List.set_cons_zero, Bool.true_and, Bool.and_true, Bool.not_false, Bool.not_true, List.contains_nil, Option.bind_some, for_ap, lc_ap, Nat.reduceEqDiff, Nat.reduceLeDiff, Bool.false_xor, Bool.true_xor, and_self, decide_true, decide_false, List.lookup, List.all_cons, List.all_nil, List.contains_cons, Nat.reduceBEq, Bool.or_false, Bool.false_or, Bool.or_true, Bool.true_or, beq_self_eq_true, List.contains_nil, isE_eq, xf_eq hx, ofs_eq, e1, e2, e3, e4, e5, e6, e7]
theorem hr_DecodeError {a : Addr} {d : Option Addr} {fs : List (Str × D)} {R : Rs} {v : D} {R2 : Rs} (h : errRes "DecodeError" fs R = .ok v R2) : gh_L_error_of "DecodeError" a d ((List.replicate 5 none).set 1 (some (.exo a d fs))) R = .rt v R2 := by
  have h2 : errRes "DecodeError" fs R = (match (fs.lookup ("offset" : Str)).map (fun x => D.tup [.str "decode", x]) with | some d => Res.ok d R | none => .bad) := by kernel_rfl
  rw [h2] at h
  cases hx : fs.lookup ("offset" : Str) with
  | none => rw [hx] at h; cases h
  | some x =>
    rw [hx] at h
    cases h
    have e1 : ∀ q : PEnv, gBML dCountF (gVar 2) (gCons (gC (.bl true)) gNil) (none :: some (.exo a d fs) :: some (.lst [.bl false, .bl false, .bl false, .bl false, .bl false, .bl false, .bl false, .bl false, .bl false, .bl false, .bl false, .bl false, .bl false, .bl false, .bl false, .bl false, .bl false, .bl false, .bl false, .bl true]) :: q) R = .ok (.int 1) R := fun q => by kernel_rfl
    have e2 : ∀ q : PEnv, gBML dIndexF (gVar 2) (gCons (gC (.bl true)) gNil) (none :: some (.exo a d fs) :: some (.lst [.bl false, .bl false, .bl false, .bl false, .bl false, .bl false, .bl false, .bl false, .bl false, .bl false, .bl false, .bl false, .bl false, .bl false, .bl false, .bl false, .bl false, .bl false, .bl false, .bl true]) :: q) R = .ok (.int 19) R := fun q => by kernel_rfl
    have e3 : ∀ q : PEnv, ∀ z, gSplit (gVar 3) (gC (.str " ")) (none :: some (.exo a d fs) :: z :: some (.str (("slack times forward great place count range bound contradiction name unknown panel unlike" : Str) ++ " row ends memory operation recording notation decode")) :: q) R = .ok (.lst (errWords.map .str)) R := fun q z => by kernel_rfl
    have e4 : dCatS (.str "slack times forward great place count range bound contradiction name unknown panel unlike") (.str " row ends memory operation recording notation decode") R = .ok (.str (("slack times forward great place count range bound contradiction name unknown panel unlike" : Str) ++ " row ends memory operation recording notation decode")) R := by kernel_rfl
    have e5 : dIx (.lst (errWords.map .str)) (.int 19) R = .ok (.str "decode") R := by kernel_rfl
    have e6 : dInD false (.str "decode") (.lst [.str "row", .str "ends", .str "memory", .str "operation", .str "recording", .str "notation"]) R = .ok (.bl false) R := by kernel_rfl
    have e7 : dEqS false (.str "decode") (.str "decode") R = .ok (.bl true) R := by kernel_rfl
    simp [gh_L_error_of, raise_ap, raiseI_ap, calmF_ap, le_line, lt_line, var_ap, c_ap, op_ap, un_ap, b_ap, and_ap, or_ap, not_ap, if_ap, andV_ap, orV_ap, ch_ap, nil_ap, cons_ap, star_ap, tup_ap, lst_ap, arm_ap, cb_ap, noPart_ap, part_ap, sl_ap, slL_ap, call_ap, callL_ap, mk_ap, fld_ap, prop_ap, meth_ap, callI_ap, get2_ap, dnew_ap, it_ap, itA_ap, yes_ap, next_ap, seq_ap, set_ap, setO_ap, drop_ap, ret_ap, retN_ap, brk_ap, cnt_ap, never_ap, ifS_ap, aug_ap, app_ap, ext_ap, pop_ap, par_ap, asg_ap, dset_ap, stF_ap, stF2_ap, fldL_ap, see_f, see_g, okM_f, okM_g, okR_f, okR_g, okO_f, okO_g, hide_nil, hide_cons, setAll_cons, setAll_nil, wipe_nil, wipe_cons, runB_ap, runL_ap, startL_ap, startD_ap, out1_nx, out1_rt, dName_ap, dGTup_ap, dGLst_ap, dGCons_ap, dGNil_ap, dAdd_ap, dSub_ap, dMul_ap, dFdiv_ap, dMod_ap, dLt_ap, dLe_ap, dGt_ap, dGe_ap, bOf_ap, dNeg_ap, dNot_ap, eqS_int, eqS_bl, dInt1_ap, dInt1_bl, dMax2_ap, dMin2_ap, dAbs_ap, dSum_ap, dAny_ap, dAll_ap, dLen_l, dLen_t, dLen_a, dIx_t, dIx_a, dTup_ap, dLst_ap, dArm_ap, dList_l, dList_t, dTupl_ap, dTupA_ap, lstOf_ap, tupOf_t, tupOf_a, itemsOf_t, itemsOf_l, dSl_l, dSl_t, dSlL_ap, dCatL_ap, dIsN_ap, rng1_ap, rng2_ap, dRange_1, dRange_2, dRange3_ap, ownB_ap, ownT_ap, ownN_ap, eqI_ap, isC_y, il_int, il_bl, il_str, il_non, il_tup, il_lst, il_armD, il_ins, il_dic, il_ar, il_rig, Bool.false_eq_true, if_false, if_true, Res.bind_ok, Res.bind_bad, Res.out_ok, Res.out_bad, Res.calm_ok, List.map_cons, List.map_nil, List.length_cons, List.length_nil, Nat.reduceAdd, Nat.reduceSub, List.replicate, List.cons_append, List.nil_append, List.getElem?_cons_zero, List.getElem?_cons_succ, List.set_cons_succ, List.set_cons_zero, Bool.true_and, Bool.and_true, Bool.not_false, Bool.not_true, List.contains_nil, Option.bind_some, for_ap, lc_ap, Nat.reduceEqDiff, Nat.reduceLeDiff, Bool.false_xor, Bool.true_xor, and_self, decide_true, decide_false, List.lookup, List.all_cons, List.all_nil, List.contains_cons, Nat.reduceBEq, Bool.or_false, Bool.false_or, Bool.or_true, Bool.true_or, beq_self_eq_true, List.contains_nil, isE_eq, xf_eq hx, ofs_eq, e1, e2, e3, e4, e5, e6, e7]
theorem hres_L_error_of (c : Str) (a : Addr) (d : Option Addr) (fs : List (Str × D)) (R : Rs) (v : D) (R2 : Rs) (hc : errIn c = true) (h : errRes c fs R = .ok v R2) : gh_L_error_of c a d ((List.replicate 5 none).set 1 (some (.exo a d fs))) R = .rt v R2 := by
  have hc' : c ∈ errNames := errIn_names hc
  simp only [errNames, errT, List.map_cons, List.map_nil, List.mem_cons, List.not_mem_nil, or_false] at hc'
  rcases hc' with rfl | rfl | rfl | rfl | rfl | rfl | rfl | rfl | rfl | rfl | rfl | rfl | rfl | rfl | rfl | rfl | rfl | rfl | rfl | rfl
  · exact hr_InvalidSlack h
  · exact hr_InvalidTimes h
  · exact hr_NotForward h
  · exact hr_TooGreat h
  · exact hr_InvalidPlace h
  · exact hr_InvalidCount h
  · exact hr_InvalidRange h
  · exact hr_OutOfBound h
  · exact hr_Contradiction h
  · exact hr_InvalidName h
  · exact hr_UnknownName h
  · exact hr_InvalidPanel h
  · exact hr_UnlikeRigs h
  · exact hr_InvalidRow h
  · exact hr_InvalidEnds h
  · exact hr_InvalidMemory h
  · exact hr_InvalidOperation h
  · exact hr_InvalidRecording h
  · exact hr_NotationError h
  · exact hr_DecodeError h
theorem f_err_ap {tab : LamTab} {l : LamT} {a0 : Addr} (ρ' : PEnv) (R : Rs) : f_L_error_of tab [.clo l ρ' a0] R = errEnd (gClo tab 0 [some (.clo l ρ' a0)] R) := by
  have e : gClo tab 0 [some (.clo l ρ' a0), none, none, none, none] R = gClo tab 0 [some (.clo l ρ' a0)] R := rfl
  unfold f_L_error_of runB m_L_error_of errEnd
  simp only [raise_ap, raiseI_ap, calmF_ap, le_line, lt_line, var_ap, c_ap, op_ap, un_ap, b_ap, and_ap, or_ap, not_ap, if_ap, andV_ap, orV_ap, ch_ap, nil_ap, cons_ap, star_ap, tup_ap, lst_ap, arm_ap, cb_ap, noPart_ap, part_ap, sl_ap, slL_ap, call_ap, callL_ap, mk_ap, fld_ap, prop_ap, meth_ap, callI_ap, get2_ap, dnew_ap, it_ap, itA_ap, yes_ap, next_ap, seq_ap, set_ap, setO_ap, drop_ap, ret_ap, retN_ap, brk_ap, cnt_ap, never_ap, ifS_ap, aug_ap, app_ap, ext_ap, pop_ap, par_ap, asg_ap, dset_ap, stF_ap, stF2_ap, fldL_ap, see_f, see_g, okM_f, okM_g, okR_f, okR_g, okO_f, okO_g, hide_nil, hide_cons, setAll_cons, setAll_nil, wipe_nil, wipe_cons, runB_ap, runL_ap, startL_ap, startD_ap, out1_nx, out1_rt, dName_ap, dGTup_ap, dGLst_ap, dGCons_ap, dGNil_ap, dAdd_ap, dSub_ap, dMul_ap, dFdiv_ap, dMod_ap, dLt_ap, dLe_ap, dGt_ap, dGe_ap, bOf_ap, dNeg_ap, dNot_ap, eqS_int, eqS_bl, eqS_str, dInt1_ap, dInt1_bl, dMax2_ap, dMin2_ap, dAbs_ap, dSum_ap, dAny_ap, dAll_ap, dLen_l, dLen_t, dLen_a, dIx_l, dIx_t, dIx_a, dTup_ap, dLst_ap, dArm_ap, dList_l, dList_t, dTupl_ap, dTupA_ap, lstOf_ap, tupOf_t, tupOf_a, itemsOf_t, itemsOf_l, dSl_l, dSl_t, dSlL_ap, dCatL_ap, dIsN_ap, rng1_ap, rng2_ap, dRange_1, dRange_2, dRange3_ap, ownB_ap, ownT_ap, ownN_ap, eqI_ap, isC_y, il_int, il_bl, il_str, il_non, il_tup, il_lst, il_armD, il_ins, il_dic, il_ar, il_rig, Bool.false_eq_true, if_false, if_true, Res.bind_ok, Res.bind_bad, Res.out_ok, Res.out_bad, Res.calm_ok, List.map_cons, List.map_nil, List.length_cons, List.length_nil, Nat.reduceAdd, Nat.reduceSub, List.replicate, List.cons_append, List.nil_append, List.getElem?_cons_zero, List.getElem?_cons_succ, List.set_cons_succ, List.set_cons_zero, Bool.true_and, Bool.and_true, Bool.not_false, Bool.not_true, List.contains_nil, Option.bind_some, for_ap, lc_ap, Nat.reduceEqDiff, Nat.reduceLeDiff, Bool.false_xor, Bool.true_xor, and_self, decide_true, decide_false, List.lookup, List.all_cons, List.all_nil, List.contains_cons, Nat.reduceBEq, Bool.or_false, Bool.false_or, Bool.or_true, Bool.true_or, beq_self_eq_true, List.contains_nil, tryR_ap, e]
  cases q : gClo tab 0 [some (.clo l ρ' a0)] R with
  | ok x R1 => simp [raise_ap, raiseI_ap, calmF_ap, le_line, lt_line, var_ap, c_ap, op_ap, un_ap, b_ap, and_ap, or_ap, not_ap, if_ap, andV_ap, orV_ap, ch_ap, nil_ap, cons_ap, star_ap, tup_ap, lst_ap, arm_ap, cb_ap, noPart_ap, part_ap, sl_ap, slL_ap, call_ap, callL_ap, mk_ap, fld_ap, prop_ap, meth_ap, callI_ap, get2_ap, dnew_ap, it_ap, itA_ap, yes_ap, next_ap, seq_ap, set_ap, setO_ap, drop_ap, ret_ap, retN_ap, brk_ap, cnt_ap, never_ap, ifS_ap, aug_ap, app_ap, ext_ap, pop_ap, par_ap, asg_ap, dset_ap, stF_ap, stF2_ap, fldL_ap, see_f, see_g, okM_f, okM_g, okR_f, okR_g, okO_f, okO_g, hide_nil, hide_cons, setAll_cons, setAll_nil, wipe_nil, wipe_cons, runB_ap, runL_ap, startL_ap, startD_ap, out1_nx, out1_rt, dName_ap, dGTup_ap, dGLst_ap, dGCons_ap, dGNil_ap, dAdd_ap, dSub_ap, dMul_ap, dFdiv_ap, dMod_ap, dLt_ap, dLe_ap, dGt_ap, dGe_ap, bOf_ap, dNeg_ap, dNot_ap, eqS_int, eqS_bl, eqS_str, dInt1_ap, dInt1_bl, dMax2_ap, dMin2_ap, dAbs_ap, dSum_ap, dAny_ap, dAll_ap, dLen_l, dLen_t, dLen_a, dIx_l, dIx_t, dIx_a, dTup_ap, dLst_ap, dArm_ap, dList_l, dList_t, dTupl_ap, dTupA_ap, lstOf_ap, tupOf_t, tupOf_a, itemsOf_t, itemsOf_l, dSl_l, dSl_t, dSlL_ap, dCatL_ap, dIsN_ap, rng1_ap, rng2_ap, dRange_1, dRange_2, dRange3_ap, ownB_ap, ownT_ap, ownN_ap, eqI_ap, isC_y, il_int, il_bl, il_str, il_non, il_tup, il_lst, il_armD, il_ins, il_dic, il_ar, il_rig, Bool.false_eq_true, if_false, if_true, Res.bind_ok, Res.bind_bad, Res.out_ok, Res.out_bad, Res.calm_ok, List.map_cons, List.map_nil, List.length_cons, List.length_nil, Nat.reduceAdd, Nat.reduceSub, List.replicate, List.cons_append, List.nil_append, List.getElem?_cons_zero, List.getElem?_cons_succ, List.set_cons_succ, List.set_cons_zero, Bool.true_and, Bool.and_true, Bool.not_false, Bool.not_true, List.contains_nil, Option.bind_some, for_ap, lc_ap, Nat.reduceEqDiff, Nat.reduceLeDiff, Bool.false_xor, Bool.true_xor, and_self, decide_true, decide_false, List.lookup, List.all_cons, List.all_nil, List.contains_cons, Nat.reduceBEq, Bool.or_false, Bool.false_or, Bool.or_true, Bool.true_or, beq_self_eq_true, List.contains_nil]
  | exc c fs R1 =>
    show out1 (match (if errIn c = true then (match errRes c fs R1 with | .ok d R2 => Out.rt d R2 | x => Out.bad) else Out.bad) with | .nx ρ1 R1 => Out.rt D.non R1 | o => o) = if errIn c = true then errRes c fs R1 else .bad
    by_cases hc : errIn c = true
    · rw [if_pos hc, if_pos hc]
      unfold errRes
      cases errOf c fs <;> rfl
    · rw [if_neg hc, if_neg hc]; rfl
  | bad => rfl
end Lw

namespace Lw
open PySem PySem.Spec PyProof.Rows L2 Sr Pv Rg
variable {A0 : Addr}
open Mt (movedR followR MemOk MemV endA memR iabs)
/-! ### what is no number in bounds -/
inductive Odd (lo hi : Int) : D → Prop where
  | int {i : Int} : i < lo ∨ hi < i → Odd lo hi (.int i)
  | non : Odd lo hi .non
  | bl {b : Bool} : Odd lo hi (.bl b)
  | str {x : Str} : Odd lo hi (.str x)
theorem Odd.noC {lo hi : Int} {d : D} (h : Odd lo hi d) : d.noC = true ∧ d.isLoc = false := by cases h <;> exact ⟨rfl, rfl⟩
theorem e_oddI {lo hi : Int} {d : D} {R : Rs} (h : Odd lo hi d) : f_is_int_in [d, .int lo, .int hi] R = .ok (.bl false) R := by
  cases h with
  | int h =>
    rw [e_is_int_in]
    rename_i i
    have : (decide (lo ≤ i) && decide (i ≤ hi)) = false := by
      rcases h with h | h
      · rw [show decide (lo ≤ i) = false from decide_eq_false (by omega)] <;> rfl
      · rw [show decide (i ≤ hi) = false from decide_eq_false (by omega), Bool.and_false]
    rw [this]
  | non => rfl
  | bl => rfl
  | str => rfl
theorem odd5 {lo hi n i : Int} (h0 : 0 ≤ i) (h5 : i < 5) {a b : Int} (ha : a < lo ∨ hi < a) (hb : b < lo ∨ hi < b) {R : Rs} : ∃ d, dIx (.lst [.int a, .int b, .non, .bl true, .str "1"]) (.int i) R = .ok d R ∧ Odd lo hi d := by
  rcases (show i = 0 ∨ i = 1 ∨ i = 2 ∨ i = 3 ∨ i = 4 by omega) with rfl | rfl | rfl | rfl | rfl
  · exact ⟨_, rfl, .int ha⟩
  · exact ⟨_, rfl, .int hb⟩
  · exact ⟨_, rfl, .non⟩
  · exact ⟨_, rfl, .bl⟩
  · exact ⟨_, rfl, .str⟩
theorem lst_ok5 {a b c d e : D} {R : Rs} : dLst [a, b, c, d, e] R = .ok (.lst [a, b, c, d, e]) R := lst_ok (line60 (by show 5 ≤ 100000; decide))
/-! ### what a lambda takes with it -/
theorem okCap_of {d : D} (h : d.isLoc = false) : okCap (some d) = some d := by
  cases d <;> first | rfl | cases h
theorem noE_none {r : PEnv} : noE (none :: r) = noE r := rfl
theorem noE_nil : noE [] = true := rfl
theorem noE_of {d : D} {r : PEnv} (h : d.isLoc = false) (h2 : d.noC = true) : noE (some d :: r) = noE r := by
  have : noE (some d :: r) = (d.noC && noE r) := by cases d <;> first | rfl | cases h
  rw [this, h2] <;> rfl
theorem capt_cons {cs : List Nat} {k : Nat} {d : Option D} {r : PEnv} : capt cs k (d :: r) = (if cs.contains k then okCap d else none) :: capt cs (k + 1) r := rfl
theorem capt_nil {cs : List Nat} {k : Nat} : capt cs k [] = [] := rfl
theorem noC_tup {xs : List D} : (D.tup xs).noC = noL xs := rfl
theorem noC_lst {xs : List D} : (D.lst xs).noC = noL xs := rfl
theorem noL_map {α : Type} {f : α → D} : ∀ {xs : List α}, (∀ x ∈ xs, (f x).noC = true) → noL (xs.map f) = true
  | [], _ => rfl
  | x :: xs, h => by
    show ((f x).noC && noL (xs.map f)) = true
    rw [h x List.mem_cons_self, noL_map fun y hy => h y (List.mem_cons_of_mem _ hy)] <;> rfl
/-! ### the law's own test of it -/
theorem ints_noC : ∀ xs : List Int, noL (xs.map D.int) = true
  | [] => rfl
  | x :: xs => by
    show (true && noL (xs.map D.int)) = true
    rw [ints_noC xs] <;> rfl
theorem src_noO (st : List Int) : noO (srcD st) = true := by
  show (D.lst (st.map D.int)).noC = true
  show noL (st.map D.int) = true
  exact ints_noC st
end Lw

namespace Lw
open PySem PySem.Spec PyProof.Rows L2 Sr Pv Rg
variable {A0 : Addr}
open Mt (movedR followR MemOk MemV endA memR iabs)
/-! ### arms that are too many or too great -/
theorem srt_len (ws : Arms) : (srt ws).length ≤ ws.length := by
  rw [srt_eq, List.length_map]
  refine Nat.le_trans (List.length_filter_le _ _) ?_
  rw [(isort_perm _).length_eq, List.length_map]; exact Nat.le_refl _
/-! ### all of them raise -/
end Lw

namespace Lw
open PySem PySem.Spec PyProof.Rows L2 Sr Pv Rg
variable {A0 : Addr}
open Mt (movedR followR MemOk MemV endA memR iabs)
/-! ### what raises with an index -/
/-- no list -/
inductive NoL : D → Prop where
  | non : NoL .non
  | int {i : Int} : NoL (.int i)
  | bl {b : Bool} : NoL (.bl b)
  | str {x : Str} : NoL (.str x)
  | tup {xs : List D} : NoL (.tup xs)
theorem NoL.noC {d : D} (h : NoL d) (hx : ∀ xs, d = .tup xs → noL xs = true) : d.noC = true ∧ d.isLoc = false := by
  cases h with
  | tup => exact ⟨hx _ rfl, rfl⟩
  | _ => exact ⟨rfl, rfl⟩
theorem isK_nl {d : D} {R : Rs} (h : NoL d) : dIsK .lst [d, .ty "list"] R = .ok (.bl false) R := by cases h <;> rfl
theorem il_nl {d : D} (h : NoL d) : d.isLoc = false := by cases h <;> rfl
/-- no number in bounds, or a tuple -/
inductive OddT (lo hi : Int) : D → Prop where
  | odd {d : D} : Odd lo hi d → OddT lo hi d
  | tup {xs : List D} : noL xs = true → OddT lo hi (.tup xs)
theorem OddT.noC {lo hi : Int} {d : D} (h : OddT lo hi d) : d.noC = true ∧ d.isLoc = false := by
  cases h with
  | odd h => exact h.noC
  | tup h => exact ⟨h, rfl⟩
theorem smB_small {i : Int} (h0 : -2000000 ≤ i) (h1 : i ≤ 2000000) : smB i = true := (smB_iff i).mpr ⟨by omega, by omega⟩
/-! ### the words with an index -/
theorem errV {tab : LamTab} {l : LamT} {g : G} {cl : List (Str × Addr)} {ρ : PEnv} {st : List Int} {c : Str} {fs : List (Str × D)} {w : Str} {i : Int} (hl : lamG tab l = some g) (hn : noE (capt l.cs 0 ρ) = true) (hg : g (capt l.cs 0 ρ) [srcD st, .tab A0] = .exc c fs [srcD st, .tab A0])
    (hc : errIn c = true) (he : errOf c fs = some (.tup [.str w, .int i])) : gCallC tab 1 (f_L_error_of tab) cl (gCons (gLam l cl) gNil) ρ [srcD st, .tab A0] = .ok (.tup [.str w, .int i]) [srcD st, .tab A0] := by
  rw [err_call hl (fun ρ' R => f_err_ap ρ' R) hn (src_noO st) hg]
  show (match (if errIn c = true then errRes c fs [srcD st, .tab A0] else .bad) with
      | .ok z R2 => if z.noC = true ∧ R2.all noO = true then Res.ok z R2 else .bad
      | _ => .bad) = _
  rw [if_pos hc]
  unfold errRes
  rw [he]
  have : ([srcD st, .tab A0] : Rs).all noO = true := by
    show (noO (srcD st) && (true && true)) = true
    rw [src_noO] <;> rfl
  show (if (D.tup [.str w, .int i]).noC = true ∧ ([srcD st, .tab A0] : Rs).all noO = true then _ else _) = _
  rw [if_pos ⟨rfl, this⟩]
theorem eqWI {n : Bool} {w : Str} {i j : Int} {R : Rs} (hw : PyData.strOk w = true) : dEqD n (.tup [.str w, .int i]) (.tup [.str w, .int j]) R = .ok (.bl (n ^^ decide (i = j))) R := by
  have e : PyData.eqv (.tuple [.str w, .int i]) (.tuple [.str w, .int j]) = decide (i = j) := by
    show ((w == w) && ((i == j) && true)) = _
    by_cases h : i = j <;> simp [h]
  have s : ∀ k : Int, SeqAt.shaped (.tuple [.str w, .int k]) = true := fun k => by
    have h1 : PyData.canLayAll0 [.str w, .int k] = true := by simp [PyData.canLayAll0, PyData.canLay0, hw]
    show (PyData.canLayAll0 [.str w, .int k] && _) = true
    rw [h1]; rfl
  simp only [dEqD, D.pd, pdL, Option.map_some, e, s, Bool.and_self, if_true]
theorem lst_ok4 {a b c d : D} {R : Rs} : dLst [a, b, c, d] R = .ok (.lst [a, b, c, d]) R := lst_ok (line60 (by show 4 ≤ 100000; decide))
theorem lst_ok6 {a b c d e f : D} {R : Rs} : dLst [a, b, c, d, e, f] R = .ok (.lst [a, b, c, d, e, f]) R := lst_ok (line60 (by show 6 ≤ 100000; decide))
end Lw

namespace Lw
open PySem PySem.Spec PyProof.Rows L2 Sr Pv Rg
variable {A0 : Addr}
/-! ### rigs as lists of numbers -/
def chk (xs : List Int) : Int := xs.foldl (fun a x => (3 * a + x) % 253) 7
def enc1 (p : Int × Int) : List Int := [p.1 / 256, p.1 % 256, if p.2 < 0 then 1 else 0, (p.2.natAbs : Int) / 65536, (p.2.natAbs : Int) / 256 % 256, (p.2.natAbs : Int) % 256]
def body (a : Arms) : List Int := 82 :: (a.length : Int) :: (a.map enc1).flatten
def numsR (a : Arms) : List Int := body a ++ [chk (body a)]
theorem e_checksum {xs : List Int} {R : Rs} : f_checksum [.lst (inD xs)] R = .ok (.int (chk xs)) R := by
  unfold f_checksum
  refine pureF_ok ?_
  unfold m_checksum
  have key : ∀ (ys : List Int) (c : Int) (u : Option D), ∃ u', loopG (dName 2) (gSet .f [] 1 (gOp dMod (gCB dInt1 (Pv.gCons (gOp dAdd (gOp dMul (gC (.int 3)) (gVar 1)) (gVar 2)) Pv.gNil)) (gC (.int 253)))) (inD ys) [some (.lst (inD xs)), some (.int c), u] [] = .nx [some (.lst (inD xs)), some (.int (ys.foldl (fun a x => (3 * a + x) % 253) c)), u'] [] := by
    intro ys
    induction ys with
    | nil => intro c u; exact ⟨u, rfl⟩
    | cons y ys ih =>
      intro c u
      obtain ⟨u', h⟩ := ih ((3 * c + y) % 253) (some (.int y))
      refine ⟨u', ?_⟩
      have c3 : CMul 3 c := cmul_l ⟨by decide, by decide⟩
      have hp : (0 : Int) < 253 := by decide
      show loopG _ _ (.int y :: inD ys) _ _ = _
      unfold loopG
      simp only [raise_ap, raiseI_ap, calmF_ap, le_line, lt_line, var_ap, c_ap, op_ap, un_ap, b_ap, and_ap, or_ap, not_ap, if_ap, andV_ap, orV_ap, ch_ap, nil_ap, cons_ap, star_ap, tup_ap, lst_ap, arm_ap, cb_ap, noPart_ap, part_ap, sl_ap, slL_ap, call_ap, callL_ap, mk_ap, fld_ap, prop_ap, meth_ap, callI_ap, get2_ap, dnew_ap, it_ap, itA_ap, yes_ap, next_ap, seq_ap, set_ap, setO_ap, drop_ap, ret_ap, retN_ap, brk_ap, cnt_ap, never_ap, ifS_ap, aug_ap, app_ap, ext_ap, pop_ap, par_ap, asg_ap, dset_ap, stF_ap, stF2_ap, fldL_ap, see_f, see_g, okM_f, okM_g, okR_f, okR_g, okO_f, okO_g, hide_nil, hide_cons, setAll_cons, setAll_nil, wipe_nil, wipe_cons, runB_ap, runL_ap, startL_ap, startD_ap, out1_nx, out1_rt, dName_ap, dGTup_ap, dGLst_ap, dGCons_ap, dGNil_ap, dAdd_ap, dSub_ap, dMul_ap, dFdiv_ap, dMod_ap, dLt_ap, dLe_ap, dGt_ap, dGe_ap, bOf_ap, dNeg_ap, dNot_ap, eqS_int, eqS_bl, eqS_str, dInt1_ap, dInt1_bl, dMax2_ap, dMin2_ap, dAbs_ap, dSum_ap, dAny_ap, dAll_ap, dLen_l, dLen_t, dLen_a, dIx_l, dIx_t, dIx_a, dTup_ap, dLst_ap, dArm_ap, dList_l, dList_t, dTupl_ap, dTupA_ap, lstOf_ap, tupOf_t, tupOf_a, itemsOf_t, itemsOf_l, dSl_l, dSl_t, dSlL_ap, dCatL_ap, dIsN_ap, rng1_ap, rng2_ap, dRange_1, dRange_2, dRange3_ap, ownB_ap, ownT_ap, ownN_ap, eqI_ap, isC_y, il_int, il_bl, il_str, il_non, il_tup, il_lst, il_armD, il_ins, il_dic, il_ar, il_rig, Bool.false_eq_true, if_false, if_true, Res.bind_ok, Res.bind_bad, Res.out_ok, Res.out_bad, Res.calm_ok, List.map_cons, List.map_nil, List.length_cons, List.length_nil, Nat.reduceAdd, Nat.reduceSub, List.replicate, List.cons_append, List.nil_append, List.getElem?_cons_zero, List.getElem?_cons_succ, List.set_cons_succ, List.set_cons_zero, Bool.true_and, Bool.and_true, Bool.not_false, Bool.not_true, List.contains_nil, Option.bind_some, for_ap, lc_ap, Nat.reduceEqDiff, Nat.reduceLeDiff, Bool.false_xor, Bool.true_xor, and_self, decide_true, decide_false, List.lookup, List.all_cons, List.all_nil, List.contains_cons, Nat.reduceBEq, Bool.or_false, Bool.false_or, Bool.or_true, Bool.true_or, beq_self_eq_true, List.contains_nil, c3, hp]
      exact h
  obtain ⟨u', h⟩ := key xs 7 none
  simp only [raise_ap, raiseI_ap, calmF_ap, le_line, lt_line, var_ap, c_ap, op_ap, un_ap, b_ap, and_ap, or_ap, not_ap, if_ap, andV_ap, orV_ap, ch_ap, nil_ap, cons_ap, star_ap, tup_ap, lst_ap, arm_ap, cb_ap, noPart_ap, part_ap, sl_ap, slL_ap, call_ap, callL_ap, mk_ap, fld_ap, prop_ap, meth_ap, callI_ap, get2_ap, dnew_ap, it_ap, itA_ap, yes_ap, next_ap, seq_ap, set_ap, setO_ap, drop_ap, ret_ap, retN_ap, brk_ap, cnt_ap, never_ap, ifS_ap, aug_ap, app_ap, ext_ap, pop_ap, par_ap, asg_ap, dset_ap, stF_ap, stF2_ap, fldL_ap, see_f, see_g, okM_f, okM_g, okR_f, okR_g, okO_f, okO_g, hide_nil, hide_cons, setAll_cons, setAll_nil, wipe_nil, wipe_cons, runB_ap, runL_ap, startL_ap, startD_ap, out1_nx, out1_rt, dName_ap, dGTup_ap, dGLst_ap, dGCons_ap, dGNil_ap, dAdd_ap, dSub_ap, dMul_ap, dFdiv_ap, dMod_ap, dLt_ap, dLe_ap, dGt_ap, dGe_ap, bOf_ap, dNeg_ap, dNot_ap, eqS_int, eqS_bl, eqS_str, dInt1_ap, dInt1_bl, dMax2_ap, dMin2_ap, dAbs_ap, dSum_ap, dAny_ap, dAll_ap, dLen_l, dLen_t, dLen_a, dIx_l, dIx_t, dIx_a, dTup_ap, dLst_ap, dArm_ap, dList_l, dList_t, dTupl_ap, dTupA_ap, lstOf_ap, tupOf_t, tupOf_a, itemsOf_t, itemsOf_l, dSl_l, dSl_t, dSlL_ap, dCatL_ap, dIsN_ap, rng1_ap, rng2_ap, dRange_1, dRange_2, dRange3_ap, ownB_ap, ownT_ap, ownN_ap, eqI_ap, isC_y, il_int, il_bl, il_str, il_non, il_tup, il_lst, il_armD, il_ins, il_dic, il_ar, il_rig, Bool.false_eq_true, if_false, if_true, Res.bind_ok, Res.bind_bad, Res.out_ok, Res.out_bad, Res.calm_ok, List.map_cons, List.map_nil, List.length_cons, List.length_nil, Nat.reduceAdd, Nat.reduceSub, List.replicate, List.cons_append, List.nil_append, List.getElem?_cons_zero, List.getElem?_cons_succ, List.set_cons_succ, List.set_cons_zero, Bool.true_and, Bool.and_true, Bool.not_false, Bool.not_true, List.contains_nil, Option.bind_some, for_ap, lc_ap, Nat.reduceEqDiff, Nat.reduceLeDiff, Bool.false_xor, Bool.true_xor, and_self, decide_true, decide_false, List.lookup, List.all_cons, List.all_nil, List.contains_cons, Nat.reduceBEq, Bool.or_false, Bool.false_or, Bool.or_true, Bool.true_or, beq_self_eq_true, List.contains_nil, h]
  rfl
theorem e_L_checksum {xs : List Int} {R : Rs} : f_L_checksum [.lst (inD xs)] R = .ok (.int (chk xs)) R := by
  have h := e_checksum (xs := xs) (R := R)
  exact h
/-! ### the reader -/
def rowC (xs : List D) (n : Nat) : D := .ins "Row" [("numbers", .lst xs), ("spot", .int (n : Int))]
def elB : D → Bool
  | .int _ => true
  | .non => true
  | .bl _ => true
  | .str _ => true
  | _ => false
def rdB (d : D) (lo hi : Int) : Bool := match d with
  | .int i => decide (lo ≤ i) && decide (i ≤ hi)
  | _ => false
theorem e_in_any {d : D} {lo hi : Int} {R : Rs} (h : elB d = true) : f_is_int_in [d, .int lo, .int hi] R = .ok (.bl (rdB d lo hi)) R := by
  unfold elB at h
  split at h
  · exact e_is_int_in
  · exact e_oddI .non
  · exact e_oddI .bl
  · exact e_oddI .str
  · cases h
/-- a number that is read: its value and the next spot, or the offset of the error and the spot -/
abbrev RdE (α : Type) := Except (Nat × Nat) (α × Nat)
def nxt (xs : List D) (n : Nat) (lo hi : Int) : RdE Int := match xs[n]? with
  | some (.int i) => if lo ≤ i ∧ i ≤ hi then .ok (i, n + 1) else .error (n, n)
  | _ => .error (n, n)
def outR (xs : List D) : RdE Int → Res D
  | .ok (i, m) => .ok (.int i) [rowC xs m]
  | .error (o, m) => .exc "DecodeError" [("offset", .int (o : Int))] [rowC xs m]
theorem nxt_lt {xs : List D} {n : Nat} {lo hi i : Int} {m : Nat} (h : nxt xs n lo hi = .ok (i, m)) : m = n + 1 ∧ n < xs.length ∧ xs[n]? = some (.int i) ∧ lo ≤ i ∧ i ≤ hi := by
  unfold nxt at h
  split at h
  · rename_i i' q
    split at h
    · rename_i hb
      cases h
      exact ⟨rfl, (List.getElem?_eq_some_iff.mp q).1, q, hb⟩
    · cases h
  · cases h
theorem fl_num {ρ : PEnv} {i : Nat} {xs : List D} {n : Nat} (h : ρ[i]? = some (some (.loc 0))) : gFldL i "Row" "numbers" ρ [rowC xs n] = .ok (.lst xs) [rowC xs n] := by
  unfold gFldL; rw [h]; rfl
theorem fl_spot {ρ : PEnv} {i : Nat} {xs : List D} {n : Nat} (h : ρ[i]? = some (some (.loc 0))) : gFldL i "Row" "spot" ρ [rowC xs n] = .ok (.int (n : Int)) [rowC xs n] := by
  unfold gFldL; rw [h]; rfl
theorem me_row {ρ : PEnv} {i k : Nat} {xs : List D} {n : Nat} {m : Str} {f : Nat → List D → Rs → Res D} {gs : GA} (h : ρ[i]? = some (some (.loc 0))) (hm : List.lookup m [("numbers", D.lst xs), ("spot", D.int (n : Int))] = none) : gMethL i "Row" m k f gs ρ [rowC xs n] = (gs ρ [rowC xs n]).bind fun ds R1 => if ds.length + 1 = k then f 0 ds R1 else .bad := by
  unfold gMethL; rw [h]
  show (if _ then _ else _) = _
  rw [if_pos ⟨rfl, hm⟩]
theorem me_next {ρ : PEnv} {i k : Nat} {xs : List D} {n : Nat} {f : Nat → List D → Rs → Res D} {gs : GA} (h : ρ[i]? = some (some (.loc 0))) : gMethL i "Row" "next_in" k f gs ρ [rowC xs n] = (gs ρ [rowC xs n]).bind fun ds R1 => if ds.length + 1 = k then f 0 ds R1 else .bad := me_row h rfl
theorem me_slack {ρ : PEnv} {i k : Nat} {xs : List D} {n : Nat} {f : Nat → List D → Rs → Res D} {gs : GA} (h : ρ[i]? = some (some (.loc 0))) : gMethL i "Row" "slack" k f gs ρ [rowC xs n] = (gs ρ [rowC xs n]).bind fun ds R1 => if ds.length + 1 = k then f 0 ds R1 else .bad := me_row h rfl
theorem me_arm {ρ : PEnv} {i k : Nat} {xs : List D} {n : Nat} {f : Nat → List D → Rs → Res D} {gs : GA} (h : ρ[i]? = some (some (.loc 0))) : gMethL i "Row" "arm" k f gs ρ [rowC xs n] = (gs ρ [rowC xs n]).bind fun ds R1 => if ds.length + 1 = k then f 0 ds R1 else .bad := me_row h rfl
theorem aug_spot {ρ : PEnv} {xs : List D} {n : Nat} (h : ρ[0]? = some (some (.loc 0))) : gAugFL [] 0 "Row" "spot" (fun i j => i + j) (gC (.int 1)) ρ [rowC xs n] = .nx ρ [rowC xs (n + 1)] := by
  unfold gAugFL
  rw [hide_nil, h]
  rfl
theorem e_next {xs : List D} {n : Nat} {lo hi : Int} (he : ∀ d ∈ xs, elB d = true) (hn : n ≤ xs.length) (hl : xs.length ≤ 1000) : f_Row_next_in 0 [.int lo, .int hi] [rowC xs n] = outR xs (nxt xs n lo hi) := by
  unfold f_Row_next_in m_Row_next_in
  by_cases hq : n = xs.length
  · have e1 : nxt xs n lo hi = .error (n, n) := by
      unfold nxt
      rw [List.getElem?_eq_none (by omega)]
    have hs : smB (n : Int) = true := smB_small (by omega) (by omega)
    have hd : decide ((n : Int) = (xs.length : Int)) = true := decide_eq_true (by omega)
    simp only [raise_ap, raiseI_ap, calmF_ap, le_line, lt_line, var_ap, c_ap, op_ap, un_ap, b_ap, and_ap, or_ap, not_ap, if_ap, andV_ap, orV_ap, ch_ap, nil_ap, cons_ap, star_ap, tup_ap, lst_ap, arm_ap, cb_ap, noPart_ap, part_ap, sl_ap, slL_ap, call_ap, callL_ap, mk_ap, fld_ap, prop_ap, meth_ap, callI_ap, get2_ap, dnew_ap, it_ap, itA_ap, yes_ap, next_ap, seq_ap, set_ap, setO_ap, drop_ap, ret_ap, retN_ap, brk_ap, cnt_ap, never_ap, ifS_ap, aug_ap, app_ap, ext_ap, pop_ap, par_ap, asg_ap, dset_ap, stF_ap, stF2_ap, see_f, see_g, okM_f, okM_g, okR_f, okR_g, okO_f, okO_g, hide_nil, hide_cons, setAll_cons, setAll_nil, wipe_nil, wipe_cons, runB_ap, runL_ap, startL_ap, startD_ap, out1_nx, out1_rt, dName_ap, dGTup_ap, dGLst_ap, dGCons_ap, dGNil_ap, dAdd_ap, dSub_ap, dMul_ap, dFdiv_ap, dMod_ap, dLt_ap, dLe_ap, dGt_ap, dGe_ap, bOf_ap, dNeg_ap, dNot_ap, eqS_int, eqS_bl, eqS_str, dInt1_ap, dInt1_bl, dMax2_ap, dMin2_ap, dAbs_ap, dSum_ap, dAny_ap, dAll_ap, dLen_l, dLen_t, dLen_a, dIx_l, dIx_t, dIx_a, dTup_ap, dLst_ap, dArm_ap, dList_l, dList_t, dTupl_ap, dTupA_ap, lstOf_ap, tupOf_t, tupOf_a, itemsOf_t, itemsOf_l, dSl_l, dSl_t, dSlL_ap, dCatL_ap, dIsN_ap, rng1_ap, rng2_ap, dRange_1, dRange_2, dRange3_ap, ownB_ap, ownT_ap, ownN_ap, eqI_ap, isC_y, il_int, il_bl, il_str, il_non, il_tup, il_lst, il_armD, il_ins, il_dic, il_ar, il_rig, Bool.false_eq_true, if_false, if_true, Res.bind_ok, Res.bind_bad, Res.out_ok, Res.out_bad, Res.calm_ok, List.map_cons, List.map_nil, List.length_cons, List.length_nil, Nat.reduceAdd, Nat.reduceSub, List.replicate, List.cons_append, List.nil_append, List.getElem?_cons_zero, List.getElem?_cons_succ, List.set_cons_succ, List.set_cons_zero, Bool.true_and, Bool.and_true, Bool.not_false, Bool.not_true, List.contains_nil, Option.bind_some, for_ap, lc_ap, Nat.reduceEqDiff, Nat.reduceLeDiff, Bool.false_xor, Bool.true_xor, and_self, decide_true, decide_false, List.lookup, List.all_cons, List.all_nil, List.contains_cons, Nat.reduceBEq, Bool.or_false, Bool.false_or, Bool.or_true, Bool.true_or, beq_self_eq_true, List.contains_nil, fl_spot, fl_num, hd, hs, e1, outR]
    rfl
  · have hd : decide ((n : Int) = (xs.length : Int)) = false := decide_eq_false (by omega)
    have hlt : n < xs.length := by omega
    have hx : xs[n]? = some xs[n] := List.getElem?_eq_getElem hlt
    have hel := he _ (List.getElem_mem hlt)
    have hs : smB (n : Int) = true := smB_small (by omega) (by omega)
    have hat : atI xs (n : Int) = some xs[n] := by rw [atI_nat, hx]
    have hat1 : atI xs (((n + 1 : Nat) : Int) - 1) = some xs[n] := by rw [show ((n + 1 : Nat) : Int) - 1 = (n : Int) by omega]; exact hat
    have e0 := fun R : Rs => e_in_any (lo := lo) (hi := hi) (R := R) hel
    have il : (xs[n]).isLoc = false := by generalize xs[n] = d at hel; cases d <;> first | rfl | cases hel
    generalize hd' : xs[n] = d at *
    cases hb : rdB d lo hi with
    | false =>
      have e1 : nxt xs n lo hi = .error (n, n) := by
        unfold nxt
        rw [hx]
        cases d with
        | int i =>
          have : ¬ (lo ≤ i ∧ i ≤ hi) := fun z => by simp [rdB, z.1, z.2] at hb
          simp [this]
        | _ => rfl
      simp only [raise_ap, raiseI_ap, calmF_ap, le_line, lt_line, var_ap, c_ap, op_ap, un_ap, b_ap, and_ap, or_ap, not_ap, if_ap, andV_ap, orV_ap, ch_ap, nil_ap, cons_ap, star_ap, tup_ap, lst_ap, arm_ap, cb_ap, noPart_ap, part_ap, sl_ap, slL_ap, call_ap, callL_ap, mk_ap, fld_ap, prop_ap, meth_ap, callI_ap, get2_ap, dnew_ap, it_ap, itA_ap, yes_ap, next_ap, seq_ap, set_ap, setO_ap, drop_ap, ret_ap, retN_ap, brk_ap, cnt_ap, never_ap, ifS_ap, aug_ap, app_ap, ext_ap, pop_ap, par_ap, asg_ap, dset_ap, stF_ap, stF2_ap, see_f, see_g, okM_f, okM_g, okR_f, okR_g, okO_f, okO_g, hide_nil, hide_cons, setAll_cons, setAll_nil, wipe_nil, wipe_cons, runB_ap, runL_ap, startL_ap, startD_ap, out1_nx, out1_rt, dName_ap, dGTup_ap, dGLst_ap, dGCons_ap, dGNil_ap, dAdd_ap, dSub_ap, dMul_ap, dFdiv_ap, dMod_ap, dLt_ap, dLe_ap, dGt_ap, dGe_ap, bOf_ap, dNeg_ap, dNot_ap, eqS_int, eqS_bl, eqS_str, dInt1_ap, dInt1_bl, dMax2_ap, dMin2_ap, dAbs_ap, dSum_ap, dAny_ap, dAll_ap, dLen_l, dLen_t, dLen_a, dIx_l, dIx_t, dIx_a, dTup_ap, dLst_ap, dArm_ap, dList_l, dList_t, dTupl_ap, dTupA_ap, lstOf_ap, tupOf_t, tupOf_a, itemsOf_t, itemsOf_l, dSl_l, dSl_t, dSlL_ap, dCatL_ap, dIsN_ap, rng1_ap, rng2_ap, dRange_1, dRange_2, dRange3_ap, ownB_ap, ownT_ap, ownN_ap, eqI_ap, isC_y, il_int, il_bl, il_str, il_non, il_tup, il_lst, il_armD, il_ins, il_dic, il_ar, il_rig, Bool.false_eq_true, if_false, if_true, Res.bind_ok, Res.bind_bad, Res.out_ok, Res.out_bad, Res.calm_ok, List.map_cons, List.map_nil, List.length_cons, List.length_nil, Nat.reduceAdd, Nat.reduceSub, List.replicate, List.cons_append, List.nil_append, List.getElem?_cons_zero, List.getElem?_cons_succ, List.set_cons_succ, List.set_cons_zero, Bool.true_and, Bool.and_true, Bool.not_false, Bool.not_true, List.contains_nil, Option.bind_some, for_ap, lc_ap, Nat.reduceEqDiff, Nat.reduceLeDiff, Bool.false_xor, Bool.true_xor, and_self, decide_true, decide_false, List.lookup, List.all_cons, List.all_nil, List.contains_cons, Nat.reduceBEq, Bool.or_false, Bool.false_or, Bool.or_true, Bool.true_or, beq_self_eq_true, List.contains_nil, fl_spot, fl_num, hd, hat, il, e0, hb, hs, e1, outR]
      rfl
    | true =>
      obtain ⟨i, rfl⟩ : ∃ i, d = .int i := by
        cases d <;> first | exact ⟨_, rfl⟩ | cases hb
      have hb' : lo ≤ i ∧ i ≤ hi := by simpa [rdB] using hb
      have e1 : nxt xs n lo hi = .ok (i, n + 1) := by
        unfold nxt
        rw [hx]
        simp [hb']
      simp only [raise_ap, raiseI_ap, calmF_ap, le_line, lt_line, var_ap, c_ap, op_ap, un_ap, b_ap, and_ap, or_ap, not_ap, if_ap, andV_ap, orV_ap, ch_ap, nil_ap, cons_ap, star_ap, tup_ap, lst_ap, arm_ap, cb_ap, noPart_ap, part_ap, sl_ap, slL_ap, call_ap, callL_ap, mk_ap, fld_ap, prop_ap, meth_ap, callI_ap, get2_ap, dnew_ap, it_ap, itA_ap, yes_ap, next_ap, seq_ap, set_ap, setO_ap, drop_ap, ret_ap, retN_ap, brk_ap, cnt_ap, never_ap, ifS_ap, aug_ap, app_ap, ext_ap, pop_ap, par_ap, asg_ap, dset_ap, stF_ap, stF2_ap, see_f, see_g, okM_f, okM_g, okR_f, okR_g, okO_f, okO_g, hide_nil, hide_cons, setAll_cons, setAll_nil, wipe_nil, wipe_cons, runB_ap, runL_ap, startL_ap, startD_ap, out1_nx, out1_rt, dName_ap, dGTup_ap, dGLst_ap, dGCons_ap, dGNil_ap, dAdd_ap, dSub_ap, dMul_ap, dFdiv_ap, dMod_ap, dLt_ap, dLe_ap, dGt_ap, dGe_ap, bOf_ap, dNeg_ap, dNot_ap, eqS_int, eqS_bl, eqS_str, dInt1_ap, dInt1_bl, dMax2_ap, dMin2_ap, dAbs_ap, dSum_ap, dAny_ap, dAll_ap, dLen_l, dLen_t, dLen_a, dIx_l, dIx_t, dIx_a, dTup_ap, dLst_ap, dArm_ap, dList_l, dList_t, dTupl_ap, dTupA_ap, lstOf_ap, tupOf_t, tupOf_a, itemsOf_t, itemsOf_l, dSl_l, dSl_t, dSlL_ap, dCatL_ap, dIsN_ap, rng1_ap, rng2_ap, dRange_1, dRange_2, dRange3_ap, ownB_ap, ownT_ap, ownN_ap, eqI_ap, isC_y, il_int, il_bl, il_str, il_non, il_tup, il_lst, il_armD, il_ins, il_dic, il_ar, il_rig, Bool.false_eq_true, if_false, if_true, Res.bind_ok, Res.bind_bad, Res.out_ok, Res.out_bad, Res.calm_ok, List.map_cons, List.map_nil, List.length_cons, List.length_nil, Nat.reduceAdd, Nat.reduceSub, List.replicate, List.cons_append, List.nil_append, List.getElem?_cons_zero, List.getElem?_cons_succ, List.set_cons_succ, List.set_cons_zero, Bool.true_and, Bool.and_true, Bool.not_false, Bool.not_true, List.contains_nil, Option.bind_some, for_ap, lc_ap, Nat.reduceEqDiff, Nat.reduceLeDiff, Bool.false_xor, Bool.true_xor, and_self, decide_true, decide_false, List.lookup, List.all_cons, List.all_nil, List.contains_cons, Nat.reduceBEq, Bool.or_false, Bool.false_or, Bool.or_true, Bool.true_or, beq_self_eq_true, List.contains_nil, fl_spot, fl_num, hd, hat, il, e0, hb, aug_spot, hat1, e1, outR]
/-- a slack -/
def slk (xs : List D) (n : Nat) (least : Int) : RdE Int := match nxt xs n (least / 256) 3 with
  | .error e => .error e
  | .ok (h, m) => match nxt xs m (if least - 256 * h > 0 then least - 256 * h else 0) (if 999 - 256 * h < 255 then 999 - 256 * h else 255) with
    | .error e => .error e
    | .ok (l, m2) => .ok (256 * h + l, m2)
theorem nxt_le {xs : List D} {n : Nat} {lo hi i : Int} {m : Nat} (h : nxt xs n lo hi = .ok (i, m)) : m ≤ xs.length := by
  have := nxt_lt h; omega
theorem c256 {x : Int} : CMul 256 x := cmul_l ⟨by decide, by decide⟩
theorem e_slack {xs : List D} {n : Nat} {least : Int} (he : ∀ d ∈ xs, elB d = true) (hn : n ≤ xs.length) (hl : xs.length ≤ 1000) (h0 : 0 ≤ least) : f_Row_slack 0 [.int least] [rowC xs n] = outR xs (slk xs n least) := by
  unfold f_Row_slack m_Row_slack slk
  have d1 : CDiv least 256 := ⟨by decide, by decide⟩
  have d2 : CDiv 999 256 := ⟨by decide, by decide⟩
  have e3 : (999 : Int) / 256 = 3 := by decide
  have e1 := e_next (lo := least / 256) (hi := 3) he hn hl
  cases q : nxt xs n (least / 256) 3 with
  | error e =>
    rw [q] at e1
    simp only [raise_ap, raiseI_ap, calmF_ap, le_line, lt_line, var_ap, c_ap, op_ap, un_ap, b_ap, and_ap, or_ap, not_ap, if_ap, andV_ap, orV_ap, ch_ap, nil_ap, cons_ap, star_ap, tup_ap, lst_ap, arm_ap, cb_ap, noPart_ap, part_ap, sl_ap, slL_ap, call_ap, callL_ap, mk_ap, fld_ap, prop_ap, meth_ap, callI_ap, get2_ap, dnew_ap, it_ap, itA_ap, yes_ap, next_ap, seq_ap, set_ap, setO_ap, drop_ap, ret_ap, retN_ap, brk_ap, cnt_ap, never_ap, ifS_ap, aug_ap, app_ap, ext_ap, pop_ap, par_ap, asg_ap, dset_ap, stF_ap, stF2_ap, see_f, see_g, okM_f, okM_g, okR_f, okR_g, okO_f, okO_g, hide_nil, hide_cons, setAll_cons, setAll_nil, wipe_nil, wipe_cons, runB_ap, runL_ap, startL_ap, startD_ap, out1_nx, out1_rt, dName_ap, dGTup_ap, dGLst_ap, dGCons_ap, dGNil_ap, dAdd_ap, dSub_ap, dMul_ap, dFdiv_ap, dMod_ap, dLt_ap, dLe_ap, dGt_ap, dGe_ap, bOf_ap, dNeg_ap, dNot_ap, eqS_int, eqS_bl, eqS_str, dInt1_ap, dInt1_bl, dMax2_ap, dMin2_ap, dAbs_ap, dSum_ap, dAny_ap, dAll_ap, dLen_l, dLen_t, dLen_a, dIx_l, dIx_t, dIx_a, dTup_ap, dLst_ap, dArm_ap, dList_l, dList_t, dTupl_ap, dTupA_ap, lstOf_ap, tupOf_t, tupOf_a, itemsOf_t, itemsOf_l, dSl_l, dSl_t, dSlL_ap, dCatL_ap, dIsN_ap, rng1_ap, rng2_ap, dRange_1, dRange_2, dRange3_ap, ownB_ap, ownT_ap, ownN_ap, eqI_ap, isC_y, il_int, il_bl, il_str, il_non, il_tup, il_lst, il_armD, il_ins, il_dic, il_ar, il_rig, Bool.false_eq_true, if_false, if_true, Res.bind_ok, Res.bind_bad, Res.out_ok, Res.out_bad, Res.calm_ok, List.map_cons, List.map_nil, List.length_cons, List.length_nil, Nat.reduceAdd, Nat.reduceSub, List.replicate, List.cons_append, List.nil_append, List.getElem?_cons_zero, List.getElem?_cons_succ, List.set_cons_succ, List.set_cons_zero, Bool.true_and, Bool.and_true, Bool.not_false, Bool.not_true, List.contains_nil, Option.bind_some, for_ap, lc_ap, Nat.reduceEqDiff, Nat.reduceLeDiff, Bool.false_xor, Bool.true_xor, and_self, decide_true, decide_false, List.lookup, List.all_cons, List.all_nil, List.contains_cons, Nat.reduceBEq, Bool.or_false, Bool.false_or, Bool.or_true, Bool.true_or, beq_self_eq_true, List.contains_nil, me_next, d1, d2, e3, e1, outR]
    rfl
  | ok r =>
    obtain ⟨h, m⟩ := r
    rw [q] at e1
    have e2 := e_next (n := m) (lo := if least - 256 * h > 0 then least - 256 * h else 0) (hi := if 999 - 256 * h < 255 then 999 - 256 * h else 255) he (nxt_le q) hl
    simp only [raise_ap, raiseI_ap, calmF_ap, le_line, lt_line, var_ap, c_ap, op_ap, un_ap, b_ap, and_ap, or_ap, not_ap, if_ap, andV_ap, orV_ap, ch_ap, nil_ap, cons_ap, star_ap, tup_ap, lst_ap, arm_ap, cb_ap, noPart_ap, part_ap, sl_ap, slL_ap, call_ap, callL_ap, mk_ap, fld_ap, prop_ap, meth_ap, callI_ap, get2_ap, dnew_ap, it_ap, itA_ap, yes_ap, next_ap, seq_ap, set_ap, setO_ap, drop_ap, ret_ap, retN_ap, brk_ap, cnt_ap, never_ap, ifS_ap, aug_ap, app_ap, ext_ap, pop_ap, par_ap, asg_ap, dset_ap, stF_ap, stF2_ap, see_f, see_g, okM_f, okM_g, okR_f, okR_g, okO_f, okO_g, hide_nil, hide_cons, setAll_cons, setAll_nil, wipe_nil, wipe_cons, runB_ap, runL_ap, startL_ap, startD_ap, out1_nx, out1_rt, dName_ap, dGTup_ap, dGLst_ap, dGCons_ap, dGNil_ap, dAdd_ap, dSub_ap, dMul_ap, dFdiv_ap, dMod_ap, dLt_ap, dLe_ap, dGt_ap, dGe_ap, bOf_ap, dNeg_ap, dNot_ap, eqS_int, eqS_bl, eqS_str, dInt1_ap, dInt1_bl, dMax2_ap, dMin2_ap, dAbs_ap, dSum_ap, dAny_ap, dAll_ap, dLen_l, dLen_t, dLen_a, dIx_l, dIx_t, dIx_a, dTup_ap, dLst_ap, dArm_ap, dList_l, dList_t, dTupl_ap, dTupA_ap, lstOf_ap, tupOf_t, tupOf_a, itemsOf_t, itemsOf_l, dSl_l, dSl_t, dSlL_ap, dCatL_ap, dIsN_ap, rng1_ap, rng2_ap, dRange_1, dRange_2, dRange3_ap, ownB_ap, ownT_ap, ownN_ap, eqI_ap, isC_y, il_int, il_bl, il_str, il_non, il_tup, il_lst, il_armD, il_ins, il_dic, il_ar, il_rig, Bool.false_eq_true, if_false, if_true, Res.bind_ok, Res.bind_bad, Res.out_ok, Res.out_bad, Res.calm_ok, List.map_cons, List.map_nil, List.length_cons, List.length_nil, Nat.reduceAdd, Nat.reduceSub, List.replicate, List.cons_append, List.nil_append, List.getElem?_cons_zero, List.getElem?_cons_succ, List.set_cons_succ, List.set_cons_zero, Bool.true_and, Bool.and_true, Bool.not_false, Bool.not_true, List.contains_nil, Option.bind_some, for_ap, lc_ap, Nat.reduceEqDiff, Nat.reduceLeDiff, Bool.false_xor, Bool.true_xor, and_self, decide_true, decide_false, List.lookup, List.all_cons, List.all_nil, List.contains_cons, Nat.reduceBEq, Bool.or_false, Bool.false_or, Bool.or_true, Bool.true_or, beq_self_eq_true, List.contains_nil, me_next, d1, d2, e3, e1, e2, outR, c256]
    cases q2 : nxt xs m (if least - 256 * h > 0 then least - 256 * h else 0) (if 999 - 256 * h < 255 then 999 - 256 * h else 255) with
    | error e => simp only [outR, raise_ap, raiseI_ap, calmF_ap, le_line, lt_line, var_ap, c_ap, op_ap, un_ap, b_ap, and_ap, or_ap, not_ap, if_ap, andV_ap, orV_ap, ch_ap, nil_ap, cons_ap, star_ap, tup_ap, lst_ap, arm_ap, cb_ap, noPart_ap, part_ap, sl_ap, slL_ap, call_ap, callL_ap, mk_ap, fld_ap, prop_ap, meth_ap, callI_ap, get2_ap, dnew_ap, it_ap, itA_ap, yes_ap, next_ap, seq_ap, set_ap, setO_ap, drop_ap, ret_ap, retN_ap, brk_ap, cnt_ap, never_ap, ifS_ap, aug_ap, app_ap, ext_ap, pop_ap, par_ap, asg_ap, dset_ap, stF_ap, stF2_ap, fldL_ap, see_f, see_g, okM_f, okM_g, okR_f, okR_g, okO_f, okO_g, hide_nil, hide_cons, setAll_cons, setAll_nil, wipe_nil, wipe_cons, runB_ap, runL_ap, startL_ap, startD_ap, out1_nx, out1_rt, dName_ap, dGTup_ap, dGLst_ap, dGCons_ap, dGNil_ap, dAdd_ap, dSub_ap, dMul_ap, dFdiv_ap, dMod_ap, dLt_ap, dLe_ap, dGt_ap, dGe_ap, bOf_ap, dNeg_ap, dNot_ap, eqS_int, eqS_bl, eqS_str, dInt1_ap, dInt1_bl, dMax2_ap, dMin2_ap, dAbs_ap, dSum_ap, dAny_ap, dAll_ap, dLen_l, dLen_t, dLen_a, dIx_l, dIx_t, dIx_a, dTup_ap, dLst_ap, dArm_ap, dList_l, dList_t, dTupl_ap, dTupA_ap, lstOf_ap, tupOf_t, tupOf_a, itemsOf_t, itemsOf_l, dSl_l, dSl_t, dSlL_ap, dCatL_ap, dIsN_ap, rng1_ap, rng2_ap, dRange_1, dRange_2, dRange3_ap, ownB_ap, ownT_ap, ownN_ap, eqI_ap, isC_y, il_int, il_bl, il_str, il_non, il_tup, il_lst, il_armD, il_ins, il_dic, il_ar, il_rig, Bool.false_eq_true, if_false, if_true, Res.bind_ok, Res.bind_bad, Res.out_ok, Res.out_bad, Res.calm_ok, List.map_cons, List.map_nil, List.length_cons, List.length_nil, Nat.reduceAdd, Nat.reduceSub, List.replicate, List.cons_append, List.nil_append, List.getElem?_cons_zero, List.getElem?_cons_succ, List.set_cons_succ, List.set_cons_zero, Bool.true_and, Bool.and_true, Bool.not_false, Bool.not_true, List.contains_nil, Option.bind_some, for_ap, lc_ap, Nat.reduceEqDiff, Nat.reduceLeDiff, Bool.false_xor, Bool.true_xor, and_self, decide_true, decide_false, List.lookup, List.all_cons, List.all_nil, List.contains_cons, Nat.reduceBEq, Bool.or_false, Bool.false_or, Bool.or_true, Bool.true_or, beq_self_eq_true, List.contains_nil]; rfl
    | ok r2 => simp only [outR, raise_ap, raiseI_ap, calmF_ap, le_line, lt_line, var_ap, c_ap, op_ap, un_ap, b_ap, and_ap, or_ap, not_ap, if_ap, andV_ap, orV_ap, ch_ap, nil_ap, cons_ap, star_ap, tup_ap, lst_ap, arm_ap, cb_ap, noPart_ap, part_ap, sl_ap, slL_ap, call_ap, callL_ap, mk_ap, fld_ap, prop_ap, meth_ap, callI_ap, get2_ap, dnew_ap, it_ap, itA_ap, yes_ap, next_ap, seq_ap, set_ap, setO_ap, drop_ap, ret_ap, retN_ap, brk_ap, cnt_ap, never_ap, ifS_ap, aug_ap, app_ap, ext_ap, pop_ap, par_ap, asg_ap, dset_ap, stF_ap, stF2_ap, fldL_ap, see_f, see_g, okM_f, okM_g, okR_f, okR_g, okO_f, okO_g, hide_nil, hide_cons, setAll_cons, setAll_nil, wipe_nil, wipe_cons, runB_ap, runL_ap, startL_ap, startD_ap, out1_nx, out1_rt, dName_ap, dGTup_ap, dGLst_ap, dGCons_ap, dGNil_ap, dAdd_ap, dSub_ap, dMul_ap, dFdiv_ap, dMod_ap, dLt_ap, dLe_ap, dGt_ap, dGe_ap, bOf_ap, dNeg_ap, dNot_ap, eqS_int, eqS_bl, eqS_str, dInt1_ap, dInt1_bl, dMax2_ap, dMin2_ap, dAbs_ap, dSum_ap, dAny_ap, dAll_ap, dLen_l, dLen_t, dLen_a, dIx_l, dIx_t, dIx_a, dTup_ap, dLst_ap, dArm_ap, dList_l, dList_t, dTupl_ap, dTupA_ap, lstOf_ap, tupOf_t, tupOf_a, itemsOf_t, itemsOf_l, dSl_l, dSl_t, dSlL_ap, dCatL_ap, dIsN_ap, rng1_ap, rng2_ap, dRange_1, dRange_2, dRange3_ap, ownB_ap, ownT_ap, ownN_ap, eqI_ap, isC_y, il_int, il_bl, il_str, il_non, il_tup, il_lst, il_armD, il_ins, il_dic, il_ar, il_rig, Bool.false_eq_true, if_false, if_true, Res.bind_ok, Res.bind_bad, Res.out_ok, Res.out_bad, Res.calm_ok, List.map_cons, List.map_nil, List.length_cons, List.length_nil, Nat.reduceAdd, Nat.reduceSub, List.replicate, List.cons_append, List.nil_append, List.getElem?_cons_zero, List.getElem?_cons_succ, List.set_cons_succ, List.set_cons_zero, Bool.true_and, Bool.and_true, Bool.not_false, Bool.not_true, List.contains_nil, Option.bind_some, for_ap, lc_ap, Nat.reduceEqDiff, Nat.reduceLeDiff, Bool.false_xor, Bool.true_xor, and_self, decide_true, decide_false, List.lookup, List.all_cons, List.all_nil, List.contains_cons, Nat.reduceBEq, Bool.or_false, Bool.false_or, Bool.or_true, Bool.true_or, beq_self_eq_true, List.contains_nil]
/-- an arm -/
def armE (xs : List D) (n : Nat) : RdE Int := match nxt xs n 0 1 with
  | .error e => .error e
  | .ok (s, b) => match nxt xs b 0 255 with
    | .error e => .error e
    | .ok (x, m1) => match nxt xs m1 0 255 with
      | .error e => .error e
      | .ok (y, m2) => match nxt xs m2 0 255 with
        | .error e => .error e
        | .ok (z, m3) => if 1 ≤ 256 * (256 * (256 * 0 + x) + y) + z ∧ 256 * (256 * (256 * 0 + x) + y) + z ≤ 1000000 then .ok (if s = 1 then -(256 * (256 * (256 * 0 + x) + y) + z) else 256 * (256 * (256 * 0 + x) + y) + z, m3) else .error (b, m3)
theorem e_arm {xs : List D} {n : Nat} (he : ∀ d ∈ xs, elB d = true) (hn : n ≤ xs.length) (hl : xs.length ≤ 1000) : f_Row_arm 0 [] [rowC xs n] = outR xs (armE xs n) := by
  unfold f_Row_arm m_Row_arm armE
  have hf : flOk [] [2, 3] [false, false] = true := rfl
  have hnd : decide (([2, 3] : List Nat).Nodup) = true := rfl
  have r3 : ∀ R, rng1 [.int 3] R = .ok [D.int 0, .int 1, .int 2] R := fun R => rfl
  have e1 := e_next (lo := 0) (hi := 1) he hn hl
  cases q : nxt xs n 0 1 with
  | error e =>
    rw [q] at e1
    simp only [raise_ap, raiseI_ap, calmF_ap, le_line, lt_line, var_ap, c_ap, op_ap, un_ap, b_ap, and_ap, or_ap, not_ap, if_ap, andV_ap, orV_ap, ch_ap, nil_ap, cons_ap, star_ap, tup_ap, lst_ap, arm_ap, cb_ap, noPart_ap, part_ap, sl_ap, slL_ap, call_ap, callL_ap, mk_ap, fld_ap, prop_ap, meth_ap, callI_ap, get2_ap, dnew_ap, it_ap, itA_ap, yes_ap, next_ap, seq_ap, set_ap, setO_ap, drop_ap, ret_ap, retN_ap, brk_ap, cnt_ap, never_ap, ifS_ap, aug_ap, app_ap, ext_ap, pop_ap, par_ap, asg_ap, dset_ap, stF_ap, stF2_ap, see_f, see_g, okM_f, okM_g, okR_f, okR_g, okO_f, okO_g, hide_nil, hide_cons, setAll_cons, setAll_nil, wipe_nil, wipe_cons, runB_ap, runL_ap, startL_ap, startD_ap, out1_nx, out1_rt, dName_ap, dGTup_ap, dGLst_ap, dGCons_ap, dGNil_ap, dAdd_ap, dSub_ap, dMul_ap, dFdiv_ap, dMod_ap, dLt_ap, dLe_ap, dGt_ap, dGe_ap, bOf_ap, dNeg_ap, dNot_ap, eqS_int, eqS_bl, eqS_str, dInt1_ap, dInt1_bl, dMax2_ap, dMin2_ap, dAbs_ap, dSum_ap, dAny_ap, dAll_ap, dLen_l, dLen_t, dLen_a, dIx_l, dIx_t, dIx_a, dTup_ap, dLst_ap, dArm_ap, dList_l, dList_t, dTupl_ap, dTupA_ap, lstOf_ap, tupOf_t, tupOf_a, itemsOf_t, itemsOf_l, dSl_l, dSl_t, dSlL_ap, dCatL_ap, dIsN_ap, rng1_ap, rng2_ap, dRange_1, dRange_2, dRange3_ap, ownB_ap, ownT_ap, ownN_ap, eqI_ap, isC_y, il_int, il_bl, il_str, il_non, il_tup, il_lst, il_armD, il_ins, il_dic, il_ar, il_rig, Bool.false_eq_true, if_false, if_true, Res.bind_ok, Res.bind_bad, Res.out_ok, Res.out_bad, Res.calm_ok, List.map_cons, List.map_nil, List.length_cons, List.length_nil, Nat.reduceAdd, Nat.reduceSub, List.replicate, List.cons_append, List.nil_append, List.getElem?_cons_zero, List.getElem?_cons_succ, List.set_cons_succ, List.set_cons_zero, Bool.true_and, Bool.and_true, Bool.not_false, Bool.not_true, List.contains_nil, Option.bind_some, for_ap, lc_ap, Nat.reduceEqDiff, Nat.reduceLeDiff, Bool.false_xor, Bool.true_xor, and_self, decide_true, decide_false, List.lookup, List.all_cons, List.all_nil, List.contains_cons, Nat.reduceBEq, Bool.or_false, Bool.false_or, Bool.or_true, Bool.true_or, beq_self_eq_true, List.contains_nil, me_next, e1, outR]
    rfl
  | ok r =>
    obtain ⟨s, b⟩ := r
    rw [q] at e1
    have hb := nxt_le q
    have e2 := e_next (lo := 0) (hi := 255) he hb hl
    simp only [raise_ap, raiseI_ap, calmF_ap, le_line, lt_line, var_ap, c_ap, op_ap, un_ap, b_ap, and_ap, or_ap, not_ap, if_ap, andV_ap, orV_ap, ch_ap, nil_ap, cons_ap, star_ap, tup_ap, lst_ap, arm_ap, cb_ap, noPart_ap, part_ap, sl_ap, slL_ap, call_ap, callL_ap, mk_ap, fld_ap, prop_ap, meth_ap, callI_ap, get2_ap, dnew_ap, it_ap, itA_ap, yes_ap, next_ap, seq_ap, set_ap, setO_ap, drop_ap, ret_ap, retN_ap, brk_ap, cnt_ap, never_ap, ifS_ap, aug_ap, app_ap, ext_ap, pop_ap, par_ap, asg_ap, dset_ap, stF_ap, stF2_ap, see_f, see_g, okM_f, okM_g, okR_f, okR_g, okO_f, okO_g, hide_nil, hide_cons, setAll_cons, setAll_nil, wipe_nil, wipe_cons, runB_ap, runL_ap, startL_ap, startD_ap, out1_nx, out1_rt, dName_ap, dGTup_ap, dGLst_ap, dGCons_ap, dGNil_ap, dAdd_ap, dSub_ap, dMul_ap, dFdiv_ap, dMod_ap, dLt_ap, dLe_ap, dGt_ap, dGe_ap, bOf_ap, dNeg_ap, dNot_ap, eqS_int, eqS_bl, eqS_str, dInt1_ap, dInt1_bl, dMax2_ap, dMin2_ap, dAbs_ap, dSum_ap, dAny_ap, dAll_ap, dLen_l, dLen_t, dLen_a, dIx_l, dIx_t, dIx_a, dTup_ap, dLst_ap, dArm_ap, dList_l, dList_t, dTupl_ap, dTupA_ap, lstOf_ap, tupOf_t, tupOf_a, itemsOf_t, itemsOf_l, dSl_l, dSl_t, dSlL_ap, dCatL_ap, dIsN_ap, rng2_ap, dRange_1, dRange_2, dRange3_ap, ownB_ap, ownT_ap, ownN_ap, eqI_ap, isC_y, il_int, il_bl, il_str, il_non, il_tup, il_lst, il_armD, il_ins, il_dic, il_ar, il_rig, Bool.false_eq_true, if_false, if_true, Res.bind_ok, Res.bind_bad, Res.out_ok, Res.out_bad, Res.calm_ok, List.map_cons, List.map_nil, List.length_cons, List.length_nil, Nat.reduceAdd, Nat.reduceSub, List.replicate, List.cons_append, List.nil_append, List.getElem?_cons_zero, List.getElem?_cons_succ, List.set_cons_succ, List.set_cons_zero, Bool.true_and, Bool.and_true, Bool.not_false, Bool.not_true, List.contains_nil, Option.bind_some, for_ap, lc_ap, Nat.reduceEqDiff, Nat.reduceLeDiff, Bool.false_xor, Bool.true_xor, and_self, decide_true, decide_false, List.lookup, List.all_cons, List.all_nil, List.contains_cons, Nat.reduceBEq, Bool.or_false, Bool.false_or, Bool.or_true, Bool.true_or, beq_self_eq_true, List.contains_nil, hf, hnd, me_next, fl_spot, e1, outR, r3]
    cases q1 : nxt xs b 0 255 with
    | error e =>
      rw [q1] at e2
      simp only [raise_ap, raiseI_ap, calmF_ap, le_line, lt_line, var_ap, c_ap, op_ap, un_ap, b_ap, and_ap, or_ap, not_ap, if_ap, andV_ap, orV_ap, ch_ap, nil_ap, cons_ap, star_ap, tup_ap, lst_ap, arm_ap, cb_ap, noPart_ap, part_ap, sl_ap, slL_ap, call_ap, callL_ap, mk_ap, fld_ap, prop_ap, meth_ap, callI_ap, get2_ap, dnew_ap, it_ap, itA_ap, yes_ap, next_ap, seq_ap, set_ap, setO_ap, drop_ap, ret_ap, retN_ap, brk_ap, cnt_ap, never_ap, ifS_ap, aug_ap, app_ap, ext_ap, pop_ap, par_ap, asg_ap, dset_ap, stF_ap, stF2_ap, see_f, see_g, okM_f, okM_g, okR_f, okR_g, okO_f, okO_g, hide_nil, hide_cons, setAll_cons, setAll_nil, wipe_nil, wipe_cons, runB_ap, runL_ap, startL_ap, startD_ap, out1_nx, out1_rt, dName_ap, dGTup_ap, dGLst_ap, dGCons_ap, dGNil_ap, dAdd_ap, dSub_ap, dMul_ap, dFdiv_ap, dMod_ap, dLt_ap, dLe_ap, dGt_ap, dGe_ap, bOf_ap, dNeg_ap, dNot_ap, eqS_int, eqS_bl, eqS_str, dInt1_ap, dInt1_bl, dMax2_ap, dMin2_ap, dAbs_ap, dSum_ap, dAny_ap, dAll_ap, dLen_l, dLen_t, dLen_a, dIx_l, dIx_t, dIx_a, dTup_ap, dLst_ap, dArm_ap, dList_l, dList_t, dTupl_ap, dTupA_ap, lstOf_ap, tupOf_t, tupOf_a, itemsOf_t, itemsOf_l, dSl_l, dSl_t, dSlL_ap, dCatL_ap, dIsN_ap, rng2_ap, dRange_1, dRange_2, dRange3_ap, ownB_ap, ownT_ap, ownN_ap, eqI_ap, isC_y, il_int, il_bl, il_str, il_non, il_tup, il_lst, il_armD, il_ins, il_dic, il_ar, il_rig, Bool.false_eq_true, if_false, if_true, Res.bind_ok, Res.bind_bad, Res.out_ok, Res.out_bad, Res.calm_ok, List.map_cons, List.map_nil, List.length_cons, List.length_nil, Nat.reduceAdd, Nat.reduceSub, List.replicate, List.cons_append, List.nil_append, List.getElem?_cons_zero, List.getElem?_cons_succ, List.set_cons_succ, List.set_cons_zero, Bool.true_and, Bool.and_true, Bool.not_false, Bool.not_true, List.contains_nil, Option.bind_some, for_ap, lc_ap, Nat.reduceEqDiff, Nat.reduceLeDiff, Bool.false_xor, Bool.true_xor, and_self, decide_true, decide_false, List.lookup, List.all_cons, List.all_nil, List.contains_cons, Nat.reduceBEq, Bool.or_false, Bool.false_or, Bool.or_true, Bool.true_or, beq_self_eq_true, List.contains_nil, loopG, hf, hnd, me_next, e2, outR, c256, Res.bind_exc, Res.out_exc]
      all_goals rfl
    | ok r =>
      obtain ⟨x, m1⟩ := r
      rw [q1] at e2
      have e3 := e_next (lo := 0) (hi := 255) he (nxt_le q1) hl
      cases q2 : nxt xs m1 0 255 with
      | error e =>
        rw [q2] at e3
        simp only [raise_ap, raiseI_ap, calmF_ap, le_line, lt_line, var_ap, c_ap, op_ap, un_ap, b_ap, and_ap, or_ap, not_ap, if_ap, andV_ap, orV_ap, ch_ap, nil_ap, cons_ap, star_ap, tup_ap, lst_ap, arm_ap, cb_ap, noPart_ap, part_ap, sl_ap, slL_ap, call_ap, callL_ap, mk_ap, fld_ap, prop_ap, meth_ap, callI_ap, get2_ap, dnew_ap, it_ap, itA_ap, yes_ap, next_ap, seq_ap, set_ap, setO_ap, drop_ap, ret_ap, retN_ap, brk_ap, cnt_ap, never_ap, ifS_ap, aug_ap, app_ap, ext_ap, pop_ap, par_ap, asg_ap, dset_ap, stF_ap, stF2_ap, see_f, see_g, okM_f, okM_g, okR_f, okR_g, okO_f, okO_g, hide_nil, hide_cons, setAll_cons, setAll_nil, wipe_nil, wipe_cons, runB_ap, runL_ap, startL_ap, startD_ap, out1_nx, out1_rt, dName_ap, dGTup_ap, dGLst_ap, dGCons_ap, dGNil_ap, dAdd_ap, dSub_ap, dMul_ap, dFdiv_ap, dMod_ap, dLt_ap, dLe_ap, dGt_ap, dGe_ap, bOf_ap, dNeg_ap, dNot_ap, eqS_int, eqS_bl, eqS_str, dInt1_ap, dInt1_bl, dMax2_ap, dMin2_ap, dAbs_ap, dSum_ap, dAny_ap, dAll_ap, dLen_l, dLen_t, dLen_a, dIx_l, dIx_t, dIx_a, dTup_ap, dLst_ap, dArm_ap, dList_l, dList_t, dTupl_ap, dTupA_ap, lstOf_ap, tupOf_t, tupOf_a, itemsOf_t, itemsOf_l, dSl_l, dSl_t, dSlL_ap, dCatL_ap, dIsN_ap, rng2_ap, dRange_1, dRange_2, dRange3_ap, ownB_ap, ownT_ap, ownN_ap, eqI_ap, isC_y, il_int, il_bl, il_str, il_non, il_tup, il_lst, il_armD, il_ins, il_dic, il_ar, il_rig, Bool.false_eq_true, if_false, if_true, Res.bind_ok, Res.bind_bad, Res.out_ok, Res.out_bad, Res.calm_ok, List.map_cons, List.map_nil, List.length_cons, List.length_nil, Nat.reduceAdd, Nat.reduceSub, List.replicate, List.cons_append, List.nil_append, List.getElem?_cons_zero, List.getElem?_cons_succ, List.set_cons_succ, List.set_cons_zero, Bool.true_and, Bool.and_true, Bool.not_false, Bool.not_true, List.contains_nil, Option.bind_some, for_ap, lc_ap, Nat.reduceEqDiff, Nat.reduceLeDiff, Bool.false_xor, Bool.true_xor, and_self, decide_true, decide_false, List.lookup, List.all_cons, List.all_nil, List.contains_cons, Nat.reduceBEq, Bool.or_false, Bool.false_or, Bool.or_true, Bool.true_or, beq_self_eq_true, List.contains_nil, loopG, hf, hnd, q2, me_next, e2, e3, outR, c256, Res.bind_exc, Res.out_exc]
        all_goals rfl
      | ok r =>
        obtain ⟨y, m2⟩ := r
        rw [q2] at e3
        have e4 := e_next (lo := 0) (hi := 255) he (nxt_le q2) hl
        cases q3 : nxt xs m2 0 255 with
        | error e =>
          rw [q3] at e4
          simp only [raise_ap, raiseI_ap, calmF_ap, le_line, lt_line, var_ap, c_ap, op_ap, un_ap, b_ap, and_ap, or_ap, not_ap, if_ap, andV_ap, orV_ap, ch_ap, nil_ap, cons_ap, star_ap, tup_ap, lst_ap, arm_ap, cb_ap, noPart_ap, part_ap, sl_ap, slL_ap, call_ap, callL_ap, mk_ap, fld_ap, prop_ap, meth_ap, callI_ap, get2_ap, dnew_ap, it_ap, itA_ap, yes_ap, next_ap, seq_ap, set_ap, setO_ap, drop_ap, ret_ap, retN_ap, brk_ap, cnt_ap, never_ap, ifS_ap, aug_ap, app_ap, ext_ap, pop_ap, par_ap, asg_ap, dset_ap, stF_ap, stF2_ap, see_f, see_g, okM_f, okM_g, okR_f, okR_g, okO_f, okO_g, hide_nil, hide_cons, setAll_cons, setAll_nil, wipe_nil, wipe_cons, runB_ap, runL_ap, startL_ap, startD_ap, out1_nx, out1_rt, dName_ap, dGTup_ap, dGLst_ap, dGCons_ap, dGNil_ap, dAdd_ap, dSub_ap, dMul_ap, dFdiv_ap, dMod_ap, dLt_ap, dLe_ap, dGt_ap, dGe_ap, bOf_ap, dNeg_ap, dNot_ap, eqS_int, eqS_bl, eqS_str, dInt1_ap, dInt1_bl, dMax2_ap, dMin2_ap, dAbs_ap, dSum_ap, dAny_ap, dAll_ap, dLen_l, dLen_t, dLen_a, dIx_l, dIx_t, dIx_a, dTup_ap, dLst_ap, dArm_ap, dList_l, dList_t, dTupl_ap, dTupA_ap, lstOf_ap, tupOf_t, tupOf_a, itemsOf_t, itemsOf_l, dSl_l, dSl_t, dSlL_ap, dCatL_ap, dIsN_ap, rng2_ap, dRange_1, dRange_2, dRange3_ap, ownB_ap, ownT_ap, ownN_ap, eqI_ap, isC_y, il_int, il_bl, il_str, il_non, il_tup, il_lst, il_armD, il_ins, il_dic, il_ar, il_rig, Bool.false_eq_true, if_false, if_true, Res.bind_ok, Res.bind_bad, Res.out_ok, Res.out_bad, Res.calm_ok, List.map_cons, List.map_nil, List.length_cons, List.length_nil, Nat.reduceAdd, Nat.reduceSub, List.replicate, List.cons_append, List.nil_append, List.getElem?_cons_zero, List.getElem?_cons_succ, List.set_cons_succ, List.set_cons_zero, Bool.true_and, Bool.and_true, Bool.not_false, Bool.not_true, List.contains_nil, Option.bind_some, for_ap, lc_ap, Nat.reduceEqDiff, Nat.reduceLeDiff, Bool.false_xor, Bool.true_xor, and_self, decide_true, decide_false, List.lookup, List.all_cons, List.all_nil, List.contains_cons, Nat.reduceBEq, Bool.or_false, Bool.false_or, Bool.or_true, Bool.true_or, beq_self_eq_true, List.contains_nil, loopG, hf, hnd, q2, q3, me_next, e2, e3, e4, outR, c256, Res.bind_exc, Res.out_exc]
          all_goals rfl
        | ok r =>
          obtain ⟨z, m3⟩ := r
          rw [q3] at e4
          have hs : smB (b : Int) = true := smB_small (by omega) (by omega)
          simp only [raise_ap, raiseI_ap, calmF_ap, le_line, lt_line, var_ap, c_ap, op_ap, un_ap, b_ap, and_ap, or_ap, not_ap, if_ap, andV_ap, orV_ap, ch_ap, nil_ap, cons_ap, star_ap, tup_ap, lst_ap, arm_ap, cb_ap, noPart_ap, part_ap, sl_ap, slL_ap, call_ap, callL_ap, mk_ap, fld_ap, prop_ap, meth_ap, callI_ap, get2_ap, dnew_ap, it_ap, itA_ap, yes_ap, next_ap, seq_ap, set_ap, setO_ap, drop_ap, ret_ap, retN_ap, brk_ap, cnt_ap, never_ap, ifS_ap, aug_ap, app_ap, ext_ap, pop_ap, par_ap, asg_ap, dset_ap, stF_ap, stF2_ap, see_f, see_g, okM_f, okM_g, okR_f, okR_g, okO_f, okO_g, hide_nil, hide_cons, setAll_cons, setAll_nil, wipe_nil, wipe_cons, runB_ap, runL_ap, startL_ap, startD_ap, out1_nx, out1_rt, dName_ap, dGTup_ap, dGLst_ap, dGCons_ap, dGNil_ap, dAdd_ap, dSub_ap, dMul_ap, dFdiv_ap, dMod_ap, dLt_ap, dLe_ap, dGt_ap, dGe_ap, bOf_ap, dNeg_ap, dNot_ap, eqS_int, eqS_bl, eqS_str, dInt1_ap, dInt1_bl, dMax2_ap, dMin2_ap, dAbs_ap, dSum_ap, dAny_ap, dAll_ap, dLen_l, dLen_t, dLen_a, dIx_l, dIx_t, dIx_a, dTup_ap, dLst_ap, dArm_ap, dList_l, dList_t, dTupl_ap, dTupA_ap, lstOf_ap, tupOf_t, tupOf_a, itemsOf_t, itemsOf_l, dSl_l, dSl_t, dSlL_ap, dCatL_ap, dIsN_ap, rng2_ap, dRange_1, dRange_2, dRange3_ap, ownB_ap, ownT_ap, ownN_ap, eqI_ap, isC_y, il_int, il_bl, il_str, il_non, il_tup, il_lst, il_armD, il_ins, il_dic, il_ar, il_rig, Bool.false_eq_true, if_false, if_true, Res.bind_ok, Res.bind_bad, Res.out_ok, Res.out_bad, Res.calm_ok, List.map_cons, List.map_nil, List.length_cons, List.length_nil, Nat.reduceAdd, Nat.reduceSub, List.replicate, List.cons_append, List.nil_append, List.getElem?_cons_zero, List.getElem?_cons_succ, List.set_cons_succ, List.set_cons_zero, Bool.true_and, Bool.and_true, Bool.not_false, Bool.not_true, List.contains_nil, Option.bind_some, for_ap, lc_ap, Nat.reduceEqDiff, Nat.reduceLeDiff, Bool.false_xor, Bool.true_xor, and_self, decide_true, decide_false, List.lookup, List.all_cons, List.all_nil, List.contains_cons, Nat.reduceBEq, Bool.or_false, Bool.false_or, Bool.or_true, Bool.true_or, beq_self_eq_true, List.contains_nil, loopG, hf, hnd, q2, q3, me_next, e2, e3, e4, outR, c256]
          generalize 256 * (256 * (256 * 0 + x) + y) + z = v
          by_cases h1 : 1 ≤ v
          · by_cases h2 : v ≤ 1000000
            · rw [if_pos ⟨h1, h2⟩]
              have d1 : decide (1 ≤ v) = true := decide_eq_true h1
              have d2 : decide (v ≤ 1000000) = true := decide_eq_true h2
              by_cases h3 : s = 1
              · simp only [raise_ap, raiseI_ap, calmF_ap, le_line, lt_line, var_ap, c_ap, op_ap, un_ap, b_ap, and_ap, or_ap, not_ap, if_ap, andV_ap, orV_ap, ch_ap, nil_ap, cons_ap, star_ap, tup_ap, lst_ap, arm_ap, cb_ap, noPart_ap, part_ap, sl_ap, slL_ap, call_ap, callL_ap, mk_ap, fld_ap, prop_ap, meth_ap, callI_ap, get2_ap, dnew_ap, it_ap, itA_ap, yes_ap, next_ap, seq_ap, set_ap, setO_ap, drop_ap, ret_ap, retN_ap, brk_ap, cnt_ap, never_ap, ifS_ap, aug_ap, app_ap, ext_ap, pop_ap, par_ap, asg_ap, dset_ap, stF_ap, stF2_ap, see_f, see_g, okM_f, okM_g, okR_f, okR_g, okO_f, okO_g, hide_nil, hide_cons, setAll_cons, setAll_nil, wipe_nil, wipe_cons, runB_ap, runL_ap, startL_ap, startD_ap, out1_nx, out1_rt, dName_ap, dGTup_ap, dGLst_ap, dGCons_ap, dGNil_ap, dAdd_ap, dSub_ap, dMul_ap, dFdiv_ap, dMod_ap, dLt_ap, dLe_ap, dGt_ap, dGe_ap, bOf_ap, dNeg_ap, dNot_ap, eqS_int, eqS_bl, eqS_str, dInt1_ap, dInt1_bl, dMax2_ap, dMin2_ap, dAbs_ap, dSum_ap, dAny_ap, dAll_ap, dLen_l, dLen_t, dLen_a, dIx_l, dIx_t, dIx_a, dTup_ap, dLst_ap, dArm_ap, dList_l, dList_t, dTupl_ap, dTupA_ap, lstOf_ap, tupOf_t, tupOf_a, itemsOf_t, itemsOf_l, dSl_l, dSl_t, dSlL_ap, dCatL_ap, dIsN_ap, rng2_ap, dRange_1, dRange_2, dRange3_ap, ownB_ap, ownT_ap, ownN_ap, eqI_ap, isC_y, il_int, il_bl, il_str, il_non, il_tup, il_lst, il_armD, il_ins, il_dic, il_ar, il_rig, Bool.false_eq_true, if_false, if_true, Res.bind_ok, Res.bind_bad, Res.out_ok, Res.out_bad, Res.calm_ok, List.map_cons, List.map_nil, List.length_cons, List.length_nil, Nat.reduceAdd, Nat.reduceSub, List.replicate, List.cons_append, List.nil_append, List.getElem?_cons_zero, List.getElem?_cons_succ, List.set_cons_succ, List.set_cons_zero, Bool.true_and, Bool.and_true, Bool.not_false, Bool.not_true, List.contains_nil, Option.bind_some, for_ap, lc_ap, Nat.reduceEqDiff, Nat.reduceLeDiff, Bool.false_xor, Bool.true_xor, and_self, decide_true, decide_false, List.lookup, List.all_cons, List.all_nil, List.contains_cons, Nat.reduceBEq, Bool.or_false, Bool.false_or, Bool.or_true, Bool.true_or, beq_self_eq_true, List.contains_nil, outR, d1, d2, h3]
                all_goals rfl
              · have d3 : decide (s = 1) = false := decide_eq_false h3
                rw [if_neg h3]
                simp only [raise_ap, raiseI_ap, calmF_ap, le_line, lt_line, var_ap, c_ap, op_ap, un_ap, b_ap, and_ap, or_ap, not_ap, if_ap, andV_ap, orV_ap, ch_ap, nil_ap, cons_ap, star_ap, tup_ap, lst_ap, arm_ap, cb_ap, noPart_ap, part_ap, sl_ap, slL_ap, call_ap, callL_ap, mk_ap, fld_ap, prop_ap, meth_ap, callI_ap, get2_ap, dnew_ap, it_ap, itA_ap, yes_ap, next_ap, seq_ap, set_ap, setO_ap, drop_ap, ret_ap, retN_ap, brk_ap, cnt_ap, never_ap, ifS_ap, aug_ap, app_ap, ext_ap, pop_ap, par_ap, asg_ap, dset_ap, stF_ap, stF2_ap, see_f, see_g, okM_f, okM_g, okR_f, okR_g, okO_f, okO_g, hide_nil, hide_cons, setAll_cons, setAll_nil, wipe_nil, wipe_cons, runB_ap, runL_ap, startL_ap, startD_ap, out1_nx, out1_rt, dName_ap, dGTup_ap, dGLst_ap, dGCons_ap, dGNil_ap, dAdd_ap, dSub_ap, dMul_ap, dFdiv_ap, dMod_ap, dLt_ap, dLe_ap, dGt_ap, dGe_ap, bOf_ap, dNeg_ap, dNot_ap, eqS_int, eqS_bl, eqS_str, dInt1_ap, dInt1_bl, dMax2_ap, dMin2_ap, dAbs_ap, dSum_ap, dAny_ap, dAll_ap, dLen_l, dLen_t, dLen_a, dIx_l, dIx_t, dIx_a, dTup_ap, dLst_ap, dArm_ap, dList_l, dList_t, dTupl_ap, dTupA_ap, lstOf_ap, tupOf_t, tupOf_a, itemsOf_t, itemsOf_l, dSl_l, dSl_t, dSlL_ap, dCatL_ap, dIsN_ap, rng2_ap, dRange_1, dRange_2, dRange3_ap, ownB_ap, ownT_ap, ownN_ap, eqI_ap, isC_y, il_int, il_bl, il_str, il_non, il_tup, il_lst, il_armD, il_ins, il_dic, il_ar, il_rig, Bool.false_eq_true, if_false, if_true, Res.bind_ok, Res.bind_bad, Res.out_ok, Res.out_bad, Res.calm_ok, List.map_cons, List.map_nil, List.length_cons, List.length_nil, Nat.reduceAdd, Nat.reduceSub, List.replicate, List.cons_append, List.nil_append, List.getElem?_cons_zero, List.getElem?_cons_succ, List.set_cons_succ, List.set_cons_zero, Bool.true_and, Bool.and_true, Bool.not_false, Bool.not_true, List.contains_nil, Option.bind_some, for_ap, lc_ap, Nat.reduceEqDiff, Nat.reduceLeDiff, Bool.false_xor, Bool.true_xor, and_self, decide_true, decide_false, List.lookup, List.all_cons, List.all_nil, List.contains_cons, Nat.reduceBEq, Bool.or_false, Bool.false_or, Bool.or_true, Bool.true_or, beq_self_eq_true, List.contains_nil, outR, d1, d2, d3]
                all_goals rfl
            · rw [if_neg (fun z => h2 z.2)]
              have d1 : decide (1 ≤ v) = true := decide_eq_true h1
              have d2 : decide (v ≤ 1000000) = false := decide_eq_false h2
              simp only [raise_ap, raiseI_ap, calmF_ap, le_line, lt_line, var_ap, c_ap, op_ap, un_ap, b_ap, and_ap, or_ap, not_ap, if_ap, andV_ap, orV_ap, ch_ap, nil_ap, cons_ap, star_ap, tup_ap, lst_ap, arm_ap, cb_ap, noPart_ap, part_ap, sl_ap, slL_ap, call_ap, callL_ap, mk_ap, fld_ap, prop_ap, meth_ap, callI_ap, get2_ap, dnew_ap, it_ap, itA_ap, yes_ap, next_ap, seq_ap, set_ap, setO_ap, drop_ap, ret_ap, retN_ap, brk_ap, cnt_ap, never_ap, ifS_ap, aug_ap, app_ap, ext_ap, pop_ap, par_ap, asg_ap, dset_ap, stF_ap, stF2_ap, see_f, see_g, okM_f, okM_g, okR_f, okR_g, okO_f, okO_g, hide_nil, hide_cons, setAll_cons, setAll_nil, wipe_nil, wipe_cons, runB_ap, runL_ap, startL_ap, startD_ap, out1_nx, out1_rt, dName_ap, dGTup_ap, dGLst_ap, dGCons_ap, dGNil_ap, dAdd_ap, dSub_ap, dMul_ap, dFdiv_ap, dMod_ap, dLt_ap, dLe_ap, dGt_ap, dGe_ap, bOf_ap, dNeg_ap, dNot_ap, eqS_int, eqS_bl, eqS_str, dInt1_ap, dInt1_bl, dMax2_ap, dMin2_ap, dAbs_ap, dSum_ap, dAny_ap, dAll_ap, dLen_l, dLen_t, dLen_a, dIx_l, dIx_t, dIx_a, dTup_ap, dLst_ap, dArm_ap, dList_l, dList_t, dTupl_ap, dTupA_ap, lstOf_ap, tupOf_t, tupOf_a, itemsOf_t, itemsOf_l, dSl_l, dSl_t, dSlL_ap, dCatL_ap, dIsN_ap, rng2_ap, dRange_1, dRange_2, dRange3_ap, ownB_ap, ownT_ap, ownN_ap, eqI_ap, isC_y, il_int, il_bl, il_str, il_non, il_tup, il_lst, il_armD, il_ins, il_dic, il_ar, il_rig, Bool.false_eq_true, if_false, if_true, Res.bind_ok, Res.bind_bad, Res.out_ok, Res.out_bad, Res.calm_ok, List.map_cons, List.map_nil, List.length_cons, List.length_nil, Nat.reduceAdd, Nat.reduceSub, List.replicate, List.cons_append, List.nil_append, List.getElem?_cons_zero, List.getElem?_cons_succ, List.set_cons_succ, List.set_cons_zero, Bool.true_and, Bool.and_true, Bool.not_false, Bool.not_true, List.contains_nil, Option.bind_some, for_ap, lc_ap, Nat.reduceEqDiff, Nat.reduceLeDiff, Bool.false_xor, Bool.true_xor, and_self, decide_true, decide_false, List.lookup, List.all_cons, List.all_nil, List.contains_cons, Nat.reduceBEq, Bool.or_false, Bool.false_or, Bool.or_true, Bool.true_or, beq_self_eq_true, List.contains_nil, outR, d1, d2, hs]
              all_goals rfl
          · rw [if_neg (fun z => h1 z.1)]
            have d1 : decide (1 ≤ v) = false := decide_eq_false h1
            simp only [raise_ap, raiseI_ap, calmF_ap, le_line, lt_line, var_ap, c_ap, op_ap, un_ap, b_ap, and_ap, or_ap, not_ap, if_ap, andV_ap, orV_ap, ch_ap, nil_ap, cons_ap, star_ap, tup_ap, lst_ap, arm_ap, cb_ap, noPart_ap, part_ap, sl_ap, slL_ap, call_ap, callL_ap, mk_ap, fld_ap, prop_ap, meth_ap, callI_ap, get2_ap, dnew_ap, it_ap, itA_ap, yes_ap, next_ap, seq_ap, set_ap, setO_ap, drop_ap, ret_ap, retN_ap, brk_ap, cnt_ap, never_ap, ifS_ap, aug_ap, app_ap, ext_ap, pop_ap, par_ap, asg_ap, dset_ap, stF_ap, stF2_ap, see_f, see_g, okM_f, okM_g, okR_f, okR_g, okO_f, okO_g, hide_nil, hide_cons, setAll_cons, setAll_nil, wipe_nil, wipe_cons, runB_ap, runL_ap, startL_ap, startD_ap, out1_nx, out1_rt, dName_ap, dGTup_ap, dGLst_ap, dGCons_ap, dGNil_ap, dAdd_ap, dSub_ap, dMul_ap, dFdiv_ap, dMod_ap, dLt_ap, dLe_ap, dGt_ap, dGe_ap, bOf_ap, dNeg_ap, dNot_ap, eqS_int, eqS_bl, eqS_str, dInt1_ap, dInt1_bl, dMax2_ap, dMin2_ap, dAbs_ap, dSum_ap, dAny_ap, dAll_ap, dLen_l, dLen_t, dLen_a, dIx_l, dIx_t, dIx_a, dTup_ap, dLst_ap, dArm_ap, dList_l, dList_t, dTupl_ap, dTupA_ap, lstOf_ap, tupOf_t, tupOf_a, itemsOf_t, itemsOf_l, dSl_l, dSl_t, dSlL_ap, dCatL_ap, dIsN_ap, rng2_ap, dRange_1, dRange_2, dRange3_ap, ownB_ap, ownT_ap, ownN_ap, eqI_ap, isC_y, il_int, il_bl, il_str, il_non, il_tup, il_lst, il_armD, il_ins, il_dic, il_ar, il_rig, Bool.false_eq_true, if_false, if_true, Res.bind_ok, Res.bind_bad, Res.out_ok, Res.out_bad, Res.calm_ok, List.map_cons, List.map_nil, List.length_cons, List.length_nil, Nat.reduceAdd, Nat.reduceSub, List.replicate, List.cons_append, List.nil_append, List.getElem?_cons_zero, List.getElem?_cons_succ, List.set_cons_succ, List.set_cons_zero, Bool.true_and, Bool.and_true, Bool.not_false, Bool.not_true, List.contains_nil, Option.bind_some, for_ap, lc_ap, Nat.reduceEqDiff, Nat.reduceLeDiff, Bool.false_xor, Bool.true_xor, and_self, decide_true, decide_false, List.lookup, List.all_cons, List.all_nil, List.contains_cons, Nat.reduceBEq, Bool.or_false, Bool.false_or, Bool.or_true, Bool.true_or, beq_self_eq_true, List.contains_nil, outR, d1, hs]
            all_goals rfl
/-- the arms -/
def armsE (xs : List D) : Nat → Nat → Int → RdE Arms
  | 0, n, _ => .ok ([], n)
  | k + 1, n, least => if least > 999 then .error (n, n) else match slk xs n least with
    | .error e => .error e
    | .ok (s, m) => match armE xs m with
      | .error e => .error e
      | .ok (w, m2) => match armsE xs k m2 (s + 1) with
        | .error e => .error e
        | .ok (as, m3) => .ok ((s, w) :: as, m3)
theorem slk_le {xs : List D} {n : Nat} {least s : Int} {m : Nat} (h : slk xs n least = .ok (s, m)) : m ≤ xs.length ∧ (0 ≤ least → 0 ≤ s) ∧ s ≤ 999 := by
  unfold slk at h
  split at h
  · cases h
  · rename_i hh m1 q1
    split at h
    · cases h
    · rename_i l m2 q2
      cases h
      have a1 := nxt_lt q1
      have a2 := nxt_lt q2
      refine ⟨nxt_le q2, fun h0 => ?_, ?_⟩
      · have := a2.2.2.2.1
        split at this <;> omega
      · have := a2.2.2.2.2
        split at this <;> omega
theorem armE_le {xs : List D} {n : Nat} {w : Int} {m : Nat} (h : armE xs n = .ok (w, m)) : m ≤ xs.length := by
  unfold armE at h
  split at h
  · cases h
  · split at h
    · cases h
    · split at h
      · cases h
      · split at h
        · cases h
        · rename_i q3
          split at h
          · cases h; exact nxt_le q3
          · cases h
theorem armsE_le {xs : List D} : ∀ (k n : Nat) (least : Int) (as : Arms) (m : Nat), n ≤ xs.length → armsE xs k n least = .ok (as, m) → m ≤ xs.length ∧ as.length = k
  | 0, n, least, as, m, hn, h => by
    cases h; exact ⟨hn, rfl⟩
  | k + 1, n, least, as, m, hn, h => by
    unfold armsE at h
    split at h
    · cases h
    · split at h
      · cases h
      · rename_i q1
        split at h
        · cases h
        · rename_i q2
          split at h
          · cases h
          · rename_i q3
            cases h
            have := armsE_le k _ _ _ _ (armE_le q2) q3
            exact ⟨this.1, by rw [List.length_cons, this.2]⟩
abbrev armsB : GS := gSeq (gIfS .f [2] (gB (gOp dGt (gVar 3) (gC (.int 999)))) (gRaiseI "DecodeError" "offset" (gFldL 1 "Row" "spot")) gNext)
  (gSeq (gSet .f [2] 5 (gMethL 1 "Row" "slack" 2 f_Row_slack (Pv.gCons (gVar 3) Pv.gNil)))
  (gSeq (gApp .f [2] 2 (gTup (Pv.gCons (gVar 5) (Pv.gCons (gMethL 1 "Row" "arm" 1 f_Row_arm Pv.gNil) Pv.gNil))))
  (gSet .f [2] 3 (gOp dAdd (gVar 5) (gC (.int 1))))))
theorem e_armsE {xs : List D} (he : ∀ d ∈ xs, elB d = true) (hl : xs.length ≤ 1000) {u6 : Option D} : ∀ (k j n : Nat) (least : Int) (acc : Arms) (u4 u5 : Option D), n ≤ xs.length → 0 ≤ least → acc.length + k ≤ 60 →
    match armsE xs k n least with
    | .error (o, m) => loopG (dName 4) armsB ((List.range' j k).map fun i : Nat => D.int (0 + (i : Int))) [some (.lst xs), some (.loc 0), some (.lst (acc.map prD)), some (.int least), u4, u5, u6] [rowC xs n] = .exc "DecodeError" [("offset", .int (o : Int))] [rowC xs m]
    | .ok (as, m) => ∃ l' u4' u5', loopG (dName 4) armsB ((List.range' j k).map fun i : Nat => D.int (0 + (i : Int))) [some (.lst xs), some (.loc 0), some (.lst (acc.map prD)), some (.int least), u4, u5, u6] [rowC xs n] = .nx [some (.lst xs), some (.loc 0), some (.lst ((acc ++ as).map prD)), some (.int l'), u4', u5', u6] [rowC xs m] := by
  intro k
  induction k with
  | zero => intro j n least acc u4 u5 hn h0 ha; exact ⟨least, u4, u5, by rw [List.append_nil]; rfl⟩
  | succ k ih =>
    intro j n least acc u4 u5 hn h0 ha
    rw [List.range'_succ, List.map_cons]
    have hs : smB (n : Int) = true := smB_small (by omega) (by omega)
    have e1 := e_slack he hn hl h0
    unfold armsE
    by_cases hb : least > 999
    · rw [if_pos hb]
      dsimp only
      unfold loopG
      have hd : decide (least > 999) = true := decide_eq_true hb
      simp only [raise_ap, raiseI_ap, calmF_ap, le_line, lt_line, var_ap, c_ap, op_ap, un_ap, b_ap, and_ap, or_ap, not_ap, if_ap, andV_ap, orV_ap, ch_ap, nil_ap, cons_ap, star_ap, tup_ap, lst_ap, arm_ap, cb_ap, noPart_ap, part_ap, sl_ap, slL_ap, call_ap, callL_ap, mk_ap, fld_ap, prop_ap, meth_ap, callI_ap, get2_ap, dnew_ap, it_ap, itA_ap, yes_ap, next_ap, seq_ap, set_ap, setO_ap, drop_ap, ret_ap, retN_ap, brk_ap, cnt_ap, never_ap, ifS_ap, aug_ap, app_ap, ext_ap, pop_ap, par_ap, asg_ap, dset_ap, stF_ap, stF2_ap, see_f, see_g, okM_f, okM_g, okR_f, okR_g, okO_f, okO_g, hide_nil, hide_cons, setAll_cons, setAll_nil, wipe_nil, wipe_cons, runB_ap, runL_ap, startL_ap, startD_ap, out1_nx, out1_rt, dName_ap, dGTup_ap, dGLst_ap, dGCons_ap, dGNil_ap, dAdd_ap, dSub_ap, dMul_ap, dFdiv_ap, dMod_ap, dLt_ap, dLe_ap, dGt_ap, dGe_ap, bOf_ap, dNeg_ap, dNot_ap, eqS_int, eqS_bl, eqS_str, dInt1_ap, dInt1_bl, dMax2_ap, dMin2_ap, dAbs_ap, dSum_ap, dAny_ap, dAll_ap, dLen_l, dLen_t, dLen_a, dIx_l, dIx_t, dIx_a, dTup_ap, dLst_ap, dArm_ap, dList_l, dList_t, dTupl_ap, dTupA_ap, lstOf_ap, tupOf_t, tupOf_a, itemsOf_t, itemsOf_l, dSl_l, dSl_t, dSlL_ap, dCatL_ap, dIsN_ap, rng1_ap, rng2_ap, dRange_1, dRange_2, dRange3_ap, ownB_ap, ownT_ap, ownN_ap, eqI_ap, isC_y, il_int, il_bl, il_str, il_non, il_tup, il_lst, il_armD, il_ins, il_dic, il_ar, il_rig, Bool.false_eq_true, if_false, if_true, Res.bind_ok, Res.bind_bad, Res.out_ok, Res.out_bad, Res.calm_ok, List.map_cons, List.map_nil, List.length_cons, List.length_nil, Nat.reduceAdd, Nat.reduceSub, List.replicate, List.cons_append, List.nil_append, List.getElem?_cons_zero, List.getElem?_cons_succ, List.set_cons_succ, List.set_cons_zero, Bool.true_and, Bool.and_true, Bool.not_false, Bool.not_true, List.contains_nil, Option.bind_some, for_ap, lc_ap, Nat.reduceEqDiff, Nat.reduceLeDiff, Bool.false_xor, Bool.true_xor, and_self, decide_true, decide_false, List.lookup, List.all_cons, List.all_nil, List.contains_cons, Nat.reduceBEq, Bool.or_false, Bool.false_or, Bool.or_true, Bool.true_or, beq_self_eq_true, List.contains_nil, fl_spot, hd, hs, Res.bind_exc, Res.out_exc]
    · rw [if_neg hb]
      have hd : decide (least > 999) = false := decide_eq_false hb
      cases q1 : slk xs n least with
      | error e =>
        rw [q1] at e1
        dsimp only
        unfold loopG
        simp only [raise_ap, raiseI_ap, calmF_ap, le_line, lt_line, var_ap, c_ap, op_ap, un_ap, b_ap, and_ap, or_ap, not_ap, if_ap, andV_ap, orV_ap, ch_ap, nil_ap, cons_ap, star_ap, tup_ap, lst_ap, arm_ap, cb_ap, noPart_ap, part_ap, sl_ap, slL_ap, call_ap, callL_ap, mk_ap, fld_ap, prop_ap, meth_ap, callI_ap, get2_ap, dnew_ap, it_ap, itA_ap, yes_ap, next_ap, seq_ap, set_ap, setO_ap, drop_ap, ret_ap, retN_ap, brk_ap, cnt_ap, never_ap, ifS_ap, aug_ap, app_ap, ext_ap, pop_ap, par_ap, asg_ap, dset_ap, stF_ap, stF2_ap, see_f, see_g, okM_f, okM_g, okR_f, okR_g, okO_f, okO_g, hide_nil, hide_cons, setAll_cons, setAll_nil, wipe_nil, wipe_cons, runB_ap, runL_ap, startL_ap, startD_ap, out1_nx, out1_rt, dName_ap, dGTup_ap, dGLst_ap, dGCons_ap, dGNil_ap, dAdd_ap, dSub_ap, dMul_ap, dFdiv_ap, dMod_ap, dLt_ap, dLe_ap, dGt_ap, dGe_ap, bOf_ap, dNeg_ap, dNot_ap, eqS_int, eqS_bl, eqS_str, dInt1_ap, dInt1_bl, dMax2_ap, dMin2_ap, dAbs_ap, dSum_ap, dAny_ap, dAll_ap, dLen_l, dLen_t, dLen_a, dIx_l, dIx_t, dIx_a, dTup_ap, dLst_ap, dArm_ap, dList_l, dList_t, dTupl_ap, dTupA_ap, lstOf_ap, tupOf_t, tupOf_a, itemsOf_t, itemsOf_l, dSl_l, dSl_t, dSlL_ap, dCatL_ap, dIsN_ap, rng1_ap, rng2_ap, dRange_1, dRange_2, dRange3_ap, ownB_ap, ownT_ap, ownN_ap, eqI_ap, isC_y, il_int, il_bl, il_str, il_non, il_tup, il_lst, il_armD, il_ins, il_dic, il_ar, il_rig, Bool.false_eq_true, if_false, if_true, Res.bind_ok, Res.bind_bad, Res.out_ok, Res.out_bad, Res.calm_ok, List.map_cons, List.map_nil, List.length_cons, List.length_nil, Nat.reduceAdd, Nat.reduceSub, List.replicate, List.cons_append, List.nil_append, List.getElem?_cons_zero, List.getElem?_cons_succ, List.set_cons_succ, List.set_cons_zero, Bool.true_and, Bool.and_true, Bool.not_false, Bool.not_true, List.contains_nil, Option.bind_some, for_ap, lc_ap, Nat.reduceEqDiff, Nat.reduceLeDiff, Bool.false_xor, Bool.true_xor, and_self, decide_true, decide_false, List.lookup, List.all_cons, List.all_nil, List.contains_cons, Nat.reduceBEq, Bool.or_false, Bool.false_or, Bool.or_true, Bool.true_or, beq_self_eq_true, List.contains_nil, me_slack, hd, e1, outR, Res.bind_exc, Res.out_exc]
      | ok r =>
        obtain ⟨s, m⟩ := r
        rw [q1] at e1
        have hq1 := slk_le q1
        have e2 := e_arm he hq1.1 hl
        have hs0 := hq1.2.1 h0
        dsimp only
        cases q2 : armE xs m with
        | error e =>
          rw [q2] at e2
          dsimp only
          unfold loopG
          simp only [raise_ap, raiseI_ap, calmF_ap, le_line, lt_line, var_ap, c_ap, op_ap, un_ap, b_ap, and_ap, or_ap, not_ap, if_ap, andV_ap, orV_ap, ch_ap, nil_ap, cons_ap, star_ap, tup_ap, lst_ap, arm_ap, cb_ap, noPart_ap, part_ap, sl_ap, slL_ap, call_ap, callL_ap, mk_ap, fld_ap, prop_ap, meth_ap, callI_ap, get2_ap, dnew_ap, it_ap, itA_ap, yes_ap, next_ap, seq_ap, set_ap, setO_ap, drop_ap, ret_ap, retN_ap, brk_ap, cnt_ap, never_ap, ifS_ap, aug_ap, app_ap, ext_ap, pop_ap, par_ap, asg_ap, dset_ap, stF_ap, stF2_ap, see_f, see_g, okM_f, okM_g, okR_f, okR_g, okO_f, okO_g, hide_nil, hide_cons, setAll_cons, setAll_nil, wipe_nil, wipe_cons, runB_ap, runL_ap, startL_ap, startD_ap, out1_nx, out1_rt, dName_ap, dGTup_ap, dGLst_ap, dGCons_ap, dGNil_ap, dAdd_ap, dSub_ap, dMul_ap, dFdiv_ap, dMod_ap, dLt_ap, dLe_ap, dGt_ap, dGe_ap, bOf_ap, dNeg_ap, dNot_ap, eqS_int, eqS_bl, eqS_str, dInt1_ap, dInt1_bl, dMax2_ap, dMin2_ap, dAbs_ap, dSum_ap, dAny_ap, dAll_ap, dLen_l, dLen_t, dLen_a, dIx_l, dIx_t, dIx_a, dTup_ap, dLst_ap, dArm_ap, dList_l, dList_t, dTupl_ap, dTupA_ap, lstOf_ap, tupOf_t, tupOf_a, itemsOf_t, itemsOf_l, dSl_l, dSl_t, dSlL_ap, dCatL_ap, dIsN_ap, rng1_ap, rng2_ap, dRange_1, dRange_2, dRange3_ap, ownB_ap, ownT_ap, ownN_ap, eqI_ap, isC_y, il_int, il_bl, il_str, il_non, il_tup, il_lst, il_armD, il_ins, il_dic, il_ar, il_rig, Bool.false_eq_true, if_false, if_true, Res.bind_ok, Res.bind_bad, Res.out_ok, Res.out_bad, Res.calm_ok, List.map_cons, List.map_nil, List.length_cons, List.length_nil, Nat.reduceAdd, Nat.reduceSub, List.replicate, List.cons_append, List.nil_append, List.getElem?_cons_zero, List.getElem?_cons_succ, List.set_cons_succ, List.set_cons_zero, Bool.true_and, Bool.and_true, Bool.not_false, Bool.not_true, List.contains_nil, Option.bind_some, for_ap, lc_ap, Nat.reduceEqDiff, Nat.reduceLeDiff, Bool.false_xor, Bool.true_xor, and_self, decide_true, decide_false, List.lookup, List.all_cons, List.all_nil, List.contains_cons, Nat.reduceBEq, Bool.or_false, Bool.false_or, Bool.or_true, Bool.true_or, beq_self_eq_true, List.contains_nil, me_slack, me_arm, hd, e1, e2, outR, Res.bind_exc, Res.out_exc]
        | ok r =>
          obtain ⟨w, m2⟩ := r
          rw [q2] at e2
          have hz : decide ((acc.map prD).length < sizeLine) = true := decide_eq_true (Nat.lt_of_lt_of_le (by rw [List.length_map]; exact Nat.lt_succ_self _) (line60 (show acc.length + 1 ≤ 100000 by omega)))
          have hap : acc.map prD ++ [D.tup [.int s, .int w]] = (acc ++ [(s, w)]).map prD := by rw [List.map_append]; rfl
          have key := ih (j + 1) m2 (s + 1) (acc ++ [(s, w)]) (some (.int (0 + (j : Int)))) (some (.int s)) (armE_le q2) (by omega) (by rw [List.length_append, List.length_singleton]; omega)
          have stp : ∀ ds : List D, loopG (dName 4) armsB (.int (0 + (j : Int)) :: ds) [some (.lst xs), some (.loc 0), some (.lst (acc.map prD)), some (.int least), u4, u5, u6] [rowC xs n]
              = loopG (dName 4) armsB ds [some (.lst xs), some (.loc 0), some (.lst ((acc ++ [(s, w)]).map prD)), some (.int (s + 1)), some (.int (0 + (j : Int))), some (.int s), u6] [rowC xs m2] := fun ds => by
            conv => lhs; unfold loopG
            simp only [raise_ap, raiseI_ap, calmF_ap, le_line, lt_line, var_ap, c_ap, op_ap, un_ap, b_ap, and_ap, or_ap, not_ap, if_ap, andV_ap, orV_ap, ch_ap, nil_ap, cons_ap, star_ap, tup_ap, lst_ap, arm_ap, cb_ap, noPart_ap, part_ap, sl_ap, slL_ap, call_ap, callL_ap, mk_ap, fld_ap, prop_ap, meth_ap, callI_ap, get2_ap, dnew_ap, it_ap, itA_ap, yes_ap, next_ap, seq_ap, set_ap, setO_ap, drop_ap, ret_ap, retN_ap, brk_ap, cnt_ap, never_ap, ifS_ap, aug_ap, app_ap, ext_ap, pop_ap, par_ap, asg_ap, dset_ap, stF_ap, stF2_ap, see_f, see_g, okM_f, okM_g, okR_f, okR_g, okO_f, okO_g, hide_nil, hide_cons, setAll_cons, setAll_nil, wipe_nil, wipe_cons, runB_ap, runL_ap, startL_ap, startD_ap, out1_nx, out1_rt, dName_ap, dGTup_ap, dGLst_ap, dGCons_ap, dGNil_ap, dAdd_ap, dSub_ap, dMul_ap, dFdiv_ap, dMod_ap, dLt_ap, dLe_ap, dGt_ap, dGe_ap, bOf_ap, dNeg_ap, dNot_ap, eqS_int, eqS_bl, eqS_str, dInt1_ap, dInt1_bl, dMax2_ap, dMin2_ap, dAbs_ap, dSum_ap, dAny_ap, dAll_ap, dLen_l, dLen_t, dLen_a, dIx_l, dIx_t, dIx_a, dTup_ap, dLst_ap, dArm_ap, dList_l, dList_t, dTupl_ap, dTupA_ap, lstOf_ap, tupOf_t, tupOf_a, itemsOf_t, itemsOf_l, dSl_l, dSl_t, dSlL_ap, dCatL_ap, dIsN_ap, rng1_ap, rng2_ap, dRange_1, dRange_2, dRange3_ap, ownB_ap, ownT_ap, ownN_ap, eqI_ap, isC_y, il_int, il_bl, il_str, il_non, il_tup, il_lst, il_armD, il_ins, il_dic, il_ar, il_rig, Bool.false_eq_true, if_false, if_true, Res.bind_ok, Res.bind_bad, Res.out_ok, Res.out_bad, Res.calm_ok, List.map_cons, List.map_nil, List.length_cons, List.length_nil, Nat.reduceAdd, Nat.reduceSub, List.replicate, List.cons_append, List.nil_append, List.getElem?_cons_zero, List.getElem?_cons_succ, List.set_cons_succ, List.set_cons_zero, Bool.true_and, Bool.and_true, Bool.not_false, Bool.not_true, List.contains_nil, Option.bind_some, for_ap, lc_ap, Nat.reduceEqDiff, Nat.reduceLeDiff, Bool.false_xor, Bool.true_xor, and_self, decide_true, decide_false, List.lookup, List.all_cons, List.all_nil, List.contains_cons, Nat.reduceBEq, Bool.or_false, Bool.false_or, Bool.or_true, Bool.true_or, beq_self_eq_true, List.contains_nil, me_slack, me_arm, hd, e1, e2, outR, hz, hap]
          dsimp only
          cases q3 : armsE xs k m2 (s + 1) with
          | error e =>
            rw [q3] at key
            dsimp only at key ⊢
            rw [stp]
            exact key
          | ok r =>
            obtain ⟨as, m3⟩ := r
            rw [q3] at key
            dsimp only at key ⊢
            obtain ⟨l', u4', u5', h⟩ := key
            refine ⟨l', u4', u5', ?_⟩
            rw [stp, h, List.append_assoc]
            rfl
/-! ### what is read is whole numbers -/
def toI : D → Int
  | .int i => i
  | _ => 0
def AllI (xs : List D) (n : Nat) : Prop := xs.take n = inD ((xs.take n).map toI)
theorem AllI.zero {xs : List D} : AllI xs 0 := rfl
theorem AllI.nxt {xs : List D} {n : Nat} {lo hi i : Int} {m : Nat} (a : AllI xs n) (h : nxt xs n lo hi = .ok (i, m)) : AllI xs m := by
  obtain ⟨rfl, h1, h2, _⟩ := nxt_lt h
  unfold AllI at *
  rw [List.take_succ, h2]
  simp only [Option.toList_some, List.map_append, List.map_cons, List.map_nil, toI]
  unfold inD at *
  rw [List.map_append, ← a]
  rfl
theorem AllI.slk {xs : List D} {n : Nat} {least s : Int} {m : Nat} (a : AllI xs n) (h : slk xs n least = .ok (s, m)) : AllI xs m := by
  unfold Lw.slk at h
  split at h
  · cases h
  · rename_i q1
    split at h
    · cases h
    · rename_i q2
      cases h
      exact (a.nxt q1).nxt q2
theorem AllI.arm {xs : List D} {n : Nat} {w : Int} {m : Nat} (a : AllI xs n) (h : armE xs n = .ok (w, m)) : AllI xs m := by
  unfold armE at h
  split at h
  · cases h
  · rename_i q0
    split at h
    · cases h
    · rename_i q1
      split at h
      · cases h
      · rename_i q2
        split at h
        · cases h
        · rename_i q3
          split at h
          · cases h; exact (((a.nxt q0).nxt q1).nxt q2).nxt q3
          · cases h
theorem AllI.arms {xs : List D} : ∀ (k n : Nat) (least : Int) (as : Arms) (m : Nat), AllI xs n → armsE xs k n least = .ok (as, m) → AllI xs m
  | 0, n, least, as, m, a, h => by cases h; exact a
  | k + 1, n, least, as, m, a, h => by
    unfold armsE at h
    split at h
    · cases h
    · split at h
      · cases h
      · rename_i q1
        split at h
        · cases h
        · rename_i q2
          split at h
          · cases h
          · rename_i q3
            cases h
            exact AllI.arms k _ _ _ _ ((a.slk q1).arm q2) q3
/-! ### the whole row -/
def chkD (xs : List D) (p : Nat) : Int := chk ((xs.take p).map toI)
def decE (xs : List D) : RdE Arms := match nxt xs 0 82 82 with
  | .error e => .error e
  | .ok (_, n) => match nxt xs n 0 60 with
    | .error e => .error e
    | .ok (k, m) => match armsE xs k.toNat m 0 with
      | .error e => .error e
      | .ok (as, p) => match nxt xs p (chkD xs p) (chkD xs p) with
        | .error e => .error e
        | .ok (_, q) => if q < xs.length then .error (q, q) else .ok (as, q)
theorem mk_row {xs : List D} : mkR "Row" f_Row_init [.lst xs] [] = .ok (rowC xs 0) [] := by rfl
theorem lo_row {g : GS} {xs : List D} {n : Nat} {a b c d e f : Option D} : gLocal 1 g [a, some (rowC xs n), b, c, d, e, f] [] = g [a, some (.loc 0), b, c, d, e, f] [rowC xs n] := rfl
theorem e_decode {xs : List D} {R : Rs} (he : ∀ d ∈ xs, elB d = true) (hl : xs.length ≤ 1000) : f_decode [.lst xs] R = match decE xs with
    | .error (o, _) => .exc "DecodeError" [("offset", .int (o : Int))] R
    | .ok (as, _) => .ok (rigD as) R := by
  have main : match decE xs with
    | .error (o, m) => runB 7 m_decode [.lst xs] [] = .exc "DecodeError" [("offset", .int (o : Int))] [rowC xs m]
    | .ok (as, m) => runB 7 m_decode [.lst xs] [] = .ok (rigD as) [rowC xs m] := by
    unfold decE m_decode
    have il : (D.lst xs).isLoc = false := rfl
    have ilr : ∀ n, (rowC xs n).isLoc = false := fun n => rfl
    have hf : flOk [1, 2] [1, 2] [true, true] = true := rfl
    have hnd : decide (([1, 2] : List Nat).Nodup) = true := rfl
    have hnC : 1 = 1 := rfl
    have e0 := e_next (n := 0) (lo := 82) (hi := 82) he (by omega) hl
    cases q0 : nxt xs 0 82 82 with
    | error e =>
      rw [q0] at e0
      dsimp only
      simp only [raise_ap, raiseI_ap, calmF_ap, le_line, lt_line, var_ap, c_ap, op_ap, un_ap, b_ap, and_ap, or_ap, not_ap, if_ap, andV_ap, orV_ap, ch_ap, nil_ap, cons_ap, star_ap, tup_ap, lst_ap, arm_ap, cb_ap, noPart_ap, part_ap, sl_ap, slL_ap, call_ap, callL_ap, fld_ap, get2_ap, dnew_ap, it_ap, itA_ap, yes_ap, next_ap, seq_ap, set_ap, setO_ap, drop_ap, ret_ap, retN_ap, brk_ap, cnt_ap, never_ap, ifS_ap, aug_ap, app_ap, ext_ap, pop_ap, par_ap, asg_ap, dset_ap, stF_ap, stF2_ap, see_f, see_g, okM_f, okM_g, okR_f, okR_g, okO_f, okO_g, hide_nil, hide_cons, setAll_cons, setAll_nil, wipe_nil, wipe_cons, runB_ap, runL_ap, startL_ap, startD_ap, out1_nx, out1_rt, dName_ap, dGTup_ap, dGLst_ap, dGCons_ap, dGNil_ap, dAdd_ap, dSub_ap, dMul_ap, dFdiv_ap, dMod_ap, dLt_ap, dLe_ap, dGt_ap, dGe_ap, bOf_ap, dNeg_ap, dNot_ap, eqS_int, eqS_bl, eqS_str, dInt1_ap, dInt1_bl, dMax2_ap, dMin2_ap, dAbs_ap, dSum_ap, dAny_ap, dAll_ap, dLen_l, dLen_t, dLen_a, dIx_l, dIx_t, dIx_a, dTup_ap, dArm_ap, dList_l, dList_t, dTupl_ap, dTupA_ap, lstOf_ap, tupOf_t, tupOf_a, itemsOf_t, itemsOf_l, dSl_l, dSl_t, dSlL_ap, dCatL_ap, dIsN_ap, rng2_ap, dRange_1, dRange_2, dRange3_ap, isC_y, il_int, il_bl, il_str, il_non, il_tup, il_lst, il_armD, il_ins, il_dic, il_ar, il_rig, Bool.false_eq_true, if_false, if_true, Res.bind_ok, Res.bind_bad, Res.out_ok, Res.out_bad, Res.calm_ok, List.map_cons, List.map_nil, List.length_cons, List.length_nil, Nat.reduceAdd, Nat.reduceSub, List.replicate, List.cons_append, List.nil_append, List.getElem?_cons_zero, List.getElem?_cons_succ, List.set_cons_succ, List.set_cons_zero, Bool.true_and, Bool.and_true, Bool.not_false, Bool.not_true, List.contains_nil, Option.bind_some, for_ap, lc_ap, Nat.reduceEqDiff, Nat.reduceLeDiff, Bool.false_xor, Bool.true_xor, and_self, decide_true, decide_false, List.lookup, List.all_cons, List.all_nil, List.contains_cons, Nat.reduceBEq, Bool.or_false, Bool.false_or, Bool.or_true, Bool.true_or, beq_self_eq_true, List.contains_nil, propR_ap, propR_rig, ownB_rig, ownT_rig, ownN_rig, eqI_rig, e_rig_fwd, lcG_nil, lcG_yesN, eq_self, lawStart_ap, in2, in3, in4, rg2, rg3, rg4, at0, at1, at2, il_tr, Bool.xor_true, Bool.xor_false, mkR_ap, mkR_rest, mkR_rig, callR_ap, callR_rig, callR_mem, methR_ap, methR_at, methR_curve, propR_mem, eqI_mem, lst_ok0, lst_ok1, lst_ok2, lst_ok3, il_pl, il_mem, e_mem_places, e_mem_place, e_rig_arms, isK_ll, mk_row, lo_row, lst_ok0, ilr, hf, hnd, hnC, me_next, e0, outR, Res.bind_exc, Res.out_exc]
      all_goals rfl
    | ok r =>
      obtain ⟨x0, n⟩ := r
      rw [q0] at e0
      have h0 := nxt_lt q0
      have a0 := AllI.zero.nxt q0
      have e1 := e_next (n := n) (lo := 0) (hi := 60) he (nxt_le q0) hl
      dsimp only
      cases q1 : nxt xs n 0 60 with
      | error e =>
        rw [q1] at e1
        dsimp only
        simp only [raise_ap, raiseI_ap, calmF_ap, le_line, lt_line, var_ap, c_ap, op_ap, un_ap, b_ap, and_ap, or_ap, not_ap, if_ap, andV_ap, orV_ap, ch_ap, nil_ap, cons_ap, star_ap, tup_ap, lst_ap, arm_ap, cb_ap, noPart_ap, part_ap, sl_ap, slL_ap, call_ap, callL_ap, fld_ap, get2_ap, dnew_ap, it_ap, itA_ap, yes_ap, next_ap, seq_ap, set_ap, setO_ap, drop_ap, ret_ap, retN_ap, brk_ap, cnt_ap, never_ap, ifS_ap, aug_ap, app_ap, ext_ap, pop_ap, par_ap, asg_ap, dset_ap, stF_ap, stF2_ap, see_f, see_g, okM_f, okM_g, okR_f, okR_g, okO_f, okO_g, hide_nil, hide_cons, setAll_cons, setAll_nil, wipe_nil, wipe_cons, runB_ap, runL_ap, startL_ap, startD_ap, out1_nx, out1_rt, dName_ap, dGTup_ap, dGLst_ap, dGCons_ap, dGNil_ap, dAdd_ap, dSub_ap, dMul_ap, dFdiv_ap, dMod_ap, dLt_ap, dLe_ap, dGt_ap, dGe_ap, bOf_ap, dNeg_ap, dNot_ap, eqS_int, eqS_bl, eqS_str, dInt1_ap, dInt1_bl, dMax2_ap, dMin2_ap, dAbs_ap, dSum_ap, dAny_ap, dAll_ap, dLen_l, dLen_t, dLen_a, dIx_l, dIx_t, dIx_a, dTup_ap, dArm_ap, dList_l, dList_t, dTupl_ap, dTupA_ap, lstOf_ap, tupOf_t, tupOf_a, itemsOf_t, itemsOf_l, dSl_l, dSl_t, dSlL_ap, dCatL_ap, dIsN_ap, rng2_ap, dRange_1, dRange_2, dRange3_ap, isC_y, il_int, il_bl, il_str, il_non, il_tup, il_lst, il_armD, il_ins, il_dic, il_ar, il_rig, Bool.false_eq_true, if_false, if_true, Res.bind_ok, Res.bind_bad, Res.out_ok, Res.out_bad, Res.calm_ok, List.map_cons, List.map_nil, List.length_cons, List.length_nil, Nat.reduceAdd, Nat.reduceSub, List.replicate, List.cons_append, List.nil_append, List.getElem?_cons_zero, List.getElem?_cons_succ, List.set_cons_succ, List.set_cons_zero, Bool.true_and, Bool.and_true, Bool.not_false, Bool.not_true, List.contains_nil, Option.bind_some, for_ap, lc_ap, Nat.reduceEqDiff, Nat.reduceLeDiff, Bool.false_xor, Bool.true_xor, and_self, decide_true, decide_false, List.lookup, List.all_cons, List.all_nil, List.contains_cons, Nat.reduceBEq, Bool.or_false, Bool.false_or, Bool.or_true, Bool.true_or, beq_self_eq_true, List.contains_nil, propR_ap, propR_rig, ownB_rig, ownT_rig, ownN_rig, eqI_rig, e_rig_fwd, lcG_nil, lcG_yesN, eq_self, lawStart_ap, in2, in3, in4, rg2, rg3, rg4, at0, at1, at2, il_tr, Bool.xor_true, Bool.xor_false, mkR_ap, mkR_rest, mkR_rig, callR_ap, callR_rig, callR_mem, methR_ap, methR_at, methR_curve, propR_mem, eqI_mem, lst_ok0, lst_ok1, lst_ok2, lst_ok3, il_pl, il_mem, e_mem_places, e_mem_place, e_rig_arms, isK_ll, mk_row, lo_row, lst_ok0, ilr, hf, hnd, hnC, me_next, e0, e1, outR, Res.bind_exc, Res.out_exc]
        all_goals rfl
      | ok r =>
        obtain ⟨k, m⟩ := r
        rw [q1] at e1
        have h1 := nxt_lt q1
        have a1 := a0.nxt q1
        have hr : ∀ R, rng1 [.int k] R = .ok ((List.range k.toNat).map fun i : Nat => D.int (0 + (i : Int))) R := fun R => by
          rw [rng1_ok (by omega) (by omega), rng_up]
        have lp := e_armsE he hl (u6 := none) k.toNat 0 m 0 [] none none (nxt_le q1) (by omega) (by simp; omega)
        rw [← List.range_eq_range'] at lp
        simp only [List.map_nil, List.nil_append] at lp
        dsimp only
        cases q2 : armsE xs k.toNat m 0 with
        | error e =>
          rw [q2] at lp
          dsimp only at lp ⊢
          simp only [raise_ap, raiseI_ap, calmF_ap, le_line, lt_line, var_ap, c_ap, op_ap, un_ap, b_ap, and_ap, or_ap, not_ap, if_ap, andV_ap, orV_ap, ch_ap, nil_ap, cons_ap, star_ap, tup_ap, lst_ap, arm_ap, cb_ap, noPart_ap, part_ap, sl_ap, slL_ap, call_ap, callL_ap, fld_ap, get2_ap, dnew_ap, it_ap, itA_ap, yes_ap, next_ap, seq_ap, set_ap, setO_ap, drop_ap, ret_ap, retN_ap, brk_ap, cnt_ap, never_ap, ifS_ap, aug_ap, app_ap, ext_ap, pop_ap, par_ap, asg_ap, dset_ap, stF_ap, stF2_ap, see_f, see_g, okM_f, okM_g, okR_f, okR_g, okO_f, okO_g, hide_nil, hide_cons, setAll_cons, setAll_nil, wipe_nil, wipe_cons, runB_ap, runL_ap, startL_ap, startD_ap, out1_nx, out1_rt, dName_ap, dGTup_ap, dGLst_ap, dGCons_ap, dGNil_ap, dAdd_ap, dSub_ap, dMul_ap, dFdiv_ap, dMod_ap, dLt_ap, dLe_ap, dGt_ap, dGe_ap, bOf_ap, dNeg_ap, dNot_ap, eqS_int, eqS_bl, eqS_str, dInt1_ap, dInt1_bl, dMax2_ap, dMin2_ap, dAbs_ap, dSum_ap, dAny_ap, dAll_ap, dLen_l, dLen_t, dLen_a, dIx_l, dIx_t, dIx_a, dTup_ap, dArm_ap, dList_l, dList_t, dTupl_ap, dTupA_ap, lstOf_ap, tupOf_t, tupOf_a, itemsOf_t, itemsOf_l, dSl_l, dSl_t, dSlL_ap, dCatL_ap, dIsN_ap, rng2_ap, dRange_1, dRange_2, dRange3_ap, isC_y, il_int, il_bl, il_str, il_non, il_tup, il_lst, il_armD, il_ins, il_dic, il_ar, il_rig, Bool.false_eq_true, if_false, if_true, Res.bind_ok, Res.bind_bad, Res.out_ok, Res.out_bad, Res.calm_ok, List.map_cons, List.map_nil, List.length_cons, List.length_nil, Nat.reduceAdd, Nat.reduceSub, List.replicate, List.cons_append, List.nil_append, List.getElem?_cons_zero, List.getElem?_cons_succ, List.set_cons_succ, List.set_cons_zero, Bool.true_and, Bool.and_true, Bool.not_false, Bool.not_true, List.contains_nil, Option.bind_some, for_ap, lc_ap, Nat.reduceEqDiff, Nat.reduceLeDiff, Bool.false_xor, Bool.true_xor, and_self, decide_true, decide_false, List.lookup, List.all_cons, List.all_nil, List.contains_cons, Nat.reduceBEq, Bool.or_false, Bool.false_or, Bool.or_true, Bool.true_or, beq_self_eq_true, List.contains_nil, propR_ap, propR_rig, ownB_rig, ownT_rig, ownN_rig, eqI_rig, e_rig_fwd, lcG_nil, lcG_yesN, eq_self, lawStart_ap, in2, in3, in4, rg2, rg3, rg4, at0, at1, at2, il_tr, Bool.xor_true, Bool.xor_false, mkR_ap, mkR_rest, mkR_rig, callR_ap, callR_rig, callR_mem, methR_ap, methR_at, methR_curve, propR_mem, eqI_mem, lst_ok0, lst_ok1, lst_ok2, lst_ok3, il_pl, il_mem, e_mem_places, e_mem_place, e_rig_arms, isK_ll, mk_row, lo_row, lst_ok0, ilr, hf, hnd, hnC, me_next, e0, e1, outR, hr, lp, Res.bind_exc, Res.out_exc]
          all_goals rfl
        | ok r =>
          obtain ⟨as, p⟩ := r
          rw [q2] at lp
          dsimp only at lp ⊢
          obtain ⟨l', u4, u5, lp⟩ := lp
          have h2 := armsE_le _ _ _ _ _ (nxt_le q1) q2
          have a2 := a1.arms _ _ _ _ _ q2
          have ec : ∀ R, f_checksum [.lst (xs.take p)] R = .ok (.int (chkD xs p)) R := fun R => by
            conv => lhs; rw [a2]
            exact e_checksum
          have e3 := e_next (n := p) (lo := chkD xs p) (hi := chkD xs p) he h2.1 hl
          have hcut : cutD xs none (some (p : Int)) = xs.take p := cut_take xs p
          cases q3 : nxt xs p (chkD xs p) (chkD xs p) with
          | error e =>
            rw [q3] at e3
            dsimp only
            simp only [raise_ap, raiseI_ap, calmF_ap, le_line, lt_line, var_ap, c_ap, op_ap, un_ap, b_ap, and_ap, or_ap, not_ap, if_ap, andV_ap, orV_ap, ch_ap, nil_ap, cons_ap, star_ap, tup_ap, lst_ap, arm_ap, cb_ap, noPart_ap, part_ap, sl_ap, slL_ap, call_ap, callL_ap, fld_ap, get2_ap, dnew_ap, it_ap, itA_ap, yes_ap, next_ap, seq_ap, set_ap, setO_ap, drop_ap, ret_ap, retN_ap, brk_ap, cnt_ap, never_ap, ifS_ap, aug_ap, app_ap, ext_ap, pop_ap, par_ap, asg_ap, dset_ap, stF_ap, stF2_ap, see_f, see_g, okM_f, okM_g, okR_f, okR_g, okO_f, okO_g, hide_nil, hide_cons, setAll_cons, setAll_nil, wipe_nil, wipe_cons, runB_ap, runL_ap, startL_ap, startD_ap, out1_nx, out1_rt, dName_ap, dGTup_ap, dGLst_ap, dGCons_ap, dGNil_ap, dAdd_ap, dSub_ap, dMul_ap, dFdiv_ap, dMod_ap, dLt_ap, dLe_ap, dGt_ap, dGe_ap, bOf_ap, dNeg_ap, dNot_ap, eqS_int, eqS_bl, eqS_str, dInt1_ap, dInt1_bl, dMax2_ap, dMin2_ap, dAbs_ap, dSum_ap, dAny_ap, dAll_ap, dLen_l, dLen_t, dLen_a, dIx_l, dIx_t, dIx_a, dTup_ap, dArm_ap, dList_l, dList_t, dTupl_ap, dTupA_ap, lstOf_ap, tupOf_t, tupOf_a, itemsOf_t, itemsOf_l, dSl_l, dSl_t, dSlL_ap, dCatL_ap, dIsN_ap, rng2_ap, dRange_1, dRange_2, dRange3_ap, isC_y, il_int, il_bl, il_str, il_non, il_tup, il_lst, il_armD, il_ins, il_dic, il_ar, il_rig, Bool.false_eq_true, if_false, if_true, Res.bind_ok, Res.bind_bad, Res.out_ok, Res.out_bad, Res.calm_ok, List.map_cons, List.map_nil, List.length_cons, List.length_nil, Nat.reduceAdd, Nat.reduceSub, List.replicate, List.cons_append, List.nil_append, List.getElem?_cons_zero, List.getElem?_cons_succ, List.set_cons_succ, List.set_cons_zero, Bool.true_and, Bool.and_true, Bool.not_false, Bool.not_true, List.contains_nil, Option.bind_some, for_ap, lc_ap, Nat.reduceEqDiff, Nat.reduceLeDiff, Bool.false_xor, Bool.true_xor, and_self, decide_true, decide_false, List.lookup, List.all_cons, List.all_nil, List.contains_cons, Nat.reduceBEq, Bool.or_false, Bool.false_or, Bool.or_true, Bool.true_or, beq_self_eq_true, List.contains_nil, propR_ap, propR_rig, ownB_rig, ownT_rig, ownN_rig, eqI_rig, e_rig_fwd, lcG_nil, lcG_yesN, eq_self, lawStart_ap, in2, in3, in4, rg2, rg3, rg4, at0, at1, at2, il_tr, Bool.xor_true, Bool.xor_false, mkR_ap, mkR_rest, mkR_rig, callR_ap, callR_rig, callR_mem, methR_ap, methR_at, methR_curve, propR_mem, eqI_mem, lst_ok0, lst_ok1, lst_ok2, lst_ok3, il_pl, il_mem, e_mem_places, e_mem_place, e_rig_arms, isK_ll, mk_row, lo_row, lst_ok0, ilr, hf, hnd, hnC, me_next, fl_spot, e0, e1, outR, hr, lp, hcut, ec, e3, Res.bind_exc, Res.out_exc]
            all_goals rfl
          | ok r =>
            obtain ⟨x3, p2⟩ := r
            rw [q3] at e3
            have h3 := nxt_lt q3
            dsimp only
            by_cases hb : p2 < xs.length
            · rw [if_pos hb]
              have hd : decide ((p2 : Int) < (xs.length : Int)) = true := decide_eq_true (by omega)
              have hs : smB (p2 : Int) = true := smB_small (by omega) (by omega)
              dsimp only
              simp only [raise_ap, raiseI_ap, calmF_ap, le_line, lt_line, var_ap, c_ap, op_ap, un_ap, b_ap, and_ap, or_ap, not_ap, if_ap, andV_ap, orV_ap, ch_ap, nil_ap, cons_ap, star_ap, tup_ap, lst_ap, arm_ap, cb_ap, noPart_ap, part_ap, sl_ap, slL_ap, call_ap, callL_ap, fld_ap, get2_ap, dnew_ap, it_ap, itA_ap, yes_ap, next_ap, seq_ap, set_ap, setO_ap, drop_ap, ret_ap, retN_ap, brk_ap, cnt_ap, never_ap, ifS_ap, aug_ap, app_ap, ext_ap, pop_ap, par_ap, asg_ap, dset_ap, stF_ap, stF2_ap, see_f, see_g, okM_f, okM_g, okR_f, okR_g, okO_f, okO_g, hide_nil, hide_cons, setAll_cons, setAll_nil, wipe_nil, wipe_cons, runB_ap, runL_ap, startL_ap, startD_ap, out1_nx, out1_rt, dName_ap, dGTup_ap, dGLst_ap, dGCons_ap, dGNil_ap, dAdd_ap, dSub_ap, dMul_ap, dFdiv_ap, dMod_ap, dLt_ap, dLe_ap, dGt_ap, dGe_ap, bOf_ap, dNeg_ap, dNot_ap, eqS_int, eqS_bl, eqS_str, dInt1_ap, dInt1_bl, dMax2_ap, dMin2_ap, dAbs_ap, dSum_ap, dAny_ap, dAll_ap, dLen_l, dLen_t, dLen_a, dIx_l, dIx_t, dIx_a, dTup_ap, dArm_ap, dList_l, dList_t, dTupl_ap, dTupA_ap, lstOf_ap, tupOf_t, tupOf_a, itemsOf_t, itemsOf_l, dSl_l, dSl_t, dSlL_ap, dCatL_ap, dIsN_ap, rng2_ap, dRange_1, dRange_2, dRange3_ap, isC_y, il_int, il_bl, il_str, il_non, il_tup, il_lst, il_armD, il_ins, il_dic, il_ar, il_rig, Bool.false_eq_true, if_false, if_true, Res.bind_ok, Res.bind_bad, Res.out_ok, Res.out_bad, Res.calm_ok, List.map_cons, List.map_nil, List.length_cons, List.length_nil, Nat.reduceAdd, Nat.reduceSub, List.replicate, List.cons_append, List.nil_append, List.getElem?_cons_zero, List.getElem?_cons_succ, List.set_cons_succ, List.set_cons_zero, Bool.true_and, Bool.and_true, Bool.not_false, Bool.not_true, List.contains_nil, Option.bind_some, for_ap, lc_ap, Nat.reduceEqDiff, Nat.reduceLeDiff, Bool.false_xor, Bool.true_xor, and_self, decide_true, decide_false, List.lookup, List.all_cons, List.all_nil, List.contains_cons, Nat.reduceBEq, Bool.or_false, Bool.false_or, Bool.or_true, Bool.true_or, beq_self_eq_true, List.contains_nil, propR_ap, propR_rig, ownB_rig, ownT_rig, ownN_rig, eqI_rig, e_rig_fwd, lcG_nil, lcG_yesN, eq_self, lawStart_ap, in2, in3, in4, rg2, rg3, rg4, at0, at1, at2, il_tr, Bool.xor_true, Bool.xor_false, mkR_ap, mkR_rest, mkR_rig, callR_ap, callR_rig, callR_mem, methR_ap, methR_at, methR_curve, propR_mem, eqI_mem, lst_ok0, lst_ok1, lst_ok2, lst_ok3, il_pl, il_mem, e_mem_places, e_mem_place, e_rig_arms, isK_ll, mk_row, lo_row, lst_ok0, ilr, hf, hnd, hnC, me_next, fl_spot, e0, e1, outR, hr, lp, hcut, ec, e3, hd, hs, Res.bind_exc, Res.out_exc]
              all_goals rfl
            · rw [if_neg hb]
              have hd : decide ((p2 : Int) < (xs.length : Int)) = false := decide_eq_false (by omega)
              dsimp only
              simp only [raise_ap, raiseI_ap, calmF_ap, le_line, lt_line, var_ap, c_ap, op_ap, un_ap, b_ap, and_ap, or_ap, not_ap, if_ap, andV_ap, orV_ap, ch_ap, nil_ap, cons_ap, star_ap, tup_ap, lst_ap, arm_ap, cb_ap, noPart_ap, part_ap, sl_ap, slL_ap, call_ap, callL_ap, fld_ap, get2_ap, dnew_ap, it_ap, itA_ap, yes_ap, next_ap, seq_ap, set_ap, setO_ap, drop_ap, ret_ap, retN_ap, brk_ap, cnt_ap, never_ap, ifS_ap, aug_ap, app_ap, ext_ap, pop_ap, par_ap, asg_ap, dset_ap, stF_ap, stF2_ap, see_f, see_g, okM_f, okM_g, okR_f, okR_g, okO_f, okO_g, hide_nil, hide_cons, setAll_cons, setAll_nil, wipe_nil, wipe_cons, runB_ap, runL_ap, startL_ap, startD_ap, out1_nx, out1_rt, dName_ap, dGTup_ap, dGLst_ap, dGCons_ap, dGNil_ap, dAdd_ap, dSub_ap, dMul_ap, dFdiv_ap, dMod_ap, dLt_ap, dLe_ap, dGt_ap, dGe_ap, bOf_ap, dNeg_ap, dNot_ap, eqS_int, eqS_bl, eqS_str, dInt1_ap, dInt1_bl, dMax2_ap, dMin2_ap, dAbs_ap, dSum_ap, dAny_ap, dAll_ap, dLen_l, dLen_t, dLen_a, dIx_l, dIx_t, dIx_a, dTup_ap, dArm_ap, dList_l, dList_t, dTupl_ap, dTupA_ap, lstOf_ap, tupOf_t, tupOf_a, itemsOf_t, itemsOf_l, dSl_l, dSl_t, dSlL_ap, dCatL_ap, dIsN_ap, rng2_ap, dRange_1, dRange_2, dRange3_ap, isC_y, il_int, il_bl, il_str, il_non, il_tup, il_lst, il_armD, il_ins, il_dic, il_ar, il_rig, Bool.false_eq_true, if_false, if_true, Res.bind_ok, Res.bind_bad, Res.out_ok, Res.out_bad, Res.calm_ok, List.map_cons, List.map_nil, List.length_cons, List.length_nil, Nat.reduceAdd, Nat.reduceSub, List.replicate, List.cons_append, List.nil_append, List.getElem?_cons_zero, List.getElem?_cons_succ, List.set_cons_succ, List.set_cons_zero, Bool.true_and, Bool.and_true, Bool.not_false, Bool.not_true, List.contains_nil, Option.bind_some, for_ap, lc_ap, Nat.reduceEqDiff, Nat.reduceLeDiff, Bool.false_xor, Bool.true_xor, and_self, decide_true, decide_false, List.lookup, List.all_cons, List.all_nil, List.contains_cons, Nat.reduceBEq, Bool.or_false, Bool.false_or, Bool.or_true, Bool.true_or, beq_self_eq_true, List.contains_nil, propR_ap, propR_rig, ownB_rig, ownT_rig, ownN_rig, eqI_rig, e_rig_fwd, lcG_nil, lcG_yesN, eq_self, lawStart_ap, in2, in3, in4, rg2, rg3, rg4, at0, at1, at2, il_tr, Bool.xor_true, Bool.xor_false, mkR_ap, mkR_rest, mkR_rig, callR_ap, callR_rig, callR_mem, methR_ap, methR_at, methR_curve, propR_mem, eqI_mem, lst_ok0, lst_ok1, lst_ok2, lst_ok3, il_pl, il_mem, e_mem_places, e_mem_place, e_rig_arms, isK_ll, mk_row, lo_row, lst_ok0, ilr, hf, hnd, hnC, me_next, fl_spot, e0, e1, outR, hr, lp, hcut, ec, e3, hd]
              all_goals rfl
  unfold f_decode
  cases q : decE xs with
  | error e =>
    obtain ⟨o, m⟩ := e
    rw [q] at main
    dsimp only at main ⊢
    refine pureF_exc ?_
    unfold cutR
    rw [main]
    rfl
  | ok r =>
    obtain ⟨as, m⟩ := r
    rw [q] at main
    dsimp only at main ⊢
    refine pureF_ok ?_
    unfold cutR
    rw [main]
    rfl
end Lw

namespace Lw
open PySem PySem.Spec PyProof.Rows L2 Sr Pv Rg
variable {A0 : Addr}
/-! ### what is written is read again -/
def okA : Int → Arms → Prop
  | _, [] => True
  | l, p :: r => l ≤ p.1 ∧ p.1 ≤ 999 ∧ p.2 ≠ 0 ∧ p.2.natAbs ≤ 1000000 ∧ okA (p.1 + 1) r
def encA (a : Arms) : List Int := (a.map enc1).flatten
theorem encA_cons {p : Int × Int} {a : Arms} : encA (p :: a) = enc1 p ++ encA a := rfl
theorem encA_len : ∀ a : Arms, (encA a).length = 6 * a.length
  | [] => rfl
  | p :: a => by rw [encA_cons, List.length_append, encA_len a, List.length_cons]; simp [enc1]; omega
theorem body_len (a : Arms) : (body a).length = 2 + 6 * a.length := by
  show ((82 : Int) :: (a.length : Int) :: encA a).length = _
  rw [List.length_cons, List.length_cons, encA_len]; omega
theorem numsR_len (a : Arms) : (numsR a).length = 3 + 6 * a.length := by
  unfold numsR; rw [List.length_append, body_len, List.length_singleton]; omega
theorem nxt_at {xs : List D} {n : Nat} {i lo hi : Int} (h : xs[n]? = some (.int i)) (h1 : lo ≤ i) (h2 : i ≤ hi) : nxt xs n lo hi = .ok (i, n + 1) := by
  unfold nxt; rw [h]; simp [h1, h2]
theorem slk_at {xs : List D} {n : Nat} {s least : Int} (h0 : xs[n]? = some (.int (s / 256))) (h1 : xs[n + 1]? = some (.int (s % 256))) (hl : least ≤ s) (hz : 0 ≤ least) (h9 : s ≤ 999) : slk xs n least = .ok (s, n + 2) := by
  unfold slk
  rw [nxt_at h0 (by omega) (by omega)]
  dsimp only
  rw [nxt_at h1 (by split <;> omega) (by split <;> omega)]
  dsimp only
  rw [show 256 * (s / 256) + s % 256 = s by omega]
theorem arm_at {xs : List D} {n : Nat} {w : Int} (h0 : xs[n]? = some (.int (if w < 0 then 1 else 0))) (h1 : xs[n + 1]? = some (.int ((w.natAbs : Int) / 65536))) (h2 : xs[n + 2]? = some (.int ((w.natAbs : Int) / 256 % 256))) (h3 : xs[n + 3]? = some (.int ((w.natAbs : Int) % 256))) (hw : w ≠ 0) (hb : w.natAbs ≤ 1000000) : armE xs n = .ok (w, n + 4) := by
  unfold armE
  rw [nxt_at h0 (by split <;> omega) (by split <;> omega)]
  dsimp only
  rw [nxt_at h1 (by omega) (by omega)]
  dsimp only
  rw [nxt_at (n := n + 1 + 1) h2 (by omega) (by omega)]
  dsimp only
  rw [nxt_at (n := n + 1 + 1 + 1) h3 (by omega) (by omega)]
  dsimp only
  have e : 256 * (256 * (256 * 0 + (w.natAbs : Int) / 65536) + (w.natAbs : Int) / 256 % 256) + (w.natAbs : Int) % 256 = w.natAbs := by omega
  rw [e, if_pos ⟨by omega, by omega⟩]
  by_cases hn : w < 0
  · rw [if_pos hn, if_pos rfl, show -(w.natAbs : Int) = w by omega]
  · rw [if_neg hn, if_neg (by decide), show (w.natAbs : Int) = w by omega]
theorem arms_at {xs : List D} : ∀ (a : Arms) (n : Nat) (least : Int) (post : List D), xs.drop n = inD (encA a) ++ post → 0 ≤ least → okA least a → armsE xs a.length n least = .ok (a, n + 6 * a.length)
  | [], n, least, post, _, _, _ => rfl
  | (s, w) :: a, n, least, post, h, h0, ho => by
    obtain ⟨o1, o2, o3, o4, o5⟩ := ho
    have hx : ∀ j, xs[n + j]? = (inD (enc1 (s, w)) ++ (inD (encA a) ++ post))[j]? := fun j => by
      rw [← List.getElem?_drop, h, encA_cons]
      unfold inD
      rw [List.map_append, List.append_assoc]
    have hd : xs.drop (n + 6) = inD (encA a) ++ post := by
      rw [← List.drop_drop, h, encA_cons]
      unfold inD
      rw [List.map_append, List.append_assoc, List.drop_left' (by simp [enc1])]
    have ih := arms_at a (n + 6) (s + 1) post hd (by omega) o5
    rw [List.length_cons]
    unfold armsE
    rw [if_neg (by dsimp only at o1 o2; omega), slk_at (n := n) (s := s) (hx 0) (hx 1) o1 h0 o2]
    dsimp only
    rw [arm_at (n := n + 2) (w := w) (hx 2) (hx 3) (hx 4) (hx 5) o3 o4]
    dsimp only
    rw [show n + 2 + 4 = n + 6 by omega, ih]
    dsimp only
    rw [show n + 6 + 6 * a.length = n + 6 * (a.length + 1) by omega]
theorem toI_in (xs : List Int) : (inD xs).map toI = xs := by
  unfold inD
  rw [List.map_map]
  exact List.map_id xs
theorem el_in (xs : List Int) : ∀ d ∈ inD xs, elB d = true := fun d h => by
  obtain ⟨i, _, rfl⟩ := List.mem_map.mp h; rfl
/-! ### what is written -/
/-! ### the law's own numbers -/
abbrev numB : GS := gSeq (gSet .f [] 4 (gCB dAbs (Pv.gCons (gVar 3) Pv.gNil)))
  (gSeq (gSet .f [] 1 (gOp dCatL (gVar 1) (gLst (Pv.gCons (gOp dFdiv (gVar 2) (gC (.int 256))) (Pv.gCons (gOp dMod (gCB dInt1 (Pv.gCons (gVar 2) Pv.gNil)) (gC (.int 256))) (Pv.gCons (gCB dInt1 (Pv.gCons (gOp dLt (gVar 3) (gC (.int 0))) Pv.gNil)) Pv.gNil))))))
  (gSet .f [] 1 (gOp dCatL (gVar 1) (gLst (Pv.gCons (gOp dFdiv (gVar 4) (gC (.int 65536))) (Pv.gCons (gOp dMod (gCB dInt1 (Pv.gCons (gOp dFdiv (gVar 4) (gC (.int 256))) Pv.gNil)) (gC (.int 256))) (Pv.gCons (gOp dMod (gCB dInt1 (Pv.gCons (gVar 4) Pv.gNil)) (gC (.int 256))) Pv.gNil)))))))
theorem e_numB {x0 : Option D} : ∀ (a : Arms) (fs : List Int) (u2 u3 u4 : Option D), fs.length + 6 * a.length ≤ 10000 → ∃ u2' u3' u4', loopG (dGTup 2 (dGCons (dName 2) (dGCons (dName 3) dGNil))) numB (a.map prD) [x0, some (.lst (inD fs)), u2, u3, u4] [] = .nx [x0, some (.lst (inD (fs ++ encA a))), u2', u3', u4'] []
  | [], fs, u2, u3, u4, _ => ⟨u2, u3, u4, by rw [show encA [] = [] from rfl, List.append_nil]; rfl⟩
  | (s, w) :: a, fs, u2, u3, u4, h => by
    rw [List.length_cons] at h
    obtain ⟨v2, v3, v4, ih⟩ := e_numB (x0 := x0) a (fs ++ enc1 (s, w)) (some (.int s)) (some (.int w)) (some (.int (w.natAbs : Int))) (by rw [List.length_append]; simp [enc1]; omega)
    refine ⟨v2, v3, v4, ?_⟩
    have d1 : ∀ i, CDiv i 256 := fun i => ⟨by decide, by decide⟩
    have d3 : ∀ i, CDiv i 65536 := fun i => ⟨by decide, by decide⟩
    have hp : (0 : Int) < 256 := by decide
    have hw : (if decide (w < 0) = true then (1 : Int) else 0) = if w < 0 then 1 else 0 := by simp
    have hab : (if w < 0 then -w else w) = (w.natAbs : Int) := by split <;> omega
    have hT : dGTup 2 (dGCons (dName 2) (dGCons (dName 3) dGNil)) (prD (s, w)) [x0, some (.lst (inD fs)), u2, u3, u4] = some [x0, some (.lst (inD fs)), some (.int s), some (.int w), u4] := rfl
    have c3 : ∀ (y : List Int) (a b c : Int) (R : Rs), y.length ≤ 20000 → dCatL (.lst (inD y)) (.lst [.int a, .int b, .int c]) R = .ok (.lst (inD (y ++ [a, b, c]))) R := fun y a b c R hy => by
      have hz : (inD y).length + [D.int a, .int b, .int c].length ≤ sizeLine := by rw [in_len]; exact line60 (by simp; omega)
      rw [catL_ok hz]; unfold inD; rw [List.map_append]; rfl
    have c3a := fun (a b c : Int) (R : Rs) => c3 fs a b c R (by omega)
    have c3b := fun (a b c a' b' c' : Int) (R : Rs) => c3 (fs ++ [a, b, c]) a' b' c' R (by rw [List.length_append]; simp; omega)
    have hap : fs ++ [s / 256, s % 256, if w < 0 then 1 else 0] ++ [(w.natAbs : Int) / 65536, (w.natAbs : Int) / 256 % 256, (w.natAbs : Int) % 256] = fs ++ enc1 (s, w) := by rw [List.append_assoc]; rfl
    rw [List.map_cons]
    unfold loopG
    rw [hT, encA_cons, ← List.append_assoc]
    dsimp only
    simp only [raise_ap, raiseI_ap, calmF_ap, le_line, lt_line, var_ap, c_ap, op_ap, un_ap, b_ap, and_ap, or_ap, not_ap, if_ap, andV_ap, orV_ap, ch_ap, nil_ap, cons_ap, star_ap, tup_ap, lst_ap, arm_ap, cb_ap, noPart_ap, part_ap, sl_ap, slL_ap, call_ap, callL_ap, mk_ap, fld_ap, prop_ap, meth_ap, callI_ap, get2_ap, dnew_ap, it_ap, itA_ap, yes_ap, next_ap, seq_ap, set_ap, setO_ap, drop_ap, ret_ap, retN_ap, brk_ap, cnt_ap, never_ap, ifS_ap, aug_ap, app_ap, ext_ap, pop_ap, par_ap, asg_ap, dset_ap, stF_ap, stF2_ap, fldL_ap, see_f, see_g, okM_f, okM_g, okR_f, okR_g, okO_f, okO_g, hide_nil, hide_cons, setAll_cons, setAll_nil, wipe_nil, wipe_cons, runB_ap, runL_ap, startL_ap, startD_ap, out1_nx, out1_rt, dName_ap, dGTup_ap, dGLst_ap, dGCons_ap, dGNil_ap, dAdd_ap, dSub_ap, dMul_ap, dFdiv_ap, dMod_ap, dLt_ap, dLe_ap, dGt_ap, dGe_ap, bOf_ap, dNeg_ap, dNot_ap, eqS_int, eqS_bl, eqS_str, dInt1_ap, dInt1_bl, dMax2_ap, dMin2_ap, dAbs_ap, dSum_ap, dAny_ap, dAll_ap, dLen_l, dLen_t, dLen_a, dIx_l, dIx_t, dIx_a, dTup_ap, dArm_ap, dList_l, dList_t, dTupl_ap, dTupA_ap, lstOf_ap, tupOf_t, tupOf_a, itemsOf_t, itemsOf_l, dSl_l, dSl_t, dSlL_ap, dIsN_ap, rng1_ap, rng2_ap, dRange_1, dRange_2, dRange3_ap, ownB_ap, ownT_ap, ownN_ap, eqI_ap, isC_y, il_int, il_bl, il_str, il_non, il_tup, il_lst, il_armD, il_ins, il_dic, il_ar, il_rig, Bool.false_eq_true, if_false, if_true, Res.bind_ok, Res.bind_bad, Res.out_ok, Res.out_bad, Res.calm_ok, List.map_cons, List.map_nil, List.length_cons, List.length_nil, Nat.reduceAdd, Nat.reduceSub, List.replicate, List.cons_append, List.nil_append, List.getElem?_cons_zero, List.getElem?_cons_succ, List.set_cons_succ, List.set_cons_zero, Bool.true_and, Bool.and_true, Bool.not_false, Bool.not_true, List.contains_nil, Option.bind_some, for_ap, lc_ap, Nat.reduceEqDiff, Nat.reduceLeDiff, Bool.false_xor, Bool.true_xor, and_self, decide_true, decide_false, List.lookup, List.all_cons, List.all_nil, List.contains_cons, Nat.reduceBEq, Bool.or_false, Bool.false_or, Bool.or_true, Bool.true_or, beq_self_eq_true, List.contains_nil, lst_ok3, d1, d3, hp, hw, hab, c3a, c3b, hap]
    exact ih
theorem e_L_numbers {a : Arms} {R : Rs} (hl : a.length ≤ 1000) {x : D} (hx : x = .tup (a.map prD) ∨ x = arD a) : f_L_numbers [x] R = .ok (.lst (inD (numsR a))) R := by
  unfold f_L_numbers
  refine pureF_ok ?_
  unfold m_L_numbers
  obtain ⟨v2, v3, v4, h⟩ := e_numB (x0 := some x) a [82, (a.length : Int)] none none none (by simp; omega)
  have hb : ([82, (a.length : Int)] ++ encA a) = body a := rfl
  have h2 : inD [82, (a.length : Int)] = [D.int 82, .int (a.length : Int)] := rfl
  rw [hb, h2] at h
  have hln : ∀ R, dLen [x] R = .ok (.int (a.length : Int)) R := fun R => by
    rcases hx with rfl | rfl
    · rw [dLen_t, List.length_map]
    · unfold arD; rw [dLen_a, List.length_map]
  have hit : ∀ R, tupOf x R = .ok (a.map prD) R := fun R => by rcases hx with rfl | rfl <;> rfl
  have il : x.isLoc = false := by rcases hx with rfl | rfl <;> rfl
  have hz : (inD (body a)).length + [D.int (chk (body a))].length ≤ sizeLine := by rw [in_len, body_len]; exact line60 (by simp; omega)
  have he : inD (body a) ++ [D.int (chk (body a))] = inD (numsR a) := by unfold numsR inD; rw [List.map_append]; rfl
  simp only [raise_ap, raiseI_ap, calmF_ap, le_line, lt_line, var_ap, c_ap, op_ap, un_ap, b_ap, and_ap, or_ap, not_ap, if_ap, andV_ap, orV_ap, ch_ap, nil_ap, cons_ap, star_ap, tup_ap, lst_ap, arm_ap, cb_ap, noPart_ap, part_ap, sl_ap, slL_ap, call_ap, callL_ap, fld_ap, get2_ap, dnew_ap, it_ap, itA_ap, yes_ap, next_ap, seq_ap, set_ap, setO_ap, drop_ap, ret_ap, retN_ap, brk_ap, cnt_ap, never_ap, ifS_ap, aug_ap, app_ap, ext_ap, pop_ap, par_ap, asg_ap, dset_ap, stF_ap, stF2_ap, fldL_ap, see_f, see_g, okM_f, okM_g, okR_f, okR_g, okO_f, okO_g, hide_nil, hide_cons, setAll_cons, setAll_nil, wipe_nil, wipe_cons, runB_ap, runL_ap, startL_ap, startD_ap, out1_nx, out1_rt, dName_ap, dGTup_ap, dGLst_ap, dGCons_ap, dGNil_ap, dAdd_ap, dSub_ap, dMul_ap, dFdiv_ap, dMod_ap, dLt_ap, dLe_ap, dGt_ap, dGe_ap, bOf_ap, dNeg_ap, dNot_ap, eqS_int, eqS_bl, eqS_str, dInt1_ap, dInt1_bl, dMax2_ap, dMin2_ap, dAbs_ap, dSum_ap, dAny_ap, dAll_ap, dLen_l, dLen_t, dLen_a, dIx_l, dIx_t, dIx_a, dTup_ap, dArm_ap, dList_l, dList_t, dTupl_ap, dTupA_ap, lstOf_ap, tupOf_t, tupOf_a, itemsOf_t, itemsOf_l, dSl_l, dSl_t, dSlL_ap, dIsN_ap, rng2_ap, dRange_1, dRange_2, dRange3_ap, isC_y, il_int, il_bl, il_str, il_non, il_tup, il_lst, il_armD, il_ins, il_dic, il_ar, il_rig, Bool.false_eq_true, if_false, if_true, Res.bind_ok, Res.bind_bad, Res.out_ok, Res.out_bad, Res.calm_ok, List.map_cons, List.map_nil, List.length_cons, List.length_nil, Nat.reduceAdd, Nat.reduceSub, List.replicate, List.cons_append, List.nil_append, List.getElem?_cons_zero, List.getElem?_cons_succ, List.set_cons_succ, List.set_cons_zero, Bool.true_and, Bool.and_true, Bool.not_false, Bool.not_true, List.contains_nil, Option.bind_some, for_ap, lc_ap, Nat.reduceEqDiff, Nat.reduceLeDiff, Bool.false_xor, Bool.true_xor, and_self, decide_true, decide_false, List.lookup, List.all_cons, List.all_nil, List.contains_cons, Nat.reduceBEq, Bool.or_false, Bool.false_or, Bool.or_true, Bool.true_or, beq_self_eq_true, List.contains_nil, propR_ap, propR_rig, ownB_rig, ownT_rig, ownN_rig, eqI_rig, e_rig_fwd, lcG_nil, lcG_yesN, eq_self, lawStart_ap, in2, in3, in4, rg2, rg3, rg4, at0, at1, at2, il_tr, Bool.xor_true, Bool.xor_false, mkR_ap, mkR_rest, mkR_rig, callR_ap, callR_rig, callR_mem, methR_ap, methR_at, methR_curve, propR_mem, eqI_mem, lst_ok0, lst_ok1, lst_ok2, lst_ok3, il_pl, il_mem, e_mem_places, e_mem_place, e_rig_arms, il, hln, hit, lst_ok2, lst_ok1, h, e_L_checksum, catL_ok hz, he]
/-! ### random arms -/
theorem e_armsL {most : Int} {x2 u6 : Option D} : ∀ (ss : List Int) (l : Int) (st : List Int) (acc : Arms) (u4 u5 : Option D), stOk st = true → (∀ x ∈ ss, l ≤ x ∧ x ≤ 999) → ss.Pairwise (· < ·) → acc.length + ss.length ≤ 100 →
    ∃ a st' u4' u5', (∀ A0 : Addr, loopG (dName 4) (gSeq (gSet .f [3] 5 (gOp dAdd (gC (.int 1)) (gCallL 0 2 f_L_below (Pv.gCons (gOp dIx (gLst (Pv.gCons (gC (.int 9)) (Pv.gCons (gC (.int 999)) (Pv.gCons (gC (.int 1000000)) Pv.gNil)))) (gCallL 0 2 f_L_below (Pv.gCons (gC (.int 3)) Pv.gNil))) Pv.gNil))))
  (gApp .f [3] 3 (gTup (Pv.gCons (gVar 4) (Pv.gCons (gOp dIx (gLst (Pv.gCons (gVar 5) (Pv.gCons (gOp dSub (gC (.int 0)) (gVar 5)) Pv.gNil))) (gCallL 0 2 f_L_below (Pv.gCons (gC (.int 2)) Pv.gNil))) Pv.gNil))))) (inD ss) [some (.loc 0), some (.int most), x2, some (.lst (acc.map prD)), u4, u5, u6] [srcD st, .tab A0] = .nx [some (.loc 0), some (.int most), x2, some (.lst ((acc ++ a).map prD)), u4', u5', u6] [srcD st', .tab A0]) ∧ okA l a ∧ a.length = ss.length ∧ stOk st' = true
  | [], l, st, acc, u4, u5, hs, _, _, _ => ⟨[], st, u4, u5, fun _ => by rw [List.append_nil]; rfl, trivial, rfl, hs⟩
  | x :: ss, l, st, acc, u4, u5, hs, hx, hp, hl => by
    rw [List.length_cons] at hl
    obtain ⟨i, st1, e1, i0, i1, hs⟩ := e_bel (n := 3) hs (by decide) (by decide)
    have hlow : ∃ v : Int, atI [D.int 9, D.int 999, D.int 1000000] i = some (.int v) ∧ 0 < v ∧ v ≤ 1000000 := by
      rcases (show i = 0 ∨ i = 1 ∨ i = 2 by omega) with rfl | rfl | rfl
      · exact ⟨9, at0, by decide, by decide⟩
      · exact ⟨999, at1, by decide, by decide⟩
      · exact ⟨1000000, at2, by decide, by decide⟩
    obtain ⟨v, ev, v0, v1⟩ := hlow
    obtain ⟨z, st2, e2, z0, z1, hs⟩ := e_bel (n := v) hs (by omega) (by omega)
    obtain ⟨j, st3, e3, j0, j1, hs⟩ := e_bel (n := 2) hs (by decide) (by decide)
    have hw : ∃ w : Int, atI [D.int (1 + z), D.int (0 - (1 + z))] j = some (.int w) ∧ w ≠ 0 ∧ w.natAbs ≤ 1000000 := by
      rcases (show j = 0 ∨ j = 1 by omega) with rfl | rfl
      · exact ⟨1 + z, at0, by omega, by omega⟩
      · exact ⟨0 - (1 + z), at1, by omega, by omega⟩
    obtain ⟨w, ew, w0, w1⟩ := hw
    have hx0 := hx x (List.mem_cons_self ..)
    obtain ⟨hp1, hp2⟩ := List.pairwise_cons.mp hp
    obtain ⟨a, st4, v4, v5, ih, ok, la, hs⟩ := e_armsL (most := most) (x2 := x2) (u6 := u6) ss (x + 1) st3 (acc ++ [(x, w)]) (some (.int x)) (some (.int (1 + z))) hs (fun y hy => ⟨by have := hp1 y hy; omega, (hx y (List.mem_cons_of_mem _ hy)).2⟩) hp2 (by rw [List.length_append, List.length_singleton]; omega)
    refine ⟨(x, w) :: a, st4, v4, v5, fun A0 => ?_, ⟨hx0.1, hx0.2, w0, w1, ok⟩, by rw [List.length_cons, List.length_cons, la], hs⟩
    have hz : decide ((acc.map prD).length < sizeLine) = true := decide_eq_true (Nat.lt_of_lt_of_le (by rw [List.length_map]; exact Nat.lt_succ_self _) (line60 (show acc.length + 1 ≤ 100000 by omega)))
    have hap : acc.map prD ++ [D.tup [.int x, .int w]] = (acc ++ [(x, w)]).map prD := by rw [List.map_append]; rfl
    have ih := ih A0
    rw [List.append_assoc] at ih
    show loopG _ _ (.int x :: inD ss) _ _ = _
    unfold loopG
    simp only [raise_ap, raiseI_ap, calmF_ap, le_line, lt_line, var_ap, c_ap, op_ap, un_ap, b_ap, and_ap, or_ap, not_ap, if_ap, andV_ap, orV_ap, ch_ap, nil_ap, cons_ap, star_ap, tup_ap, lst_ap, arm_ap, cb_ap, noPart_ap, part_ap, sl_ap, slL_ap, call_ap, callL_ap, mk_ap, fld_ap, prop_ap, meth_ap, callI_ap, get2_ap, dnew_ap, it_ap, itA_ap, yes_ap, next_ap, seq_ap, set_ap, setO_ap, drop_ap, ret_ap, retN_ap, brk_ap, cnt_ap, never_ap, ifS_ap, aug_ap, app_ap, ext_ap, pop_ap, par_ap, asg_ap, dset_ap, stF_ap, stF2_ap, fldL_ap, see_f, see_g, okM_f, okM_g, okR_f, okR_g, okO_f, okO_g, hide_nil, hide_cons, setAll_cons, setAll_nil, wipe_nil, wipe_cons, runB_ap, runL_ap, startL_ap, startD_ap, out1_nx, out1_rt, dName_ap, dGTup_ap, dGLst_ap, dGCons_ap, dGNil_ap, dAdd_ap, dSub_ap, dMul_ap, dFdiv_ap, dMod_ap, dLt_ap, dLe_ap, dGt_ap, dGe_ap, bOf_ap, dNeg_ap, dNot_ap, eqS_int, eqS_bl, eqS_str, dInt1_ap, dInt1_bl, dMax2_ap, dMin2_ap, dAbs_ap, dSum_ap, dAny_ap, dAll_ap, dLen_l, dLen_t, dLen_a, dIx_l, dIx_t, dIx_a, dTup_ap, dArm_ap, dList_l, dList_t, dTupl_ap, dTupA_ap, lstOf_ap, tupOf_t, tupOf_a, itemsOf_t, itemsOf_l, dSl_l, dSl_t, dSlL_ap, dCatL_ap, dIsN_ap, rng1_ap, rng2_ap, dRange_1, dRange_2, dRange3_ap, ownB_ap, ownT_ap, ownN_ap, eqI_ap, isC_y, il_int, il_bl, il_str, il_non, il_tup, il_lst, il_armD, il_ins, il_dic, il_ar, il_rig, Bool.false_eq_true, if_false, if_true, Res.bind_ok, Res.bind_bad, Res.out_ok, Res.out_bad, Res.calm_ok, List.map_cons, List.map_nil, List.length_cons, List.length_nil, Nat.reduceAdd, Nat.reduceSub, List.replicate, List.cons_append, List.nil_append, List.getElem?_cons_zero, List.getElem?_cons_succ, List.set_cons_succ, List.set_cons_zero, Bool.true_and, Bool.and_true, Bool.not_false, Bool.not_true, List.contains_nil, Option.bind_some, for_ap, lc_ap, Nat.reduceEqDiff, Nat.reduceLeDiff, Bool.false_xor, Bool.true_xor, and_self, decide_true, decide_false, List.lookup, List.all_cons, List.all_nil, List.contains_cons, Nat.reduceBEq, Bool.or_false, Bool.false_or, Bool.or_true, Bool.true_or, beq_self_eq_true, List.contains_nil, lst_ok3, lst_ok2, e1, ev, e2, e3, ew, hz, hap]
    exact ih
theorem e_some_arms {st : List Int} (hs : stOk st = true) {most : Int} (h0 : 0 ≤ most) (h1 : most ≤ 50) : ∃ a st', (∀ A0 : Addr, f_L_some_arms 0 [.int most] [srcD st, .tab A0] = .ok (.tup (a.map prD)) [srcD st', .tab A0]) ∧ okA 0 a ∧ (a.length : Int) ≤ most ∧ stOk st' = true := by
  obtain ⟨m, st1, e1, m0, m1, hs⟩ := e_bel (n := most + 1) hs (by omega) (by omega)
  obtain ⟨xs, st2, e2, l2, p2, hs⟩ := draw_ints (P := fun p => 0 ≤ p ∧ p ≤ 999) (i := 6) (ge := gCallL 0 2 f_L_below (Pv.gCons (gOp dIx (gLst (Pv.gCons (gC (.int 20)) (Pv.gCons (gC (.int 1000)) Pv.gNil))) (gCallL 0 2 f_L_below (Pv.gCons (gC (.int 2)) Pv.gNil))) Pv.gNil)) (ρ := [some (.loc 0), some (.int most), none, none, none, none, none]) (fun d st hs => by
    obtain ⟨i, st1, e1, i0, i1, hs⟩ := e_bel (n := 2) hs (by decide) (by decide)
    have hlow : ∃ v : Int, atI [D.int 20, D.int 1000] i = some (.int v) ∧ 0 < v ∧ v ≤ 1000 := by
      rcases (show i = 0 ∨ i = 1 by omega) with rfl | rfl
      · exact ⟨20, at0, by decide, by decide⟩
      · exact ⟨1000, at1, by decide, by decide⟩
    obtain ⟨v, ev, v0, v1⟩ := hlow
    obtain ⟨x, st2, e2, x0, x1, hs⟩ := e_bel (n := v) hs (by omega) (by omega)
    refine ⟨x, st2, fun A0 => ?_, ⟨x0, by omega⟩, hs⟩
    simp only [raise_ap, raiseI_ap, calmF_ap, le_line, lt_line, var_ap, c_ap, op_ap, un_ap, b_ap, and_ap, or_ap, not_ap, if_ap, andV_ap, orV_ap, ch_ap, nil_ap, cons_ap, star_ap, tup_ap, lst_ap, arm_ap, cb_ap, noPart_ap, part_ap, sl_ap, slL_ap, call_ap, callL_ap, mk_ap, fld_ap, prop_ap, meth_ap, callI_ap, get2_ap, dnew_ap, it_ap, itA_ap, yes_ap, next_ap, seq_ap, set_ap, setO_ap, drop_ap, ret_ap, retN_ap, brk_ap, cnt_ap, never_ap, ifS_ap, aug_ap, app_ap, ext_ap, pop_ap, par_ap, asg_ap, dset_ap, stF_ap, stF2_ap, fldL_ap, see_f, see_g, okM_f, okM_g, okR_f, okR_g, okO_f, okO_g, hide_nil, hide_cons, setAll_cons, setAll_nil, wipe_nil, wipe_cons, runB_ap, runL_ap, startL_ap, startD_ap, out1_nx, out1_rt, dName_ap, dGTup_ap, dGLst_ap, dGCons_ap, dGNil_ap, dAdd_ap, dSub_ap, dMul_ap, dFdiv_ap, dMod_ap, dLt_ap, dLe_ap, dGt_ap, dGe_ap, bOf_ap, dNeg_ap, dNot_ap, eqS_int, eqS_bl, eqS_str, dInt1_ap, dInt1_bl, dMax2_ap, dMin2_ap, dAbs_ap, dSum_ap, dAny_ap, dAll_ap, dLen_l, dLen_t, dLen_a, dIx_l, dIx_t, dIx_a, dTup_ap, dArm_ap, dList_l, dList_t, dTupl_ap, dTupA_ap, lstOf_ap, tupOf_t, tupOf_a, itemsOf_t, itemsOf_l, dSl_l, dSl_t, dSlL_ap, dCatL_ap, dIsN_ap, rng1_ap, rng2_ap, dRange_1, dRange_2, dRange3_ap, ownB_ap, ownT_ap, ownN_ap, eqI_ap, isC_y, il_int, il_bl, il_str, il_non, il_tup, il_lst, il_armD, il_ins, il_dic, il_ar, il_rig, Bool.false_eq_true, if_false, if_true, Res.bind_ok, Res.bind_bad, Res.out_ok, Res.out_bad, Res.calm_ok, List.map_cons, List.map_nil, List.length_cons, List.length_nil, Nat.reduceAdd, Nat.reduceSub, List.replicate, List.cons_append, List.nil_append, List.getElem?_cons_zero, List.getElem?_cons_succ, List.set_cons_succ, List.set_cons_zero, Bool.true_and, Bool.and_true, Bool.not_false, Bool.not_true, List.contains_nil, Option.bind_some, for_ap, lc_ap, Nat.reduceEqDiff, Nat.reduceLeDiff, Bool.false_xor, Bool.true_xor, and_self, decide_true, decide_false, List.lookup, List.all_cons, List.all_nil, List.contains_cons, Nat.reduceBEq, Bool.or_false, Bool.false_or, Bool.or_true, Bool.true_or, beq_self_eq_true, List.contains_nil, lst_ok2, e1, ev, e2]) (rngD 0 m.toNat) st1 hs
  rw [rngD_len] at l2
  have hS := sortU_len xs
  obtain ⟨a, st3, v4, v5, e3, ok, la, hs⟩ := e_armsL (most := most) (x2 := some (.lst ((sortU xs).map D.int))) (u6 := none) (sortU xs) 0 st2 [] none none hs (fun x hx => p2 x (mem_sortU.mp hx)) (sortU_asc xs) (by simp; omega)
  refine ⟨a, st3, fun A0 => ?_, ok, by omega, hs⟩
  have hz : (inD xs).length ≤ sizeLine := by rw [in_len, l2]; exact line60 (by omega)
  have hB : inB m = true := inB_iff.mpr ⟨by omega, by omega⟩
  have hss : ∀ R, dSortSet [.lst (inD xs)] R = .ok (.lst ((sortU xs).map D.int)) R := fun R => sortSet_ap (by omega)
  have e3 := e3 A0
  rw [List.nil_append] at e3
  unfold f_L_some_arms m_L_some_arms
  have hi : ∀ R, lstOf (.lst ((sortU xs).map D.int)) R = .ok (inD (sortU xs)) R := fun R => rfl
  rw [List.map_nil] at e3
  simp only [raise_ap, raiseI_ap, calmF_ap, le_line, lt_line, var_ap, c_ap, op_ap, un_ap, b_ap, and_ap, or_ap, not_ap, if_ap, andV_ap, orV_ap, ch_ap, nil_ap, cons_ap, star_ap, tup_ap, lst_ap, arm_ap, cb_ap, noPart_ap, part_ap, sl_ap, slL_ap, call_ap, callL_ap, mk_ap, fld_ap, prop_ap, meth_ap, callI_ap, get2_ap, dnew_ap, it_ap, itA_ap, yes_ap, next_ap, seq_ap, set_ap, setO_ap, drop_ap, ret_ap, retN_ap, brk_ap, cnt_ap, never_ap, ifS_ap, aug_ap, app_ap, ext_ap, pop_ap, par_ap, asg_ap, dset_ap, stF_ap, stF2_ap, fldL_ap, see_f, see_g, okM_f, okM_g, okR_f, okR_g, okO_f, okO_g, hide_nil, hide_cons, setAll_cons, setAll_nil, wipe_nil, wipe_cons, runB_ap, runL_ap, startL_ap, startD_ap, out1_nx, out1_rt, dName_ap, dGTup_ap, dGLst_ap, dGCons_ap, dGNil_ap, dAdd_ap, dSub_ap, dMul_ap, dFdiv_ap, dMod_ap, dLt_ap, dLe_ap, dGt_ap, dGe_ap, bOf_ap, dNeg_ap, dNot_ap, eqS_int, eqS_bl, eqS_str, dInt1_ap, dInt1_bl, dMax2_ap, dMin2_ap, dAbs_ap, dSum_ap, dAny_ap, dAll_ap, dLen_l, dLen_t, dLen_a, dIx_l, dIx_t, dIx_a, dTup_ap, dArm_ap, dList_l, dList_t, dTupl_ap, dTupA_ap, tupOf_t, tupOf_a, itemsOf_t, itemsOf_l, dSl_l, dSl_t, dSlL_ap, dCatL_ap, dIsN_ap, rng1_ap, rng2_ap, dRange_1, dRange_2, dRange3_ap, ownB_ap, ownT_ap, ownN_ap, eqI_ap, isC_y, il_int, il_bl, il_str, il_non, il_tup, il_lst, il_armD, il_ins, il_dic, il_ar, il_rig, Bool.false_eq_true, if_false, if_true, Res.bind_ok, Res.bind_bad, Res.out_ok, Res.out_bad, Res.calm_ok, List.map_cons, List.map_nil, List.length_cons, List.length_nil, Nat.reduceAdd, Nat.reduceSub, List.replicate, List.cons_append, List.nil_append, List.getElem?_cons_zero, List.getElem?_cons_succ, List.set_cons_succ, List.set_cons_zero, Bool.true_and, Bool.and_true, Bool.not_false, Bool.not_true, List.contains_nil, Option.bind_some, for_ap, lc_ap, Nat.reduceEqDiff, Nat.reduceLeDiff, Bool.false_xor, Bool.true_xor, and_self, decide_true, decide_false, List.lookup, List.all_cons, List.all_nil, List.contains_cons, Nat.reduceBEq, Bool.or_false, Bool.false_or, Bool.or_true, Bool.true_or, beq_self_eq_true, List.contains_nil, lst_ok0, e1, hB, e2, lst_ok hz, hss, hi, il_lst, e3]
end Lw

namespace Lw
open PySem PySem.Spec PyProof.Rows L2 Sr Pv Rg
variable {A0 : Addr}
/-! ### rows that are read wrong -/
def BadAt (xs : List D) (m : Nat) : Prop := ∀ lo hi : Int, 0 ≤ lo → hi ≤ 255 → nxt xs m lo hi = .error (m, m)
theorem bad_none {xs : List D} {m : Nat} (h : xs[m]? = none) : BadAt xs m := fun lo hi _ _ => by unfold nxt; rw [h]
theorem bad_some {xs : List D} {m : Nat} {d : D} (h : xs[m]? = some d) (hd : Odd 0 255 d) : BadAt xs m := fun lo hi h0 h1 => by
  unfold nxt; rw [h]
  cases hd with
  | int hi => rename_i i; dsimp only; rw [if_neg (by omega)]
  | non => rfl
  | bl => rfl
  | str => rfl
theorem bad_arms {xs : List D} {m : Nat} (hb : BadAt xs m) : ∀ (a : Arms) (n : Nat) (least : Int) (post : List D), (∀ j, n + j < m → xs[n + j]? = (inD (encA a) ++ post)[j]?) → n ≤ m → m < n + 6 * a.length → 0 ≤ least → okA least a → armsE xs a.length n least = .error (m, m)
  | [], n, least, post, _, h1, h2, _, _ => by simp at h2; omega
  | (s, w) :: a, n, least, post, h, h1, h2, h0, ho => by
    obtain ⟨o1, o2, o3, o4, o5⟩ := ho
    have hx : ∀ j, n + j < m → xs[n + j]? = (inD (enc1 (s, w)) ++ (inD (encA a) ++ post))[j]? := fun j hj => by
      rw [h j hj, encA_cons]
      unfold inD
      rw [List.map_append, List.append_assoc]
    rw [List.length_cons] at h2 ⊢
    dsimp only at o1 o2 o3 o4 o5
    have u3 : (3 : Int) ≤ 255 := by decide
    unfold armsE
    rw [if_neg (by omega)]
    unfold slk
    by_cases c0 : m = n
    · subst c0
      rw [hb _ _ (by omega) u3]
    rw [nxt_at (n := n) (i := s / 256) (hx 0 (by omega)) (by omega) (by omega)]
    dsimp only
    by_cases c1 : m = n + 1
    · subst c1
      rw [hb _ _ (by split <;> omega) (by split <;> omega)]
    rw [nxt_at (n := n + 1) (i := s % 256) (hx 1 (by omega)) (by split <;> omega) (by split <;> omega)]
    dsimp only
    unfold armE
    by_cases c2 : m = n + 1 + 1
    · subst c2
      rw [hb _ _ (by decide) (by decide)]
    rw [nxt_at (n := n + 1 + 1) (hx 2 (by omega)) (by show 0 ≤ (if w < 0 then (1 : Int) else 0); split <;> omega) (by show (if w < 0 then (1 : Int) else 0) ≤ 1; split <;> omega)]
    dsimp only
    by_cases c3 : m = n + 1 + 1 + 1
    · subst c3
      rw [hb _ _ (by decide) (by decide)]
    rw [nxt_at (n := n + 1 + 1 + 1) (i := (w.natAbs : Int) / 65536) (hx 3 (by omega)) (by omega) (by omega)]
    dsimp only
    by_cases c4 : m = n + 1 + 1 + 1 + 1
    · subst c4
      rw [hb _ _ (by decide) (by decide)]
    rw [nxt_at (n := n + 1 + 1 + 1 + 1) (i := (w.natAbs : Int) / 256 % 256) (hx 4 (by omega)) (by omega) (by omega)]
    dsimp only
    by_cases c5 : m = n + 1 + 1 + 1 + 1 + 1
    · subst c5
      rw [hb _ _ (by decide) (by decide)]
    rw [nxt_at (n := n + 1 + 1 + 1 + 1 + 1) (i := (w.natAbs : Int) % 256) (hx 5 (by omega)) (by omega) (by omega)]
    dsimp only
    have e : 256 * (256 * (256 * 0 + (w.natAbs : Int) / 65536) + (w.natAbs : Int) / 256 % 256) + (w.natAbs : Int) % 256 = w.natAbs := by omega
    rw [e, if_pos ⟨by omega, by omega⟩]
    dsimp only
    have ih := bad_arms hb a (n + 6) (s + 1) post (fun j hj => by
      have := hx (6 + j) (by omega)
      rw [show n + (6 + j) = n + 6 + j by omega] at this
      rw [this, List.getElem?_append_right (by simp [inD, enc1])]
      simp [inD, enc1]) (by omega) (by omega) (by omega) o5
    rw [show 256 * (s / 256) + s % 256 = s by omega, show n + 1 + 1 + 1 + 1 + 1 + 1 = n + 6 by omega, ih]
theorem chk_rng (xs : List Int) : 0 ≤ chk xs ∧ chk xs ≤ 252 := by
  unfold chk
  have : ∀ (ys : List Int) (c : Int), 0 ≤ c ∧ c ≤ 252 → 0 ≤ ys.foldl (fun a x => (3 * a + x) % 253) c ∧ ys.foldl (fun a x => (3 * a + x) % 253) c ≤ 252 := by
    intro ys
    induction ys with
    | nil => intro c h; exact h
    | cons y ys ih => intro c h; exact ih _ ⟨by dsimp only; omega, by dsimp only; omega⟩
  exact this xs 7 ⟨by decide, by decide⟩
theorem nums_in (a : Arms) : inD (numsR a) = .int 82 :: .int (a.length : Int) :: (inD (encA a) ++ [D.int (chk (body a))]) := by
  show inD ((82 : Int) :: (a.length : Int) :: encA a ++ [chk (body a)]) = _
  unfold inD
  rw [List.cons_append, List.cons_append, List.map_cons, List.map_cons, List.map_append]; rfl
/-- the numbers up to the last arm are read -/
theorem dec_upto {xs : List D} {a : Arms} (ho : okA 0 a) (hl : a.length ≤ 60) (hp : ∀ j, j < 2 + 6 * a.length → xs[j]? = (inD (numsR a))[j]?) (hn : 2 + 6 * a.length ≤ xs.length) : decE xs = match nxt xs (2 + 6 * a.length) (chk (body a)) (chk (body a)) with
    | .error e => .error e
    | .ok (_, q) => if q < xs.length then .error (q, q) else .ok (a, q) := by
  have hN := nums_in a
  have ht : xs.take (2 + 6 * a.length) = inD (body a) := by
    refine List.ext_getElem? fun j => ?_
    rw [List.getElem?_take]
    split
    · rename_i hj
      rw [hp j hj, show inD (numsR a) = inD (body a) ++ [D.int (chk (body a))] by unfold numsR inD; rw [List.map_append]; rfl, List.getElem?_append_left (by rw [in_len, body_len]; exact hj)]
    · rename_i hj
      rw [List.getElem?_eq_none (by rw [in_len, body_len]; omega)]
  have hc : chkD xs (2 + 6 * a.length) = chk (body a) := by
    unfold chkD; rw [ht, toI_in]
  have hd : xs.drop 2 = inD (encA a) ++ xs.drop (2 + 6 * a.length) := by
    rw [← List.take_append_drop (2 + 6 * a.length) (xs), ht]
    rw [List.drop_append_of_le_length (by rw [in_len, body_len]; omega), List.drop_left' (by rw [in_len, body_len])]
    rfl
  have ha := arms_at (xs := xs) a 2 0 _ hd (by omega) ho
  unfold decE
  rw [nxt_at (i := 82) (by rw [hp 0 (by omega), hN]; rfl) (by decide) (by decide)]
  dsimp only
  rw [nxt_at (i := (a.length : Int)) (by rw [hp 1 (by omega), hN]; rfl) (by omega) (by omega)]
  dsimp only
  rw [show ((a.length : Int)).toNat = a.length by omega, ha]
  dsimp only
  rw [hc]
  all_goals (cases nxt xs (2 + 6 * a.length) (chk (body a)) (chk (body a)) <;> rfl)
theorem dec_bad {xs : List D} {a : Arms} {m : Nat} (ho : okA 0 a) (hl : a.length ≤ 60) (hb : BadAt xs m) (hp : ∀ j, j < m → xs[j]? = (inD (numsR a))[j]?) (hm : m < 3 + 6 * a.length) : decE xs = .error (m, m) := by
  have hN := nums_in a
  by_cases hl2 : m = 2 + 6 * a.length
  · subst hl2
    have hn : 2 + 6 * a.length ≤ xs.length := by
      have h1 := hp (1 + 6 * a.length) (by omega)
      have : (1 + 6 * a.length) < (inD (numsR a)).length := by rw [in_len, numsR_len]; omega
      rw [List.getElem?_eq_getElem this] at h1
      have := (List.getElem?_eq_some_iff.mp h1).1
      omega
    have hc := chk_rng (body a)
    rw [dec_upto ho hl hp hn, hb _ _ hc.1 (by omega)]
  unfold decE
  by_cases c0 : m = 0
  · subst c0; rw [hb _ _ (by decide) (by decide)]
  rw [nxt_at (i := 82) (by rw [hp 0 (by omega), hN]; rfl) (by decide) (by decide)]
  dsimp only
  by_cases c1 : m = 0 + 1
  · subst c1; rw [hb _ _ (by decide) (by decide)]
  rw [nxt_at (i := (a.length : Int)) (by rw [hp 1 (by omega), hN]; rfl) (by omega) (by omega)]
  dsimp only
  rw [show ((a.length : Int)).toNat = a.length by omega, bad_arms hb a 2 0 [D.int (chk (body a))] (fun j hj => by
    rw [hp _ hj, hN, show 2 + j = j + 1 + 1 by omega, List.getElem?_cons_succ, List.getElem?_cons_succ]) (by omega) (by omega) (by omega) ho]
/-! ### what is given -/
def Giv (g : D) (o : Int) : Prop := (g.noC = true ∧ g.isLoc = false) ∧ ∀ R, f_decode [g] R = .exc "DecodeError" [("offset", .int o)] R
theorem el_noC {d : D} (h : elB d = true) : d.noC = true := by cases d <;> first | rfl | cases h
theorem giv_list {xs : List D} {o s : Nat} (he : ∀ d ∈ xs, elB d = true) (hl : xs.length ≤ 1000) (h : decE xs = .error (o, s)) : Giv (.lst xs) (o : Int) := by
  refine ⟨⟨?_, rfl⟩, fun R => ?_⟩
  · rw [noC_lst, ← List.map_id xs]
    exact noL_map fun x hx => el_noC (he x hx)
  · rw [e_decode he hl, h]
theorem el_take {xs : List D} {m : Nat} (h : ∀ d ∈ xs, elB d = true) : ∀ d ∈ xs.take m, elB d = true := fun d hd => h d (List.mem_of_mem_take hd)
theorem el_drop {xs : List D} {m : Nat} (h : ∀ d ∈ xs, elB d = true) : ∀ d ∈ xs.drop m, elB d = true := fun d hd => h d (List.mem_of_mem_drop hd)
theorem el_app {xs ys : List D} (h1 : ∀ d ∈ xs, elB d = true) (h2 : ∀ d ∈ ys, elB d = true) : ∀ d ∈ xs ++ ys, elB d = true := fun d hd => (List.mem_append.mp hd).elim (h1 d) (h2 d)
theorem el_odd {lo hi : Int} {d : D} (h : Odd lo hi d) : ∀ x ∈ [d], elB x = true := fun x hx => by
  rw [List.mem_singleton.mp hx]; cases h <;> rfl
section
variable {a : Arms} (ok : okA 0 a) (hl : a.length ≤ 60)
include ok hl
theorem giv0 {m : Nat} (hm : m < (numsR a).length) : Giv (.lst ((inD (numsR a)).take m)) (m : Int) := by
  have hn := numsR_len a
  refine giv_list (s := m) (el_take (el_in _)) (by rw [List.length_take, in_len]; omega) (dec_bad ok hl (bad_none ?_) (fun j hj => ?_) (by omega))
  · rw [List.getElem?_eq_none (by rw [List.length_take]; omega)]
  · rw [List.getElem?_take, if_pos hj]
theorem giv1 {x : Int} : Giv (.lst (inD (numsR a) ++ [.int x])) ((numsR a).length : Int) := by
  have hn := numsR_len a
  have hlen : (inD (numsR a) ++ [D.int x]).length = 4 + 6 * a.length := by rw [List.length_append, in_len, List.length_singleton]; omega
  refine giv_list (s := (numsR a).length) (el_app (el_in _) fun d hd => by rw [List.mem_singleton.mp hd]; rfl) (by omega) ?_
  rw [dec_upto ok hl (fun j hj => by rw [List.getElem?_append_left (by rw [in_len]; omega)]) (by omega)]
  rw [nxt_at (i := chk (body a)) (by
    rw [List.getElem?_append_left (by rw [in_len]; omega), show inD (numsR a) = inD (body a) ++ [D.int (chk (body a))] by unfold numsR inD; rw [List.map_append]; rfl, List.getElem?_append_right (by rw [in_len, body_len]; exact Nat.le_refl _), in_len, body_len, Nat.sub_self]
    rfl) (Int.le_refl _) (Int.le_refl _)]
  dsimp only
  rw [if_pos (by omega), hn, show 2 + 6 * a.length + 1 = 3 + 6 * a.length by omega]
theorem giv2 {m : Nat} {d : D} (hm : m < (numsR a).length) (hd : Odd 0 255 d) : Giv (.lst ((inD (numsR a)).take m ++ [d] ++ (inD (numsR a)).drop (m + 1))) (m : Int) := by
  have hn := numsR_len a
  have hi : (inD (numsR a)).length = (numsR a).length := in_len _
  have ht : ((inD (numsR a)).take m).length = m := by rw [List.length_take]; omega
  refine giv_list (s := m) (el_app (el_app (el_take (el_in _)) (el_odd hd)) (el_drop (el_in _))) (by simp [inD]; omega) (dec_bad ok hl (bad_some (d := d) ?_ hd) (fun j hj => ?_) (by omega))
  · rw [List.append_assoc, List.getElem?_append_right (by omega), ht, Nat.sub_self]; rfl
  · rw [List.append_assoc, List.getElem?_append_left (by omega), List.getElem?_take, if_pos hj]
theorem giv3 {z : Int} (hz : z ≠ chk (body a)) : Giv (.lst (inD (body a) ++ [.int z])) ((numsR a).length - 1 : Int) := by
  have hn := numsR_len a
  have hb := body_len a
  have hi : (inD (body a)).length = (body a).length := in_len _
  have h := giv_list (xs := inD (body a) ++ [.int z]) (o := 2 + 6 * a.length) (s := 2 + 6 * a.length) (el_app (el_in _) fun d hd => by rw [List.mem_singleton.mp hd]; rfl) (by simp [inD]; omega) (by
    rw [dec_upto ok hl (fun j hj => by rw [show inD (numsR a) = inD (body a) ++ [D.int (chk (body a))] by unfold numsR inD; rw [List.map_append]; rfl, List.getElem?_append_left (by omega), List.getElem?_append_left (by omega)]) (by rw [List.length_append, hi]; omega)]
    have : nxt (inD (body a) ++ [D.int z]) (2 + 6 * a.length) (chk (body a)) (chk (body a)) = .error (2 + 6 * a.length, 2 + 6 * a.length) := by
      unfold nxt
      rw [List.getElem?_append_right (by omega), hi, hb, Nat.sub_self]
      show (if _ then _ else _) = _
      rw [if_neg (by omega)]
    rw [this])
  rw [show ((numsR a).length - 1 : Int) = ((2 + 6 * a.length : Nat) : Int) by omega]
  exact h
theorem giv4a : Giv (.lst ([.int 81] ++ (inD (numsR a)).drop 2)) 0 := by
  have hn := numsR_len a
  refine giv_list (o := 0) (s := 0) (el_app (fun d hd => by rw [List.mem_singleton.mp hd]; rfl) (el_drop (el_in _))) (by simp [inD]; omega) ?_
  rfl
theorem giv4b : Giv (.lst ([.int 82, .int 61] ++ (inD (numsR a)).drop 2)) 1 := by
  have hn := numsR_len a
  refine giv_list (o := 1) (s := 1) (el_app (fun d hd => by simp at hd; rcases hd with rfl | rfl <;> rfl) (el_drop (el_in _))) (by simp [inD]; omega) ?_
  rfl
end
theorem giv5 {s l : Int} (s0 : 0 ≤ s) (s1 : s ≤ 998) (l0 : 0 ≤ l) (l1 : l ≤ s) : Giv (.lst ([.int 82, .int 2, .int (s / 256), .int (s % 256), .int 0, .int 0, .int 0, .int 1] ++ [.int (l / 256), .int (l % 256), .int 0, .int 0, .int 0, .int 1])) (if (s + 1) / 256 > l / 256 then 8 else 9) := by
  have he : ∀ d ∈ [D.int 82, .int 2, .int (s / 256), .int (s % 256), .int 0, .int 0, .int 0, .int 1] ++ [.int (l / 256), .int (l % 256), .int 0, .int 0, .int 0, .int 1], elB d = true := el_in [82, 2, s / 256, s % 256, 0, 0, 0, 1, l / 256, l % 256, 0, 0, 0, 1]
  generalize hxs : [D.int 82, .int 2, .int (s / 256), .int (s % 256), .int 0, .int 0, .int 0, .int 1] ++ [.int (l / 256), .int (l % 256), .int 0, .int 0, .int 0, .int 1] = xs at he
  have hlen : xs.length = 14 := by rw [← hxs]; rfl
  have main : decE xs = if (s + 1) / 256 > l / 256 then .error (8, 8) else .error (9, 9) := by
    unfold decE
    rw [nxt_at (n := 0) (i := 82) (by rw [← hxs]; rfl) (by decide) (by decide)]
    dsimp only
    rw [nxt_at (n := 0 + 1) (i := 2) (by rw [← hxs]; rfl) (by decide) (by decide)]
    dsimp only
    rw [show (2 : Int).toNat = 2 by rfl]
    have hin : armsE xs 2 (0 + 1 + 1) 0 = if (s + 1) / 256 > l / 256 then .error (8, 8) else .error (9, 9) := by
      unfold armsE
      rw [if_neg (by decide), slk_at (n := 0 + 1 + 1) (s := s) (by rw [← hxs]; rfl) (by rw [← hxs]; rfl) s0 (by decide) (by omega)]
      dsimp only
      rw [arm_at (n := 0 + 1 + 1 + 2) (w := 1) (by rw [← hxs]; rfl) (by rw [← hxs]; rfl) (by rw [← hxs]; rfl) (by rw [← hxs]; rfl) (by decide) (by decide)]
      dsimp only
      unfold armsE
      rw [if_neg (by omega)]
      unfold slk
      have h8 : xs[0 + 1 + 1 + 2 + 4]? = some (.int (l / 256)) := by rw [← hxs]; rfl
      have h9 : xs[0 + 1 + 1 + 2 + 4 + 1]? = some (.int (l % 256)) := by rw [← hxs]; rfl
      by_cases hc : (s + 1) / 256 > l / 256
      · rw [if_pos hc]
        have : nxt xs (0 + 1 + 1 + 2 + 4) ((s + 1) / 256) 3 = .error (8, 8) := by
          unfold nxt; rw [h8]
          show (if _ then _ else _) = _
          rw [if_neg (by omega)]
        rw [this]
      · rw [if_neg hc, nxt_at h8 (by omega) (by omega)]
        dsimp only
        have : nxt xs (0 + 1 + 1 + 2 + 4 + 1) (if s + 1 - 256 * (l / 256) > 0 then s + 1 - 256 * (l / 256) else 0) (if 999 - 256 * (l / 256) < 255 then 999 - 256 * (l / 256) else 255) = .error (9, 9) := by
          unfold nxt; rw [h9]
          show (if _ then _ else _) = _
          rw [if_neg (by split <;> omega)]
        rw [this]
    rw [hin]
    by_cases hc : (s + 1) / 256 > l / 256
    · rw [if_pos hc]
    · rw [if_neg hc]
  by_cases hc : (s + 1) / 256 > l / 256
  · rw [if_pos hc] at main ⊢
    exact giv_list he (by omega) main
  · rw [if_neg hc] at main ⊢
    exact giv_list he (by omega) main
theorem x_decode0 {d : D} {R : Rs} (h : NoL d) : f_decode [d] R = .exc "DecodeError" [("offset", .int 0)] R := by
  unfold f_decode
  refine pureF_exc ?_
  unfold cutR m_decode
  simp only [raise_ap, raiseI_ap, calmF_ap, le_line, lt_line, var_ap, c_ap, op_ap, un_ap, b_ap, and_ap, or_ap, not_ap, if_ap, andV_ap, orV_ap, ch_ap, nil_ap, cons_ap, star_ap, tup_ap, lst_ap, arm_ap, cb_ap, noPart_ap, part_ap, sl_ap, slL_ap, call_ap, callL_ap, fld_ap, get2_ap, dnew_ap, it_ap, itA_ap, yes_ap, next_ap, seq_ap, set_ap, setO_ap, drop_ap, ret_ap, retN_ap, brk_ap, cnt_ap, never_ap, ifS_ap, aug_ap, app_ap, ext_ap, pop_ap, par_ap, asg_ap, dset_ap, stF_ap, stF2_ap, fldL_ap, see_f, see_g, okM_f, okM_g, okR_f, okR_g, okO_f, okO_g, hide_nil, hide_cons, setAll_cons, setAll_nil, wipe_nil, wipe_cons, runB_ap, runL_ap, startL_ap, startD_ap, out1_nx, out1_rt, dName_ap, dGTup_ap, dGLst_ap, dGCons_ap, dGNil_ap, dAdd_ap, dSub_ap, dMul_ap, dFdiv_ap, dMod_ap, dLt_ap, dLe_ap, dGt_ap, dGe_ap, bOf_ap, dNeg_ap, dNot_ap, eqS_int, eqS_bl, eqS_str, dInt1_ap, dInt1_bl, dMax2_ap, dMin2_ap, dAbs_ap, dSum_ap, dAny_ap, dAll_ap, dLen_l, dLen_t, dLen_a, dIx_l, dIx_t, dIx_a, dTup_ap, dArm_ap, dList_l, dList_t, dTupl_ap, dTupA_ap, lstOf_ap, tupOf_t, tupOf_a, itemsOf_t, itemsOf_l, dSl_l, dSl_t, dSlL_ap, dCatL_ap, dIsN_ap, rng2_ap, dRange_1, dRange_2, dRange3_ap, isC_y, il_int, il_bl, il_str, il_non, il_tup, il_lst, il_armD, il_ins, il_dic, il_ar, il_rig, Bool.false_eq_true, if_false, if_true, Res.bind_ok, Res.bind_bad, Res.out_ok, Res.out_bad, Res.calm_ok, List.map_cons, List.map_nil, List.length_cons, List.length_nil, Nat.reduceAdd, Nat.reduceSub, List.replicate, List.cons_append, List.nil_append, List.getElem?_cons_zero, List.getElem?_cons_succ, List.set_cons_succ, List.set_cons_zero, Bool.true_and, Bool.and_true, Bool.not_false, Bool.not_true, List.contains_nil, Option.bind_some, for_ap, lc_ap, Nat.reduceEqDiff, Nat.reduceLeDiff, Bool.false_xor, Bool.true_xor, and_self, decide_true, decide_false, List.lookup, List.all_cons, List.all_nil, List.contains_cons, Nat.reduceBEq, Bool.or_false, Bool.false_or, Bool.or_true, Bool.true_or, beq_self_eq_true, List.contains_nil, propR_ap, propR_rig, ownB_rig, ownT_rig, ownN_rig, eqI_rig, e_rig_fwd, lcG_nil, lcG_yesN, eq_self, lawStart_ap, in2, in3, in4, rg2, rg3, rg4, at0, at1, at2, il_tr, Bool.xor_true, Bool.xor_false, mkR_ap, mkR_rest, mkR_rig, callR_ap, callR_rig, callR_mem, methR_ap, methR_at, methR_curve, propR_mem, eqI_mem, lst_ok0, lst_ok1, lst_ok2, lst_ok3, il_pl, il_mem, e_mem_places, e_mem_place, e_rig_arms, il_nl h, isK_nl h]
  rfl
theorem giv7 {d : D} (h : NoL d) (hc : d.noC = true ∧ d.isLoc = false) : Giv d 0 := ⟨hc, fun R => x_decode0 h⟩
theorem giv6 {i : Int} (i0 : 0 ≤ i) (i1 : i < 6) : ∃ ys : List Int, atI [D.lst [.int 4], .lst [.int 3, .int 232], .lst [.int 0, .int 5, .int 2], .lst [.int 0, .int 5, .int 0, .int 0, .int 0, .int 0], .lst [.int 0, .int 5, .int 1, .int 15, .int 66, .int 65], .lst [.int 0, .int 5, .int 0, .int 255, .int 0, .int 0]] i = some (.lst (inD ys)) ∧ ys.length ≤ 6 ∧ ∃ o x y : Int, Giv (.lst (.int 82 :: .int 1 :: (inD ys ++ [.int 9]))) o ∧ atI (.int 82 :: .int 1 :: (inD ys ++ [.int 9])) 2 = some (.int x) ∧ (x = 4 ∧ o = 2 ∨ x ≠ 4 ∧ (x = 3 ∧ o = 3 ∨ x ≠ 3 ∧ atI (.int 82 :: .int 1 :: (inD ys ++ [.int 9])) 4 = some (.int y) ∧ o = if y = 2 then 4 else 5)) := by
  have G : ∀ (zs : List Int) (o s : Nat), zs.length ≤ 1000 → decE (inD zs) = .error (o, s) → Giv (.lst (inD zs)) (o : Int) := fun zs o s h1 h2 => giv_list (el_in _) (by rw [in_len]; exact h1) h2
  rcases (show i = 0 ∨ i = 1 ∨ i = 2 ∨ i = 3 ∨ i = 4 ∨ i = 5 by omega) with rfl | rfl | rfl | rfl | rfl | rfl
  · exact ⟨[4], rfl, by decide, 2, 4, 0, G [82, 1, 4, 9] 2 2 (by decide) rfl, rfl, .inl ⟨rfl, rfl⟩⟩
  · exact ⟨[3, 232], rfl, by decide, 3, 3, 0, G [82, 1, 3, 232, 9] 3 3 (by decide) rfl, rfl, .inr ⟨by decide, .inl ⟨rfl, rfl⟩⟩⟩
  · exact ⟨[0, 5, 2], rfl, by decide, 4, 0, 2, G [82, 1, 0, 5, 2, 9] 4 4 (by decide) rfl, rfl, .inr ⟨by decide, .inr ⟨by decide, rfl, rfl⟩⟩⟩
  · exact ⟨[0, 5, 0, 0, 0, 0], rfl, by decide, 5, 0, 0, G [82, 1, 0, 5, 0, 0, 0, 0, 9] 5 8 (by decide) rfl, rfl, .inr ⟨by decide, .inr ⟨by decide, rfl, rfl⟩⟩⟩
  · exact ⟨[0, 5, 1, 15, 66, 65], rfl, by decide, 5, 0, 1, G [82, 1, 0, 5, 1, 15, 66, 65, 9] 5 8 (by decide) rfl, rfl, .inr ⟨by decide, .inr ⟨by decide, rfl, rfl⟩⟩⟩
  · exact ⟨[0, 5, 0, 255, 0, 0], rfl, by decide, 5, 0, 0, G [82, 1, 0, 5, 0, 255, 0, 0, 9] 5 8 (by decide) rfl, rfl, .inr ⟨by decide, .inr ⟨by decide, rfl, rfl⟩⟩⟩
/-! ### the law -/
theorem dec_w {o : Int} {R : Rs} : dEqD true (.tup [.str "decode", .int o]) (.tup [.str "decode", .int o]) R = .ok (.bl false) R := by
  rw [eqWI (by kernel_rfl), decide_eq_true rfl]; rfl
theorem tail53 {g : D} {o : Int} (h : Giv g o) (cl : List (Str × Addr)) {x2 x3 x4 x5 x6 x9 x10 x11 x12 : Option D} {st : List Int} (hk : ∃ k : Int, x5 = some (.int k) ∧ k ≠ 7) :
    ml351 cl [none, some (.loc 0), x2, x3, x4, x5, x6, some g, some (.int o), x9, x10, x11, x12] [srcD st, .tab A0] = .nx [none, some (.loc 0), x2, x3, x4, x5, x6, some g, some (.int o), x9, x10, x11, x12] [srcD st, .tab A0] := by
  obtain ⟨k, rfl, hk⟩ := hk
  have hd : decide (k = 7) = false := decide_eq_false hk
  have hcap : capt l_0.cs 0 [none, some (.loc 0), x2, x3, x4, some (.int k), x6, some g, some (.int o), x9, x10, x11, x12] = [none, none, none, none, none, none, none, some g, none, none, none, none, none] := by
    rw [lc_0]
    simp [capt_cons, capt_nil, okCap_of h.1.2]
  have hE := errV (A0 := A0) (tab := lamTab) (l := l_0) (g := g_0) (cl := cl) (ρ := [none, some (.loc 0), x2, x3, x4, some (.int k), x6, some g, some (.int o), x9, x10, x11, x12]) (st := st) (c := "DecodeError") (fs := [("offset", .int o)]) (w := "decode") (i := o) lt_0
    (by rw [hcap]; simp only [noE_none, noE_of h.1.2 h.1.1, noE_nil])
    (by rw [hcap]; unfold g_0; simp only [raise_ap, raiseI_ap, calmF_ap, le_line, lt_line, var_ap, c_ap, op_ap, un_ap, b_ap, and_ap, or_ap, not_ap, if_ap, andV_ap, orV_ap, ch_ap, nil_ap, cons_ap, star_ap, tup_ap, lst_ap, arm_ap, cb_ap, noPart_ap, part_ap, sl_ap, slL_ap, call_ap, callL_ap, fld_ap, get2_ap, dnew_ap, it_ap, itA_ap, yes_ap, next_ap, seq_ap, set_ap, setO_ap, drop_ap, ret_ap, retN_ap, brk_ap, cnt_ap, never_ap, ifS_ap, aug_ap, app_ap, ext_ap, pop_ap, par_ap, asg_ap, dset_ap, stF_ap, stF2_ap, fldL_ap, see_f, see_g, okM_f, okM_g, okR_f, okR_g, okO_f, okO_g, hide_nil, hide_cons, setAll_cons, setAll_nil, wipe_nil, wipe_cons, runB_ap, runL_ap, startL_ap, startD_ap, out1_nx, out1_rt, dName_ap, dGTup_ap, dGLst_ap, dGCons_ap, dGNil_ap, dAdd_ap, dSub_ap, dMul_ap, dFdiv_ap, dMod_ap, dLt_ap, dLe_ap, dGt_ap, dGe_ap, bOf_ap, dNeg_ap, dNot_ap, eqS_int, eqS_bl, eqS_str, dInt1_ap, dInt1_bl, dMax2_ap, dMin2_ap, dAbs_ap, dSum_ap, dAny_ap, dAll_ap, dLen_l, dLen_t, dLen_a, dIx_l, dIx_t, dIx_a, dTup_ap, dArm_ap, dList_l, dList_t, dTupl_ap, dTupA_ap, lstOf_ap, tupOf_t, tupOf_a, itemsOf_t, itemsOf_l, dSl_l, dSl_t, dSlL_ap, dCatL_ap, dIsN_ap, rng2_ap, dRange_1, dRange_2, dRange3_ap, isC_y, il_int, il_bl, il_str, il_non, il_tup, il_lst, il_armD, il_ins, il_dic, il_ar, il_rig, Bool.false_eq_true, if_false, if_true, Res.bind_ok, Res.bind_bad, Res.out_ok, Res.out_bad, Res.calm_ok, List.map_cons, List.map_nil, List.length_cons, List.length_nil, Nat.reduceAdd, Nat.reduceSub, List.replicate, List.cons_append, List.nil_append, List.getElem?_cons_zero, List.getElem?_cons_succ, List.set_cons_succ, List.set_cons_zero, Bool.true_and, Bool.and_true, Bool.not_false, Bool.not_true, List.contains_nil, Option.bind_some, for_ap, lc_ap, Nat.reduceEqDiff, Nat.reduceLeDiff, Bool.false_xor, Bool.true_xor, and_self, decide_true, decide_false, List.lookup, List.all_cons, List.all_nil, List.contains_cons, Nat.reduceBEq, Bool.or_false, Bool.false_or, Bool.or_true, Bool.true_or, beq_self_eq_true, List.contains_nil, propR_ap, propR_rig, ownB_rig, ownT_rig, ownN_rig, eqI_rig, e_rig_fwd, lcG_nil, lcG_yesN, eq_self, lawStart_ap, in2, in3, in4, rg2, rg3, rg4, at0, at1, at2, il_tr, Bool.xor_true, Bool.xor_false, mkR_ap, mkR_rest, mkR_rig, callR_ap, callR_rig, callR_mem, methR_ap, methR_at, methR_curve, propR_mem, eqI_mem, lst_ok0, lst_ok1, lst_ok2, lst_ok3, il_pl, il_mem, e_mem_places, e_mem_place, e_rig_arms, h.1.2, h.2]) rfl rfl
  unfold ml351
  simp only [raise_ap, raiseI_ap, calmF_ap, le_line, lt_line, var_ap, c_ap, op_ap, un_ap, b_ap, and_ap, or_ap, not_ap, if_ap, andV_ap, orV_ap, ch_ap, nil_ap, cons_ap, star_ap, tup_ap, lst_ap, arm_ap, cb_ap, noPart_ap, part_ap, sl_ap, slL_ap, call_ap, callL_ap, fld_ap, get2_ap, dnew_ap, it_ap, itA_ap, yes_ap, next_ap, seq_ap, set_ap, setO_ap, drop_ap, ret_ap, retN_ap, brk_ap, cnt_ap, never_ap, ifS_ap, aug_ap, app_ap, ext_ap, pop_ap, par_ap, asg_ap, dset_ap, stF_ap, stF2_ap, fldL_ap, see_f, see_g, okM_f, okM_g, okR_f, okR_g, okO_f, okO_g, hide_nil, hide_cons, setAll_cons, setAll_nil, wipe_nil, wipe_cons, runB_ap, runL_ap, startL_ap, startD_ap, out1_nx, out1_rt, dName_ap, dGTup_ap, dGLst_ap, dGCons_ap, dGNil_ap, dAdd_ap, dSub_ap, dMul_ap, dFdiv_ap, dMod_ap, dLt_ap, dLe_ap, dGt_ap, dGe_ap, bOf_ap, dNeg_ap, dNot_ap, eqS_int, eqS_bl, eqS_str, dInt1_ap, dInt1_bl, dMax2_ap, dMin2_ap, dAbs_ap, dSum_ap, dAny_ap, dAll_ap, dLen_l, dLen_t, dLen_a, dIx_l, dIx_t, dIx_a, dTup_ap, dArm_ap, dList_l, dList_t, dTupl_ap, dTupA_ap, lstOf_ap, tupOf_t, tupOf_a, itemsOf_t, itemsOf_l, dSl_l, dSl_t, dSlL_ap, dCatL_ap, dIsN_ap, rng2_ap, dRange_1, dRange_2, dRange3_ap, isC_y, il_int, il_bl, il_str, il_non, il_tup, il_lst, il_armD, il_ins, il_dic, il_ar, il_rig, Bool.false_eq_true, if_false, if_true, Res.bind_ok, Res.bind_bad, Res.out_ok, Res.out_bad, Res.calm_ok, List.map_cons, List.map_nil, List.length_cons, List.length_nil, Nat.reduceAdd, Nat.reduceSub, List.replicate, List.cons_append, List.nil_append, List.getElem?_cons_zero, List.getElem?_cons_succ, List.set_cons_succ, List.set_cons_zero, Bool.true_and, Bool.and_true, Bool.not_false, Bool.not_true, List.contains_nil, Option.bind_some, for_ap, lc_ap, Nat.reduceEqDiff, Nat.reduceLeDiff, Bool.false_xor, Bool.true_xor, and_self, decide_true, decide_false, List.lookup, List.all_cons, List.all_nil, List.contains_cons, Nat.reduceBEq, Bool.or_false, Bool.false_or, Bool.or_true, Bool.true_or, beq_self_eq_true, List.contains_nil, propR_ap, propR_rig, ownB_rig, ownT_rig, ownN_rig, eqI_rig, e_rig_fwd, lcG_nil, lcG_yesN, eq_self, lawStart_ap, in2, in3, in4, rg2, rg3, rg4, at0, at1, at2, il_tr, Bool.xor_true, Bool.xor_false, mkR_ap, mkR_rest, mkR_rig, callR_ap, callR_rig, callR_mem, methR_ap, methR_at, methR_curve, propR_mem, eqI_mem, lst_ok0, lst_ok1, lst_ok2, lst_ok3, il_pl, il_mem, e_mem_places, e_mem_place, e_rig_arms, hd, hE, dec_w]
theorem cut_init53 {α : Type} (xs : List α) : Pv.cutD xs none (some (-1)) = xs.dropLast := by
  rcases List.eq_nil_or_concat xs with rfl | ⟨l, a, rfl⟩
  · simp [Pv.cutD]
  · unfold Pv.cutD
    have e : HT.sIx (l.concat a).length (l.concat a).length (some (-1)) = l.length := by unfold HT.sIx; simp; omega
    rw [e, HT.sIx_none]; simp
theorem lst_ok8 {a b c d e f g h : D} {R : Rs} : dLst [a, b, c, d, e, f, g, h] R = .ok (.lst [a, b, c, d, e, f, g, h]) R := lst_ok (line60 (by show 8 ≤ 100000; decide))
/-- what comes behind the fourth kind -/
theorem mid53 {g : D} {o : Int} (h : Giv g o) (cl : List (Str × Addr)) {x2 x3 x4 x6 x9 x10 x11 x12 : Option D} {st : List Int} (hs : stOk st = true) {k : Int} (h5 : k ≠ 5) (h6 : k ≠ 6) (h7 : k ≠ 7) :
    ∃ st' y9 y10, (∀ A0 : Addr, ml341 cl [none, some (.loc 0), x2, x3, x4, some (.int k), x6, some g, some (.int o), x9, x10, x11, x12] [srcD st, .tab A0] = .nx [none, some (.loc 0), x2, x3, x4, some (.int k), x6, some g, some (.int o), y9, y10, x11, x12] [srcD st', .tab A0]) ∧ stOk st' = true := by
  obtain ⟨s, st1, e1, s0, s1, hs⟩ := e_bel (n := 999) hs (by decide) (by decide)
  have d5 : decide (k = 5) = false := decide_eq_false h5
  have d6 : decide (k = 6) = false := decide_eq_false h6
  have c1 : CDiv s 256 := ⟨by decide, by decide⟩
  have hp : (0 : Int) < 256 := by decide
  refine ⟨st1, some (.int s), some (.lst [.int 82, .int 2, .int (s / 256), .int (s % 256), .int 0, .int 0, .int 0, .int 1]), fun A0 => ?_, hs⟩
  unfold ml341 ml342 ml343 ml347
  simp only [raise_ap, raiseI_ap, calmF_ap, le_line, lt_line, var_ap, c_ap, op_ap, un_ap, b_ap, and_ap, or_ap, not_ap, if_ap, andV_ap, orV_ap, ch_ap, nil_ap, cons_ap, star_ap, tup_ap, lst_ap, arm_ap, cb_ap, noPart_ap, part_ap, sl_ap, slL_ap, call_ap, callL_ap, fld_ap, get2_ap, dnew_ap, it_ap, itA_ap, yes_ap, next_ap, seq_ap, set_ap, setO_ap, drop_ap, ret_ap, retN_ap, brk_ap, cnt_ap, never_ap, ifS_ap, aug_ap, app_ap, ext_ap, pop_ap, par_ap, asg_ap, dset_ap, stF_ap, stF2_ap, fldL_ap, see_f, see_g, okM_f, okM_g, okR_f, okR_g, okO_f, okO_g, hide_nil, hide_cons, setAll_cons, setAll_nil, wipe_nil, wipe_cons, runB_ap, runL_ap, startL_ap, startD_ap, out1_nx, out1_rt, dName_ap, dGTup_ap, dGLst_ap, dGCons_ap, dGNil_ap, dAdd_ap, dSub_ap, dMul_ap, dFdiv_ap, dMod_ap, dLt_ap, dLe_ap, dGt_ap, dGe_ap, bOf_ap, dNeg_ap, dNot_ap, eqS_int, eqS_bl, eqS_str, dInt1_ap, dInt1_bl, dMax2_ap, dMin2_ap, dAbs_ap, dSum_ap, dAny_ap, dAll_ap, dLen_l, dLen_t, dLen_a, dIx_l, dIx_t, dIx_a, dTup_ap, dArm_ap, dList_l, dList_t, dTupl_ap, dTupA_ap, lstOf_ap, tupOf_t, tupOf_a, itemsOf_t, itemsOf_l, dSl_l, dSl_t, dSlL_ap, dCatL_ap, dIsN_ap, rng2_ap, dRange_1, dRange_2, dRange3_ap, isC_y, il_int, il_bl, il_str, il_non, il_tup, il_lst, il_armD, il_ins, il_dic, il_ar, il_rig, Bool.false_eq_true, if_false, if_true, Res.bind_ok, Res.bind_bad, Res.out_ok, Res.out_bad, Res.calm_ok, List.map_cons, List.map_nil, List.length_cons, List.length_nil, Nat.reduceAdd, Nat.reduceSub, List.replicate, List.cons_append, List.nil_append, List.getElem?_cons_zero, List.getElem?_cons_succ, List.set_cons_succ, List.set_cons_zero, Bool.true_and, Bool.and_true, Bool.not_false, Bool.not_true, List.contains_nil, Option.bind_some, for_ap, lc_ap, Nat.reduceEqDiff, Nat.reduceLeDiff, Bool.false_xor, Bool.true_xor, and_self, decide_true, decide_false, List.lookup, List.all_cons, List.all_nil, List.contains_cons, Nat.reduceBEq, Bool.or_false, Bool.false_or, Bool.or_true, Bool.true_or, beq_self_eq_true, List.contains_nil, propR_ap, propR_rig, ownB_rig, ownT_rig, ownN_rig, eqI_rig, e_rig_fwd, lcG_nil, lcG_yesN, eq_self, lawStart_ap, in2, in3, in4, rg2, rg3, rg4, at0, at1, at2, il_tr, Bool.xor_true, Bool.xor_false, mkR_ap, mkR_rest, mkR_rig, callR_ap, callR_rig, callR_mem, methR_ap, methR_at, methR_curve, propR_mem, eqI_mem, lst_ok0, lst_ok1, lst_ok2, lst_ok3, il_pl, il_mem, e_mem_places, e_mem_place, e_rig_arms, e1, c1, hp, lst_ok8, d5, d6]
  exact tail53 h cl ⟨k, rfl, h7⟩
theorem pre53 (cl : List (Str × Addr)) {x2 x3 x4 x6 x7 x8 x9 x10 x11 x12 : Option D} {R : Rs} {k : Int} (h1 : k ≠ 1) (h2 : k ≠ 2) (h3 : k ≠ 3) (h4 : k ≠ 4) :
    ml332 cl [none, some (.loc 0), x2, x3, x4, some (.int k), x6, x7, x8, x9, x10, x11, x12] R = ml341 cl [none, some (.loc 0), x2, x3, x4, some (.int k), x6, x7, x8, x9, x10, x11, x12] R := by
  have d1 : decide (k = 1) = false := decide_eq_false h1
  have d2 : decide (k = 2) = false := decide_eq_false h2
  have d3 : decide (k = 3) = false := decide_eq_false h3
  have d4 : decide (k = 4) = false := decide_eq_false h4
  unfold ml332 ml334 ml336 ml338
  simp only [raise_ap, raiseI_ap, calmF_ap, le_line, lt_line, var_ap, c_ap, op_ap, un_ap, b_ap, and_ap, or_ap, not_ap, if_ap, andV_ap, orV_ap, ch_ap, nil_ap, cons_ap, star_ap, tup_ap, lst_ap, arm_ap, cb_ap, noPart_ap, part_ap, sl_ap, slL_ap, call_ap, callL_ap, fld_ap, get2_ap, dnew_ap, it_ap, itA_ap, yes_ap, next_ap, seq_ap, set_ap, setO_ap, drop_ap, ret_ap, retN_ap, brk_ap, cnt_ap, never_ap, ifS_ap, aug_ap, app_ap, ext_ap, pop_ap, par_ap, asg_ap, dset_ap, stF_ap, stF2_ap, fldL_ap, see_f, see_g, okM_f, okM_g, okR_f, okR_g, okO_f, okO_g, hide_nil, hide_cons, setAll_cons, setAll_nil, wipe_nil, wipe_cons, runB_ap, runL_ap, startL_ap, startD_ap, out1_nx, out1_rt, dName_ap, dGTup_ap, dGLst_ap, dGCons_ap, dGNil_ap, dAdd_ap, dSub_ap, dMul_ap, dFdiv_ap, dMod_ap, dLt_ap, dLe_ap, dGt_ap, dGe_ap, bOf_ap, dNeg_ap, dNot_ap, eqS_int, eqS_bl, eqS_str, dInt1_ap, dInt1_bl, dMax2_ap, dMin2_ap, dAbs_ap, dSum_ap, dAny_ap, dAll_ap, dLen_l, dLen_t, dLen_a, dIx_l, dIx_t, dIx_a, dTup_ap, dArm_ap, dList_l, dList_t, dTupl_ap, dTupA_ap, lstOf_ap, tupOf_t, tupOf_a, itemsOf_t, itemsOf_l, dSl_l, dSl_t, dSlL_ap, dCatL_ap, dIsN_ap, rng2_ap, dRange_1, dRange_2, dRange3_ap, isC_y, il_int, il_bl, il_str, il_non, il_tup, il_lst, il_armD, il_ins, il_dic, il_ar, il_rig, Bool.false_eq_true, if_false, if_true, Res.bind_ok, Res.bind_bad, Res.out_ok, Res.out_bad, Res.calm_ok, List.map_cons, List.map_nil, List.length_cons, List.length_nil, Nat.reduceAdd, Nat.reduceSub, List.replicate, List.cons_append, List.nil_append, List.getElem?_cons_zero, List.getElem?_cons_succ, List.set_cons_succ, List.set_cons_zero, Bool.true_and, Bool.and_true, Bool.not_false, Bool.not_true, List.contains_nil, Option.bind_some, for_ap, lc_ap, Nat.reduceEqDiff, Nat.reduceLeDiff, Bool.false_xor, Bool.true_xor, and_self, decide_true, decide_false, List.lookup, List.all_cons, List.all_nil, List.contains_cons, Nat.reduceBEq, Bool.or_false, Bool.false_or, Bool.or_true, Bool.true_or, beq_self_eq_true, List.contains_nil, propR_ap, propR_rig, ownB_rig, ownT_rig, ownN_rig, eqI_rig, e_rig_fwd, lcG_nil, lcG_yesN, eq_self, lawStart_ap, in2, in3, in4, rg2, rg3, rg4, at0, at1, at2, il_tr, Bool.xor_true, Bool.xor_false, mkR_ap, mkR_rest, mkR_rig, callR_ap, callR_rig, callR_mem, methR_ap, methR_at, methR_curve, propR_mem, eqI_mem, lst_ok0, lst_ok1, lst_ok2, lst_ok3, il_pl, il_mem, e_mem_places, e_mem_place, e_rig_arms, d1, d2, d3, d4]
def End53 (cl : List (Str × Addr)) (g : GS) (ρ : PEnv) (st : List Int) : Prop := ∃ st', stOk st' = true ∧ ∃ y2 y3 y4 y5 y6 y7 y8 y9 y10 y11 y12, ∀ A0 : Addr, g ρ [srcD st, .tab A0] = .nx [none, some (.loc 0), y2, y3, y4, y5, y6, y7, y8, y9, y10, y11, y12] [srcD st', .tab A0]
theorem mk53 {cl : List (Str × Addr)} {g : GS} {ρ : PEnv} {st st2 : List Int} {y2 y3 y4 y5 y6 y7 y8 y9 y10 y11 y12 : Option D} (hs : stOk st2 = true) (h : ∀ A0 : Addr, g ρ [srcD st, .tab A0] = .nx [none, some (.loc 0), y2, y3, y4, y5, y6, y7, y8, y9, y10, y11, y12] [srcD st2, .tab A0]) : End53 cl g ρ st := ⟨st2, hs, _, _, _, _, _, _, _, _, _, _, _, h⟩
section
variable {a : Arms} (ok : okA 0 a) (hl : a.length ≤ 60) (cl : List (Str × Addr)) {x2 x3 x9 x10 x11 x12 : Option D} {m : Nat} (hm : m < (numsR a).length) {st : List Int} (hs : stOk st = true)
include ok hl hm hs
abbrev st53 (a : Arms) (m : Nat) (x2 x3 x9 x10 x11 x12 : Option D) (k : Int) : PEnv := [none, some (.loc 0), x2, x3, some (.lst (inD (numsR a))), some (.int k), some (.int (m : Int)), some (.lst ((inD (numsR a)).take m)), some (.int (m : Int)), x9, x10, x11, x12]
theorem kind0 : End53 cl (ml332 cl) (st53 a m x2 x3 x9 x10 x11 x12 0) st := by
  obtain ⟨st1, y9, y10, e, hs⟩ := mid53 (giv0 ok hl hm) cl (x2 := x2) (x3 := x3) (x4 := some (.lst (inD (numsR a)))) (x6 := some (.int (m : Int))) (x9 := x9) (x10 := x10) (x11 := x11) (x12 := x12) hs (k := 0) (by decide) (by decide) (by decide)
  exact mk53 hs fun A0 => by rw [pre53 cl (by decide) (by decide) (by decide) (by decide)]; exact e A0
theorem kind1 : End53 cl (ml332 cl) (st53 a m x2 x3 x9 x10 x11 x12 1) st := by
  obtain ⟨x, st1, e1, _, _, hs⟩ := e_bel (n := 256) hs (by decide) (by decide)
  obtain ⟨st2, y9, y10, e, hs⟩ := mid53 (giv1 ok hl (x := x)) cl (x2 := x2) (x3 := x3) (x4 := some (.lst (inD (numsR a)))) (x6 := some (.int (m : Int))) (x9 := x9) (x10 := x10) (x11 := x11) (x12 := x12) hs (k := 1) (by decide) (by decide) (by decide)
  refine mk53 hs fun A0 => Eq.trans ?_ (e A0)
  have hz : ∀ R, dCatL (.lst (inD (numsR a))) (.lst [D.int x]) R = .ok (.lst (inD (numsR a) ++ [.int x])) R := fun R => catL_ok (by rw [in_len, numsR_len]; exact line60 (by simp; omega))
  have hln : ∀ R, dLen [.lst (inD (numsR a))] R = .ok (.int ((numsR a).length : Int)) R := fun R => by rw [dLen_l, in_len]
  unfold ml332 ml334 ml336 ml338
  simp only [raise_ap, raiseI_ap, calmF_ap, le_line, lt_line, var_ap, c_ap, op_ap, un_ap, b_ap, and_ap, or_ap, not_ap, if_ap, andV_ap, orV_ap, ch_ap, nil_ap, cons_ap, star_ap, tup_ap, lst_ap, arm_ap, cb_ap, noPart_ap, part_ap, sl_ap, slL_ap, call_ap, callL_ap, fld_ap, get2_ap, dnew_ap, it_ap, itA_ap, yes_ap, next_ap, seq_ap, set_ap, setO_ap, drop_ap, ret_ap, retN_ap, brk_ap, cnt_ap, never_ap, ifS_ap, aug_ap, app_ap, ext_ap, pop_ap, par_ap, asg_ap, dset_ap, stF_ap, stF2_ap, fldL_ap, see_f, see_g, okM_f, okM_g, okR_f, okR_g, okO_f, okO_g, hide_nil, hide_cons, setAll_cons, setAll_nil, wipe_nil, wipe_cons, runB_ap, runL_ap, startL_ap, startD_ap, out1_nx, out1_rt, dName_ap, dGTup_ap, dGLst_ap, dGCons_ap, dGNil_ap, dAdd_ap, dSub_ap, dMul_ap, dFdiv_ap, dMod_ap, dLt_ap, dLe_ap, dGt_ap, dGe_ap, bOf_ap, dNeg_ap, dNot_ap, eqS_int, eqS_bl, eqS_str, dInt1_ap, dInt1_bl, dMax2_ap, dMin2_ap, dAbs_ap, dSum_ap, dAny_ap, dAll_ap, dLen_t, dLen_a, dIx_l, dIx_t, dIx_a, dTup_ap, dArm_ap, dList_l, dList_t, dTupl_ap, dTupA_ap, lstOf_ap, tupOf_t, tupOf_a, itemsOf_t, itemsOf_l, dSl_l, dSl_t, dSlL_ap, dIsN_ap, rng2_ap, dRange_1, dRange_2, dRange3_ap, isC_y, il_int, il_bl, il_str, il_non, il_tup, il_lst, il_armD, il_ins, il_dic, il_ar, il_rig, Bool.false_eq_true, if_false, if_true, Res.bind_ok, Res.bind_bad, Res.out_ok, Res.out_bad, Res.calm_ok, List.map_cons, List.map_nil, List.length_cons, List.length_nil, Nat.reduceAdd, Nat.reduceSub, List.replicate, List.cons_append, List.nil_append, List.getElem?_cons_zero, List.getElem?_cons_succ, List.set_cons_succ, List.set_cons_zero, Bool.true_and, Bool.and_true, Bool.not_false, Bool.not_true, List.contains_nil, Option.bind_some, for_ap, lc_ap, Nat.reduceEqDiff, Nat.reduceLeDiff, Bool.false_xor, Bool.true_xor, and_self, decide_true, decide_false, List.lookup, List.all_cons, List.all_nil, List.contains_cons, Nat.reduceBEq, Bool.or_false, Bool.false_or, Bool.or_true, Bool.true_or, beq_self_eq_true, List.contains_nil, propR_ap, propR_rig, ownB_rig, ownT_rig, ownN_rig, eqI_rig, e_rig_fwd, lcG_nil, lcG_yesN, eq_self, lawStart_ap, in2, in3, in4, rg2, rg3, rg4, at0, at1, at2, il_tr, Bool.xor_true, Bool.xor_false, mkR_ap, mkR_rest, mkR_rig, callR_ap, callR_rig, callR_mem, methR_ap, methR_at, methR_curve, propR_mem, eqI_mem, lst_ok0, lst_ok1, lst_ok2, lst_ok3, il_pl, il_mem, e_mem_places, e_mem_place, e_rig_arms, Int.reduceEq, e1, lst_ok1, hz, hln]
theorem kind2 : End53 cl (ml332 cl) (st53 a m x2 x3 x9 x10 x11 x12 2) st := by
  obtain ⟨c, st1, e1, c0, c1, hs⟩ := e_bel (n := 5) hs (by decide) (by decide)
  obtain ⟨d, e6, ho⟩ := odd5 (lo := 0) (hi := 255) (n := 0) c0 c1 (a := 256) (b := 0 - 1) (by omega) (by omega) (R := [])
  have e6 : ∀ R, dIx (.lst [.int 256, .int (0 - 1), .non, .bl true, .str "1"]) (.int c) R = .ok d R := fun R => by
    rw [dIx_l] at e6 ⊢
    generalize atI _ _ = z at e6 ⊢
    cases z with
    | none => cases e6
    | some z => cases e6; rfl
  obtain ⟨st2, y9, y10, e, hs⟩ := mid53 (giv2 ok hl hm ho) cl (x2 := x2) (x3 := x3) (x4 := some (.lst (inD (numsR a)))) (x6 := some (.int (m : Int))) (x9 := x9) (x10 := x10) (x11 := x11) (x12 := x12) hs (k := 2) (by decide) (by decide) (by decide)
  refine mk53 hs fun A0 => Eq.trans ?_ (e A0)
  have hn := numsR_len a
  have hi : (inD (numsR a)).length = (numsR a).length := in_len _
  have z1 : ∀ R, dCatL (.lst ((inD (numsR a)).take m)) (.lst [d]) R = .ok (.lst ((inD (numsR a)).take m ++ [d])) R := fun R => catL_ok (line60 (by simp [inD]; omega))
  have z2 : ∀ R, dCatL (.lst ((inD (numsR a)).take m ++ [d])) (.lst ((inD (numsR a)).drop (m + 1))) R = .ok (.lst ((inD (numsR a)).take m ++ [d] ++ (inD (numsR a)).drop (m + 1))) R := fun R => catL_ok (line60 (by simp [inD]; omega))
  have sl1 : ∀ R, dSl (.lst (inD (numsR a))) none (some (m : Int)) R = .ok (.lst ((inD (numsR a)).take m)) R := fun R => by rw [dSl_l, cut_take]
  have sl2 : ∀ R, dSl (.lst (inD (numsR a))) (some ((m : Int) + 1)) none R = .ok (.lst ((inD (numsR a)).drop (m + 1))) R := fun R => by rw [dSl_l, show (m : Int) + 1 = ((m + 1 : Nat) : Int) by omega, cut_drop]
  unfold ml332 ml334 ml336 ml338
  simp only [raise_ap, raiseI_ap, calmF_ap, le_line, lt_line, var_ap, c_ap, op_ap, un_ap, b_ap, and_ap, or_ap, not_ap, if_ap, andV_ap, orV_ap, ch_ap, nil_ap, cons_ap, star_ap, tup_ap, lst_ap, arm_ap, cb_ap, noPart_ap, part_ap, sl_ap, slL_ap, call_ap, callL_ap, fld_ap, get2_ap, dnew_ap, it_ap, itA_ap, yes_ap, next_ap, seq_ap, set_ap, setO_ap, drop_ap, ret_ap, retN_ap, brk_ap, cnt_ap, never_ap, ifS_ap, aug_ap, app_ap, ext_ap, pop_ap, par_ap, asg_ap, dset_ap, stF_ap, stF2_ap, fldL_ap, see_f, see_g, okM_f, okM_g, okR_f, okR_g, okO_f, okO_g, hide_nil, hide_cons, setAll_cons, setAll_nil, wipe_nil, wipe_cons, runB_ap, runL_ap, startL_ap, startD_ap, out1_nx, out1_rt, dName_ap, dGTup_ap, dGLst_ap, dGCons_ap, dGNil_ap, dAdd_ap, dSub_ap, dMul_ap, dFdiv_ap, dMod_ap, dLt_ap, dLe_ap, dGt_ap, dGe_ap, bOf_ap, dNeg_ap, dNot_ap, eqS_int, eqS_bl, eqS_str, dInt1_ap, dInt1_bl, dMax2_ap, dMin2_ap, dAbs_ap, dSum_ap, dAny_ap, dAll_ap, dLen_t, dLen_a, dIx_t, dIx_a, dTup_ap, dArm_ap, dList_l, dList_t, dTupl_ap, dTupA_ap, lstOf_ap, tupOf_t, tupOf_a, itemsOf_t, itemsOf_l, dSl_t, dSlL_ap, dIsN_ap, rng2_ap, dRange_1, dRange_2, dRange3_ap, isC_y, il_int, il_bl, il_str, il_non, il_tup, il_lst, il_armD, il_ins, il_dic, il_ar, il_rig, Bool.false_eq_true, if_false, if_true, Res.bind_ok, Res.bind_bad, Res.out_ok, Res.out_bad, Res.calm_ok, List.map_cons, List.map_nil, List.length_cons, List.length_nil, Nat.reduceAdd, Nat.reduceSub, List.replicate, List.cons_append, List.nil_append, List.getElem?_cons_zero, List.getElem?_cons_succ, List.set_cons_succ, List.set_cons_zero, Bool.true_and, Bool.and_true, Bool.not_false, Bool.not_true, List.contains_nil, Option.bind_some, for_ap, lc_ap, Nat.reduceEqDiff, Nat.reduceLeDiff, Bool.false_xor, Bool.true_xor, and_self, decide_true, decide_false, List.lookup, List.all_cons, List.all_nil, List.contains_cons, Nat.reduceBEq, Bool.or_false, Bool.false_or, Bool.or_true, Bool.true_or, beq_self_eq_true, List.contains_nil, propR_ap, propR_rig, ownB_rig, ownT_rig, ownN_rig, eqI_rig, e_rig_fwd, lcG_nil, lcG_yesN, eq_self, lawStart_ap, in2, in3, in4, rg2, rg3, rg4, at0, at1, at2, il_tr, Bool.xor_true, Bool.xor_false, mkR_ap, mkR_rest, mkR_rig, callR_ap, callR_rig, callR_mem, methR_ap, methR_at, methR_curve, propR_mem, eqI_mem, lst_ok0, lst_ok1, lst_ok2, lst_ok3, il_pl, il_mem, e_mem_places, e_mem_place, e_rig_arms, Int.reduceEq, e1, e6, lst_ok1, lst_ok5, sl1, sl2, z1, z2]
theorem kind3 : End53 cl (ml332 cl) (st53 a m x2 x3 x9 x10 x11 x12 3) st := by
  obtain ⟨c, st1, e1, c0, c1, hs⟩ := e_bel (n := 250) hs (by decide) (by decide)
  have hc := chk_rng (body a)
  obtain ⟨st2, y9, y10, e, hs⟩ := mid53 (giv3 ok hl (z := (chk (body a) + 1 + c) % 256) (by omega)) cl (x2 := x2) (x3 := x3) (x4 := some (.lst (inD (numsR a)))) (x6 := some (.int (m : Int))) (x9 := x9) (x10 := x10) (x11 := x11) (x12 := x12) hs (k := 3) (by decide) (by decide) (by decide)
  refine mk53 hs fun A0 => Eq.trans ?_ (e A0)
  have hN : inD (numsR a) = inD (body a) ++ [D.int (chk (body a))] := by unfold numsR inD; rw [List.map_append]; rfl
  have sl1 : ∀ R, dSl (.lst (inD (numsR a))) none (some (-1)) R = .ok (.lst (inD (body a))) R := fun R => by rw [dSl_l, cut_init53, hN, List.dropLast_concat]
  have hlast : ∀ R, dIx (.lst (inD (numsR a))) (.int (-1)) R = .ok (.int (chk (body a))) R := fun R => by rw [dIx_l, hN, at_m1]
  have hz : ∀ (x : Int) (R : Rs), dCatL (.lst (inD (body a))) (.lst [D.int x]) R = .ok (.lst (inD (body a) ++ [.int x])) R := fun x R => catL_ok (by rw [in_len, body_len]; exact line60 (by simp; omega))
  have hln : ∀ R, dLen [.lst (inD (numsR a))] R = .ok (.int ((numsR a).length : Int)) R := fun R => by rw [dLen_l, in_len]
  have hp : (0 : Int) < 256 := by decide
  unfold ml332 ml334 ml336 ml338
  simp only [raise_ap, raiseI_ap, calmF_ap, le_line, lt_line, var_ap, c_ap, op_ap, un_ap, b_ap, and_ap, or_ap, not_ap, if_ap, andV_ap, orV_ap, ch_ap, nil_ap, cons_ap, star_ap, tup_ap, lst_ap, arm_ap, cb_ap, noPart_ap, part_ap, sl_ap, slL_ap, call_ap, callL_ap, fld_ap, get2_ap, dnew_ap, it_ap, itA_ap, yes_ap, next_ap, seq_ap, set_ap, setO_ap, drop_ap, ret_ap, retN_ap, brk_ap, cnt_ap, never_ap, ifS_ap, aug_ap, app_ap, ext_ap, pop_ap, par_ap, asg_ap, dset_ap, stF_ap, stF2_ap, fldL_ap, see_f, see_g, okM_f, okM_g, okR_f, okR_g, okO_f, okO_g, hide_nil, hide_cons, setAll_cons, setAll_nil, wipe_nil, wipe_cons, runB_ap, runL_ap, startL_ap, startD_ap, out1_nx, out1_rt, dName_ap, dGTup_ap, dGLst_ap, dGCons_ap, dGNil_ap, dAdd_ap, dSub_ap, dMul_ap, dFdiv_ap, dMod_ap, dLt_ap, dLe_ap, dGt_ap, dGe_ap, bOf_ap, dNeg_ap, dNot_ap, eqS_int, eqS_bl, eqS_str, dInt1_ap, dInt1_bl, dMax2_ap, dMin2_ap, dAbs_ap, dSum_ap, dAny_ap, dAll_ap, dLen_t, dLen_a, dIx_t, dIx_a, dTup_ap, dArm_ap, dList_l, dList_t, dTupl_ap, dTupA_ap, lstOf_ap, tupOf_t, tupOf_a, itemsOf_t, itemsOf_l, dSl_t, dSlL_ap, dIsN_ap, rng2_ap, dRange_1, dRange_2, dRange3_ap, isC_y, il_int, il_bl, il_str, il_non, il_tup, il_lst, il_armD, il_ins, il_dic, il_ar, il_rig, Bool.false_eq_true, if_false, if_true, Res.bind_ok, Res.bind_bad, Res.out_ok, Res.out_bad, Res.calm_ok, List.map_cons, List.map_nil, List.length_cons, List.length_nil, Nat.reduceAdd, Nat.reduceSub, List.replicate, List.cons_append, List.nil_append, List.getElem?_cons_zero, List.getElem?_cons_succ, List.set_cons_succ, List.set_cons_zero, Bool.true_and, Bool.and_true, Bool.not_false, Bool.not_true, List.contains_nil, Option.bind_some, for_ap, lc_ap, Nat.reduceEqDiff, Nat.reduceLeDiff, Bool.false_xor, Bool.true_xor, and_self, decide_true, decide_false, List.lookup, List.all_cons, List.all_nil, List.contains_cons, Nat.reduceBEq, Bool.or_false, Bool.false_or, Bool.or_true, Bool.true_or, beq_self_eq_true, List.contains_nil, propR_ap, propR_rig, ownB_rig, ownT_rig, ownN_rig, eqI_rig, e_rig_fwd, lcG_nil, lcG_yesN, eq_self, lawStart_ap, in2, in3, in4, rg2, rg3, rg4, at0, at1, at2, il_tr, Bool.xor_true, Bool.xor_false, mkR_ap, mkR_rest, mkR_rig, callR_ap, callR_rig, callR_mem, methR_ap, methR_at, methR_curve, propR_mem, eqI_mem, lst_ok0, lst_ok1, lst_ok2, lst_ok3, il_pl, il_mem, e_mem_places, e_mem_place, e_rig_arms, Int.reduceEq, e1, lst_ok1, sl1, hlast, hz, hln, hp]
theorem kind4 : End53 cl (ml332 cl) (st53 a m x2 x3 x9 x10 x11 x12 4) st := by
  obtain ⟨c, st1, e1, c0, c1, hs⟩ := e_bel (n := 2) hs (by decide) (by decide)
  have hn := numsR_len a
  have sl2 : ∀ R, dSl (.lst (inD (numsR a))) (some 2) none R = .ok (.lst ((inD (numsR a)).drop 2)) R := fun R => by rw [dSl_l, show (2 : Int) = ((2 : Nat) : Int) from rfl, cut_drop]
  have hz : ∀ (xs : List D) (R : Rs), xs.length ≤ 2 → dCatL (.lst xs) (.lst ((inD (numsR a)).drop 2)) R = .ok (.lst (xs ++ (inD (numsR a)).drop 2)) R := fun xs R hx => catL_ok (line60 (by simp [inD]; omega))
  rcases (show c = 0 ∨ c = 1 by omega) with rfl | rfl
  · obtain ⟨st2, y9, y10, e, hs⟩ := mid53 (giv4a ok hl) cl (x2 := x2) (x3 := x3) (x4 := some (.lst (inD (numsR a)))) (x6 := some (.int (m : Int))) (x9 := x9) (x10 := x10) (x11 := x11) (x12 := x12) hs (k := 4) (by decide) (by decide) (by decide)
    refine mk53 hs fun A0 => Eq.trans ?_ (e A0)
    have h1 := fun R : Rs => hz [.int 81] R (by decide)
    have h0 : ∀ R, dIx (.lst ([.int 81] ++ (inD (numsR a)).drop 2)) (.int 0) R = .ok (.int 81) R := fun R => by rw [List.cons_append, dIx_l, at0]
    have i0 : ∀ R, dIx (.lst [.lst [.int 81], .lst [.int 82, .int 61]]) (.int 0) R = .ok (.lst [.int 81]) R := fun R => rfl
    unfold ml332 ml334 ml336 ml338 ml339
    simp only [raise_ap, raiseI_ap, calmF_ap, le_line, lt_line, var_ap, c_ap, op_ap, un_ap, b_ap, and_ap, or_ap, not_ap, if_ap, andV_ap, orV_ap, ch_ap, nil_ap, cons_ap, star_ap, tup_ap, lst_ap, arm_ap, cb_ap, noPart_ap, part_ap, sl_ap, slL_ap, call_ap, callL_ap, fld_ap, get2_ap, dnew_ap, it_ap, itA_ap, yes_ap, next_ap, seq_ap, set_ap, setO_ap, drop_ap, ret_ap, retN_ap, brk_ap, cnt_ap, never_ap, ifS_ap, aug_ap, app_ap, ext_ap, pop_ap, par_ap, asg_ap, dset_ap, stF_ap, stF2_ap, fldL_ap, see_f, see_g, okM_f, okM_g, okR_f, okR_g, okO_f, okO_g, hide_nil, hide_cons, setAll_cons, setAll_nil, wipe_nil, wipe_cons, runB_ap, runL_ap, startL_ap, startD_ap, out1_nx, out1_rt, dName_ap, dGTup_ap, dGLst_ap, dGCons_ap, dGNil_ap, dAdd_ap, dSub_ap, dMul_ap, dFdiv_ap, dMod_ap, dLt_ap, dLe_ap, dGt_ap, dGe_ap, bOf_ap, dNeg_ap, dNot_ap, eqS_int, eqS_bl, eqS_str, dInt1_ap, dInt1_bl, dMax2_ap, dMin2_ap, dAbs_ap, dSum_ap, dAny_ap, dAll_ap, dLen_t, dLen_a, dIx_t, dIx_a, dTup_ap, dArm_ap, dList_l, dList_t, dTupl_ap, dTupA_ap, lstOf_ap, tupOf_t, tupOf_a, itemsOf_t, itemsOf_l, dSl_t, dSlL_ap, dIsN_ap, rng2_ap, dRange_1, dRange_2, dRange3_ap, isC_y, il_int, il_bl, il_str, il_non, il_tup, il_lst, il_armD, il_ins, il_dic, il_ar, il_rig, Bool.false_eq_true, if_false, if_true, Res.bind_ok, Res.bind_bad, Res.out_ok, Res.out_bad, Res.calm_ok, List.map_cons, List.map_nil, List.length_cons, List.length_nil, Nat.reduceAdd, Nat.reduceSub, List.replicate, List.nil_append, List.getElem?_cons_zero, List.getElem?_cons_succ, List.set_cons_succ, List.set_cons_zero, Bool.true_and, Bool.and_true, Bool.not_false, Bool.not_true, List.contains_nil, Option.bind_some, for_ap, lc_ap, Nat.reduceEqDiff, Nat.reduceLeDiff, Bool.false_xor, Bool.true_xor, and_self, decide_true, decide_false, List.lookup, List.all_cons, List.all_nil, List.contains_cons, Nat.reduceBEq, Bool.or_false, Bool.false_or, Bool.or_true, Bool.true_or, beq_self_eq_true, List.contains_nil, propR_ap, propR_rig, ownB_rig, ownT_rig, ownN_rig, eqI_rig, e_rig_fwd, lcG_nil, lcG_yesN, eq_self, lawStart_ap, in2, in3, in4, rg2, rg3, rg4, at0, at1, at2, il_tr, Bool.xor_true, Bool.xor_false, mkR_ap, mkR_rest, mkR_rig, callR_ap, callR_rig, callR_mem, methR_ap, methR_at, methR_curve, propR_mem, eqI_mem, lst_ok0, lst_ok1, lst_ok2, lst_ok3, il_pl, il_mem, e_mem_places, e_mem_place, e_rig_arms, Int.reduceEq, e1, lst_ok1, lst_ok2, sl2, h1, h0, i0]
  · obtain ⟨st2, y9, y10, e, hs⟩ := mid53 (giv4b ok hl) cl (x2 := x2) (x3 := x3) (x4 := some (.lst (inD (numsR a)))) (x6 := some (.int (m : Int))) (x9 := x9) (x10 := x10) (x11 := x11) (x12 := x12) hs (k := 4) (by decide) (by decide) (by decide)
    refine mk53 hs fun A0 => Eq.trans ?_ (e A0)
    have h1 := fun R : Rs => hz [.int 82, .int 61] R (by decide)
    have h0 : ∀ R, dIx (.lst ([.int 82, .int 61] ++ (inD (numsR a)).drop 2)) (.int 0) R = .ok (.int 82) R := fun R => by rw [List.cons_append, dIx_l, at0]
    have i0 : ∀ R, dIx (.lst [.lst [.int 81], .lst [.int 82, .int 61]]) (.int 1) R = .ok (.lst [.int 82, .int 61]) R := fun R => rfl
    unfold ml332 ml334 ml336 ml338 ml339
    simp only [raise_ap, raiseI_ap, calmF_ap, le_line, lt_line, var_ap, c_ap, op_ap, un_ap, b_ap, and_ap, or_ap, not_ap, if_ap, andV_ap, orV_ap, ch_ap, nil_ap, cons_ap, star_ap, tup_ap, lst_ap, arm_ap, cb_ap, noPart_ap, part_ap, sl_ap, slL_ap, call_ap, callL_ap, fld_ap, get2_ap, dnew_ap, it_ap, itA_ap, yes_ap, next_ap, seq_ap, set_ap, setO_ap, drop_ap, ret_ap, retN_ap, brk_ap, cnt_ap, never_ap, ifS_ap, aug_ap, app_ap, ext_ap, pop_ap, par_ap, asg_ap, dset_ap, stF_ap, stF2_ap, fldL_ap, see_f, see_g, okM_f, okM_g, okR_f, okR_g, okO_f, okO_g, hide_nil, hide_cons, setAll_cons, setAll_nil, wipe_nil, wipe_cons, runB_ap, runL_ap, startL_ap, startD_ap, out1_nx, out1_rt, dName_ap, dGTup_ap, dGLst_ap, dGCons_ap, dGNil_ap, dAdd_ap, dSub_ap, dMul_ap, dFdiv_ap, dMod_ap, dLt_ap, dLe_ap, dGt_ap, dGe_ap, bOf_ap, dNeg_ap, dNot_ap, eqS_int, eqS_bl, eqS_str, dInt1_ap, dInt1_bl, dMax2_ap, dMin2_ap, dAbs_ap, dSum_ap, dAny_ap, dAll_ap, dLen_t, dLen_a, dIx_t, dIx_a, dTup_ap, dArm_ap, dList_l, dList_t, dTupl_ap, dTupA_ap, lstOf_ap, tupOf_t, tupOf_a, itemsOf_t, itemsOf_l, dSl_t, dSlL_ap, dIsN_ap, rng2_ap, dRange_1, dRange_2, dRange3_ap, isC_y, il_int, il_bl, il_str, il_non, il_tup, il_lst, il_armD, il_ins, il_dic, il_ar, il_rig, Bool.false_eq_true, if_false, if_true, Res.bind_ok, Res.bind_bad, Res.out_ok, Res.out_bad, Res.calm_ok, List.map_cons, List.map_nil, List.length_cons, List.length_nil, Nat.reduceAdd, Nat.reduceSub, List.replicate, List.nil_append, List.getElem?_cons_zero, List.getElem?_cons_succ, List.set_cons_succ, List.set_cons_zero, Bool.true_and, Bool.and_true, Bool.not_false, Bool.not_true, List.contains_nil, Option.bind_some, for_ap, lc_ap, Nat.reduceEqDiff, Nat.reduceLeDiff, Bool.false_xor, Bool.true_xor, and_self, decide_true, decide_false, List.lookup, List.all_cons, List.all_nil, List.contains_cons, Nat.reduceBEq, Bool.or_false, Bool.false_or, Bool.or_true, Bool.true_or, beq_self_eq_true, List.contains_nil, propR_ap, propR_rig, ownB_rig, ownT_rig, ownN_rig, eqI_rig, e_rig_fwd, lcG_nil, lcG_yesN, eq_self, lawStart_ap, in2, in3, in4, rg2, rg3, rg4, at0, at1, at2, il_tr, Bool.xor_true, Bool.xor_false, mkR_ap, mkR_rest, mkR_rig, callR_ap, callR_rig, callR_mem, methR_ap, methR_at, methR_curve, propR_mem, eqI_mem, lst_ok0, lst_ok1, lst_ok2, lst_ok3, il_pl, il_mem, e_mem_places, e_mem_place, e_rig_arms, Int.reduceEq, e1, lst_ok1, lst_ok2, sl2, h1, h0, i0]
theorem kind5 : End53 cl (ml332 cl) (st53 a m x2 x3 x9 x10 x11 x12 5) st := by
  obtain ⟨s, st1, e1, s0, s1, hs⟩ := e_bel (n := 999) hs (by decide) (by decide)
  obtain ⟨l, st2, e2, l0, l1, hs⟩ := e_bel (n := s + 1) hs (by omega) (by omega)
  have G := giv5 s0 (by omega) l0 (show l ≤ s by omega)
  have c1 : ∀ i, CDiv i 256 := fun i => ⟨by decide, by decide⟩
  have hp : (0 : Int) < 256 := by decide
  have l6 : ∀ (a b c d e f : D) (R : Rs), dLst [a, b, c, d, e, f] R = .ok (.lst [a, b, c, d, e, f]) R := fun _ _ _ _ _ _ _ => lst_ok6
  have hz : ∀ (a b c d e f g h a' b' c' d' e' f' : D) (R : Rs), dCatL (.lst [a, b, c, d, e, f, g, h]) (.lst [a', b', c', d', e', f']) R = .ok (.lst ([a, b, c, d, e, f, g, h] ++ [a', b', c', d', e', f'])) R := fun _ _ _ _ _ _ _ _ _ _ _ _ _ _ R => catL_ok (line60 (by show 14 ≤ 100000; decide))
  by_cases hc : (s + 1) / 256 > l / 256
  · rw [if_pos hc] at G
    have hd : decide ((s + 1) / 256 > l / 256) = true := decide_eq_true hc
    refine mk53 hs fun A0 => Eq.trans ?_ (tail53 G cl (x2 := x2) (x3 := x3) (x4 := some (.lst (inD (numsR a)))) (x5 := some (.int 5)) (x6 := some (.int (m : Int))) (x9 := some (.int s)) (x10 := some (.lst [.int 82, .int 2, .int (s / 256), .int (s % 256), .int 0, .int 0, .int 0, .int 1])) (x11 := some (.int l)) (x12 := x12) ⟨5, rfl, by decide⟩)
    rw [pre53 cl (by decide) (by decide) (by decide) (by decide)]
    unfold ml341 ml342 ml343 ml344 ml345 ml347
    simp only [raise_ap, raiseI_ap, calmF_ap, le_line, lt_line, var_ap, c_ap, op_ap, un_ap, b_ap, and_ap, or_ap, not_ap, if_ap, andV_ap, orV_ap, ch_ap, nil_ap, cons_ap, star_ap, tup_ap, lst_ap, arm_ap, cb_ap, noPart_ap, part_ap, sl_ap, slL_ap, call_ap, callL_ap, fld_ap, get2_ap, dnew_ap, it_ap, itA_ap, yes_ap, next_ap, seq_ap, set_ap, setO_ap, drop_ap, ret_ap, retN_ap, brk_ap, cnt_ap, never_ap, ifS_ap, aug_ap, app_ap, ext_ap, pop_ap, par_ap, asg_ap, dset_ap, stF_ap, stF2_ap, fldL_ap, see_f, see_g, okM_f, okM_g, okR_f, okR_g, okO_f, okO_g, hide_nil, hide_cons, setAll_cons, setAll_nil, wipe_nil, wipe_cons, runB_ap, runL_ap, startL_ap, startD_ap, out1_nx, out1_rt, dName_ap, dGTup_ap, dGLst_ap, dGCons_ap, dGNil_ap, dAdd_ap, dSub_ap, dMul_ap, dFdiv_ap, dMod_ap, dLt_ap, dLe_ap, dGt_ap, dGe_ap, bOf_ap, dNeg_ap, dNot_ap, eqS_int, eqS_bl, eqS_str, dInt1_ap, dInt1_bl, dMax2_ap, dMin2_ap, dAbs_ap, dSum_ap, dAny_ap, dAll_ap, dLen_l, dLen_t, dLen_a, dIx_l, dIx_t, dIx_a, dTup_ap, dArm_ap, dList_l, dList_t, dTupl_ap, dTupA_ap, lstOf_ap, tupOf_t, tupOf_a, itemsOf_t, itemsOf_l, dSl_l, dSl_t, dSlL_ap, dIsN_ap, rng2_ap, dRange_1, dRange_2, dRange3_ap, isC_y, il_int, il_bl, il_str, il_non, il_tup, il_lst, il_armD, il_ins, il_dic, il_ar, il_rig, Bool.false_eq_true, if_false, if_true, Res.bind_ok, Res.bind_bad, Res.out_ok, Res.out_bad, Res.calm_ok, List.map_cons, List.map_nil, List.length_cons, List.length_nil, Nat.reduceAdd, Nat.reduceSub, List.replicate, List.nil_append, List.getElem?_cons_zero, List.getElem?_cons_succ, List.set_cons_succ, List.set_cons_zero, Bool.true_and, Bool.and_true, Bool.not_false, Bool.not_true, List.contains_nil, Option.bind_some, for_ap, lc_ap, Nat.reduceEqDiff, Nat.reduceLeDiff, Bool.false_xor, Bool.true_xor, and_self, decide_true, decide_false, List.lookup, List.all_cons, List.all_nil, List.contains_cons, Nat.reduceBEq, Bool.or_false, Bool.false_or, Bool.or_true, Bool.true_or, beq_self_eq_true, List.contains_nil, propR_ap, propR_rig, ownB_rig, ownT_rig, ownN_rig, eqI_rig, e_rig_fwd, lcG_nil, lcG_yesN, eq_self, lawStart_ap, in2, in3, in4, rg2, rg3, rg4, at0, at1, at2, il_tr, Bool.xor_true, Bool.xor_false, mkR_ap, mkR_rest, mkR_rig, callR_ap, callR_rig, callR_mem, methR_ap, methR_at, methR_curve, propR_mem, eqI_mem, lst_ok0, lst_ok1, lst_ok2, lst_ok3, il_pl, il_mem, e_mem_places, e_mem_place, e_rig_arms, Int.reduceEq, e1, e2, c1, hp, lst_ok8, l6, hz, hd]
  · rw [if_neg hc] at G
    have hd : decide ((s + 1) / 256 > l / 256) = false := decide_eq_false hc
    refine mk53 hs fun A0 => Eq.trans ?_ (tail53 G cl (x2 := x2) (x3 := x3) (x4 := some (.lst (inD (numsR a)))) (x5 := some (.int 5)) (x6 := some (.int (m : Int))) (x9 := some (.int s)) (x10 := some (.lst [.int 82, .int 2, .int (s / 256), .int (s % 256), .int 0, .int 0, .int 0, .int 1])) (x11 := some (.int l)) (x12 := x12) ⟨5, rfl, by decide⟩)
    rw [pre53 cl (by decide) (by decide) (by decide) (by decide)]
    unfold ml341 ml342 ml343 ml344 ml345 ml347
    simp only [raise_ap, raiseI_ap, calmF_ap, le_line, lt_line, var_ap, c_ap, op_ap, un_ap, b_ap, and_ap, or_ap, not_ap, if_ap, andV_ap, orV_ap, ch_ap, nil_ap, cons_ap, star_ap, tup_ap, lst_ap, arm_ap, cb_ap, noPart_ap, part_ap, sl_ap, slL_ap, call_ap, callL_ap, fld_ap, get2_ap, dnew_ap, it_ap, itA_ap, yes_ap, next_ap, seq_ap, set_ap, setO_ap, drop_ap, ret_ap, retN_ap, brk_ap, cnt_ap, never_ap, ifS_ap, aug_ap, app_ap, ext_ap, pop_ap, par_ap, asg_ap, dset_ap, stF_ap, stF2_ap, fldL_ap, see_f, see_g, okM_f, okM_g, okR_f, okR_g, okO_f, okO_g, hide_nil, hide_cons, setAll_cons, setAll_nil, wipe_nil, wipe_cons, runB_ap, runL_ap, startL_ap, startD_ap, out1_nx, out1_rt, dName_ap, dGTup_ap, dGLst_ap, dGCons_ap, dGNil_ap, dAdd_ap, dSub_ap, dMul_ap, dFdiv_ap, dMod_ap, dLt_ap, dLe_ap, dGt_ap, dGe_ap, bOf_ap, dNeg_ap, dNot_ap, eqS_int, eqS_bl, eqS_str, dInt1_ap, dInt1_bl, dMax2_ap, dMin2_ap, dAbs_ap, dSum_ap, dAny_ap, dAll_ap, dLen_l, dLen_t, dLen_a, dIx_l, dIx_t, dIx_a, dTup_ap, dArm_ap, dList_l, dList_t, dTupl_ap, dTupA_ap, lstOf_ap, tupOf_t, tupOf_a, itemsOf_t, itemsOf_l, dSl_l, dSl_t, dSlL_ap, dIsN_ap, rng2_ap, dRange_1, dRange_2, dRange3_ap, isC_y, il_int, il_bl, il_str, il_non, il_tup, il_lst, il_armD, il_ins, il_dic, il_ar, il_rig, Bool.false_eq_true, if_false, if_true, Res.bind_ok, Res.bind_bad, Res.out_ok, Res.out_bad, Res.calm_ok, List.map_cons, List.map_nil, List.length_cons, List.length_nil, Nat.reduceAdd, Nat.reduceSub, List.replicate, List.nil_append, List.getElem?_cons_zero, List.getElem?_cons_succ, List.set_cons_succ, List.set_cons_zero, Bool.true_and, Bool.and_true, Bool.not_false, Bool.not_true, List.contains_nil, Option.bind_some, for_ap, lc_ap, Nat.reduceEqDiff, Nat.reduceLeDiff, Bool.false_xor, Bool.true_xor, and_self, decide_true, decide_false, List.lookup, List.all_cons, List.all_nil, List.contains_cons, Nat.reduceBEq, Bool.or_false, Bool.false_or, Bool.or_true, Bool.true_or, beq_self_eq_true, List.contains_nil, propR_ap, propR_rig, ownB_rig, ownT_rig, ownN_rig, eqI_rig, e_rig_fwd, lcG_nil, lcG_yesN, eq_self, lawStart_ap, in2, in3, in4, rg2, rg3, rg4, at0, at1, at2, il_tr, Bool.xor_true, Bool.xor_false, mkR_ap, mkR_rest, mkR_rig, callR_ap, callR_rig, callR_mem, methR_ap, methR_at, methR_curve, propR_mem, eqI_mem, lst_ok0, lst_ok1, lst_ok2, lst_ok3, il_pl, il_mem, e_mem_places, e_mem_place, e_rig_arms, Int.reduceEq, e1, e2, c1, hp, lst_ok8, l6, hz, hd]
theorem kind6 : End53 cl (ml332 cl) (st53 a m x2 x3 x9 x10 x11 x12 6) st := by
  obtain ⟨s, st1, e1, s0, s1, hs⟩ := e_bel (n := 999) hs (by decide) (by decide)
  obtain ⟨i, st2, e2, i0, i1, hs⟩ := e_bel (n := 6) hs (by decide) (by decide)
  obtain ⟨ys, ey, yl, o, x, y, G, ax, cases⟩ := giv6 i0 i1
  have c1 : ∀ i, CDiv i 256 := fun i => ⟨by decide, by decide⟩
  have hp : (0 : Int) < 256 := by decide
  have l6 : ∀ (a b c d e f : D) (R : Rs), dLst [a, b, c, d, e, f] R = .ok (.lst [a, b, c, d, e, f]) R := fun _ _ _ _ _ _ _ => lst_ok6
  have i6 : ∀ R, dIx (.lst [D.lst [.int 4], .lst [.int 3, .int 232], .lst [.int 0, .int 5, .int 2], .lst [.int 0, .int 5, .int 0, .int 0, .int 0, .int 0], .lst [.int 0, .int 5, .int 1, .int 15, .int 66, .int 65], .lst [.int 0, .int 5, .int 0, .int 255, .int 0, .int 0]]) (.int i) R = .ok (.lst (inD ys)) R := fun R => by rw [dIx_l, ey]
  have z1 : ∀ R, dCatL (.lst [.int 82, .int 1]) (.lst (inD ys)) R = .ok (.lst (.int 82 :: .int 1 :: inD ys)) R := fun R => catL_ok (by rw [in_len]; exact line60 (by simp; omega))
  have z2 : ∀ R, dCatL (.lst (.int 82 :: .int 1 :: inD ys)) (.lst [.int 9]) R = .ok (.lst (.int 82 :: .int 1 :: (inD ys ++ [.int 9]))) R := fun R => catL_ok (line60 (by simp [inD]; omega))
  have a2 : ∀ R, dIx (.lst (.int 82 :: .int 1 :: (inD ys ++ [.int 9]))) (.int 2) R = .ok (.int x) R := fun R => by rw [dIx_l, ax]
  refine mk53 hs fun A0 => Eq.trans ?_ (tail53 G cl (x2 := x2) (x3 := x3) (x4 := some (.lst (inD (numsR a)))) (x5 := some (.int 6)) (x6 := some (.int (m : Int))) (x9 := some (.int s)) (x10 := some (.lst [.int 82, .int 2, .int (s / 256), .int (s % 256), .int 0, .int 0, .int 0, .int 1])) (x11 := x11) (x12 := some (.lst [D.lst [.int 4], .lst [.int 3, .int 232], .lst [.int 0, .int 5, .int 2], .lst [.int 0, .int 5, .int 0, .int 0, .int 0, .int 0], .lst [.int 0, .int 5, .int 1, .int 15, .int 66, .int 65], .lst [.int 0, .int 5, .int 0, .int 255, .int 0, .int 0]])) ⟨6, rfl, by decide⟩)
  rw [pre53 cl (by decide) (by decide) (by decide) (by decide)]
  unfold ml341 ml342 ml343 ml347 ml348 ml349
  rcases cases with ⟨rfl, rfl⟩ | ⟨n4, ⟨rfl, rfl⟩ | ⟨n3, ay, ho⟩⟩
  · simp only [raise_ap, raiseI_ap, calmF_ap, le_line, lt_line, var_ap, c_ap, op_ap, un_ap, b_ap, and_ap, or_ap, not_ap, if_ap, andV_ap, orV_ap, ch_ap, nil_ap, cons_ap, star_ap, tup_ap, lst_ap, arm_ap, cb_ap, noPart_ap, part_ap, sl_ap, slL_ap, call_ap, callL_ap, fld_ap, get2_ap, dnew_ap, it_ap, itA_ap, yes_ap, next_ap, seq_ap, set_ap, setO_ap, drop_ap, ret_ap, retN_ap, brk_ap, cnt_ap, never_ap, ifS_ap, aug_ap, app_ap, ext_ap, pop_ap, par_ap, asg_ap, dset_ap, stF_ap, stF2_ap, fldL_ap, see_f, see_g, okM_f, okM_g, okR_f, okR_g, okO_f, okO_g, hide_nil, hide_cons, setAll_cons, setAll_nil, wipe_nil, wipe_cons, runB_ap, runL_ap, startL_ap, startD_ap, out1_nx, out1_rt, dName_ap, dGTup_ap, dGLst_ap, dGCons_ap, dGNil_ap, dAdd_ap, dSub_ap, dMul_ap, dFdiv_ap, dMod_ap, dLt_ap, dLe_ap, dGt_ap, dGe_ap, bOf_ap, dNeg_ap, dNot_ap, eqS_int, eqS_bl, eqS_str, dInt1_ap, dInt1_bl, dMax2_ap, dMin2_ap, dAbs_ap, dSum_ap, dAny_ap, dAll_ap, dLen_l, dLen_t, dLen_a, dIx_t, dIx_a, dTup_ap, dArm_ap, dList_l, dList_t, dTupl_ap, dTupA_ap, lstOf_ap, tupOf_t, tupOf_a, itemsOf_t, itemsOf_l, dSl_l, dSl_t, dSlL_ap, dIsN_ap, rng2_ap, dRange_1, dRange_2, dRange3_ap, isC_y, il_int, il_bl, il_str, il_non, il_tup, il_lst, il_armD, il_ins, il_dic, il_ar, il_rig, Bool.false_eq_true, if_false, if_true, Res.bind_ok, Res.bind_bad, Res.out_ok, Res.out_bad, Res.calm_ok, List.map_cons, List.map_nil, List.length_cons, List.length_nil, Nat.reduceAdd, Nat.reduceSub, List.replicate, List.cons_append, List.nil_append, List.getElem?_cons_zero, List.getElem?_cons_succ, List.set_cons_succ, List.set_cons_zero, Bool.true_and, Bool.and_true, Bool.not_false, Bool.not_true, List.contains_nil, Option.bind_some, for_ap, lc_ap, Nat.reduceEqDiff, Nat.reduceLeDiff, Bool.false_xor, Bool.true_xor, and_self, decide_true, decide_false, List.lookup, List.all_cons, List.all_nil, List.contains_cons, Nat.reduceBEq, Bool.or_false, Bool.false_or, Bool.or_true, Bool.true_or, beq_self_eq_true, List.contains_nil, propR_ap, propR_rig, ownB_rig, ownT_rig, ownN_rig, eqI_rig, e_rig_fwd, lcG_nil, lcG_yesN, eq_self, lawStart_ap, in2, in3, in4, rg2, rg3, rg4, at0, at1, at2, il_tr, Bool.xor_true, Bool.xor_false, mkR_ap, mkR_rest, mkR_rig, callR_ap, callR_rig, callR_mem, methR_ap, methR_at, methR_curve, propR_mem, eqI_mem, lst_ok0, lst_ok1, lst_ok2, lst_ok3, il_pl, il_mem, e_mem_places, e_mem_place, e_rig_arms, Int.reduceEq, e1, e2, c1, hp, lst_ok8, l6, lst_ok1, lst_ok2, lst_ok3, i6, z1, z2, a2]
  · simp only [raise_ap, raiseI_ap, calmF_ap, le_line, lt_line, var_ap, c_ap, op_ap, un_ap, b_ap, and_ap, or_ap, not_ap, if_ap, andV_ap, orV_ap, ch_ap, nil_ap, cons_ap, star_ap, tup_ap, lst_ap, arm_ap, cb_ap, noPart_ap, part_ap, sl_ap, slL_ap, call_ap, callL_ap, fld_ap, get2_ap, dnew_ap, it_ap, itA_ap, yes_ap, next_ap, seq_ap, set_ap, setO_ap, drop_ap, ret_ap, retN_ap, brk_ap, cnt_ap, never_ap, ifS_ap, aug_ap, app_ap, ext_ap, pop_ap, par_ap, asg_ap, dset_ap, stF_ap, stF2_ap, fldL_ap, see_f, see_g, okM_f, okM_g, okR_f, okR_g, okO_f, okO_g, hide_nil, hide_cons, setAll_cons, setAll_nil, wipe_nil, wipe_cons, runB_ap, runL_ap, startL_ap, startD_ap, out1_nx, out1_rt, dName_ap, dGTup_ap, dGLst_ap, dGCons_ap, dGNil_ap, dAdd_ap, dSub_ap, dMul_ap, dFdiv_ap, dMod_ap, dLt_ap, dLe_ap, dGt_ap, dGe_ap, bOf_ap, dNeg_ap, dNot_ap, eqS_int, eqS_bl, eqS_str, dInt1_ap, dInt1_bl, dMax2_ap, dMin2_ap, dAbs_ap, dSum_ap, dAny_ap, dAll_ap, dLen_l, dLen_t, dLen_a, dIx_t, dIx_a, dTup_ap, dArm_ap, dList_l, dList_t, dTupl_ap, dTupA_ap, lstOf_ap, tupOf_t, tupOf_a, itemsOf_t, itemsOf_l, dSl_l, dSl_t, dSlL_ap, dIsN_ap, rng2_ap, dRange_1, dRange_2, dRange3_ap, isC_y, il_int, il_bl, il_str, il_non, il_tup, il_lst, il_armD, il_ins, il_dic, il_ar, il_rig, Bool.false_eq_true, if_false, if_true, Res.bind_ok, Res.bind_bad, Res.out_ok, Res.out_bad, Res.calm_ok, List.map_cons, List.map_nil, List.length_cons, List.length_nil, Nat.reduceAdd, Nat.reduceSub, List.replicate, List.cons_append, List.nil_append, List.getElem?_cons_zero, List.getElem?_cons_succ, List.set_cons_succ, List.set_cons_zero, Bool.true_and, Bool.and_true, Bool.not_false, Bool.not_true, List.contains_nil, Option.bind_some, for_ap, lc_ap, Nat.reduceEqDiff, Nat.reduceLeDiff, Bool.false_xor, Bool.true_xor, and_self, decide_true, decide_false, List.lookup, List.all_cons, List.all_nil, List.contains_cons, Nat.reduceBEq, Bool.or_false, Bool.false_or, Bool.or_true, Bool.true_or, beq_self_eq_true, List.contains_nil, propR_ap, propR_rig, ownB_rig, ownT_rig, ownN_rig, eqI_rig, e_rig_fwd, lcG_nil, lcG_yesN, eq_self, lawStart_ap, in2, in3, in4, rg2, rg3, rg4, at0, at1, at2, il_tr, Bool.xor_true, Bool.xor_false, mkR_ap, mkR_rest, mkR_rig, callR_ap, callR_rig, callR_mem, methR_ap, methR_at, methR_curve, propR_mem, eqI_mem, lst_ok0, lst_ok1, lst_ok2, lst_ok3, il_pl, il_mem, e_mem_places, e_mem_place, e_rig_arms, Int.reduceEq, e1, e2, c1, hp, lst_ok8, l6, lst_ok1, lst_ok2, lst_ok3, i6, z1, z2, a2]
  · have d4 : decide (x = 4) = false := decide_eq_false n4
    have d3 : decide (x = 3) = false := decide_eq_false n3
    have a4 : ∀ R, dIx (.lst (.int 82 :: .int 1 :: (inD ys ++ [.int 9]))) (.int 4) R = .ok (.int y) R := fun R => by rw [dIx_l, ay]
    by_cases hy : y = 2
    · rw [if_pos hy] at ho
      subst ho
      have d2 : decide (y = 2) = true := decide_eq_true hy
      simp only [raise_ap, raiseI_ap, calmF_ap, le_line, lt_line, var_ap, c_ap, op_ap, un_ap, b_ap, and_ap, or_ap, not_ap, if_ap, andV_ap, orV_ap, ch_ap, nil_ap, cons_ap, star_ap, tup_ap, lst_ap, arm_ap, cb_ap, noPart_ap, part_ap, sl_ap, slL_ap, call_ap, callL_ap, fld_ap, get2_ap, dnew_ap, it_ap, itA_ap, yes_ap, next_ap, seq_ap, set_ap, setO_ap, drop_ap, ret_ap, retN_ap, brk_ap, cnt_ap, never_ap, ifS_ap, aug_ap, app_ap, ext_ap, pop_ap, par_ap, asg_ap, dset_ap, stF_ap, stF2_ap, fldL_ap, see_f, see_g, okM_f, okM_g, okR_f, okR_g, okO_f, okO_g, hide_nil, hide_cons, setAll_cons, setAll_nil, wipe_nil, wipe_cons, runB_ap, runL_ap, startL_ap, startD_ap, out1_nx, out1_rt, dName_ap, dGTup_ap, dGLst_ap, dGCons_ap, dGNil_ap, dAdd_ap, dSub_ap, dMul_ap, dFdiv_ap, dMod_ap, dLt_ap, dLe_ap, dGt_ap, dGe_ap, bOf_ap, dNeg_ap, dNot_ap, eqS_int, eqS_bl, eqS_str, dInt1_ap, dInt1_bl, dMax2_ap, dMin2_ap, dAbs_ap, dSum_ap, dAny_ap, dAll_ap, dLen_l, dLen_t, dLen_a, dIx_t, dIx_a, dTup_ap, dArm_ap, dList_l, dList_t, dTupl_ap, dTupA_ap, lstOf_ap, tupOf_t, tupOf_a, itemsOf_t, itemsOf_l, dSl_l, dSl_t, dSlL_ap, dIsN_ap, rng2_ap, dRange_1, dRange_2, dRange3_ap, isC_y, il_int, il_bl, il_str, il_non, il_tup, il_lst, il_armD, il_ins, il_dic, il_ar, il_rig, Bool.false_eq_true, if_false, if_true, Res.bind_ok, Res.bind_bad, Res.out_ok, Res.out_bad, Res.calm_ok, List.map_cons, List.map_nil, List.length_cons, List.length_nil, Nat.reduceAdd, Nat.reduceSub, List.replicate, List.cons_append, List.nil_append, List.getElem?_cons_zero, List.getElem?_cons_succ, List.set_cons_succ, List.set_cons_zero, Bool.true_and, Bool.and_true, Bool.not_false, Bool.not_true, List.contains_nil, Option.bind_some, for_ap, lc_ap, Nat.reduceEqDiff, Nat.reduceLeDiff, Bool.false_xor, Bool.true_xor, and_self, decide_true, decide_false, List.lookup, List.all_cons, List.all_nil, List.contains_cons, Nat.reduceBEq, Bool.or_false, Bool.false_or, Bool.or_true, Bool.true_or, beq_self_eq_true, List.contains_nil, propR_ap, propR_rig, ownB_rig, ownT_rig, ownN_rig, eqI_rig, e_rig_fwd, lcG_nil, lcG_yesN, eq_self, lawStart_ap, in2, in3, in4, rg2, rg3, rg4, at0, at1, at2, il_tr, Bool.xor_true, Bool.xor_false, mkR_ap, mkR_rest, mkR_rig, callR_ap, callR_rig, callR_mem, methR_ap, methR_at, methR_curve, propR_mem, eqI_mem, lst_ok0, lst_ok1, lst_ok2, lst_ok3, il_pl, il_mem, e_mem_places, e_mem_place, e_rig_arms, Int.reduceEq, e1, e2, c1, hp, lst_ok8, l6, lst_ok1, lst_ok2, lst_ok3, i6, z1, z2, a2, a4, d4, d3, d2]
    · rw [if_neg hy] at ho
      subst ho
      have d2 : decide (y = 2) = false := decide_eq_false hy
      simp only [raise_ap, raiseI_ap, calmF_ap, le_line, lt_line, var_ap, c_ap, op_ap, un_ap, b_ap, and_ap, or_ap, not_ap, if_ap, andV_ap, orV_ap, ch_ap, nil_ap, cons_ap, star_ap, tup_ap, lst_ap, arm_ap, cb_ap, noPart_ap, part_ap, sl_ap, slL_ap, call_ap, callL_ap, fld_ap, get2_ap, dnew_ap, it_ap, itA_ap, yes_ap, next_ap, seq_ap, set_ap, setO_ap, drop_ap, ret_ap, retN_ap, brk_ap, cnt_ap, never_ap, ifS_ap, aug_ap, app_ap, ext_ap, pop_ap, par_ap, asg_ap, dset_ap, stF_ap, stF2_ap, fldL_ap, see_f, see_g, okM_f, okM_g, okR_f, okR_g, okO_f, okO_g, hide_nil, hide_cons, setAll_cons, setAll_nil, wipe_nil, wipe_cons, runB_ap, runL_ap, startL_ap, startD_ap, out1_nx, out1_rt, dName_ap, dGTup_ap, dGLst_ap, dGCons_ap, dGNil_ap, dAdd_ap, dSub_ap, dMul_ap, dFdiv_ap, dMod_ap, dLt_ap, dLe_ap, dGt_ap, dGe_ap, bOf_ap, dNeg_ap, dNot_ap, eqS_int, eqS_bl, eqS_str, dInt1_ap, dInt1_bl, dMax2_ap, dMin2_ap, dAbs_ap, dSum_ap, dAny_ap, dAll_ap, dLen_l, dLen_t, dLen_a, dIx_t, dIx_a, dTup_ap, dArm_ap, dList_l, dList_t, dTupl_ap, dTupA_ap, lstOf_ap, tupOf_t, tupOf_a, itemsOf_t, itemsOf_l, dSl_l, dSl_t, dSlL_ap, dIsN_ap, rng2_ap, dRange_1, dRange_2, dRange3_ap, isC_y, il_int, il_bl, il_str, il_non, il_tup, il_lst, il_armD, il_ins, il_dic, il_ar, il_rig, Bool.false_eq_true, if_false, if_true, Res.bind_ok, Res.bind_bad, Res.out_ok, Res.out_bad, Res.calm_ok, List.map_cons, List.map_nil, List.length_cons, List.length_nil, Nat.reduceAdd, Nat.reduceSub, List.replicate, List.cons_append, List.nil_append, List.getElem?_cons_zero, List.getElem?_cons_succ, List.set_cons_succ, List.set_cons_zero, Bool.true_and, Bool.and_true, Bool.not_false, Bool.not_true, List.contains_nil, Option.bind_some, for_ap, lc_ap, Nat.reduceEqDiff, Nat.reduceLeDiff, Bool.false_xor, Bool.true_xor, and_self, decide_true, decide_false, List.lookup, List.all_cons, List.all_nil, List.contains_cons, Nat.reduceBEq, Bool.or_false, Bool.false_or, Bool.or_true, Bool.true_or, beq_self_eq_true, List.contains_nil, propR_ap, propR_rig, ownB_rig, ownT_rig, ownN_rig, eqI_rig, e_rig_fwd, lcG_nil, lcG_yesN, eq_self, lawStart_ap, in2, in3, in4, rg2, rg3, rg4, at0, at1, at2, il_tr, Bool.xor_true, Bool.xor_false, mkR_ap, mkR_rest, mkR_rig, callR_ap, callR_rig, callR_mem, methR_ap, methR_at, methR_curve, propR_mem, eqI_mem, lst_ok0, lst_ok1, lst_ok2, lst_ok3, il_pl, il_mem, e_mem_places, e_mem_place, e_rig_arms, Int.reduceEq, e1, e2, c1, hp, lst_ok8, l6, lst_ok1, lst_ok2, lst_ok3, i6, z1, z2, a2, a4, d4, d3, d2]
theorem kind7 : End53 cl (ml332 cl) (st53 a m x2 x3 x9 x10 x11 x12 7) st := by
  obtain ⟨s, st1, e1, s0, s1, hs⟩ := e_bel (n := 999) hs (by decide) (by decide)
  obtain ⟨i, st2, e2, i0, i1, hs⟩ := e_bel (n := 4) hs (by decide) (by decide)
  have c1 : ∀ i, CDiv i 256 := fun i => ⟨by decide, by decide⟩
  have hp : (0 : Int) < 256 := by decide
  have hg : ∃ g, (∀ R, dIx (.lst [.non, .tup (inD (numsR a)), .int 5, .str "R"]) (.int i) R = .ok g R) ∧ Giv g 0 := by
    rcases (show i = 0 ∨ i = 1 ∨ i = 2 ∨ i = 3 by omega) with rfl | rfl | rfl | rfl
    · exact ⟨_, fun R => rfl, giv7 .non ⟨rfl, rfl⟩⟩
    · exact ⟨_, fun R => rfl, giv7 .tup ⟨by
        rw [noC_tup, ← List.map_id (inD (numsR a))]
        exact noL_map fun x hx => el_noC (el_in _ x hx), rfl⟩⟩
    · exact ⟨_, fun R => rfl, giv7 .int ⟨rfl, rfl⟩⟩
    · exact ⟨_, fun R => rfl, giv7 .str ⟨rfl, rfl⟩⟩
  obtain ⟨g, eg, h⟩ := hg
  have l4 : ∀ (a b c d : D) (R : Rs), dLst [a, b, c, d] R = .ok (.lst [a, b, c, d]) R := fun _ _ _ _ _ => lst_ok4
  refine mk53 (y2 := x2) (y3 := x3) (y4 := some (.lst (inD (numsR a)))) (y5 := some (.int 7)) (y6 := some (.int (m : Int))) (y7 := some g) (y8 := some (.int 0)) (y9 := some (.int s)) (y10 := some (.lst [.int 82, .int 2, .int (s / 256), .int (s % 256), .int 0, .int 0, .int 0, .int 1])) (y11 := x11) (y12 := x12) hs fun A0 => ?_
  rw [pre53 cl (by decide) (by decide) (by decide) (by decide)]
  have hcap : capt l_0.cs 0 [none, some (.loc 0), x2, x3, some (.lst (inD (numsR a))), some (.int 7), some (.int (m : Int)), some g, some (.int 0), some (.int s), some (.lst [.int 82, .int 2, .int (s / 256), .int (s % 256), .int 0, .int 0, .int 0, .int 1]), x11, x12] = [none, none, none, none, none, none, none, some g, none, none, none, none, none] := by
    rw [lc_0]
    simp [capt_cons, capt_nil, okCap_of h.1.2]
  have hE := errV (A0 := A0) (tab := lamTab) (l := l_0) (g := g_0) (cl := cl) (ρ := [none, some (.loc 0), x2, x3, some (.lst (inD (numsR a))), some (.int 7), some (.int (m : Int)), some g, some (.int 0), some (.int s), some (.lst [.int 82, .int 2, .int (s / 256), .int (s % 256), .int 0, .int 0, .int 0, .int 1]), x11, x12]) (st := st2) (c := "DecodeError") (fs := [("offset", .int 0)]) (w := "decode") (i := 0) lt_0
    (by rw [hcap]; simp only [noE_none, noE_of h.1.2 h.1.1, noE_nil])
    (by rw [hcap]; unfold g_0; simp only [raise_ap, raiseI_ap, calmF_ap, le_line, lt_line, var_ap, c_ap, op_ap, un_ap, b_ap, and_ap, or_ap, not_ap, if_ap, andV_ap, orV_ap, ch_ap, nil_ap, cons_ap, star_ap, tup_ap, lst_ap, arm_ap, cb_ap, noPart_ap, part_ap, sl_ap, slL_ap, call_ap, callL_ap, fld_ap, get2_ap, dnew_ap, it_ap, itA_ap, yes_ap, next_ap, seq_ap, set_ap, setO_ap, drop_ap, ret_ap, retN_ap, brk_ap, cnt_ap, never_ap, ifS_ap, aug_ap, app_ap, ext_ap, pop_ap, par_ap, asg_ap, dset_ap, stF_ap, stF2_ap, fldL_ap, see_f, see_g, okM_f, okM_g, okR_f, okR_g, okO_f, okO_g, hide_nil, hide_cons, setAll_cons, setAll_nil, wipe_nil, wipe_cons, runB_ap, runL_ap, startL_ap, startD_ap, out1_nx, out1_rt, dName_ap, dGTup_ap, dGLst_ap, dGCons_ap, dGNil_ap, dAdd_ap, dSub_ap, dMul_ap, dFdiv_ap, dMod_ap, dLt_ap, dLe_ap, dGt_ap, dGe_ap, bOf_ap, dNeg_ap, dNot_ap, eqS_int, eqS_bl, eqS_str, dInt1_ap, dInt1_bl, dMax2_ap, dMin2_ap, dAbs_ap, dSum_ap, dAny_ap, dAll_ap, dLen_l, dLen_t, dLen_a, dIx_l, dIx_t, dIx_a, dTup_ap, dArm_ap, dList_l, dList_t, dTupl_ap, dTupA_ap, lstOf_ap, tupOf_t, tupOf_a, itemsOf_t, itemsOf_l, dSl_l, dSl_t, dSlL_ap, dCatL_ap, dIsN_ap, rng2_ap, dRange_1, dRange_2, dRange3_ap, isC_y, il_int, il_bl, il_str, il_non, il_tup, il_lst, il_armD, il_ins, il_dic, il_ar, il_rig, Bool.false_eq_true, if_false, if_true, Res.bind_ok, Res.bind_bad, Res.out_ok, Res.out_bad, Res.calm_ok, List.map_cons, List.map_nil, List.length_cons, List.length_nil, Nat.reduceAdd, Nat.reduceSub, List.replicate, List.cons_append, List.nil_append, List.getElem?_cons_zero, List.getElem?_cons_succ, List.set_cons_succ, List.set_cons_zero, Bool.true_and, Bool.and_true, Bool.not_false, Bool.not_true, List.contains_nil, Option.bind_some, for_ap, lc_ap, Nat.reduceEqDiff, Nat.reduceLeDiff, Bool.false_xor, Bool.true_xor, and_self, decide_true, decide_false, List.lookup, List.all_cons, List.all_nil, List.contains_cons, Nat.reduceBEq, Bool.or_false, Bool.false_or, Bool.or_true, Bool.true_or, beq_self_eq_true, List.contains_nil, propR_ap, propR_rig, ownB_rig, ownT_rig, ownN_rig, eqI_rig, e_rig_fwd, lcG_nil, lcG_yesN, eq_self, lawStart_ap, in2, in3, in4, rg2, rg3, rg4, at0, at1, at2, il_tr, Bool.xor_true, Bool.xor_false, mkR_ap, mkR_rest, mkR_rig, callR_ap, callR_rig, callR_mem, methR_ap, methR_at, methR_curve, propR_mem, eqI_mem, lst_ok0, lst_ok1, lst_ok2, lst_ok3, il_pl, il_mem, e_mem_places, e_mem_place, e_rig_arms, h.1.2, h.2]) rfl rfl
  unfold ml341 ml342 ml343 ml347 ml351
  simp only [raise_ap, raiseI_ap, calmF_ap, le_line, lt_line, var_ap, c_ap, op_ap, un_ap, b_ap, and_ap, or_ap, not_ap, if_ap, andV_ap, orV_ap, ch_ap, nil_ap, cons_ap, star_ap, tup_ap, lst_ap, arm_ap, cb_ap, noPart_ap, part_ap, sl_ap, slL_ap, call_ap, callL_ap, fld_ap, get2_ap, dnew_ap, it_ap, itA_ap, yes_ap, next_ap, seq_ap, set_ap, setO_ap, drop_ap, ret_ap, retN_ap, brk_ap, cnt_ap, never_ap, ifS_ap, aug_ap, app_ap, ext_ap, pop_ap, par_ap, asg_ap, dset_ap, stF_ap, stF2_ap, fldL_ap, see_f, see_g, okM_f, okM_g, okR_f, okR_g, okO_f, okO_g, hide_nil, hide_cons, setAll_cons, setAll_nil, wipe_nil, wipe_cons, runB_ap, runL_ap, startL_ap, startD_ap, out1_nx, out1_rt, dName_ap, dGTup_ap, dGLst_ap, dGCons_ap, dGNil_ap, dAdd_ap, dSub_ap, dMul_ap, dFdiv_ap, dMod_ap, dLt_ap, dLe_ap, dGt_ap, dGe_ap, bOf_ap, dNeg_ap, dNot_ap, eqS_int, eqS_bl, eqS_str, dInt1_ap, dInt1_bl, dMax2_ap, dMin2_ap, dAbs_ap, dSum_ap, dAny_ap, dAll_ap, dLen_l, dLen_t, dLen_a, dIx_t, dIx_a, dTup_ap, dArm_ap, dList_l, dList_t, dTupl_ap, dTupA_ap, lstOf_ap, tupOf_t, tupOf_a, itemsOf_t, itemsOf_l, dSl_l, dSl_t, dSlL_ap, dCatL_ap, dIsN_ap, rng2_ap, dRange_1, dRange_2, dRange3_ap, isC_y, il_int, il_bl, il_str, il_non, il_tup, il_lst, il_armD, il_ins, il_dic, il_ar, il_rig, Bool.false_eq_true, if_false, if_true, Res.bind_ok, Res.bind_bad, Res.out_ok, Res.out_bad, Res.calm_ok, List.map_cons, List.map_nil, List.length_cons, List.length_nil, Nat.reduceAdd, Nat.reduceSub, List.replicate, List.cons_append, List.nil_append, List.getElem?_cons_zero, List.getElem?_cons_succ, List.set_cons_succ, List.set_cons_zero, Bool.true_and, Bool.and_true, Bool.not_false, Bool.not_true, List.contains_nil, Option.bind_some, for_ap, lc_ap, Nat.reduceEqDiff, Nat.reduceLeDiff, Bool.false_xor, Bool.true_xor, and_self, decide_true, decide_false, List.lookup, List.all_cons, List.all_nil, List.contains_cons, Nat.reduceBEq, Bool.or_false, Bool.false_or, Bool.or_true, Bool.true_or, beq_self_eq_true, List.contains_nil, propR_ap, propR_rig, ownB_rig, ownT_rig, ownN_rig, eqI_rig, e_rig_fwd, lcG_nil, lcG_yesN, eq_self, lawStart_ap, in2, in3, in4, rg2, rg3, rg4, at0, at1, at2, il_tr, Bool.xor_true, Bool.xor_false, mkR_ap, mkR_rest, mkR_rig, callR_ap, callR_rig, callR_mem, methR_ap, methR_at, methR_curve, propR_mem, eqI_mem, lst_ok0, lst_ok1, lst_ok2, lst_ok3, il_pl, il_mem, e_mem_places, e_mem_place, e_rig_arms, Int.reduceEq, e1, e2, c1, hp, lst_ok8, l4, eg, hE, dec_w]
end
theorem hlaw (cl : List (Str × Addr)) (st : List Int) (hs : stOk st = true) : ∃ R', m_law cl (lawStart 13) [srcD st, .tab A0] = .rt (.bl true) R' := by
  unfold m_law ml327
  simp only [raise_ap, raiseI_ap, calmF_ap, le_line, lt_line, var_ap, c_ap, op_ap, un_ap, b_ap, and_ap, or_ap, not_ap, if_ap, andV_ap, orV_ap, ch_ap, nil_ap, cons_ap, star_ap, tup_ap, lst_ap, arm_ap, cb_ap, noPart_ap, part_ap, sl_ap, slL_ap, call_ap, callL_ap, fld_ap, get2_ap, dnew_ap, it_ap, itA_ap, yes_ap, next_ap, seq_ap, set_ap, setO_ap, drop_ap, ret_ap, retN_ap, brk_ap, cnt_ap, never_ap, ifS_ap, aug_ap, app_ap, ext_ap, pop_ap, par_ap, asg_ap, dset_ap, stF_ap, stF2_ap, fldL_ap, see_f, see_g, okM_f, okM_g, okR_f, okR_g, okO_f, okO_g, hide_nil, hide_cons, setAll_cons, setAll_nil, wipe_nil, wipe_cons, runB_ap, runL_ap, startL_ap, startD_ap, out1_nx, out1_rt, dName_ap, dGTup_ap, dGLst_ap, dGCons_ap, dGNil_ap, dAdd_ap, dSub_ap, dMul_ap, dFdiv_ap, dMod_ap, dLt_ap, dLe_ap, dGt_ap, dGe_ap, bOf_ap, dNeg_ap, dNot_ap, eqS_int, eqS_bl, eqS_str, dInt1_ap, dInt1_bl, dMax2_ap, dMin2_ap, dAbs_ap, dSum_ap, dAny_ap, dAll_ap, dLen_l, dLen_t, dLen_a, dIx_l, dIx_t, dIx_a, dTup_ap, dArm_ap, dList_l, dList_t, dTupl_ap, dTupA_ap, lstOf_ap, tupOf_t, tupOf_a, itemsOf_t, itemsOf_l, dSl_l, dSl_t, dSlL_ap, dCatL_ap, dIsN_ap, rng2_ap, dRange_1, dRange_2, dRange3_ap, isC_y, il_int, il_bl, il_str, il_non, il_tup, il_lst, il_armD, il_ins, il_dic, il_ar, il_rig, Bool.false_eq_true, if_false, if_true, Res.bind_ok, Res.bind_bad, Res.out_ok, Res.out_bad, Res.calm_ok, List.map_cons, List.map_nil, List.length_cons, List.length_nil, Nat.reduceAdd, Nat.reduceSub, List.replicate, List.cons_append, List.nil_append, List.getElem?_cons_zero, List.getElem?_cons_succ, List.set_cons_succ, List.set_cons_zero, Bool.true_and, Bool.and_true, Bool.not_false, Bool.not_true, List.contains_nil, Option.bind_some, for_ap, lc_ap, Nat.reduceEqDiff, Nat.reduceLeDiff, Bool.false_xor, Bool.true_xor, and_self, decide_true, decide_false, List.lookup, List.all_cons, List.all_nil, List.contains_cons, Nat.reduceBEq, Bool.or_false, Bool.false_or, Bool.or_true, Bool.true_or, beq_self_eq_true, List.contains_nil, propR_ap, propR_rig, ownB_rig, ownT_rig, ownN_rig, eqI_rig, e_rig_fwd, lcG_nil, lcG_yesN, eq_self, lawStart_ap, in2, in3, in4, rg2, rg3, rg4, at0, at1, at2, il_tr, Bool.xor_true, Bool.xor_false, mkR_ap, mkR_rest, mkR_rig, callR_ap, callR_rig, callR_mem, methR_ap, methR_at, methR_curve, propR_mem, eqI_mem, lst_ok0, lst_ok1, lst_ok2, lst_ok3, il_pl, il_mem, e_mem_places, e_mem_place, e_rig_arms, rng1_ok (show (0 : Int) ≤ 3 by decide) (by decide)]
  generalize hL : loopG _ _ _ _ _ = o
  have hI := loop_inv hL (fun ρ R => ∃ st, R = [srcD st, .tab A0] ∧ stOk st = true ∧ ∃ u2 u3 u4 u5 u6 u7 u8 u9 u10 u11 u12, ρ = [none, some (.loc 0), u2, u3, u4, u5, u6, u7, u8, u9, u10, u11, u12]) ⟨_, rfl, hs, _, _, _, _, _, _, _, _, _, _, _, rfl⟩
  suffices hh : _ by
    obtain ⟨ρ2, R2, rfl, st', rfl, _, u2, u3, u4, u5, u6, u7, u8, u9, u10, u11, u12, rfl⟩ := hI hh
    refine ⟨[srcD st', .tab A0], ?_⟩
    have l14 : ∀ (a b c d e f g h i j k l m n : D) (R : Rs), dLst [a, b, c, d, e, f, g, h, i, j, k, l, m, n] R = .ok (.lst [a, b, c, d, e, f, g, h, i, j, k, l, m, n]) R := fun _ _ _ _ _ _ _ _ _ _ _ _ _ _ _ => lst_ok (line60 (by simp))
    have hde : ∀ R, f_decode [.lst [D.int 82, .int 2, .int 3, .int 231, .int 0, .int 0, .int 0, .int 1, .int 3, .int 231, .int 0, .int 0, .int 0, .int 1]] R = .exc "DecodeError" [("offset", .int 8)] R := fun R =>
      (giv_list (xs := inD [82, 2, 3, 231, 0, 0, 0, 1, 3, 231, 0, 0, 0, 1]) (o := 8) (s := 8) (el_in _) (by decide) rfl).2 R
    have hE := errV (A0 := A0) (tab := lamTab) (l := l_1) (g := g_1) (cl := cl) (ρ := [none, some (.loc 0), u2, u3, u4, u5, u6, u7, u8, u9, u10, u11, u12]) (st := st') (c := "DecodeError") (fs := [("offset", .int 8)]) (w := "decode") (i := 8) lt_1
      (by rw [lc_1]; simp [capt_cons, capt_nil, noE_none, noE_nil])
      (by unfold g_1; simp only [raise_ap, raiseI_ap, calmF_ap, le_line, lt_line, var_ap, c_ap, op_ap, un_ap, b_ap, and_ap, or_ap, not_ap, if_ap, andV_ap, orV_ap, ch_ap, nil_ap, cons_ap, star_ap, tup_ap, lst_ap, arm_ap, cb_ap, noPart_ap, part_ap, sl_ap, slL_ap, call_ap, callL_ap, fld_ap, get2_ap, dnew_ap, it_ap, itA_ap, yes_ap, next_ap, seq_ap, set_ap, setO_ap, drop_ap, ret_ap, retN_ap, brk_ap, cnt_ap, never_ap, ifS_ap, aug_ap, app_ap, ext_ap, pop_ap, par_ap, asg_ap, dset_ap, stF_ap, stF2_ap, fldL_ap, see_f, see_g, okM_f, okM_g, okR_f, okR_g, okO_f, okO_g, hide_nil, hide_cons, setAll_cons, setAll_nil, wipe_nil, wipe_cons, runB_ap, runL_ap, startL_ap, startD_ap, out1_nx, out1_rt, dName_ap, dGTup_ap, dGLst_ap, dGCons_ap, dGNil_ap, dAdd_ap, dSub_ap, dMul_ap, dFdiv_ap, dMod_ap, dLt_ap, dLe_ap, dGt_ap, dGe_ap, bOf_ap, dNeg_ap, dNot_ap, eqS_int, eqS_bl, eqS_str, dInt1_ap, dInt1_bl, dMax2_ap, dMin2_ap, dAbs_ap, dSum_ap, dAny_ap, dAll_ap, dLen_l, dLen_t, dLen_a, dIx_l, dIx_t, dIx_a, dTup_ap, dArm_ap, dList_l, dList_t, dTupl_ap, dTupA_ap, lstOf_ap, tupOf_t, tupOf_a, itemsOf_t, itemsOf_l, dSl_l, dSl_t, dSlL_ap, dCatL_ap, dIsN_ap, rng2_ap, dRange_1, dRange_2, dRange3_ap, isC_y, il_int, il_bl, il_str, il_non, il_tup, il_lst, il_armD, il_ins, il_dic, il_ar, il_rig, Bool.false_eq_true, if_false, if_true, Res.bind_ok, Res.bind_bad, Res.out_ok, Res.out_bad, Res.calm_ok, List.map_cons, List.map_nil, List.length_cons, List.length_nil, Nat.reduceAdd, Nat.reduceSub, List.replicate, List.cons_append, List.nil_append, List.getElem?_cons_zero, List.getElem?_cons_succ, List.set_cons_succ, List.set_cons_zero, Bool.true_and, Bool.and_true, Bool.not_false, Bool.not_true, List.contains_nil, Option.bind_some, for_ap, lc_ap, Nat.reduceEqDiff, Nat.reduceLeDiff, Bool.false_xor, Bool.true_xor, and_self, decide_true, decide_false, List.lookup, List.all_cons, List.all_nil, List.contains_cons, Nat.reduceBEq, Bool.or_false, Bool.false_or, Bool.or_true, Bool.true_or, beq_self_eq_true, List.contains_nil, propR_ap, propR_rig, ownB_rig, ownT_rig, ownN_rig, eqI_rig, e_rig_fwd, lcG_nil, lcG_yesN, eq_self, lawStart_ap, in2, in3, in4, rg2, rg3, rg4, at0, at1, at2, il_tr, Bool.xor_true, Bool.xor_false, mkR_ap, mkR_rest, mkR_rig, callR_ap, callR_rig, callR_mem, methR_ap, methR_at, methR_curve, propR_mem, eqI_mem, lst_ok0, lst_ok1, lst_ok2, lst_ok3, il_pl, il_mem, e_mem_places, e_mem_place, e_rig_arms, l14, hde]) rfl rfl
    have dw : ∀ R, dEqD false (.tup [.str "decode", .int 8]) (.tup [.str "decode", .int 8]) R = .ok (.bl true) R := fun R => by rw [eqWI (by kernel_rfl), decide_eq_true rfl]; rfl
    simp only [raise_ap, raiseI_ap, calmF_ap, le_line, lt_line, var_ap, c_ap, op_ap, un_ap, b_ap, and_ap, or_ap, not_ap, if_ap, andV_ap, orV_ap, ch_ap, nil_ap, cons_ap, star_ap, tup_ap, lst_ap, arm_ap, cb_ap, noPart_ap, part_ap, sl_ap, slL_ap, call_ap, callL_ap, fld_ap, get2_ap, dnew_ap, it_ap, itA_ap, yes_ap, next_ap, seq_ap, set_ap, setO_ap, drop_ap, ret_ap, retN_ap, brk_ap, cnt_ap, never_ap, ifS_ap, aug_ap, app_ap, ext_ap, pop_ap, par_ap, asg_ap, dset_ap, stF_ap, stF2_ap, fldL_ap, see_f, see_g, okM_f, okM_g, okR_f, okR_g, okO_f, okO_g, hide_nil, hide_cons, setAll_cons, setAll_nil, wipe_nil, wipe_cons, runB_ap, runL_ap, startL_ap, startD_ap, out1_nx, out1_rt, dName_ap, dGTup_ap, dGLst_ap, dGCons_ap, dGNil_ap, dAdd_ap, dSub_ap, dMul_ap, dFdiv_ap, dMod_ap, dLt_ap, dLe_ap, dGt_ap, dGe_ap, bOf_ap, dNeg_ap, dNot_ap, eqS_int, eqS_bl, eqS_str, dInt1_ap, dInt1_bl, dMax2_ap, dMin2_ap, dAbs_ap, dSum_ap, dAny_ap, dAll_ap, dLen_l, dLen_t, dLen_a, dIx_l, dIx_t, dIx_a, dTup_ap, dArm_ap, dList_l, dList_t, dTupl_ap, dTupA_ap, lstOf_ap, tupOf_t, tupOf_a, itemsOf_t, itemsOf_l, dSl_l, dSl_t, dSlL_ap, dCatL_ap, dIsN_ap, rng2_ap, dRange_1, dRange_2, dRange3_ap, isC_y, il_int, il_bl, il_str, il_non, il_tup, il_lst, il_armD, il_ins, il_dic, il_ar, il_rig, Bool.false_eq_true, if_false, if_true, Res.bind_ok, Res.bind_bad, Res.out_ok, Res.out_bad, Res.calm_ok, List.map_cons, List.map_nil, List.length_cons, List.length_nil, Nat.reduceAdd, Nat.reduceSub, List.replicate, List.cons_append, List.nil_append, List.getElem?_cons_zero, List.getElem?_cons_succ, List.set_cons_succ, List.set_cons_zero, Bool.true_and, Bool.and_true, Bool.not_false, Bool.not_true, List.contains_nil, Option.bind_some, for_ap, lc_ap, Nat.reduceEqDiff, Nat.reduceLeDiff, Bool.false_xor, Bool.true_xor, and_self, decide_true, decide_false, List.lookup, List.all_cons, List.all_nil, List.contains_cons, Nat.reduceBEq, Bool.or_false, Bool.false_or, Bool.or_true, Bool.true_or, beq_self_eq_true, List.contains_nil, propR_ap, propR_rig, ownB_rig, ownT_rig, ownN_rig, eqI_rig, e_rig_fwd, lcG_nil, lcG_yesN, eq_self, lawStart_ap, in2, in3, in4, rg2, rg3, rg4, at0, at1, at2, il_tr, Bool.xor_true, Bool.xor_false, mkR_ap, mkR_rest, mkR_rig, callR_ap, callR_rig, callR_mem, methR_ap, methR_at, methR_curve, propR_mem, eqI_mem, lst_ok0, lst_ok1, lst_ok2, lst_ok3, il_pl, il_mem, e_mem_places, e_mem_place, e_rig_arms, hE, dw]
  clear hI hL
  rintro d' hd ρ R ⟨st, rfl, hs, u2, u3, u4, u5, u6, u7, u8, u9, u10, u11, u12, rfl⟩
  refine ⟨_, rfl, ?_⟩
  obtain ⟨a, st1, e1, ok, la, hs⟩ := e_some_arms hs (most := 5) (by decide) (by decide)
  obtain ⟨k, st2, e2, k0, k1, hs⟩ := e_bel (n := 8) hs (by decide) (by decide)
  have hn := numsR_len a
  have h60 : a.length ≤ 60 := by omega
  obtain ⟨m0, st3, e3, m0', m1, hs⟩ := e_bel (n := ((numsR a).length : Int)) hs (by omega) (by omega)
  obtain ⟨m, rfl⟩ : ∃ m : Nat, m0 = (m : Int) := ⟨m0.toNat, by omega⟩
  have hm : m < (numsR a).length := by omega
  have hln : ∀ R, dLen [.lst (inD (numsR a))] R = .ok (.int ((numsR a).length : Int)) R := fun R => by rw [dLen_l, in_len]
  have eN := fun R : Rs => e_L_numbers (R := R) (x := .tup (a.map prD)) (a := a) (by omega) (.inl rfl)
  have hf : flOk [] [4, 5] [false, false] = true := rfl
  have hnd : decide (([4, 5] : List Nat).Nodup) = true := rfl
  have hz : ∀ xs ys : List D, xs.length ≤ 100 → ys.length ≤ 100 → ∀ R, dCatL (.lst xs) (.lst ys) R = .ok (.lst (xs ++ ys)) R := fun xs ys h1 h2 R => catL_ok (line60 (by omega))
  have sl1 : ∀ R, dSl (.lst (inD (numsR a))) none (some (m : Int)) R = .ok (.lst ((inD (numsR a)).take m)) R := fun R => by rw [dSl_l, cut_take]
  unfold ml328 ml329 ml330 ml331
  simp only [raise_ap, raiseI_ap, calmF_ap, le_line, lt_line, var_ap, c_ap, op_ap, un_ap, b_ap, and_ap, or_ap, not_ap, if_ap, andV_ap, orV_ap, ch_ap, nil_ap, cons_ap, star_ap, tup_ap, lst_ap, arm_ap, cb_ap, noPart_ap, part_ap, sl_ap, slL_ap, call_ap, callL_ap, fld_ap, get2_ap, dnew_ap, it_ap, itA_ap, yes_ap, next_ap, seq_ap, set_ap, setO_ap, drop_ap, ret_ap, retN_ap, brk_ap, cnt_ap, never_ap, ifS_ap, aug_ap, app_ap, ext_ap, pop_ap, par_ap, asg_ap, dset_ap, stF_ap, stF2_ap, fldL_ap, see_f, see_g, okM_f, okM_g, okR_f, okR_g, okO_f, okO_g, hide_nil, hide_cons, setAll_cons, setAll_nil, wipe_nil, wipe_cons, runB_ap, runL_ap, startL_ap, startD_ap, out1_nx, out1_rt, dName_ap, dGTup_ap, dGLst_ap, dGCons_ap, dGNil_ap, dAdd_ap, dSub_ap, dMul_ap, dFdiv_ap, dMod_ap, dLt_ap, dLe_ap, dGt_ap, dGe_ap, bOf_ap, dNeg_ap, dNot_ap, eqS_int, eqS_bl, eqS_str, dInt1_ap, dInt1_bl, dMax2_ap, dMin2_ap, dAbs_ap, dSum_ap, dAny_ap, dAll_ap, dLen_t, dLen_a, dIx_l, dIx_t, dIx_a, dTup_ap, dArm_ap, dList_l, dList_t, dTupl_ap, dTupA_ap, lstOf_ap, tupOf_t, tupOf_a, itemsOf_t, itemsOf_l, dSl_t, dSlL_ap, dCatL_ap, dIsN_ap, rng2_ap, dRange_1, dRange_2, dRange3_ap, isC_y, il_int, il_bl, il_str, il_non, il_tup, il_lst, il_armD, il_ins, il_dic, il_ar, il_rig, Bool.false_eq_true, if_false, if_true, Res.bind_ok, Res.bind_bad, Res.out_ok, Res.out_bad, Res.calm_ok, List.map_cons, List.map_nil, List.length_cons, List.length_nil, Nat.reduceAdd, Nat.reduceSub, List.replicate, List.cons_append, List.nil_append, List.getElem?_cons_zero, List.getElem?_cons_succ, List.set_cons_succ, List.set_cons_zero, Bool.true_and, Bool.and_true, Bool.not_false, Bool.not_true, List.contains_nil, Option.bind_some, for_ap, lc_ap, Nat.reduceEqDiff, Nat.reduceLeDiff, Bool.false_xor, Bool.true_xor, and_self, decide_true, decide_false, List.lookup, List.all_cons, List.all_nil, List.contains_cons, Nat.reduceBEq, Bool.or_false, Bool.false_or, Bool.or_true, Bool.true_or, beq_self_eq_true, List.contains_nil, propR_ap, propR_rig, ownB_rig, ownT_rig, ownN_rig, eqI_rig, e_rig_fwd, lcG_nil, lcG_yesN, eq_self, lawStart_ap, in2, in3, in4, rg2, rg3, rg4, at0, at1, at2, il_tr, Bool.xor_true, Bool.xor_false, mkR_ap, mkR_rest, mkR_rig, callR_ap, callR_rig, callR_mem, methR_ap, methR_at, methR_curve, propR_mem, eqI_mem, lst_ok0, lst_ok1, lst_ok2, lst_ok3, il_pl, il_mem, e_mem_places, e_mem_place, e_rig_arms, e1, eN, hf, hnd, e2, hln, e3, sl1]
  suffices hh : End53 cl (ml332 cl) (st53 a m (some d') (some (.tup (a.map prD))) u9 u10 u11 u12 k) st3 by
    obtain ⟨st4, hs4, y2, y3, y4, y5, y6, y7, y8, y9, y10, y11, y12, e⟩ := hh
    exact ⟨_, _, .inl (e A0), _, rfl, hs4, _, _, _, _, _, _, _, _, _, _, _, rfl⟩
  rcases (show k = 0 ∨ k = 1 ∨ k = 2 ∨ k = 3 ∨ k = 4 ∨ k = 5 ∨ k = 6 ∨ k = 7 by omega) with rfl | rfl | rfl | rfl | rfl | rfl | rfl | rfl
  · exact kind0 ok h60 cl hm hs
  · exact kind1 ok h60 cl hm hs
  · exact kind2 ok h60 cl hm hs
  · exact kind3 ok h60 cl hm hs
  · exact kind4 ok h60 cl hm hs
  · exact kind5 ok h60 cl hm hs
  · exact kind6 ok h60 cl hm hs
  · exact kind7 ok h60 cl hm hs
end Lw

namespace Lw
section
open PySem PySem.Spec PyProof.Rows L2 Sr Pv
variable {P : Program} [PfOk P] {w : World} {K : PySem.W.Frag} {mg : Str → Option Value} {base : Heap}
theorem sc_L_random : FnScope ["_law_script", "_law_salt", "_law_seed", "_law_cell"] ["_law_script", "_law_salt"] (defScope s_L_random) := ⟨rfl, rfl, rfl, by decide +kernel, rfl, by decide +kernel, by decide +kernel⟩
theorem fn0_L_random (S : SayL K mg) : Fn P w K mg base CX0 1 "_law_random" ["_law_script", "_law_salt"] (spRandomX K) := by
  refine fn_mk s_L_random S 37 54 rfl rfl sc_L_random (fun _ _ _ _ _ _ us hl => match us, hl with | [_, _], _ => rfl) (fun vs H Q E h => ?_) (fun f cdv A outer s H vs Q E hr h => ?_)
  · obtain ⟨_, _, _, rfl, _⟩ := h; rfl
  · have hr0 := hr
    have hu := hu_of hr
    refine ⟨_, (pss_cons (ps_set (i := 2) sc_L_random.nd rfl (by first | exact Or.inl rfl | exact Or.inr rfl) (pv 1))
      (pss_cons (ps_for PassesOwn.never rfl (pi_list (pv 0)) (pg_name (i := 3) sc_L_random.nd rfl (by first | exact Or.inl rfl | exact Or.inr rfl)) (pss_one (ps_set (i := 2) sc_L_random.nd rfl (by first | exact Or.inl rfl | exact Or.inr rfl) (pe_op op_mod (pe_callTy call_int1 (by rfl) (S_int S) (by decide +kernel) (pa_cons (pe_op op_add (pe_op op_mul (pv 2) pe_int) (pe_callB call_abs (by rfl) (S_abs S) (by decide +kernel) (pa_cons (pv 3) pa_nil))) pa_nil)) pe_int))))
      (pss_one (ps_ret (pe_op op_cat (pe_lst (pa_cons (pv 2) (pa_cons pe_int pa_nil))) (pe_lc (own := [("_law_cell", 3)]) rfl sc_L_random.nd (pi_list (pv 0)) (blkOk_by (N := ["_law_script", "_law_salt", "_law_seed", "_law_cell"]) (sc := defScope s_L_random) (by decide +kernel)) (fun _ _ _ _ _ => (pg_name (i := 3) sc_L_random.nd rfl (by first | exact Or.inl rfl | exact Or.inr rfl))) (fun _ _ _ _ _ => (pts_one (pt_cmpR op_ge (pv 3) (pe_op op_pow pe_int pe_int) (nomark _)))) (fun _ _ _ _ _ => (pv 3)))))))), ?_⟩
    obtain ⟨a, ns, n, rfl, ha, hl, hn, k⟩ := h
    simp only [L2.start, List.map_cons, List.map_nil, List.length_cons, List.length_nil, List.replicate, Nat.reduceAdd, Nat.reduceSub, List.cons_append, List.nil_append]
    rw [tSeq_ap, tAsg_ap]
    simp only [tOp, tUn, tVar, tC, tAnd, tOr, tNot, tTest, tB, tCB, tCons, tNil, tBM, tBM0, tBML, tBML0, tAndV, tOrV, tNotV, tIf, tIfT, tChain, tPart, tNoPart, tSl, tTup, tLst, tYes, tIsN, tNotN, tCall, StX.tStar, rI, rI0, rU, rIxU, rLenU, rListU, rTupU, rSlLU, rIsK, kdOf, isK, rEq, rNe, rAppend, rExtend, rPopG, List.getLast?_map, List.getLast?_reverse, List.head?_cons, dropLast_rev, rPopAt, rSetL, rCat, gSub, gName, ipI, scal_int, scal_bl, scal_str, CMul, CDiv, CPow, List.getElem?_cons_succ, List.getElem?_cons_zero, List.set_cons_succ, List.set_cons_zero, List.append_nil, Option.some.injEq, V.int.injEq, V.bl.injEq, V.ref.injEq, V.str.injEq, HO.lst.injEq, HO.tup.injEq, List.cons.injEq, List.cons_ne_nil, and_true, true_and, exists_eq_left, exists_eq_left', exists_and_left, exists_eq', exists_eq, exists_const, reduceCtorEq, false_or, or_false, false_and, and_false, exists_false, seqH, List.length_cons, List.length_nil, List.length_map, List.length_reverse, cx_K, atI_tr1, atI_tr2, cutV_tr2, Option.map_some, upd_same, upd_upd]
    rw [tSeq_ap]
    refine ⟨_, rfl, a, rfl, ⟨_, ha⟩, for_it (walk_list (xs := ns.map V.int)) (RaW H a n) ⟨n, _, rfl, hn, rfl⟩ (fun i σ' H' _ p => by obtain ⟨_, _, _, _, rfl⟩ := p; exact ha) ?_ ?_⟩
    · rintro i x σ' H' H2 hi ⟨z, u, rfl, hz, rfl⟩ ⟨rfl, hx⟩
      rw [List.length_map] at hi
      rw [List.getElem?_map, List.getElem?_eq_getElem hi] at hx
      cases hx
      simp only [gName]
      rw [tAsg_ap]
      simp only [tOp, tUn, tVar, tC, tAnd, tOr, tNot, tTest, tB, tCB, tCons, tNil, tBM, tBM0, tBML, tBML0, tAndV, tOrV, tNotV, tIf, tIfT, tChain, tPart, tNoPart, tSl, tTup, tLst, tYes, tIsN, tNotN, tCall, StX.tStar, rI, rI0, rU, rIxU, rLenU, rListU, rTupU, rSlLU, rIsK, kdOf, isK, rEq, rNe, rAppend, rExtend, rPopG, List.getLast?_map, List.getLast?_reverse, List.head?_cons, dropLast_rev, rPopAt, rSetL, rCat, gSub, gName, ipI, scal_int, scal_bl, scal_str, CMul, CDiv, CPow, List.getElem?_cons_succ, List.getElem?_cons_zero, List.set_cons_succ, List.set_cons_zero, List.append_nil, Option.some.injEq, V.int.injEq, V.bl.injEq, V.ref.injEq, V.str.injEq, HO.lst.injEq, HO.tup.injEq, List.cons.injEq, List.cons_ne_nil, and_true, true_and, exists_eq_left, exists_eq_left', exists_and_left, exists_eq', exists_eq, exists_const, reduceCtorEq, false_or, or_false, false_and, and_false, exists_false, seqH, List.length_cons, List.length_nil, List.length_map, List.length_reverse, cx_K, atI_tr1, atI_tr2, cutV_tr2, Option.map_some, upd_same, upd_upd]
      exact ⟨.inr ⟨by decide, by decide⟩, by decide, _, _, rfl, Int.emod_nonneg _ (by decide), rfl⟩
    · rintro σ' H' ⟨z, u, rfl, hz, rfl⟩
      dsimp only
      rw [tRet_ap]
      simp only [tOp, tLst, tCons, tNil, tVar, tC, List.getElem?_cons_zero, List.getElem?_cons_succ, Option.some.injEq, exists_eq_left']
      refine ⟨by simp [sizeLine], fun p hp => ?_⟩
      have e1 : Same H' (upd H' p (.lst [.int z, .int 0])) := same_upd hp
      have hp1 : upd H' p (.lst [.int z, .int 0]) p = some (.lst [.int z, .int 0]) := upd_same
      have ha1 := e1.seq ha
      generalize upd H' p (.lst [.int z, .int 0]) = H1 at *
      refine ⟨_, rfl, a, rfl, ⟨_, ha1⟩, fun D hD => lc_it (walk_list (xs := ns.map V.int)) (RaC H1 D) ⟨same_upd hD, [], upd_same, by simp, by simp⟩ (fun i H' _ p => p.1.seq ha1) ?_ ?_⟩
      · rintro i x H2 H3 hi ⟨e2, acc, hacc, hlen, hpos⟩ ⟨rfl, hx⟩
        rw [List.length_map] at hi
        rw [List.getElem?_map, List.getElem?_eq_getElem hi] at hx
        cases hx
        simp only [wipe, List.map_cons, List.map_nil, tOp, tUn, tVar, tC, tAnd, tOr, tNot, tTest, tB, tCB, tCons, tNil, tBM, tBM0, tBML, tBML0, tAndV, tOrV, tNotV, tIf, tIfT, tChain, tPart, tNoPart, tSl, tTup, tLst, tYes, tIsN, tNotN, tCall, StX.tStar, rI, rI0, rU, rIxU, rLenU, rListU, rTupU, rSlLU, rIsK, kdOf, isK, rEq, rNe, rAppend, rExtend, rPopG, List.getLast?_map, List.getLast?_reverse, List.head?_cons, dropLast_rev, rPopAt, rSetL, rCat, gSub, gName, ipI, scal_int, scal_bl, scal_str, CMul, CDiv, CPow, List.getElem?_cons_succ, List.getElem?_cons_zero, List.set_cons_succ, List.set_cons_zero, List.append_nil, Option.some.injEq, V.int.injEq, V.bl.injEq, V.ref.injEq, V.str.injEq, HO.lst.injEq, HO.tup.injEq, List.cons.injEq, List.cons_ne_nil, and_true, true_and, exists_eq_left, exists_eq_left', exists_and_left, exists_eq', exists_eq, exists_const, reduceCtorEq, false_or, or_false, false_and, and_false, exists_false, seqH, List.length_cons, List.length_nil, List.length_map, List.length_reverse, cx_K, atI_tr1, atI_tr2, cutV_tr2, Option.map_some, upd_same, upd_upd]
        refine ⟨by decide, ?_⟩
        split
        · rename_i c
          have c' : (10 : Int) ^ (18 : Int).toNat ≤ ns[i] := of_decide_eq_true c
          simp only [tOp, tUn, tVar, tC, tAnd, tOr, tNot, tTest, tB, tCB, tCons, tNil, tBM, tBM0, tBML, tBML0, tAndV, tOrV, tNotV, tIf, tIfT, tChain, tPart, tNoPart, tSl, tTup, tLst, tYes, tIsN, tNotN, tCall, StX.tStar, rI, rI0, rU, rIxU, rLenU, rListU, rTupU, rSlLU, rIsK, kdOf, isK, rEq, rNe, rAppend, rExtend, rPopG, List.getLast?_map, List.getLast?_reverse, List.head?_cons, dropLast_rev, rPopAt, rSetL, rCat, gSub, gName, ipI, scal_int, scal_bl, scal_str, CMul, CDiv, CPow, List.getElem?_cons_succ, List.getElem?_cons_zero, List.set_cons_succ, List.set_cons_zero, List.append_nil, Option.some.injEq, V.int.injEq, V.bl.injEq, V.ref.injEq, V.str.injEq, HO.lst.injEq, HO.tup.injEq, List.cons.injEq, List.cons_ne_nil, and_true, true_and, exists_eq_left, exists_eq_left', exists_and_left, exists_eq', exists_eq, exists_const, reduceCtorEq, false_or, or_false, false_and, and_false, exists_false, seqH, List.length_cons, List.length_nil, List.length_map, List.length_reverse, cx_K, atI_tr1, atI_tr2, cutV_tr2, Option.map_some, upd_same, upd_upd, hacc]
          refine ⟨by simp [sizeLine]; omega, e2.updN hD, acc ++ [ns[i]], by rw [upd_same]; simp, by simp; omega, ?_⟩
          intro x hx
          rcases List.mem_append.mp hx with hx | hx
          · exact hpos x hx
          · have : x = ns[i] := by simpa using hx
            rw [this]
            have : (0 : Int) ≤ 10 ^ (18 : Int).toNat := by decide
            omega
        · exact ⟨e2, acc, hacc, by omega, hpos⟩
      · rintro H2 ⟨e2, acc, hacc, hlen, hpos⟩
        rw [List.length_map] at hlen
        refine ⟨p, D, _, _, rfl, rfl, e2 _ _ hp1, hacc, by simp [sizeLine]; omega, fun q hq => ?_⟩
        refine k q (z :: 0 :: acc) _ ((e1.trans e2).new hq) ((e1.trans e2).free hq) ?_ (stOk_cons.mpr ⟨hz, by decide, hpos⟩)
        rw [upd_same]
        rfl
theorem fn_L_random (S : SayL K mg) : Fn P w K mg base CX0 1 "_law_random" ["_law_script", "_law_salt"] (spRandomX K) := fn0_L_random S
theorem sc_L_below : FnScope ["_law_d", "_law_limit", "_law_result"] ["_law_d", "_law_limit"] (defScope s_L_below) := ⟨rfl, rfl, rfl, by decide +kernel, rfl, by decide +kernel, by decide +kernel⟩
theorem fn0_L_below (S : SayL K mg) : Fn P w K mg base CX0 1 "_law_below" ["_law_d", "_law_limit"] spBelowX := by
  refine fn_mk s_L_below S 38 55 rfl rfl sc_L_below (fun _ _ _ _ _ _ us hl => match us, hl with | [_, _], _ => rfl) (fun vs H Q E h => ?_) (fun f cdv A outer s H vs Q E hr h => ?_)
  · obtain ⟨_, _, _, rfl, _⟩ := h; rfl
  · have hr0 := hr
    have hu := hu_of hr
    refine ⟨_, (pss_cut (ps_if (PW.pt (pw_and (pt_cmpR op_eq (pe_ix ix_u (pv 0) pe_int (fun _ _ => rfl)) pe_int (nomark _)) (pw_and1 (pt_cmpR op_gt (pe_callB call_len_u (by rfl) (S_len S) (by decide +kernel) (pa_cons (pv 0) pa_nil)) pe_int (nomark _))))) (pss_one (ps_asg (pe_bmL PySem.F.slot_list_pop PySem.F.type_list_pop mt_popAt (pv 0) (pa_cons pe_int pa_nil)) (pg_sub (pv 0) pe_int set_list))) pss_nil)
      (pss_cons (ps_if (pt_cmpR op_gt (pe_ix ix_u (pv 0) pe_int (fun _ _ => rfl)) pe_int (nomark _)) (pss_cons (ps_set (i := 2) sc_L_below.nd rfl (by first | exact Or.inl rfl | exact Or.inr rfl) (pe_op op_mod (pe_callTy call_int1 (by rfl) (S_int S) (by decide +kernel) (pa_cons (pe_ix ix_u (pv 0) pe_int (fun _ _ => rfl)) pa_nil)) (pv 1)))
      (pss_cons (ps_asg (pe_op op_fdivW (pe_ix ix_u (pv 0) pe_int (fun _ _ => rfl)) (pv 1)) (pg_sub (pv 0) pe_int set_list))
      (pss_one (ps_ret (pv 2))))) pss_nil)
      (pss_cons (ps_asg (pe_op op_mod (pe_callTy call_int1 (by rfl) (S_int S) (by decide +kernel) (pa_cons (pe_op op_add (pe_op op_mul (pe_ix ix_u (pv 0) pe_int (fun _ _ => rfl)) pe_int) pe_int) pa_nil)) pe_int) (pg_sub (pv 0) pe_int set_list))
      (pss_one (ps_ret (pe_op op_mod (pe_callTy call_int1 (by rfl) (S_int S) (by decide +kernel) (pa_cons (pe_op op_fdiv (pe_ix ix_u (pv 0) pe_int (fun _ _ => rfl)) pe_int) pa_nil)) (pv 1))))))), ?_⟩
    obtain ⟨d, st, n, rfl, hd, hst, h0, h1, k⟩ := h
    obtain ⟨a, b, r, rfl⟩ : ∃ a b r, st = a :: b :: r := by
      match st, hst with
      | a :: b :: r, _ => exact ⟨a, b, r, rfl⟩
    have e1 : ∀ m : Nat, ixN (m + 1 + 1) 1 = some 1 := fun m => by unfold ixN; rw [if_pos (by omega), if_pos (by omega)]; rfl
    have e0 : ∀ m : Nat, ixN (m + 1 + 1) 0 = some 0 := fun m => by unfold ixN; rw [if_pos (by omega), if_pos (by omega)]; rfl
    have e2 : ∀ m : Nat, seqIndex? 2 (m + 1 + 1 + 1) = some 2 := fun m => by unfold seqIndex?; simp; omega
    simp only [L2.start, List.map_cons, List.map_nil, List.length_cons, List.length_nil, List.replicate, Nat.reduceAdd, Nat.reduceSub, List.cons_append, List.nil_append]
    refine ⟨fun σ' H' => σ' = [some (.ref d), some (.int n), none] ∧ H' = upd H d (.lst ((a :: (midB b r).1 :: (midB b r).2).map V.int)), ?_, ?_⟩
    · rw [tIfS_ap]
      simp only [tOp, tUn, tVar, tC, tAnd, tOr, tNot, tTest, tB, tCB, tCons, tNil, tBM, tBM0, tBML, tBML0, tAndV, tOrV, tNotV, tIf, tIfT, tChain, tPart, tNoPart, tSl, tTup, tLst, tYes, tIsN, tNotN, tCall, StX.tStar, rI, rI0, rU, rIxU, rLenU, rListU, rTupU, rSlLU, rIsK, kdOf, isK, rEq, rNe, rAppend, rExtend, rPopG, List.getLast?_map, List.getLast?_reverse, List.head?_cons, dropLast_rev, rPopAt, rSetL, rCat, gSub, gName, ipI, scal_int, scal_bl, scal_str, CMul, CDiv, CDivW, CPow, List.getElem?_cons_succ, List.getElem?_cons_zero, List.set_cons_succ, List.set_cons_zero, List.append_nil, Option.some.injEq, V.int.injEq, V.bl.injEq, V.ref.injEq, V.str.injEq, HO.lst.injEq, HO.tup.injEq, List.cons.injEq, List.cons_ne_nil, and_true, true_and, exists_eq_left, exists_eq_left', exists_and_left, exists_eq', exists_eq, exists_const, reduceCtorEq, false_or, or_false, false_and, and_false, exists_false, seqH, List.length_cons, List.length_nil, List.length_map, List.length_reverse, cx_K, atI_tr1, atI_tr2, cutV_tr2, Option.map_some, upd_same, upd_upd, hd, List.map_cons, atI_one, decide_eq_true_eq]
      by_cases hb0 : b = 0
      · rw [if_pos hb0]
        cases r with
        | nil =>
          rw [if_neg (by simp), tNext_ap]
          refine ⟨rfl, ?_⟩
          simp only [midB, hb0, if_true]
          rw [hb0] at hd
          exact (upd_self H d).symm
        | cons c r =>
          rw [if_pos (by simp; omega), tAsg_ap]
          simp only [tOp, tUn, tVar, tC, tAnd, tOr, tNot, tTest, tB, tCB, tCons, tNil, tBM, tBM0, tBML, tBML0, tAndV, tOrV, tNotV, tIf, tIfT, tChain, tPart, tNoPart, tSl, tTup, tLst, tYes, tIsN, tNotN, tCall, StX.tStar, rI, rI0, rU, rIxU, rLenU, rListU, rTupU, rSlLU, rIsK, kdOf, isK, rEq, rNe, rAppend, rExtend, rPopG, List.getLast?_map, List.getLast?_reverse, List.head?_cons, dropLast_rev, rPopAt, rSetL, rCat, gSub, gName, ipI, scal_int, scal_bl, scal_str, CMul, CDiv, CDivW, CPow, List.getElem?_cons_succ, List.getElem?_cons_zero, List.set_cons_succ, List.set_cons_zero, List.append_nil, Option.some.injEq, V.int.injEq, V.bl.injEq, V.ref.injEq, V.str.injEq, HO.lst.injEq, HO.tup.injEq, List.cons.injEq, List.cons_ne_nil, and_true, true_and, exists_eq_left, exists_eq_left', exists_and_left, exists_eq', exists_eq, exists_const, reduceCtorEq, false_or, or_false, false_and, and_false, exists_false, seqH, List.length_cons, List.length_nil, List.length_map, List.length_reverse, cx_K, atI_tr1, atI_tr2, cutV_tr2, Option.map_some, upd_same, upd_upd, hd, List.map_cons, e1, e2, List.eraseIdx_cons_succ, List.eraseIdx_cons_zero]
          refine ⟨by decide, by decide, ?_⟩
          simp [midB, hb0]
      · rw [if_neg hb0, if_neg id, tNext_ap]
        refine ⟨rfl, ?_⟩
        simp only [midB, hb0, if_false]
        exact (upd_self H d).symm
    · rintro σ' H' ⟨rfl, rfl⟩
      have hk : ∀ x y, below (a :: b :: r) n = (x, y) → Q (.int x) (upd H d (.lst (y.map V.int))) := fun x y e => by rw [e] at k; exact k
      have ek : below (a :: b :: r) n = if 0 < (midB b r).1 then ((midB b r).1 % n, a :: (midB b r).1 / n :: (midB b r).2) else (((a * 48271 + 11) % 2147483647 / 64) % n, (a * 48271 + 11) % 2147483647 :: (midB b r).1 :: (midB b r).2) := rfl
      generalize (midB b r).1 = b1 at *
      generalize (midB b r).2 = r1 at *
      rw [tSeq_ap, tIfS_ap]
      simp only [tOp, tUn, tVar, tC, tAnd, tOr, tNot, tTest, tB, tCB, tCons, tNil, tBM, tBM0, tBML, tBML0, tAndV, tOrV, tNotV, tIf, tIfT, tChain, tPart, tNoPart, tSl, tTup, tLst, tYes, tIsN, tNotN, tCall, StX.tStar, rI, rI0, rU, rIxU, rLenU, rListU, rTupU, rSlLU, rIsK, kdOf, isK, rEq, rNe, rAppend, rExtend, rPopG, List.getLast?_map, List.getLast?_reverse, List.head?_cons, dropLast_rev, rPopAt, rSetL, rCat, gSub, gName, ipI, scal_int, scal_bl, scal_str, CMul, CDiv, CDivW, CPow, List.getElem?_cons_succ, List.getElem?_cons_zero, List.set_cons_succ, List.set_cons_zero, List.append_nil, Option.some.injEq, V.int.injEq, V.bl.injEq, V.ref.injEq, V.str.injEq, HO.lst.injEq, HO.tup.injEq, List.cons.injEq, List.cons_ne_nil, and_true, true_and, exists_eq_left, exists_eq_left', exists_and_left, exists_eq', exists_eq, exists_const, reduceCtorEq, false_or, or_false, false_and, and_false, exists_false, seqH, List.length_cons, List.length_nil, List.length_map, List.length_reverse, cx_K, atI_tr1, atI_tr2, cutV_tr2, Option.map_some, upd_same, upd_upd, List.map_cons, atI_one, decide_eq_true_eq]
      split
      · rename_i hp
        rw [if_pos hp] at ek
        rw [tSeq_ap, tAsg_ap]
        simp only [tOp, tUn, tVar, tC, tAnd, tOr, tNot, tTest, tB, tCB, tCons, tNil, tBM, tBM0, tBML, tBML0, tAndV, tOrV, tNotV, tIf, tIfT, tChain, tPart, tNoPart, tSl, tTup, tLst, tYes, tIsN, tNotN, tCall, StX.tStar, rI, rI0, rU, rIxU, rLenU, rListU, rTupU, rSlLU, rIsK, kdOf, isK, rEq, rNe, rAppend, rExtend, rPopG, List.getLast?_map, List.getLast?_reverse, List.head?_cons, dropLast_rev, rPopAt, rSetL, rCat, gSub, gName, ipI, scal_int, scal_bl, scal_str, CMul, CDiv, CDivW, CPow, List.getElem?_cons_succ, List.getElem?_cons_zero, List.set_cons_succ, List.set_cons_zero, List.append_nil, Option.some.injEq, V.int.injEq, V.bl.injEq, V.ref.injEq, V.str.injEq, HO.lst.injEq, HO.tup.injEq, List.cons.injEq, List.cons_ne_nil, and_true, true_and, exists_eq_left, exists_eq_left', exists_and_left, exists_eq', exists_eq, exists_const, reduceCtorEq, false_or, or_false, false_and, and_false, exists_false, seqH, List.length_cons, List.length_nil, List.length_map, List.length_reverse, cx_K, atI_tr1, atI_tr2, cutV_tr2, Option.map_some, upd_same, upd_upd, List.map_cons, atI_one]
        refine ⟨h0, ?_⟩
        rw [tSeq_ap, tAsg_ap]
        simp only [tOp, tUn, tVar, tC, tAnd, tOr, tNot, tTest, tB, tCB, tCons, tNil, tBM, tBM0, tBML, tBML0, tAndV, tOrV, tNotV, tIf, tIfT, tChain, tPart, tNoPart, tSl, tTup, tLst, tYes, tIsN, tNotN, tCall, StX.tStar, rI, rI0, rU, rIxU, rLenU, rListU, rTupU, rSlLU, rIsK, kdOf, isK, rEq, rNe, rAppend, rExtend, rPopG, List.getLast?_map, List.getLast?_reverse, List.head?_cons, dropLast_rev, rPopAt, rSetL, rCat, gSub, gName, ipI, scal_int, scal_bl, scal_str, CMul, CDiv, CDivW, CPow, List.getElem?_cons_succ, List.getElem?_cons_zero, List.set_cons_succ, List.set_cons_zero, List.append_nil, Option.some.injEq, V.int.injEq, V.bl.injEq, V.ref.injEq, V.str.injEq, HO.lst.injEq, HO.tup.injEq, List.cons.injEq, List.cons_ne_nil, and_true, true_and, exists_eq_left, exists_eq_left', exists_and_left, exists_eq', exists_eq, exists_const, reduceCtorEq, false_or, or_false, false_and, and_false, exists_false, seqH, List.length_cons, List.length_nil, List.length_map, List.length_reverse, cx_K, atI_tr1, atI_tr2, cutV_tr2, Option.map_some, upd_same, upd_upd, List.map_cons, atI_one, e1]
        refine ⟨⟨h0, h1⟩, ?_⟩
        rw [tRet_ap]
        simp only [tOp, tUn, tVar, tC, tAnd, tOr, tNot, tTest, tB, tCB, tCons, tNil, tBM, tBM0, tBML, tBML0, tAndV, tOrV, tNotV, tIf, tIfT, tChain, tPart, tNoPart, tSl, tTup, tLst, tYes, tIsN, tNotN, tCall, StX.tStar, rI, rI0, rU, rIxU, rLenU, rListU, rTupU, rSlLU, rIsK, kdOf, isK, rEq, rNe, rAppend, rExtend, rPopG, List.getLast?_map, List.getLast?_reverse, List.head?_cons, dropLast_rev, rPopAt, rSetL, rCat, gSub, gName, ipI, scal_int, scal_bl, scal_str, CMul, CDiv, CDivW, CPow, List.getElem?_cons_succ, List.getElem?_cons_zero, List.set_cons_succ, List.set_cons_zero, List.append_nil, Option.some.injEq, V.int.injEq, V.bl.injEq, V.ref.injEq, V.str.injEq, HO.lst.injEq, HO.tup.injEq, List.cons.injEq, List.cons_ne_nil, and_true, true_and, exists_eq_left, exists_eq_left', exists_and_left, exists_eq', exists_eq, exists_const, reduceCtorEq, false_or, or_false, false_and, and_false, exists_false, seqH, List.length_cons, List.length_nil, List.length_map, List.length_reverse, cx_K, atI_tr1, atI_tr2, cutV_tr2, Option.map_some, upd_same, upd_upd]
        exact hk _ _ ek
      · rename_i hp
        rw [if_neg hp] at ek
        rw [tNext_ap]
        dsimp only
        rw [tSeq_ap, tAsg_ap]
        simp only [tOp, tUn, tVar, tC, tAnd, tOr, tNot, tTest, tB, tCB, tCons, tNil, tBM, tBM0, tBML, tBML0, tAndV, tOrV, tNotV, tIf, tIfT, tChain, tPart, tNoPart, tSl, tTup, tLst, tYes, tIsN, tNotN, tCall, StX.tStar, rI, rI0, rU, rIxU, rLenU, rListU, rTupU, rSlLU, rIsK, kdOf, isK, rEq, rNe, rAppend, rExtend, rPopG, List.getLast?_map, List.getLast?_reverse, List.head?_cons, dropLast_rev, rPopAt, rSetL, rCat, gSub, gName, ipI, scal_int, scal_bl, scal_str, CMul, CDiv, CDivW, CPow, List.getElem?_cons_succ, List.getElem?_cons_zero, List.set_cons_succ, List.set_cons_zero, List.append_nil, Option.some.injEq, V.int.injEq, V.bl.injEq, V.ref.injEq, V.str.injEq, HO.lst.injEq, HO.tup.injEq, List.cons.injEq, List.cons_ne_nil, and_true, true_and, exists_eq_left, exists_eq_left', exists_and_left, exists_eq', exists_eq, exists_const, reduceCtorEq, false_or, or_false, false_and, and_false, exists_false, seqH, List.length_cons, List.length_nil, List.length_map, List.length_reverse, cx_K, atI_tr1, atI_tr2, cutV_tr2, Option.map_some, upd_same, upd_upd, List.map_cons, atI_zero, e0]
        refine ⟨.inr ⟨by decide, by decide⟩, by decide, ?_⟩
        rw [tRet_ap]
        simp only [tOp, tUn, tVar, tC, tAnd, tOr, tNot, tTest, tB, tCB, tCons, tNil, tBM, tBM0, tBML, tBML0, tAndV, tOrV, tNotV, tIf, tIfT, tChain, tPart, tNoPart, tSl, tTup, tLst, tYes, tIsN, tNotN, tCall, StX.tStar, rI, rI0, rU, rIxU, rLenU, rListU, rTupU, rSlLU, rIsK, kdOf, isK, rEq, rNe, rAppend, rExtend, rPopG, List.getLast?_map, List.getLast?_reverse, List.head?_cons, dropLast_rev, rPopAt, rSetL, rCat, gSub, gName, ipI, scal_int, scal_bl, scal_str, CMul, CDiv, CDivW, CPow, List.getElem?_cons_succ, List.getElem?_cons_zero, List.set_cons_succ, List.set_cons_zero, List.append_nil, Option.some.injEq, V.int.injEq, V.bl.injEq, V.ref.injEq, V.str.injEq, HO.lst.injEq, HO.tup.injEq, List.cons.injEq, List.cons_ne_nil, and_true, true_and, exists_eq_left, exists_eq_left', exists_and_left, exists_eq', exists_eq, exists_const, reduceCtorEq, false_or, or_false, false_and, and_false, exists_false, seqH, List.length_cons, List.length_nil, List.length_map, List.length_reverse, cx_K, atI_tr1, atI_tr2, cutV_tr2, Option.map_some, upd_same, upd_upd, List.map_cons, atI_zero]
        exact ⟨⟨by decide, by decide⟩, h0, hk _ _ ek⟩
theorem fn_L_below (S : SayL K mg) : Fn P w K mg base (L2.CX P w) 1 "_law_below" ["_law_d", "_law_limit"] (spL K 2 f_L_below) := (fn0_L_below S).cx0.imp below_imp
theorem sc_L_some_arms : FnScope ["_law_d", "_law_most", "_law_slacks", "_law_arms", "_law_slack", "_law_size", "_law_k"] ["_law_d", "_law_most"] (defScope s_L_some_arms) := ⟨rfl, rfl, rfl, by decide +kernel, rfl, by decide +kernel, by decide +kernel⟩
theorem fn_L_some_arms (S : SayL K mg) : Fn P w K mg base (L2.CX P w) 3 "_law_some_arms" ["_law_d", "_law_most"] (spL K 2 f_L_some_arms) := by
  have F_L_below := fn_L_below (P := P) (w := w) (base := base) S
  refine fnL (own := [3]) (own' := []) (g := m_L_some_arms) s_L_some_arms S 39 56 rfl rfl sc_L_some_arms (fun _ _ _ _ _ _ us hl => match us, hl with | [_, _], _ => rfl) rfl (by decide) (by decide) (fun f cdv A outer s H E hr => ?_)
  have hu := hu_of hr
  have hr_L_below : Room 1 _ := hr.mono (by decide)
  have hr1_L_below : Room 2 _ := hr.mono (by decide)
  exact (sts_cons (st_set .f (i := 2) sc_L_some_arms.nd rfl (by first | exact Or.inl rfl | exact Or.inr rfl) (EvF.ev (evf_sortSet rfl (by rfl) (S_sorted S) (by rfl) (S_set S) (eva_cons (EvF.ev (evf_lc (own := [("_law_k", 6)]) rfl rfl sc_L_some_arms.nd (evi_of (evi_rng1 (by rfl) (S_range S) (eva_cons (ev_fnL F_L_below hr_L_below (pass_x rfl rfl rfl rfl) (pv 0) (eva_cons (ev_op o_add (ev_var (pv 1)) (ev_int pe_int)) eva_nil)) eva_nil))) (blkOk_by (N := ["_law_d", "_law_most", "_law_slacks", "_law_arms", "_law_slack", "_law_size", "_law_k"]) (sc := defScope s_L_some_arms) (by decide +kernel)) (fun _ _ _ _ _ => (pg_name (i := 6) sc_L_some_arms.nd rfl (by first | exact Or.inl rfl | exact Or.inr rfl))) (tg_name (by decide)) (fun _ _ _ _ _ => pts_yes) (fun _ _ _ _ _ => (ev_fnL F_L_below hr_L_below pass_no (pv 0) (eva_cons (ev_ix o_ix (EvF.ev (evf_lst (eva_cons (ev_int pe_int) (eva_cons (ev_int pe_int) eva_nil)))) (ev_fnL F_L_below hr_L_below pass_no (pv 0) (eva_cons (ev_int pe_int) eva_nil)) (fun _ _ => rfl)) eva_nil))))) eva_nil))))
      (sts_cons (st_setO .f (i := 3) sc_L_some_arms.nd rfl (by first | exact Or.inl rfl | exact Or.inr rfl) (evf_lst eva_nil))
      (sts_cons (st_for (vs := [4]) (passes_of rfl) rfl (evi_list (ev_var (pv 2))) ⟨(pg_name (i := 4) sc_L_some_arms.nd rfl (by first | exact Or.inl rfl | exact Or.inr rfl)), (tg_name (by decide))⟩ (sts_cons (st_set .f (i := 5) sc_L_some_arms.nd rfl (by first | exact Or.inl rfl | exact Or.inr rfl) (ev_op o_add (ev_int pe_int) (ev_fnL F_L_below hr_L_below (pass_x rfl rfl rfl rfl) (pv 0) (eva_cons (ev_ix o_ix (EvF.ev (evf_lst (eva_cons (ev_int pe_int) (eva_cons (ev_int pe_int) (eva_cons (ev_int pe_int) eva_nil))))) (ev_fnL F_L_below hr_L_below (pass_x rfl rfl rfl rfl) (pv 0) (eva_cons (ev_int pe_int) eva_nil)) (fun _ _ => rfl)) eva_nil))))
      (sts_one (st_app .f (by decide) (pv 3) (eva_cons (ev_tup (eva_cons (ev_var (pv 4)) (eva_cons (ev_ix o_ix (EvF.ev (evf_lst (eva_cons (ev_var (pv 5)) (eva_cons (ev_op o_sub (ev_int pe_int) (ev_var (pv 5))) eva_nil)))) (ev_fnL F_L_below hr_L_below (pass_x rfl rfl rfl rfl) (pv 0) (eva_cons (ev_int pe_int) eva_nil)) (fun _ _ => rfl)) eva_nil))) eva_nil)))))
      (sts_frz (own2 := []) (by decide) (sts_one (st_ret (ev_ty c_tup (by rfl) (S_tuple S) (by decide +kernel) (eva_cons (ev_var (pv 3)) eva_nil))))))))
theorem sc_L_checksum : FnScope ["_law_numbers_here", "_law_found", "_law_number"] ["_law_numbers_here"] (defScope s_L_checksum) := ⟨rfl, rfl, rfl, by decide +kernel, rfl, by decide +kernel, by decide +kernel⟩
theorem fn_L_checksum (S : SayL K mg) : Fn P w K mg base (L2.CX P w) 1 "_law_checksum" ["_law_numbers_here"] (spP K 1 f_L_checksum) := by
  refine (fnP (own := []) (own' := []) (g := m_L_checksum) s_L_checksum S 40 57 rfl rfl sc_L_checksum (fun _ _ _ _ _ _ us hl => match us, hl with | [_], _ => rfl) rfl (by decide) (fun f cdv A outer s H E hr => ?_)).imp pure_imp
  have hu := hu_of hr
  exact (sts_cons (st_set .f (i := 1) sc_L_checksum.nd rfl (by first | exact Or.inl rfl | exact Or.inr rfl) (ev_int pe_int))
      (sts_cons (st_for (vs := [2]) (passes_of rfl) rfl (evi_list (ev_var (pv 0))) ⟨(pg_name (i := 2) sc_L_checksum.nd rfl (by first | exact Or.inl rfl | exact Or.inr rfl)), (tg_name (by decide))⟩ (sts_one (st_set .f (i := 1) sc_L_checksum.nd rfl (by first | exact Or.inl rfl | exact Or.inr rfl) (ev_op o_mod (ev_ty c_int1 (by rfl) (S_int S) (by decide +kernel) (eva_cons (ev_op o_add (ev_op o_mul (ev_int pe_int) (ev_var (pv 1))) (ev_var (pv 2))) eva_nil)) (ev_int pe_int)))))
      (sts_one (st_ret (ev_var (pv 1))))))
theorem sc_L_numbers : FnScope ["_law_arms", "_law_found", "_law_slack", "_law_arm", "_law_size"] ["_law_arms"] (defScope s_L_numbers) := ⟨rfl, rfl, rfl, by decide +kernel, rfl, by decide +kernel, by decide +kernel⟩
theorem fn_L_numbers (S : SayL K mg) : Fn P w K mg base (L2.CX P w) 3 "_law_numbers" ["_law_arms"] (spP K 1 f_L_numbers) := by
  have F_L_checksum := fn_L_checksum (P := P) (w := w) (base := base) S
  refine (fnP (own := []) (own' := []) (g := m_L_numbers) s_L_numbers S 41 58 rfl rfl sc_L_numbers (fun _ _ _ _ _ _ us hl => match us, hl with | [_], _ => rfl) rfl (by decide) (fun f cdv A outer s H E hr => ?_)).imp pure_imp
  have hu := hu_of hr
  have hr_L_checksum : Room 1 _ := hr.mono (by decide)
  have hr1_L_checksum : Room 2 _ := hr.mono (by decide)
  exact (sts_cons (st_set .f (i := 1) sc_L_numbers.nd rfl (by first | exact Or.inl rfl | exact Or.inr rfl) (EvF.ev (evf_lst (eva_cons (ev_int pe_int) (eva_cons (ev_b c_len (by rfl) (S_len S) (by decide +kernel) (eva_cons (ev_var (pv 0)) eva_nil)) eva_nil)))))
      (sts_cons (st_for (vs := [2, 3]) (passes_of rfl) rfl (evi_tup (ev_var (pv 0))) ⟨(pg_tup (n := 2) rfl (pgs_cons (pg_name (i := 2) sc_L_numbers.nd rfl (by first | exact Or.inl rfl | exact Or.inr rfl)) (pgs_cons (pg_name (i := 3) sc_L_numbers.nd rfl (by first | exact Or.inl rfl | exact Or.inr rfl)) pgs_nil))), (tg_tup (tgs_cons (tg_name (by decide)) (tgs_cons (tg_name (by decide)) tgs_nil)))⟩ (sts_cons (st_set .f (i := 4) sc_L_numbers.nd rfl (by first | exact Or.inl rfl | exact Or.inr rfl) (ev_b c_abs (by rfl) (S_abs S) (by decide +kernel) (eva_cons (ev_var (pv 3)) eva_nil)))
      (sts_cons (st_set .f (i := 1) sc_L_numbers.nd rfl (by first | exact Or.inl rfl | exact Or.inr rfl) (ev_op o_cat (ev_var (pv 1)) (EvF.ev (evf_lst (eva_cons (ev_op o_fdiv (ev_var (pv 2)) (ev_int pe_int)) (eva_cons (ev_op o_mod (ev_ty c_int1 (by rfl) (S_int S) (by decide +kernel) (eva_cons (ev_var (pv 2)) eva_nil)) (ev_int pe_int)) (eva_cons (ev_ty c_int1 (by rfl) (S_int S) (by decide +kernel) (eva_cons (ev_cmp o_lt (ev_var (pv 3)) (ev_int pe_int) (nomark _)) eva_nil)) eva_nil)))))))
      (sts_one (st_set .f (i := 1) sc_L_numbers.nd rfl (by first | exact Or.inl rfl | exact Or.inr rfl) (ev_op o_cat (ev_var (pv 1)) (EvF.ev (evf_lst (eva_cons (ev_op o_fdiv (ev_var (pv 4)) (ev_int pe_int)) (eva_cons (ev_op o_mod (ev_ty c_int1 (by rfl) (S_int S) (by decide +kernel) (eva_cons (ev_op o_fdiv (ev_var (pv 4)) (ev_int pe_int)) eva_nil)) (ev_int pe_int)) (eva_cons (ev_op o_mod (ev_ty c_int1 (by rfl) (S_int S) (by decide +kernel) (eva_cons (ev_var (pv 4)) eva_nil)) (ev_int pe_int)) eva_nil)))))))))))
      (sts_one (st_ret (ev_op o_cat (ev_var (pv 1)) (EvF.ev (evf_lst (eva_cons (ev_fn F_L_checksum hr_L_checksum (pass_x rfl rfl rfl rfl) (eva_cons (ev_var (pv 1)) eva_nil)) eva_nil))))))))
theorem sc_Row_init : FnScope ["self", "numbers"] ["self", "numbers"] (defScope s_Row_init) := ⟨rfl, rfl, rfl, by decide +kernel, rfl, by decide +kernel, by decide +kernel⟩
theorem fn_Row_init (S : SayL K mg) : MeB P w K mg base (L2.CX P w) 1 (He.ga K "Row") "__init__" ["self", "numbers"] (spL K 2 f_Row_init) := by
  refine meL (own := []) (own' := []) (g := m_Row_init) s_Row_init S 32 101 rfl rfl sc_Row_init (fun _ _ _ _ _ _ us hl => match us, hl with | [_, _], _ => rfl) rfl (by decide) (by decide) (fun f cdv A outer s H E hr => ?_)
  have hu := hu_of hr
  exact (sts_cons (st_stF .f (i := 0) (C_Row S) (N_Row_numbers S) (pv 0) (ev_var (pv 1)))
      (sts_one (st_stF .f (i := 0) (C_Row S) (N_Row_spot S) (pv 0) (ev_int pe_int))))
theorem sc_is_int : FnScope ["value"] ["value"] (defScope s_is_int) := ⟨rfl, rfl, rfl, by decide +kernel, rfl, by decide +kernel, by decide +kernel⟩
theorem fn_is_int (S : SayL K mg) : Fn P w K mg base (L2.CX P w) 1 "is_int" ["value"] (spP K 1 f_is_int) := by
  refine (fnP (own := []) (own' := []) (g := m_is_int) s_is_int S 1 24 rfl rfl sc_is_int (fun _ _ _ _ _ _ us hl => match us, hl with | [_], _ => rfl) rfl (by decide) (fun f cdv A outer s H E hr => ?_)).imp pure_imp
  have hu := hu_of hr
  exact (sts_one (st_ret (ev_and (ev_b (c_isK Kd.int (by decide)) (by rfl) (S_isinstance S) (by decide +kernel) (eva_cons (ev_var (pv 0)) (eva_cons (ev_cst (pe_bltn (v := .ty "int") rfl (S_int S) (by decide +kernel) rfl) (fun _ => .ty _)) eva_nil))) (ev_one (ev_not (ev_b (c_isK Kd.bl (by decide)) (by rfl) (S_isinstance S) (by decide +kernel) (eva_cons (ev_var (pv 0)) (eva_cons (ev_cst (pe_bltn (v := .ty "bool") rfl (S_bool S) (by decide +kernel) rfl) (fun _ => .ty _)) eva_nil))))))))
theorem sc_is_int_in : FnScope ["value", "low", "high"] ["value", "low", "high"] (defScope s_is_int_in) := ⟨rfl, rfl, rfl, by decide +kernel, rfl, by decide +kernel, by decide +kernel⟩
theorem fn_is_int_in (S : SayL K mg) : Fn P w K mg base (L2.CX P w) 3 "is_int_in" ["value", "low", "high"] (spP K 3 f_is_int_in) := by
  have F_is_int := fn_is_int (P := P) (w := w) (base := base) S
  refine (fnP (own := []) (own' := []) (g := m_is_int_in) s_is_int_in S 2 25 rfl rfl sc_is_int_in (fun _ _ _ _ _ _ us hl => match us, hl with | [_, _, _], _ => rfl) rfl (by decide) (fun f cdv A outer s H E hr => ?_)).imp pure_imp
  have hu := hu_of hr
  have hr_is_int : Room 1 _ := hr.mono (by decide)
  have hr1_is_int : Room 2 _ := hr.mono (by decide)
  exact (sts_one (st_ret (ev_and (ev_fn F_is_int hr_is_int (pass_x rfl rfl rfl rfl) (eva_cons (ev_var (pv 0)) eva_nil)) (ev_one (ev_chain o_le o_le (ev_var (pv 1)) (ev_var (pv 0)) (ev_var (pv 2)))))))
theorem sc_Row_next_in : FnScope ["self", "low", "high"] ["self", "low", "high"] (defScope s_Row_next_in) := ⟨rfl, rfl, rfl, by decide +kernel, rfl, by decide +kernel, by decide +kernel⟩
theorem fn_Row_next_in (S : SayL K mg) : MeB P w K mg base (L2.CX P w) 5 (He.ga K "Row") "next_in" ["self", "low", "high"] (spL K 3 f_Row_next_in) := by
  have F_is_int_in := fn_is_int_in (P := P) (w := w) (base := base) S
  refine meL (own := []) (own' := []) (g := m_Row_next_in) s_Row_next_in S 33 102 rfl rfl sc_Row_next_in (fun _ _ _ _ _ _ us hl => match us, hl with | [_, _, _], _ => rfl) rfl (by decide) (by decide) (fun f cdv A outer s H E hr => ?_)
  have hu := hu_of hr
  have hr_exi : Room 2 _ := hr.mono (by decide)
  have hr_is_int_in : Room 3 _ := hr.mono (by decide)
  have hr1_is_int_in : Room 4 _ := hr.mono (by decide)
  exact (sts_cons (st_if .f (evt_w (evw_or (evt_cmp o_eqS (ev_fldL (C_Row S) (N_Row_spot S) (pv 0)) (ev_b c_len (by rfl) (S_len S) (by decide +kernel) (eva_cons (ev_fldL (C_Row S) (N_Row_numbers S) (pv 0)) eva_nil)) (nomark _)) (evw_or1 (evt_not (evt_val (ev_fn F_is_int_in hr_is_int_in (pass_x rfl rfl rfl rfl) (eva_cons (ev_ix o_ix (ev_fldL (C_Row S) (N_Row_numbers S) (pv 0)) (ev_fldL (C_Row S) (N_Row_spot S) (pv 0)) (fun _ _ => rfl)) (eva_cons (ev_var (pv 1)) (eva_cons (ev_var (pv 2)) eva_nil))))))))) (sts_one (st_raiseI rfl rfl rfl rfl rfl (inferInstanceAs (PfOk P)) (exiB_ok (X_exi_DecodeError S)) (by decide) (.inr rfl) (S_super S) hr_exi (S_DecodeError S) (ev_fldL (C_Row S) (N_Row_spot S) (pv 0)))) sts_nil)
      (sts_cons (st_augFL (i := 0) io_add (C_Row S) (N_Row_spot S) (pv 0) (ev_int pe_int))
      (sts_one (st_ret (ev_ix o_ix (ev_fldL (C_Row S) (N_Row_numbers S) (pv 0)) (ev_op o_sub (ev_fldL (C_Row S) (N_Row_spot S) (pv 0)) (ev_int pe_int)) (fun _ _ => rfl))))))
theorem sc_Row_slack : FnScope ["self", "least", "high"] ["self", "least"] (defScope s_Row_slack) := ⟨rfl, rfl, rfl, by decide +kernel, rfl, by decide +kernel, by decide +kernel⟩
theorem fn_Row_slack (S : SayL K mg) : MeB P w K mg base (L2.CX P w) 7 (He.ga K "Row") "slack" ["self", "least"] (spL K 2 f_Row_slack) := by
  have F_Row_next_in := fn_Row_next_in (P := P) (w := w) (base := base) S
  refine meL (own := []) (own' := []) (g := m_Row_slack) s_Row_slack S 34 103 rfl rfl sc_Row_slack (fun _ _ _ _ _ _ us hl => match us, hl with | [_, _], _ => rfl) rfl (by decide) (by decide) (fun f cdv A outer s H E hr => ?_)
  have hu := hu_of hr
  have hr_Row_next_in : Room 5 _ := hr.mono (by decide)
  have hr1_Row_next_in : Room 6 _ := hr.mono (by decide)
  exact (sts_cons (st_set .f (i := 2) sc_Row_slack.nd rfl (by first | exact Or.inl rfl | exact Or.inr rfl) (ev_meL F_Row_next_in (C_Row S) hr_Row_next_in (pass_x rfl rfl rfl rfl) (pv 0) (eva_cons (ev_op o_fdiv (ev_var (pv 1)) (ev_int (pe_gint (S_BASE S)))) (eva_cons (ev_op o_fdiv (ev_int (pe_gint (S_MAX_DEEP S))) (ev_int (pe_gint (S_BASE S)))) eva_nil))))
      (sts_one (st_ret (ev_op o_add (ev_op o_mul (ev_int (pe_gint (S_BASE S))) (ev_var (pv 2))) (ev_meL F_Row_next_in (C_Row S) hr_Row_next_in (pass_x rfl rfl rfl rfl) (pv 0) (eva_cons (ev_b (c_max2 rfl) (by rfl) (S_max S) (by decide +kernel) (eva_cons (ev_int pe_int) (eva_cons (ev_op o_sub (ev_var (pv 1)) (ev_op o_mul (ev_int (pe_gint (S_BASE S))) (ev_var (pv 2)))) eva_nil))) (eva_cons (ev_b (c_min2 rfl) (by rfl) (S_min S) (by decide +kernel) (eva_cons (ev_int (pe_gint (S_MOST S))) (eva_cons (ev_op o_sub (ev_int (pe_gint (S_MAX_DEEP S))) (ev_op o_mul (ev_int (pe_gint (S_BASE S))) (ev_var (pv 2)))) eva_nil))) eva_nil)))))))
theorem sc_Row_arm : FnScope ["self", "is_less", "begin", "found", "part"] ["self"] (defScope s_Row_arm) := ⟨rfl, rfl, rfl, by decide +kernel, rfl, by decide +kernel, by decide +kernel⟩
theorem fn_Row_arm (S : SayL K mg) : MeB P w K mg base (L2.CX P w) 7 (He.ga K "Row") "arm" ["self"] (spL K 1 f_Row_arm) := by
  have F_Row_next_in := fn_Row_next_in (P := P) (w := w) (base := base) S
  refine meL (own := []) (own' := []) (g := m_Row_arm) s_Row_arm S 35 104 rfl rfl sc_Row_arm (fun _ _ _ _ _ _ us hl => match us, hl with | [_], _ => rfl) rfl (by decide) (by decide) (fun f cdv A outer s H E hr => ?_)
  have hu := hu_of hr
  have hr_exi : Room 2 _ := hr.mono (by decide)
  have hr_Row_next_in : Room 5 _ := hr.mono (by decide)
  have hr1_Row_next_in : Room 6 _ := hr.mono (by decide)
  exact (sts_cons (st_set .f (i := 1) sc_Row_arm.nd rfl (by first | exact Or.inl rfl | exact Or.inr rfl) (ev_cmp o_eqS (ev_meL F_Row_next_in (C_Row S) hr_Row_next_in (pass_x rfl rfl rfl rfl) (pv 0) (eva_cons (ev_int pe_int) (eva_cons (ev_int pe_int) eva_nil))) (ev_int pe_int) (nomark _)))
      (sts_cons (st_par (i := 2) (j := 3) (by rfl) sc_Row_arm.nd rfl rfl (by decide) rfl rfl (evm_old (ev_fldL (C_Row S) (N_Row_spot S) (pv 0)) (evm_old (ev_int pe_int) evm_nil)) (by rfl))
      (sts_cons (st_forR .f (vs := [4]) (passes_of rfl) rfl (evi_rng1 (by rfl) (S_range S) (eva_cons (ev_int pe_int) eva_nil)) ⟨(pg_name (i := 4) sc_Row_arm.nd rfl (by first | exact Or.inl rfl | exact Or.inr rfl)), (tg_name (by decide))⟩ (sts_one (st_set .f (i := 3) sc_Row_arm.nd rfl (by first | exact Or.inl rfl | exact Or.inr rfl) (ev_op o_add (ev_op o_mul (ev_int (pe_gint (S_BASE S))) (ev_var (pv 3))) (ev_meL F_Row_next_in (C_Row S) hr_Row_next_in (pass_x rfl rfl rfl rfl) (pv 0) (eva_cons (ev_int pe_int) (eva_cons (ev_int (pe_gint (S_MOST S))) eva_nil)))))))
      (sts_cons (st_if .f (evt_not (evt_chain o_le o_le (ev_int pe_int) (ev_var (pv 3)) (ev_int (pe_gint (S_FAR S))))) (sts_one (st_raiseI rfl rfl rfl rfl rfl (inferInstanceAs (PfOk P)) (exiB_ok (X_exi_DecodeError S)) (by decide) (.inr rfl) (S_super S) hr_exi (S_DecodeError S) (ev_var (pv 2)))) sts_nil)
      (sts_one (st_ret (ev_if (evt_val (ev_var (pv 1))) (ev_neg (ev_var (pv 3))) (ev_var (pv 3)))))))))
theorem sc_checksum : FnScope ["numbers", "found", "number"] ["numbers"] (defScope s_checksum) := ⟨rfl, rfl, rfl, by decide +kernel, rfl, by decide +kernel, by decide +kernel⟩
theorem fn_checksum (S : SayL K mg) : Fn P w K mg base (L2.CX P w) 1 "checksum" ["numbers"] (spP K 1 f_checksum) := by
  refine (fnP (own := []) (own' := []) (g := m_checksum) s_checksum S 31 51 rfl rfl sc_checksum (fun _ _ _ _ _ _ us hl => match us, hl with | [_], _ => rfl) rfl (by decide) (fun f cdv A outer s H E hr => ?_)).imp pure_imp
  have hu := hu_of hr
  exact (sts_cons (st_set .f (i := 1) sc_checksum.nd rfl (by first | exact Or.inl rfl | exact Or.inr rfl) (ev_int (pe_gint (S_START S))))
      (sts_cons (st_for (vs := [2]) (passes_of rfl) rfl (evi_list (ev_var (pv 0))) ⟨(pg_name (i := 2) sc_checksum.nd rfl (by first | exact Or.inl rfl | exact Or.inr rfl)), (tg_name (by decide))⟩ (sts_one (st_set .f (i := 1) sc_checksum.nd rfl (by first | exact Or.inl rfl | exact Or.inr rfl) (ev_op o_mod (ev_ty c_int1 (by rfl) (S_int S) (by decide +kernel) (eva_cons (ev_op o_add (ev_op o_mul (ev_int (pe_gint (S_FACTOR S))) (ev_var (pv 1))) (ev_var (pv 2))) eva_nil)) (ev_int (pe_gint (S_MODULUS S)))))))
      (sts_one (st_ret (ev_var (pv 1))))))
theorem sc_Rig_init : FnScope ["self", "arms"] ["self", "arms"] (defScope s_Rig_init) := ⟨rfl, rfl, rfl, by decide +kernel, rfl, by decide +kernel, by decide +kernel⟩
theorem fn_Rig_init (S : SayL K mg) : MeB P w K mg base (L2.CX P w) 1 (He.ga K "Rig") "__init__" ["self", "arms"] (spL K 2 f_Rig_init) := by
  refine meL (own := []) (own' := []) (g := m_Rig_init) s_Rig_init S 16 84 rfl rfl sc_Rig_init (fun _ _ _ _ _ _ us hl => match us, hl with | [_, _], _ => rfl) rfl (by decide) (by decide) (fun f cdv A outer s H E hr => ?_)
  have hu := hu_of hr
  exact (sts_one (st_stF .f (i := 0) (C_Rig S) (N_Rig_told S) (pv 0) (ev_var (pv 1))))
theorem sc_decode : FnScope ["numbers", "row", "arms", "least", "part", "slack", "check"] ["numbers"] (defScope s_decode) := ⟨rfl, rfl, rfl, by decide +kernel, rfl, by decide +kernel, by decide +kernel⟩
theorem fn_decode (S : SayL K mg) : Fn P w K mg base (L2.CX P w) 9 "decode" ["numbers"] (spP K 1 f_decode) := by
  have F_Row_init := fn_Row_init (P := P) (w := w) (base := base) S
  have F_Row_next_in := fn_Row_next_in (P := P) (w := w) (base := base) S
  have F_Row_slack := fn_Row_slack (P := P) (w := w) (base := base) S
  have F_Row_arm := fn_Row_arm (P := P) (w := w) (base := base) S
  have F_checksum := fn_checksum (P := P) (w := w) (base := base) S
  have F_Rig_init := fn_Rig_init (P := P) (w := w) (base := base) S
  refine ((fnP (own := [1, 2]) (own' := []) (g := m_decode) s_decode S 36 53 rfl rfl sc_decode (fun _ _ _ _ _ _ us hl => match us, hl with | [_], _ => rfl) rfl (by decide) (fun f cdv A outer s H E hr => ?_)).imp cut_imp).imp pure_imp
  have hu := hu_of hr
  have hr_exi : Room 2 _ := hr.mono (by decide)
  have hr_Row_init : Room 1 _ := hr.mono (by decide)
  have hr1_Row_init : Room 2 _ := hr.mono (by decide)
  have hr_Row_next_in : Room 5 _ := hr.mono (by decide)
  have hr1_Row_next_in : Room 6 _ := hr.mono (by decide)
  have hr_Row_slack : Room 7 _ := hr.mono (by decide)
  have hr1_Row_slack : Room 8 _ := hr.mono (by decide)
  have hr_Row_arm : Room 7 _ := hr.mono (by decide)
  have hr1_Row_arm : Room 8 _ := hr.mono (by decide)
  have hr_checksum : Room 1 _ := hr.mono (by decide)
  have hr1_checksum : Room 2 _ := hr.mono (by decide)
  have hr_Rig_init : Room 1 _ := hr.mono (by decide)
  have hr1_Rig_init : Room 2 _ := hr.mono (by decide)
  exact (sts_cons (st_if .f (evt_not (evt_val (ev_b (c_isK Kd.lst (by decide)) (by rfl) (S_isinstance S) (by decide +kernel) (eva_cons (ev_var (pv 0)) (eva_cons (ev_cst (pe_bltn (v := .ty "list") rfl (S_list S) (by decide +kernel) rfl) (fun _ => .ty _)) eva_nil))))) (sts_one (st_raiseI rfl rfl rfl rfl rfl (inferInstanceAs (PfOk P)) (exiB_ok (X_exi_DecodeError S)) (by decide) (.inr rfl) (S_super S) hr_exi (S_DecodeError S) (ev_int pe_int))) sts_nil)
      (sts_cons (st_par (i := 1) (j := 2) (by rfl) sc_decode.nd rfl rfl (by decide) rfl rfl (evm_new (evf_mk F_Row_init (K_Row S).makes (K_Row S).kp (S_Row S) hr1_Row_init (pass_x rfl rfl rfl rfl) (eva_cons (ev_var (pv 0)) eva_nil)) (evm_new (evf_lst eva_nil) evm_nil)) (by rfl))
      (sts_local (i := 1) (by decide) (sts_cons (st_expr .f (ev_meL F_Row_next_in (C_Row S) hr_Row_next_in (pass_x rfl rfl rfl rfl) (pv 1) (eva_cons (ev_int (pe_gint (S_FIRST S))) (eva_cons (ev_int (pe_gint (S_FIRST S))) eva_nil))))
      (sts_cons (st_set .f (i := 3) sc_decode.nd rfl (by first | exact Or.inl rfl | exact Or.inr rfl) (ev_int pe_int))
      (sts_cons (st_forR .f (vs := [4]) (passes_of rfl) rfl (evi_rng1 (by rfl) (S_range S) (eva_cons (ev_meL F_Row_next_in (C_Row S) hr_Row_next_in (pass_x rfl rfl rfl rfl) (pv 1) (eva_cons (ev_int pe_int) (eva_cons (ev_int (pe_gint (S_MAX_ARMS S))) eva_nil))) eva_nil)) ⟨(pg_name (i := 4) sc_decode.nd rfl (by first | exact Or.inl rfl | exact Or.inr rfl)), (tg_name (by decide))⟩ (sts_cons (st_if .f (evt_cmp o_gt (ev_var (pv 3)) (ev_int (pe_gint (S_MAX_DEEP S))) (nomark _)) (sts_one (st_raiseI rfl rfl rfl rfl rfl (inferInstanceAs (PfOk P)) (exiB_ok (X_exi_DecodeError S)) (by decide) (.inr rfl) (S_super S) hr_exi (S_DecodeError S) (ev_fldL (C_Row S) (N_Row_spot S) (pv 1)))) sts_nil)
      (sts_cons (st_set .f (i := 5) sc_decode.nd rfl (by first | exact Or.inl rfl | exact Or.inr rfl) (ev_meL F_Row_slack (C_Row S) hr_Row_slack (pass_x rfl rfl rfl rfl) (pv 1) (eva_cons (ev_var (pv 3)) eva_nil)))
      (sts_cons (st_app .f (by decide) (pv 2) (eva_cons (ev_tup (eva_cons (ev_var (pv 5)) (eva_cons (ev_meL0 F_Row_arm (C_Row S) hr_Row_arm (pass_x rfl rfl rfl rfl) (pv 1)) eva_nil))) eva_nil))
      (sts_one (st_set .f (i := 3) sc_decode.nd rfl (by first | exact Or.inl rfl | exact Or.inr rfl) (ev_op o_add (ev_var (pv 5)) (ev_int pe_int))))))))
      (sts_cons (st_set .f (i := 6) sc_decode.nd rfl (by first | exact Or.inl rfl | exact Or.inr rfl) (ev_fn F_checksum hr_checksum (pass_x rfl rfl rfl rfl) (eva_cons (ev_sl (ev_var (pv 0)) evo_none (evo_some (ev_fldL (C_Row S) (N_Row_spot S) (pv 1)))) eva_nil)))
      (sts_cons (st_expr .f (ev_meL F_Row_next_in (C_Row S) hr_Row_next_in (pass_x rfl rfl rfl rfl) (pv 1) (eva_cons (ev_var (pv 6)) (eva_cons (ev_var (pv 6)) eva_nil))))
      (sts_cons (st_if .f (evt_cmp o_lt (ev_fldL (C_Row S) (N_Row_spot S) (pv 1)) (ev_b c_len (by rfl) (S_len S) (by decide +kernel) (eva_cons (ev_var (pv 0)) eva_nil)) (nomark _)) (sts_one (st_raiseI rfl rfl rfl rfl rfl (inferInstanceAs (PfOk P)) (exiB_ok (X_exi_DecodeError S)) (by decide) (.inr rfl) (S_super S) hr_exi (S_DecodeError S) (ev_fldL (C_Row S) (N_Row_spot S) (pv 1)))) sts_nil)
      (sts_frz (own2 := []) (by decide) (sts_one (st_ret (ev_mk F_Rig_init (K_Rig S).makes (K_Rig S).kp (S_Rig S) hr1_Rig_init (pass_x rfl rfl rfl rfl) (eva_cons (ev_ty c_tupA (by rfl) (S_tuple S) (by decide +kernel) (eva_cons (ev_var (pv 2)) eva_nil)) eva_nil))))))))))))))
theorem sc_law : FnScope ["_law_script", "_law_d", "_law_step", "_law_arms", "_law_numbers_here", "_law_kind", "_law_at", "_law_given", "_law_offset", "_law_slack", "_law_head", "_law_less", "_law_ends"] ["_law_script"] (defScope s_law) := ⟨rfl, rfl, rfl, by decide +kernel, rfl, by decide +kernel, by decide +kernel⟩
theorem ls_0 : LamS l_0 := lamS_of (by decide +kernel) (fun cl c dV doc pm ctv s h => lam_b0 (h.elim (·.2) (fun z => absurd rfl z.1)) (by rfl))
theorem lok_0 {X : Cx} (hN : X.N = l_0.N) (hsc : X.env.scope = defScope s_law) : LamOk X l_0 := lamOk_of ls_0 hN hsc (by decide +kernel)
theorem ls_1 : LamS l_1 := lamS_of (by decide +kernel) (fun cl c dV doc pm ctv s h => lam_b0 (h.elim (·.2) (fun z => absurd rfl z.1)) (by rfl))
theorem lok_1 {X : Cx} (hN : X.N = l_1.N) (hsc : X.env.scope = defScope s_law) : LamOk X l_1 := lamOk_of ls_1 hN hsc (by decide +kernel)
theorem lamL {X : Cx} (hN : X.N = l_0.N) (hsc : X.env.scope = defScope s_law) : AllT (fun l _ => LamOk X l) lamTab := .cons (lok_0 hN hsc) (.cons (lok_1 hN hsc) (.nil))
theorem lb_0 (S : SayL K mg) : LamBody P w K mg base 11 l_0 g_0 := by
  refine ⟨ls_0, fun cl A outer s H E f c hr => ?_⟩
  have hu := hu_of hr
  have F_decode := fn_decode (P := P) (w := w) (base := base) S
  have hr_decode : Room 9 _ := hr.mono (by decide)
  have hr1_decode : Room 10 _ := hr.mono (by decide)
  have sc : FnScope ["_law_script", "_law_d", "_law_step", "_law_arms", "_law_numbers_here", "_law_kind", "_law_at", "_law_given", "_law_offset", "_law_slack", "_law_head", "_law_less", "_law_ends"] ["_law_script"] (defScope s_law) := sc_law
  exact (ev_fn F_decode hr_decode (pass_x rfl rfl rfl rfl) (eva_cons (ev_var (pv 7)) eva_nil))
theorem lb_1 (S : SayL K mg) : LamBody P w K mg base 11 l_1 g_1 := by
  refine ⟨ls_1, fun cl A outer s H E f c hr => ?_⟩
  have hu := hu_of hr
  have F_decode := fn_decode (P := P) (w := w) (base := base) S
  have hr_decode : Room 9 _ := hr.mono (by decide)
  have hr1_decode : Room 10 _ := hr.mono (by decide)
  have sc : FnScope ["_law_script", "_law_d", "_law_step", "_law_arms", "_law_numbers_here", "_law_kind", "_law_at", "_law_given", "_law_offset", "_law_slack", "_law_head", "_law_less", "_law_ends"] ["_law_script"] (defScope s_law) := sc_law
  exact (ev_fn F_decode hr_decode (pass_x rfl rfl rfl rfl) (eva_cons (EvF.ev (evf_lst (eva_cons (ev_int pe_int) (eva_cons (ev_int pe_int) (eva_cons (ev_int pe_int) (eva_cons (ev_int pe_int) (eva_cons (ev_int pe_int) (eva_cons (ev_int pe_int) (eva_cons (ev_int pe_int) (eva_cons (ev_int pe_int) (eva_cons (ev_int pe_int) (eva_cons (ev_int pe_int) (eva_cons (ev_int pe_int) (eva_cons (ev_int pe_int) (eva_cons (ev_int pe_int) (eva_cons (ev_int pe_int) eva_nil)))))))))))))))) eva_nil))
theorem tabB (S : SayL K mg) : TabB P w K mg base 11 lamTab := lamG_all (.cons (lb_0 S) (.cons (lb_1 S) (.nil)))
theorem sc_L_error_of : FnScope ["_law_call", "e", "_law_kinds", "_law_names", "_law_name"] ["_law_call"] (defScope s_L_error_of) := ⟨rfl, rfl, rfl, by decide +kernel, rfl, by decide +kernel, by decide +kernel⟩
theorem fn_L_error_of (S : SayL K mg) {tab : LamTab} (hT : TabB P w K mg base 11 tab) : Fn P w K mg base (L2.CX P w) 13 "_law_error_of" ["_law_call"] (spP K 1 (f_L_error_of tab)) := by
  refine fnP (own := []) (own' := []) (g := (m_L_error_of tab)) s_L_error_of S 42 59 rfl rfl sc_L_error_of (fun _ _ _ _ _ _ us hl => match us, hl with | [_], _ => rfl) rfl (by decide) (fun f cdv A outer s H E hr => ?_)
  have hu := hu_of hr
  have hr_clo : Room 12 _ := hr.mono (by decide)
  exact (sts_cons (st_tryR (i := 1) (ol2 := []) (mt := errIn) (res := errRes) (gh := gh_L_error_of) rfl rfl sc_L_error_of.nd rfl rfl ⟨rfl, by decide, .inl (S_RodError S)⟩ takes_nil (by decide) (fun c hc => (errB_ok (X_err S) hc).root) (fun pn xe E' hpx => (sts_one (st_expr .f (ev_clo (fe := noExpr) hT hr_clo hpx (pv 0))))) (fun c hc a oe d pn hz hf => (sts_cons (st_set .f (i := 2) sc_L_error_of.nd rfl (by first | exact Or.inl rfl | exact Or.inr rfl) (EvF.ev (evf_lst (eva_cons (ev_isE (errB_ok (X_err S) hc) (by decide) hz hf (S_isinstance S) (S_InvalidSlack S) (pv 1)) (eva_cons (ev_isE (errB_ok (X_err S) hc) (by decide) hz hf (S_isinstance S) (S_InvalidTimes S) (pv 1)) (eva_cons (ev_isE (errB_ok (X_err S) hc) (by decide) hz hf (S_isinstance S) (S_NotForward S) (pv 1)) eva_nil))))))
      (sts_cons (st_set .f (i := 2) sc_L_error_of.nd rfl (by first | exact Or.inl rfl | exact Or.inr rfl) (ev_op o_cat (ev_var (pv 2)) (EvF.ev (evf_lst (eva_cons (ev_isE (errB_ok (X_err S) hc) (by decide) hz hf (S_isinstance S) (S_TooGreat S) (pv 1)) (eva_cons (ev_isE (errB_ok (X_err S) hc) (by decide) hz hf (S_isinstance S) (S_InvalidPlace S) (pv 1)) (eva_cons (ev_isE (errB_ok (X_err S) hc) (by decide) hz hf (S_isinstance S) (S_InvalidCount S) (pv 1)) eva_nil)))))))
      (sts_cons (st_set .f (i := 2) sc_L_error_of.nd rfl (by first | exact Or.inl rfl | exact Or.inr rfl) (ev_op o_cat (ev_var (pv 2)) (EvF.ev (evf_lst (eva_cons (ev_isE (errB_ok (X_err S) hc) (by decide) hz hf (S_isinstance S) (S_InvalidRange S) (pv 1)) (eva_cons (ev_isE (errB_ok (X_err S) hc) (by decide) hz hf (S_isinstance S) (S_OutOfBound S) (pv 1)) (eva_cons (ev_isE (errB_ok (X_err S) hc) (by decide) hz hf (S_isinstance S) (S_Contradiction S) (pv 1)) eva_nil)))))))
      (sts_cons (st_set .f (i := 2) sc_L_error_of.nd rfl (by first | exact Or.inl rfl | exact Or.inr rfl) (ev_op o_cat (ev_var (pv 2)) (EvF.ev (evf_lst (eva_cons (ev_isE (errB_ok (X_err S) hc) (by decide) hz hf (S_isinstance S) (S_InvalidName S) (pv 1)) (eva_cons (ev_isE (errB_ok (X_err S) hc) (by decide) hz hf (S_isinstance S) (S_UnknownName S) (pv 1)) (eva_cons (ev_isE (errB_ok (X_err S) hc) (by decide) hz hf (S_isinstance S) (S_InvalidPanel S) (pv 1)) eva_nil)))))))
      (sts_cons (st_set .f (i := 2) sc_L_error_of.nd rfl (by first | exact Or.inl rfl | exact Or.inr rfl) (ev_op o_cat (ev_var (pv 2)) (EvF.ev (evf_lst (eva_cons (ev_isE (errB_ok (X_err S) hc) (by decide) hz hf (S_isinstance S) (S_UnlikeRigs S) (pv 1)) (eva_cons (ev_isE (errB_ok (X_err S) hc) (by decide) hz hf (S_isinstance S) (S_InvalidRow S) (pv 1)) (eva_cons (ev_isE (errB_ok (X_err S) hc) (by decide) hz hf (S_isinstance S) (S_InvalidEnds S) (pv 1)) eva_nil)))))))
      (sts_cons (st_set .f (i := 2) sc_L_error_of.nd rfl (by first | exact Or.inl rfl | exact Or.inr rfl) (ev_op o_cat (ev_var (pv 2)) (EvF.ev (evf_lst (eva_cons (ev_isE (errB_ok (X_err S) hc) (by decide) hz hf (S_isinstance S) (S_InvalidMemory S) (pv 1)) (eva_cons (ev_isE (errB_ok (X_err S) hc) (by decide) hz hf (S_isinstance S) (S_InvalidOperation S) (pv 1)) eva_nil))))))
      (sts_cons (st_set .f (i := 2) sc_L_error_of.nd rfl (by first | exact Or.inl rfl | exact Or.inr rfl) (ev_op o_cat (ev_var (pv 2)) (EvF.ev (evf_lst (eva_cons (ev_isE (errB_ok (X_err S) hc) (by decide) hz hf (S_isinstance S) (S_InvalidRecording S) (pv 1)) (eva_cons (ev_isE (errB_ok (X_err S) hc) (by decide) hz hf (S_isinstance S) (S_NotationError S) (pv 1)) (eva_cons (ev_isE (errB_ok (X_err S) hc) (by decide) hz hf (S_isinstance S) (S_DecodeError S) (pv 1)) eva_nil)))))))
      (sts_cons (st_if .f (evt_w (evw_or (evt_cmp o_neS (ev_bml PySem.F.slot_list_count PySem.F.type_list_count m_countF (ev_var (pv 2)) (eva_cons (ev_bl pe_bl) eva_nil)) (ev_int pe_int) (nomark _)) (evw_or1 (evt_not (evt_val (ev_isV (errB_ok (X_err S) hc) hz hf (S_isinstance S) (S_ValueError S) (pv 1))))))) (sts_one (st_ret (ev_tup (eva_cons (ev_str pe_str) (eva_cons (ev_int pe_int) eva_nil))))) sts_nil)
      (sts_cons (st_set .f (i := 3) sc_L_error_of.nd rfl (by first | exact Or.inl rfl | exact Or.inr rfl) (ev_str pe_str))
      (sts_cons (st_set .f (i := 3) sc_L_error_of.nd rfl (by first | exact Or.inl rfl | exact Or.inr rfl) (ev_op o_catS (ev_var (pv 3)) (ev_str pe_str)))
      (sts_cons (st_set .f (i := 4) sc_L_error_of.nd rfl (by first | exact Or.inl rfl | exact Or.inr rfl) (ev_ix o_ix (ev_split (ev_var (pv 3)) (ev_str pe_str)) (ev_bml PySem.F.slot_list_index PySem.F.type_list_index m_indexF (ev_var (pv 2)) (eva_cons (ev_bl pe_bl) eva_nil)) (fun _ _ => rfl)))
      (sts_cons (st_if .f (evt_cmp (o_inD hr.units) (ev_var (pv 4)) (EvF.ev (evf_lst (eva_cons (ev_str pe_str) (eva_cons (ev_str pe_str) (eva_cons (ev_str pe_str) (eva_cons (ev_str pe_str) (eva_cons (ev_str pe_str) (eva_cons (ev_str pe_str) eva_nil)))))))) (by rfl)) (sts_one (st_ret (ev_tup (eva_cons (ev_var (pv 4)) (eva_cons (ev_xf (errB_ok (X_err S) hc) (.inl rfl) hz hf (pv 1)) eva_nil))))) sts_nil)
      (sts_one (st_ret (ev_tup (eva_cons (ev_var (pv 4)) (eva_cons (ev_if (evt_cmp o_eqS (ev_var (pv 4)) (ev_str pe_str) (nomark _)) (ev_xf (errB_ok (X_err S) hc) (.inr rfl) hz hf (pv 1)) (ev_int pe_int)) eva_nil)))))))))))))))))) hres_L_error_of)
      (sts_one (st_ret (ev_non pe_non))))
theorem fn_law (S : SayL K mg) (TB : LamX.TabB base mg (He.cT K ("law", none)).1 (tabP K)) (hlaw : ∀ cl a0 st, stOk st = true → ∃ R', m_law cl (lawStart 13) [.lst (st.map D.int), .tab a0] = .rt (.bl true) R') : Fn P w K mg base CX0 15 "law" ["_law_script"] (spLawT K) := by
  have F_L_random := fn_L_random (P := P) (w := w) (base := base) S
  have F_L_some_arms := fn_L_some_arms (P := P) (w := w) (base := base) S
  have F_L_below := fn_L_below (P := P) (w := w) (base := base) S
  have F_L_numbers := fn_L_numbers (P := P) (w := w) (base := base) S
  have F_L_error_of := fn_L_error_of (P := P) (w := w) (base := base) S (tabB S)
  refine law_mk (k := 14) (n := 13) (salt := 53) (own := []) (own' := []) (g := m_law) s_law S 43 60 rfl rfl sc_law (fun _ _ _ _ _ _ us hl => match us, hl with | [_], _ => rfl) rfl (by decide) (by decide) rfl (by decide) TB (fun f cdv A outer s H E hr => ?_) (fun f cdv A outer s H E hr LX => ?_) hlaw
  · have hr_L_random : Room 1 _ := hr.mono (by decide)
    exact (ps_set (i := 1) sc_law.nd rfl (by first | exact Or.inl rfl | exact Or.inr rfl) (pe_fn F_L_random hr_L_random pass0 (pa_cons (pv 0) (pa_cons pe_int pa_nil))))
  · have hu := hu_of hr
    have hr_L_random : Room 1 _ := hr.mono (by decide)
    have hr1_L_random : Room 2 _ := hr.mono (by decide)
    have hr_L_some_arms : Room 3 _ := hr.mono (by decide)
    have hr1_L_some_arms : Room 4 _ := hr.mono (by decide)
    have hr_L_below : Room 1 _ := hr.mono (by decide)
    have hr1_L_below : Room 2 _ := hr.mono (by decide)
    have hr_L_numbers : Room 3 _ := hr.mono (by decide)
    have hr1_L_numbers : Room 4 _ := hr.mono (by decide)
    have hr_L_error_of : Room 13 _ := hr.mono (by decide)
    have hr1_L_error_of : Room 14 _ := hr.mono (by decide)
    exact (sts_cons (st_forR .f (vs := [2]) PassesOwn.never rfl (evi_rng1 (by rfl) (S_range S) (eva_cons (ev_int pe_int) eva_nil)) ⟨(pg_name (i := 2) sc_law.nd rfl (by first | exact Or.inl rfl | exact Or.inr rfl)), (tg_name (by decide))⟩ (sts_cons (st_set .f (i := 3) sc_law.nd rfl (by first | exact Or.inl rfl | exact Or.inr rfl) (ev_fnL F_L_some_arms hr_L_some_arms pass_no (pv 1) (eva_cons (ev_int pe_int) eva_nil)))
      (sts_cons (st_par (i := 4) (j := 5) (by rfl) sc_law.nd rfl rfl (by decide) rfl rfl (evm_old (ev_fn F_L_numbers hr_L_numbers pass_no (eva_cons (ev_var (pv 3)) eva_nil)) (evm_old (ev_fnL F_L_below hr_L_below pass_no (pv 1) (eva_cons (ev_int pe_int) eva_nil)) evm_nil)) (by rfl))
      (sts_cons (st_set .f (i := 6) sc_law.nd rfl (by first | exact Or.inl rfl | exact Or.inr rfl) (ev_fnL F_L_below hr_L_below pass_no (pv 1) (eva_cons (ev_b c_len (by rfl) (S_len S) (by decide +kernel) (eva_cons (ev_var (pv 4)) eva_nil)) eva_nil)))
      (sts_cons (st_asg .f (vs := [7, 8]) (ev_tup (eva_cons (ev_sl (ev_var (pv 4)) evo_none (evo_some (ev_var (pv 6)))) (eva_cons (ev_var (pv 6)) eva_nil))) ⟨(pg_tup (n := 2) rfl (pgs_cons (pg_name (i := 7) sc_law.nd rfl (by first | exact Or.inl rfl | exact Or.inr rfl)) (pgs_cons (pg_name (i := 8) sc_law.nd rfl (by first | exact Or.inl rfl | exact Or.inr rfl)) pgs_nil))), (tg_tup (tgs_cons (tg_name (by decide)) (tgs_cons (tg_name (by decide)) tgs_nil)))⟩)
      (sts_cons (st_if .f (evt_cmp o_eqS (ev_var (pv 5)) (ev_int pe_int) (nomark _)) (sts_one (st_asg .f (vs := [7, 8]) (ev_tup (eva_cons (ev_op o_cat (ev_var (pv 4)) (EvF.ev (evf_lst (eva_cons (ev_fnL F_L_below hr_L_below pass_no (pv 1) (eva_cons (ev_int pe_int) eva_nil)) eva_nil)))) (eva_cons (ev_b c_len (by rfl) (S_len S) (by decide +kernel) (eva_cons (ev_var (pv 4)) eva_nil)) eva_nil))) ⟨(pg_tup (n := 2) rfl (pgs_cons (pg_name (i := 7) sc_law.nd rfl (by first | exact Or.inl rfl | exact Or.inr rfl)) (pgs_cons (pg_name (i := 8) sc_law.nd rfl (by first | exact Or.inl rfl | exact Or.inr rfl)) pgs_nil))), (tg_tup (tgs_cons (tg_name (by decide)) (tgs_cons (tg_name (by decide)) tgs_nil)))⟩)) sts_nil)
      (sts_cons (st_if .f (evt_cmp o_eqS (ev_var (pv 5)) (ev_int pe_int) (nomark _)) (sts_one (st_asg .f (vs := [7, 8]) (ev_tup (eva_cons (ev_op o_cat (ev_op o_cat (ev_sl (ev_var (pv 4)) evo_none (evo_some (ev_var (pv 6)))) (EvF.ev (evf_lst (eva_cons (ev_ix o_ix (EvF.ev (evf_lst (eva_cons (ev_int pe_int) (eva_cons (ev_op o_sub (ev_int pe_int) (ev_int pe_int)) (eva_cons (ev_non pe_non) (eva_cons (ev_bl pe_bl) (eva_cons (ev_str pe_str) eva_nil))))))) (ev_fnL F_L_below hr_L_below pass_no (pv 1) (eva_cons (ev_int pe_int) eva_nil)) (fun _ _ => rfl)) eva_nil)))) (ev_sl (ev_var (pv 4)) (evo_some (ev_op o_add (ev_var (pv 6)) (ev_int pe_int))) evo_none)) (eva_cons (ev_var (pv 6)) eva_nil))) ⟨(pg_tup (n := 2) rfl (pgs_cons (pg_name (i := 7) sc_law.nd rfl (by first | exact Or.inl rfl | exact Or.inr rfl)) (pgs_cons (pg_name (i := 8) sc_law.nd rfl (by first | exact Or.inl rfl | exact Or.inr rfl)) pgs_nil))), (tg_tup (tgs_cons (tg_name (by decide)) (tgs_cons (tg_name (by decide)) tgs_nil)))⟩)) sts_nil)
      (sts_cons (st_if .f (evt_cmp o_eqS (ev_var (pv 5)) (ev_int pe_int) (nomark _)) (sts_one (st_asg .f (vs := [7, 8]) (ev_tup (eva_cons (ev_op o_cat (ev_sl (ev_var (pv 4)) evo_none (evo_some (ev_neg (ev_int pe_int)))) (EvF.ev (evf_lst (eva_cons (ev_op o_mod (ev_ty c_int1 (by rfl) (S_int S) (by decide +kernel) (eva_cons (ev_op o_add (ev_op o_add (ev_ix o_ix (ev_var (pv 4)) (ev_neg (ev_int pe_int)) (fun _ _ => rfl)) (ev_int pe_int)) (ev_fnL F_L_below hr_L_below pass_no (pv 1) (eva_cons (ev_int pe_int) eva_nil))) eva_nil)) (ev_int pe_int)) eva_nil)))) (eva_cons (ev_op o_sub (ev_b c_len (by rfl) (S_len S) (by decide +kernel) (eva_cons (ev_var (pv 4)) eva_nil)) (ev_int pe_int)) eva_nil))) ⟨(pg_tup (n := 2) rfl (pgs_cons (pg_name (i := 7) sc_law.nd rfl (by first | exact Or.inl rfl | exact Or.inr rfl)) (pgs_cons (pg_name (i := 8) sc_law.nd rfl (by first | exact Or.inl rfl | exact Or.inr rfl)) pgs_nil))), (tg_tup (tgs_cons (tg_name (by decide)) (tgs_cons (tg_name (by decide)) tgs_nil)))⟩)) sts_nil)
      (sts_cons (st_if .f (evt_cmp o_eqS (ev_var (pv 5)) (ev_int pe_int) (nomark _)) (sts_cons (st_asg .f (vs := [7, 8]) (ev_tup (eva_cons (ev_op o_cat (ev_ix o_ix (EvF.ev (evf_lst (eva_cons (EvF.ev (evf_lst (eva_cons (ev_int pe_int) eva_nil))) (eva_cons (EvF.ev (evf_lst (eva_cons (ev_int pe_int) (eva_cons (ev_int pe_int) eva_nil)))) eva_nil)))) (ev_fnL F_L_below hr_L_below pass_no (pv 1) (eva_cons (ev_int pe_int) eva_nil)) (fun _ _ => rfl)) (ev_sl (ev_var (pv 4)) (evo_some (ev_int pe_int)) evo_none)) (eva_cons (ev_int pe_int) eva_nil))) ⟨(pg_tup (n := 2) rfl (pgs_cons (pg_name (i := 7) sc_law.nd rfl (by first | exact Or.inl rfl | exact Or.inr rfl)) (pgs_cons (pg_name (i := 8) sc_law.nd rfl (by first | exact Or.inl rfl | exact Or.inr rfl)) pgs_nil))), (tg_tup (tgs_cons (tg_name (by decide)) (tgs_cons (tg_name (by decide)) tgs_nil)))⟩)
      (sts_one (st_set .f (i := 8) sc_law.nd rfl (by first | exact Or.inl rfl | exact Or.inr rfl) (ev_ty c_int1 (by rfl) (S_int S) (by decide +kernel) (eva_cons (ev_cmp o_eqS (ev_ix o_ix (ev_var (pv 7)) (ev_int pe_int) (fun _ _ => rfl)) (ev_int pe_int) (nomark _)) eva_nil))))) sts_nil)
      (sts_cons (st_set .f (i := 9) sc_law.nd rfl (by first | exact Or.inl rfl | exact Or.inr rfl) (ev_fnL F_L_below hr_L_below pass_no (pv 1) (eva_cons (ev_int pe_int) eva_nil)))
      (sts_cons (st_set .f (i := 10) sc_law.nd rfl (by first | exact Or.inl rfl | exact Or.inr rfl) (EvF.ev (evf_lst (eva_cons (ev_int pe_int) (eva_cons (ev_int pe_int) (eva_cons (ev_op o_fdiv (ev_var (pv 9)) (ev_int pe_int)) (eva_cons (ev_op o_mod (ev_ty c_int1 (by rfl) (S_int S) (by decide +kernel) (eva_cons (ev_var (pv 9)) eva_nil)) (ev_int pe_int)) (eva_cons (ev_int pe_int) (eva_cons (ev_int pe_int) (eva_cons (ev_int pe_int) (eva_cons (ev_int pe_int) eva_nil)))))))))))
      (sts_cons (st_if .f (evt_cmp o_eqS (ev_var (pv 5)) (ev_int pe_int) (nomark _)) (sts_cons (st_set .f (i := 11) sc_law.nd rfl (by first | exact Or.inl rfl | exact Or.inr rfl) (ev_fnL F_L_below hr_L_below pass_no (pv 1) (eva_cons (ev_op o_add (ev_var (pv 9)) (ev_int pe_int)) eva_nil)))
      (sts_cons (st_asg .f (vs := [7, 8]) (ev_tup (eva_cons (ev_op o_cat (ev_var (pv 10)) (EvF.ev (evf_lst (eva_cons (ev_op o_fdiv (ev_var (pv 11)) (ev_int pe_int)) (eva_cons (ev_op o_mod (ev_ty c_int1 (by rfl) (S_int S) (by decide +kernel) (eva_cons (ev_var (pv 11)) eva_nil)) (ev_int pe_int)) (eva_cons (ev_int pe_int) (eva_cons (ev_int pe_int) (eva_cons (ev_int pe_int) (eva_cons (ev_int pe_int) eva_nil))))))))) (eva_cons (ev_int pe_int) eva_nil))) ⟨(pg_tup (n := 2) rfl (pgs_cons (pg_name (i := 7) sc_law.nd rfl (by first | exact Or.inl rfl | exact Or.inr rfl)) (pgs_cons (pg_name (i := 8) sc_law.nd rfl (by first | exact Or.inl rfl | exact Or.inr rfl)) pgs_nil))), (tg_tup (tgs_cons (tg_name (by decide)) (tgs_cons (tg_name (by decide)) tgs_nil)))⟩)
      (sts_one (st_set .f (i := 8) sc_law.nd rfl (by first | exact Or.inl rfl | exact Or.inr rfl) (ev_if (evt_cmp o_gt (ev_op o_fdiv (ev_op o_add (ev_var (pv 9)) (ev_int pe_int)) (ev_int pe_int)) (ev_op o_fdiv (ev_var (pv 11)) (ev_int pe_int)) (nomark _)) (ev_int pe_int) (ev_int pe_int)))))) sts_nil)
      (sts_cons (st_if .f (evt_cmp o_eqS (ev_var (pv 5)) (ev_int pe_int) (nomark _)) (sts_cons (st_set .f (i := 12) sc_law.nd rfl (by first | exact Or.inl rfl | exact Or.inr rfl) (EvF.ev (evf_lst (eva_cons (EvF.ev (evf_lst (eva_cons (ev_int pe_int) eva_nil))) (eva_cons (EvF.ev (evf_lst (eva_cons (ev_int pe_int) (eva_cons (ev_int pe_int) eva_nil)))) (eva_cons (EvF.ev (evf_lst (eva_cons (ev_int pe_int) (eva_cons (ev_int pe_int) (eva_cons (ev_int pe_int) eva_nil))))) (eva_cons (EvF.ev (evf_lst (eva_cons (ev_int pe_int) (eva_cons (ev_int pe_int) (eva_cons (ev_int pe_int) (eva_cons (ev_int pe_int) (eva_cons (ev_int pe_int) (eva_cons (ev_int pe_int) eva_nil)))))))) (eva_cons (EvF.ev (evf_lst (eva_cons (ev_int pe_int) (eva_cons (ev_int pe_int) (eva_cons (ev_int pe_int) (eva_cons (ev_int pe_int) (eva_cons (ev_int pe_int) (eva_cons (ev_int pe_int) eva_nil)))))))) (eva_cons (EvF.ev (evf_lst (eva_cons (ev_int pe_int) (eva_cons (ev_int pe_int) (eva_cons (ev_int pe_int) (eva_cons (ev_int pe_int) (eva_cons (ev_int pe_int) (eva_cons (ev_int pe_int) eva_nil)))))))) eva_nil)))))))))
      (sts_cons (st_asg .f (vs := [7, 8]) (ev_tup (eva_cons (ev_op o_cat (ev_op o_cat (EvF.ev (evf_lst (eva_cons (ev_int pe_int) (eva_cons (ev_int pe_int) eva_nil)))) (ev_ix o_ix (ev_var (pv 12)) (ev_fnL F_L_below hr_L_below pass_no (pv 1) (eva_cons (ev_int pe_int) eva_nil)) (fun _ _ => rfl))) (EvF.ev (evf_lst (eva_cons (ev_int pe_int) eva_nil)))) (eva_cons (ev_int pe_int) eva_nil))) ⟨(pg_tup (n := 2) rfl (pgs_cons (pg_name (i := 7) sc_law.nd rfl (by first | exact Or.inl rfl | exact Or.inr rfl)) (pgs_cons (pg_name (i := 8) sc_law.nd rfl (by first | exact Or.inl rfl | exact Or.inr rfl)) pgs_nil))), (tg_tup (tgs_cons (tg_name (by decide)) (tgs_cons (tg_name (by decide)) tgs_nil)))⟩)
      (sts_one (st_set .f (i := 8) sc_law.nd rfl (by first | exact Or.inl rfl | exact Or.inr rfl) (ev_if (evt_cmp o_eqS (ev_ix o_ix (ev_var (pv 7)) (ev_int pe_int) (fun _ _ => rfl)) (ev_int pe_int) (nomark _)) (ev_int pe_int) (ev_if (evt_cmp o_eqS (ev_ix o_ix (ev_var (pv 7)) (ev_int pe_int) (fun _ _ => rfl)) (ev_int pe_int) (nomark _)) (ev_int pe_int) (ev_if (evt_cmp o_eqS (ev_ix o_ix (ev_var (pv 7)) (ev_int pe_int) (fun _ _ => rfl)) (ev_int pe_int) (nomark _)) (ev_int pe_int) (ev_int pe_int)))))))) sts_nil)
      (sts_cons (st_if .f (evt_cmp o_eqS (ev_var (pv 5)) (ev_int pe_int) (nomark _)) (sts_one (st_asg .f (vs := [7, 8]) (ev_tup (eva_cons (ev_ix o_ix (EvF.ev (evf_lst (eva_cons (ev_non pe_non) (eva_cons (ev_ty c_tup (by rfl) (S_tuple S) (by decide +kernel) (eva_cons (ev_var (pv 4)) eva_nil)) (eva_cons (ev_int pe_int) (eva_cons (ev_str pe_str) eva_nil)))))) (ev_fnL F_L_below hr_L_below pass_no (pv 1) (eva_cons (ev_int pe_int) eva_nil)) (fun _ _ => rfl)) (eva_cons (ev_int pe_int) eva_nil))) ⟨(pg_tup (n := 2) rfl (pgs_cons (pg_name (i := 7) sc_law.nd rfl (by first | exact Or.inl rfl | exact Or.inr rfl)) (pgs_cons (pg_name (i := 8) sc_law.nd rfl (by first | exact Or.inl rfl | exact Or.inr rfl)) pgs_nil))), (tg_tup (tgs_cons (tg_name (by decide)) (tgs_cons (tg_name (by decide)) tgs_nil)))⟩)) sts_nil)
      (sts_one (st_if .f (evt_cmp (o_neD hr.units) (ev_callC F_L_error_of hr_L_error_of (lamG_all (lamL rfl rfl)) (eva_cons (ev_lam LX (lok_0 rfl rfl) rfl rfl) eva_nil)) (ev_tup (eva_cons (ev_str pe_str) (eva_cons (ev_var (pv 8)) eva_nil))) (nomark _)) (sts_one (st_ret (ev_bl pe_bl))) sts_nil))))))))))))))))
      (sts_one (st_ret (ev_cmp (o_eqD hr.units) (ev_callC F_L_error_of hr_L_error_of (lamG_all (lamL rfl rfl)) (eva_cons (ev_lam LX (lok_1 rfl rfl) rfl rfl) eva_nil)) (ev_tup (eva_cons (ev_str pe_str) (eva_cons (ev_int pe_int) eva_nil))) (nomark _)))))
end
end Lw
namespace Lw
open PySem PySem.Spec PyProof.Rows L2 Sr Pv
def lawK : Nat := 15
theorem facts {P : Program} [PfOk P] {w : World} {K : PySem.W.Frag} {mg : Str → Option Value} {f : Addr} (S : SayL K mg) (hfa : mg ("law" : Str) = some (.ref f)) :
    ∃ fd : FuncData, (∀ (s : Shared) (v : Value), BindsTo s fd ⟨[v], []⟩ [("_law_script", v)]) ∧ ∀ base : Heap, K.In base → base.Ns mainGlobals mg → LamX.TabB base mg (He.cT K ("law", none)).1 (tabP K) → FnOk P w K mg base CX0 lawK f fd ["_law_script"] (spLawT K) := by
  obtain ⟨fd, F⟩ := S.c.def_ 43 (d := d_law) rfl
  have b := FunD.bindsA (ps := ["_law_script"]) F fun _ _ _ _ _ _ us hl => match us, hl with | [_], _ => rfl
  have ef : f = He.fAd K d_law.at_ := by
    have h1 := S_law S
    rw [hfa] at h1
    cases h1
    rfl
  subst ef
  refine ⟨fd, fun s v => b s [v] rfl, fun base _ _ TB => ?_⟩
  obtain ⟨f', fd', h1, h2, h3, h4, oc, od, osl, h5⟩ := (fn_law (P := P) (w := w) (base := base) S TB (fun cl A0 st hs => hlaw (A0 := A0) cl st hs)).ex
  rw [hfa] at h1
  cases h1
  obtain ⟨oc', od', osl', h6⟩ := F.at_
  have e : fd' = fd := by
    have := h5.symm.trans h6
    injection this with this
    injection this with _ _ this _
    injection this
  subst e
  exact h4
end Lw
open PySem PySem.W PySem.Calls PyProof.Rows
instance : PfOk (PySem.Challenge.rw_slackrods_k53_wrong_numbers).prog := ⟨by kernel_rfl, by kernel_rfl⟩
set_option maxHeartbeats 0 in
theorem PySem.Challenge.cw_slackrods_k53_wrong_numbers_holds : PySem.Challenge.rw_slackrods_k53_wrong_numbers.Holds := by
  w_on; o_law
  refine HandSHeadRun.head_any (r := OpenLaw.row PySem.Challenge.rw_slackrods_k53_wrong_numbers) (q := view (OpenLaw.row PySem.Challenge.rw_slackrods_k53_wrong_numbers).prog [66]) (H := Lw.hk) (ob := Lw.ob) (M := 20000) (loose := Lw.loose) (d := HandSHeadRun.topDef (OpenLaw.row PySem.Challenge.rw_slackrods_k53_wrong_numbers).prog 66) (kwd := []) Lw.ob_eq
    (by kernel_rfl) (fun s => by kernel_rfl) Lw.run (by kernel_rfl) (by kernel_rfl) (by kernel_rfl) (by rfl) (by first | assumption | decide +kernel) (by decide +kernel) ⟨rfl, rfl, rfl, rfl, rfl, by decide +kernel⟩ ?hw ?hc
  case hw => w_witness2
  case hc =>
    refine Pv.walk_ofW (l := PySem.Challenge.rw_slackrods_k53_wrong_numbers) (n := 63) (k := Lw.lawK) (x := "_law_script") (CX := L2.CX0) rfl (by decide) (by kernel_rfl) ⟨rfl, by decide, by decide⟩ ?F (fun _ _ _ _ z => z)
    intro w mg fa h Y G hmg0
    obtain ⟨K, kin, c, p, m, hd, out, empty⟩ := Y
    have hmg : mg ("law" : PySem.Str) = some (.ref fa) := by
      have e : (HandSHeadRun.topDef (OpenLaw.row PySem.Challenge.rw_slackrods_k53_wrong_numbers).prog 66).name = ("law" : PySem.Str) := by kernel_rfl
      rw [← e]
      exact hmg0
    have S : Lw.SayL K mg := ⟨⟨h, kin, G⟩, c, p, m⟩
    obtain ⟨fd, hb, hF⟩ := Lw.facts (P := (PySem.Challenge.rw_slackrods_k53_wrong_numbers).prog) (w := w) S hmg
    exact ⟨K, fd, Pv.spLawT K, kin, PySem.W.codeHd_of_K kin hd, out, empty, hb, fun H a ns hl hT hS => ⟨a, ns, rfl, hS, hl, hT, fun _ => rfl⟩, hF⟩

