import PyProof.Rows.All
import Wide.All
import OpenK.AllK
import Wide.FinOn
import KE.KStateDown
import HandS.ForMost
import HandS.IsInst
import HandS.ExcInit
import HandS.TryMany
import HandS.Defaults
import HandS.HeadHook1
import HandS.HeadHook2
import HandS.HeadNt
import HandS.ClsMeth
import HandS.Property
import HandS.Flow
import HandS.Wide
import HandS.DictComp
import HandS.Walk
import HandS.Star
import HandS.Conv
import PySem.Challenge.RW_triplefree_k64_whole_loaded_texts
import HandS.ExcField
import KE.KSuper
import HandS.HeadHook4
import HandS.Head0
import HandS.Head1
import HandS.Head2
import KE.GoesMore
import KE.KExcInit
import HandS.StrMore
import HandS.StrSplit
import HandS.Strs
import HandS.Text
import HandS.Sort
import HandS.AnyAll
import KE.KTryMore
import HandS.TryOnly
import HandS.Lambda
import HandS.Style
import KE.KStar
import HandS.NestedK
import HandS.More
import HandS.Keys
import PyProof.Rows.Range3
import OpenK.KOps
import PyProof.CallStr
import HandS.HotCalls
import HandS.ExcIs
import HandS.ListEq
import HandS.MakeKwOnly
import HandS.DictEq
import HandS.OwnEq
import HandS.Zip
import HandS.Replace
import HandS.HeadWalk
set_option Elab.async false
set_option linter.all false
set_option maxRecDepth 100000
section
set_option maxHeartbeats 4000000
namespace TF
open PySem PySem.Spec PyProof.Rows L2
/-- the i-th statement of the linked text -/
def tops (i : Nat) : Stmt := PySem.Challenge.pw_triplefree_k64_whole_loaded_texts.main.body.getD i (.Pass ⟨0, 0, 0, 0⟩)

/-! ### constants of the module -/
def GC (mg : Str → Option Value) (x : Str) (v : V) : Prop := ∃ u, mg x = some u ∧ RelV v u
theorem pe_gc {X : Cx} {x : Str} {v : V} {pos : Pos} (hg : Gl X x) (h : GC X.mg x v) (hd : (x == ("__debug__" : Str)) = false := by decide) : PE X (.Name x pos) (tC v) := by
  obtain ⟨u, h1, h2⟩ := h
  exact pe_glob hg h1 h2 hd

/-! ### defs of the module -/
/-- a def of the module that keeps its promise, with all that a caller asks -/
structure GOk (P : Program) (w : World) (K : PySem.W.Frag) (mg : Str → Option Value) (base : Heap) (CX : CXT) (k : Nat) (x : Str) (sp : Sp) : Prop where
  g : ∃ (f : Addr) (fd : FuncData) (ps : List Str), FnOk P w K mg base CX k f fd ps sp ∧ Binds K fd ps [] ∧ mg x = some (.ref f) ∧ PySem.W.keepIn K (.ref f) = true
section
variable {X : Cx} {CX : CXT} {k : Nat} {sp : Sp} {E : XK} {x : Str} {p pos : Pos} {e : Expr} {es : List Expr} {t : TA}
theorem pe_cg (F : GOk X.prog X.w X.K X.mg X.base CX k x sp) (hr : Room k X.A) (hx : Passes CX X E) (hg : Gl X x)
    (ha : PA X (e :: es) t) (hdb : (x == ("__debug__" : Str)) = false := by decide) (he : starEach (e :: es) X.env = (false, eval e X.env) :: starEach es X.env := by rfl) (hpl : (backTo pos (starEach es X.env)).any (·.1) = false := by rfl) :
    PE X (.Call (.Name x p) (e :: es) [] pos) (tCall sp [] E t) := by
  obtain ⟨f, fd, ps, h1, h2, h3, h4⟩ := F.g
  exact pe_call h1 hr hg h3 h4 h2 .nil hx ha hdb he hpl
theorem pe_cg0 (F : GOk X.prog X.w X.K X.mg X.base CX k x sp) (hr : Room k X.A) (hx : Passes CX X E) (hg : Gl X x)
    (hdb : (x == ("__debug__" : Str)) = false := by decide) : PE X (.Call (.Name x p) [] [] pos) (tCall sp [] E tNil) := by
  obtain ⟨f, fd, ps, h1, h2, h3, h4⟩ := F.g
  exact pe_call0 h1 hr hg h3 h4 h2 .nil hx hdb
end
/-- a def of the module as it stands behind the top -/
def GDef (K : PySem.W.Frag) (mg : Str → Option Value) (x : Str) (st : Stmt) : Prop :=
  ∃ (f : Addr) (fd : FuncData), FunD K x x (defArgs st) (defBody st) (defScope st) [] [] f fd ∧ mg x = some (.ref f)
section
variable {P : Program} {w : World} {K : PySem.W.Frag} {mg : Str → Option Value} {base : Heap} {x : Str} {st : Stmt}
/-- the rule for a def that lets nothing out -/
theorem GDef.ok {N ps : List Str} {k : Nat} {sp : Sp} (F : GDef K mg x st) (S : FnScope N ps (defScope st)) (len : ∀ vs H Q E, sp vs H Q E → vs.length = ps.length)
    (hb : ∀ (kV doc pm : Value) (an : Option Addr) (cdv ct : Value) (us : List Value), us.length = ps.length → bindArgs (PySem.W.fnOf x x (defArgs st) (defBody st) (defScope st) .none kV doc pm an cdv ct) ⟨us, []⟩ = pure (ps.zip us))
    (hbody : ∀ (f : Addr) (cdv : Value) (A : Around) (outer : List Env) (s : Shared) (H : Hp) (vs : List V) (Q : VK) (E : XK), Room k (A.deeper (envOfC x (defScope st) s.heap.objs.size f cdv)) → sp vs H Q E →
      ∃ t, PSs (cxOf CX0 P w K mg base N x (defScope st) f cdv A outer s H E).nox (defBody st) t ∧ t { nx := fun _ H' => Q .non H', rt := Q } (start N vs) H) : GOk P w K mg base CX0 (k + 1) x sp := by
  obtain ⟨f, fd, F, hm⟩ := F
  refine ⟨f, fd, ps, F.ok S len (fun cdv A outer s H vs Q E hr h => ?_), F.bindsN hb, hm, F.kp⟩
  obtain ⟨t, h1, h2⟩ := hbody f cdv A outer s H vs Q E hr h
  exact ⟨t, h1.nox, h2⟩
/-- the rule for a def that may raise -/
theorem GDef.okX {N ps : List Str} {k : Nat} {sp : Sp} (F : GDef K mg x st) (S : FnScope N ps (defScope st)) (len : ∀ vs H Q E, sp vs H Q E → vs.length = ps.length)
    (hb : ∀ (kV doc pm : Value) (an : Option Addr) (cdv ct : Value) (us : List Value), us.length = ps.length → bindArgs (PySem.W.fnOf x x (defArgs st) (defBody st) (defScope st) .none kV doc pm an cdv ct) ⟨us, []⟩ = pure (ps.zip us))
    (hbody : ∀ (f : Addr) (cdv : Value) (A : Around) (outer : List Env) (s : Shared) (H : Hp) (vs : List V) (Q : VK) (E : XK), Room k (A.deeper (envOfC x (defScope st) s.heap.objs.size f cdv)) → sp vs H Q E →
      ∃ t, PSs (cxOf (L2.CX P w) P w K mg base N x (defScope st) f cdv A outer s H E) (defBody st) t ∧ t { nx := fun _ H' => Q .non H', rt := Q } (start N vs) H) : GOk P w K mg base (L2.CX P w) (k + 1) x sp := by
  obtain ⟨f, fd, F, hm⟩ := F
  exact ⟨f, fd, ps, F.ok S len (fun cdv A outer s H vs Q E hr h => hbody f cdv A outer s H vs Q E hr h), F.bindsN hb, hm, F.kp⟩
end

/-! ### methods -/
/-- a method that keeps its promise -/
structure MOk (P : Program) (w : World) (K : PySem.W.Frag) (mg : Str → Option Value) (base : Heap) (CX : CXT) (k : Nat) (C : Addr) (m : Str) (sp : Sp) : Prop where
  g : ∃ (f : Addr) (fd : FuncData) (ps : List Str), FnOk P w K mg base CX k f fd ps sp ∧ Binds K fd ps [] ∧ Meth K C m f
section
variable {X : Cx} {CX : CXT} {k : Nat} {C : Addr} {sp : Sp} {E : XK} {m : Str} {apos pos : Pos} {e o : Expr} {es : List Expr} {t : TA} {ta : TE} {pl : Sem Bool}
theorem pe_cm (F : MOk X.prog X.w X.K X.mg X.base CX k C m sp) (c : Cls X.K C) (hr : Room k X.A) (hx : Passes CX X E) (ho : PE X o ta) (ha : PA X (e :: es) t)
    (hst : starEach (e :: es) X.env = (false, eval e X.env) :: starEach es X.env := by rfl) (hpl : (backTo pos (starEach es X.env)).any (·.1) = false := by rfl)
    (ht : eval (.Call (.Attribute o m apos) (e :: es) [] pos) X.env = (do
      let ov ← eval o X.env
      standAt apos.atName
      let (f, first) ← holding [ov] (getMethod ov m pl)
      callWith pos f first (backTo pos (starEach (e :: es) X.env)) (backToKw pos (keywordEach [] X.env))) := by rfl) :
    PE X (.Call (.Attribute o m apos) (e :: es) [] pos) (tMeth C m sp [] E ta t) := by
  obtain ⟨f, fd, ps, h1, h2, h3⟩ := F.g
  exact pe_meth ho c h3 h1 hr h2 .nil hx ha hst hpl ht
theorem pe_cm0 (F : MOk X.prog X.w X.K X.mg X.base CX k C m sp) (c : Cls X.K C) (hr : Room k X.A) (hx : Passes CX X E) (ho : PE X o ta)
    (ht : eval (.Call (.Attribute o m apos) [] [] pos) X.env = (do
      let ov ← eval o X.env
      standAt apos.atName
      let (f, first) ← holding [ov] (getMethod ov m pl)
      callWith pos f first (backTo pos (starEach [] X.env)) (backToKw pos (keywordEach [] X.env))) := by rfl) :
    PE X (.Call (.Attribute o m apos) [] [] pos) (tMeth C m sp [] E ta tNil) := by
  obtain ⟨f, fd, ps, h1, h2, h3⟩ := F.g
  exact pe_meth0 ho c h3 h1 hr h2 .nil hx ht
end
/-- a method as it stands: the j-th row of the class statement st, found on C by its name -/
def MDef (K : PySem.W.Frag) (C : Addr) (m qual : Str) (st : Stmt) : Prop := ∃ (f : Addr) (fd : FuncData), FunD K m qual (defArgs st) (defBody st) (defScope st) [] [] f fd ∧ Meth K C m f
section
variable {P : Program} {w : World} {K : PySem.W.Frag} {mg : Str → Option Value} {base : Heap} {C : Addr} {m qual : Str} {st : Stmt}
theorem MDef.ok {N ps : List Str} {k : Nat} {sp : Sp} (F : MDef K C m qual st) (S : FnScope N ps (defScope st)) (len : ∀ vs H Q E, sp vs H Q E → vs.length = ps.length)
    (hb : ∀ (kV doc pm : Value) (an : Option Addr) (cdv ct : Value) (us : List Value), us.length = ps.length → bindArgs (PySem.W.fnOf m qual (defArgs st) (defBody st) (defScope st) .none kV doc pm an cdv ct) ⟨us, []⟩ = pure (ps.zip us))
    (hbody : ∀ (f : Addr) (cdv : Value) (A : Around) (outer : List Env) (s : Shared) (H : Hp) (vs : List V) (Q : VK) (E : XK), Room k (A.deeper (envOfC qual (defScope st) s.heap.objs.size f cdv)) → sp vs H Q E →
      ∃ t, PSs (cxOf CX0 P w K mg base N qual (defScope st) f cdv A outer s H E).nox (defBody st) t ∧ t { nx := fun _ H' => Q .non H', rt := Q } (start N vs) H) : MOk P w K mg base CX0 (k + 1) C m sp := by
  obtain ⟨f, fd, F, hm⟩ := F
  refine ⟨f, fd, ps, F.ok S len (fun cdv A outer s H vs Q E hr h => ?_), F.bindsN hb, hm⟩
  obtain ⟨t, h1, h2⟩ := hbody f cdv A outer s H vs Q E hr h
  exact ⟨t, h1.nox, h2⟩
theorem MDef.okX {N ps : List Str} {k : Nat} {sp : Sp} (F : MDef K C m qual st) (S : FnScope N ps (defScope st)) (len : ∀ vs H Q E, sp vs H Q E → vs.length = ps.length)
    (hb : ∀ (kV doc pm : Value) (an : Option Addr) (cdv ct : Value) (us : List Value), us.length = ps.length → bindArgs (PySem.W.fnOf m qual (defArgs st) (defBody st) (defScope st) .none kV doc pm an cdv ct) ⟨us, []⟩ = pure (ps.zip us))
    (hbody : ∀ (f : Addr) (cdv : Value) (A : Around) (outer : List Env) (s : Shared) (H : Hp) (vs : List V) (Q : VK) (E : XK), Room k (A.deeper (envOfC qual (defScope st) s.heap.objs.size f cdv)) → sp vs H Q E →
      ∃ t, PSs (cxOf (L2.CX P w) P w K mg base N qual (defScope st) f cdv A outer s H E) (defBody st) t ∧ t { nx := fun _ H' => Q .non H', rt := Q } (start N vs) H) : MOk P w K mg base (L2.CX P w) (k + 1) C m sp := by
  obtain ⟨f, fd, F, hm⟩ := F
  exact ⟨f, fd, ps, F.ok S len (fun cdv A outer s H vs Q E hr h => hbody f cdv A outer s H vs Q E hr h), F.bindsN hb, hm⟩
end
/-- a property that keeps its promise -/
structure POk (P : Program) (w : World) (K : PySem.W.Frag) (mg : Str → Option Value) (base : Heap) (CX : CXT) (k : Nat) (C : Addr) (m : Str) (sp : Sp) : Prop where
  g : ∃ (p f : Addr) (fd : FuncData) (ps : List Str), FnOk P w K mg base CX k f fd ps sp ∧ Binds K fd ps [] ∧ PropOf K C m p f
theorem pe_cp {X : Cx} {CX : CXT} {k : Nat} {C : Addr} {sp : Sp} {E : XK} {m : Str} {pos : Pos} {e : Expr} {ta : TE} (F : POk X.prog X.w X.K X.mg X.base CX k C m sp) (c : Cls X.K C) (hr : Room (k + 1) X.A) (hx : Passes CX X.nox E) (he : PE X e ta)
    (hab : attributeBase e m X.env (eval e X.env) = eval e X.env := by rfl) : PE X (.Attribute e m pos) (tProp C sp [] E ta) := by
  obtain ⟨p, f, fd, ps, h1, h2, h3⟩ := F.g
  exact pe_prop he c h3 h1 hr h2 .nil hx hab
def PDef (K : PySem.W.Frag) (C : Addr) (m qual : Str) (st : Stmt) : Prop := ∃ (p f : Addr) (fd : FuncData), FunD K m qual (defArgs st) (defBody st) (defScope st) [] [] f fd ∧ PropOf K C m p f
section
variable {P : Program} {w : World} {K : PySem.W.Frag} {mg : Str → Option Value} {base : Heap} {C : Addr} {m qual : Str} {st : Stmt}
theorem PDef.ok {N ps : List Str} {k : Nat} {sp : Sp} (F : PDef K C m qual st) (S : FnScope N ps (defScope st)) (len : ∀ vs H Q E, sp vs H Q E → vs.length = ps.length)
    (hb : ∀ (kV doc pm : Value) (an : Option Addr) (cdv ct : Value) (us : List Value), us.length = ps.length → bindArgs (PySem.W.fnOf m qual (defArgs st) (defBody st) (defScope st) .none kV doc pm an cdv ct) ⟨us, []⟩ = pure (ps.zip us))
    (hbody : ∀ (f : Addr) (cdv : Value) (A : Around) (outer : List Env) (s : Shared) (H : Hp) (vs : List V) (Q : VK) (E : XK), Room k (A.deeper (envOfC qual (defScope st) s.heap.objs.size f cdv)) → sp vs H Q E →
      ∃ t, PSs (cxOf CX0 P w K mg base N qual (defScope st) f cdv A outer s H E).nox (defBody st) t ∧ t { nx := fun _ H' => Q .non H', rt := Q } (start N vs) H) : POk P w K mg base CX0 (k + 1) C m sp := by
  obtain ⟨p, f, fd, F, hm⟩ := F
  refine ⟨p, f, fd, ps, F.ok S len (fun cdv A outer s H vs Q E hr h => ?_), F.bindsN hb, hm⟩
  obtain ⟨t, h1, h2⟩ := hbody f cdv A outer s H vs Q E hr h
  exact ⟨t, h1.nox, h2⟩
end

/-! ### classes, by their names -/
abbrev aCell (K : PySem.W.Frag) : Addr := He.ga K "Cell"
abbrev aSes (K : PySem.W.Frag) : Addr := He.ga K "Session"
abbrev aRec (K : PySem.W.Frag) : Addr := He.ga K "Recorder"
abbrev aIT (K : PySem.W.Frag) : Addr := He.ga K "InvalidText"
abbrev aNF (K : PySem.W.Frag) : Addr := He.ga K "NotFree"
abbrev aRul (K : PySem.W.Frag) : Addr := He.ga K "RuledSequence"
abbrev aShi (K : PySem.W.Frag) : Addr := He.ga K "ShiftedSequence"

/-! ### what the top has left of plain names -/
structure TxtA (K : PySem.W.Frag) (mg : Str → Option Value) : Prop where
  z_isinstance : mg "isinstance" = none
  z_int : mg "int" = none
  z_bool : mg "bool" = none
  z_str : mg "str" = none
  z_list : mg "list" = none
  z_tuple : mg "tuple" = none
  z_len : mg "len" = none
  z_range : mg "range" = none
  z_enumerate : mg "enumerate" = none
  z_zip : mg "zip" = none
  z_max : mg "max" = none
  z_min : mg "min" = none
  z_sorted : mg "sorted" = none
  z_all : mg "all" = none
  z_super : mg "super" = none
  c_MAX_NAMES : GC mg "MAX_NAMES" (.int 26)
  c_EMPTY : GC mg "EMPTY" (.str "-")
  c_LETTERS : GC mg "LETTERS" (.str "abcdefghijklmnopqrstuvwxyz")
  c_MAX_DIGITS : GC mg "MAX_DIGITS" (.int 600)
  c_DIGITS : GC mg "DIGITS" (.str "0123456789")
  c_DONE : GC mg "DONE" (.str "ok")
  c_Cell : GC mg "Cell" (.ref (aCell K))
  c_Session : GC mg "Session" (.ref (aSes K))
  c_Recorder : GC mg "Recorder" (.ref (aRec K))
  r_Cell : ClX.CRead K (aCell K) (.type "type")
  v_MAX_MODULUS : ∃ u, ClX.CVal K (aCell K) (.type "type") "MAX_MODULUS" (.int 20000) u
  v_MAX_MEMBERS : ∃ u, ClX.CVal K (aCell K) (.type "type") "MAX_MEMBERS" (.int 256) u
/-- x.f, x a class of the module, f a constant of it -/
def tCst (K : PySem.W.Frag) (v : V) : TE := fun _ H Q => Q v H
theorem pe_ccv {X : Cx} {x f : Str} {C : Addr} {v : V} {p pos : Pos} (hg : Gl X x) (h : GC X.mg x (.ref C)) (r : ClX.CRead X.K C (.type "type")) (hv : ∃ u, ClX.CVal X.K C (.type "type") f v u) (hd : (x == ("__debug__" : Str)) = false := by decide)
    (hb : attributeBase (.Name x p) f X.env (eval (.Name x p) X.env) = eval (.Name x p) X.env := by rfl) : PE X (.Attribute (.Name x p) f pos) (tC v) := by
  obtain ⟨u, hu⟩ := hv
  refine ⟨fun pins s σ H Q I q => (ClX.pe_cval (pe_gc hg h hd) hb).run pins s σ H Q I ⟨C, _, v, u, rfl, r, hu, q⟩⟩

/-! ### either way -/
theorem PI.or {X : Cx} {tg e : Expr} {t u : TI} (h1 : PI X tg e t) (h2 : PI X tg e u) : PI X tg e (fun σ H R => t σ H R ∨ u σ H R) :=
  ⟨fun pins s σ H R I h => h.elim (h1.run pins s σ H R I) (h2.run pins s σ H R I)⟩
theorem PE.or {X : Cx} {e : Expr} {t u : TE} (h1 : PE X e t) (h2 : PE X e u) : PE X e (fun σ H R => t σ H R ∨ u σ H R) :=
  ⟨fun pins s σ H R I h => h.elim (h1.run pins s σ H R I) (h2.run pins s σ H R I)⟩
/-- a list or a tuple -/
def SqA (H : Hp) (a : Addr) (xs : List V) : Prop := H a = some (.lst xs) ∨ H a = some (.tup xs)
theorem _root_.L2.Same.seqA {H H' : Hp} {a : Addr} {xs : List V} (e : Same H H') (h : SqA H a xs) : SqA H' a xs := h.elim (fun z => .inl (e _ _ z)) fun z => .inr (e _ _ z)
theorem _root_.L2.Same.new {H : Hp} {p : Addr} {o : HO} (h : H p = Option.none) : Same H (upd H p o) := fun b u e => by rw [upd_ne (ne_of_none e h)]; exact e
/-- the ints of a list of naturals -/
abbrev VI (l : List Nat) : List V := l.map fun n : Nat => V.int (n : Int)
end TF
end
section
set_option maxHeartbeats 4000000
namespace TF
open PySem PySem.Spec PyProof.Rows L2
open He (ga ma ba)
/-! ### defs that say super(), as the head tells them -/
/-- the method name of the global class cls, its row st -/
structure SuD where
  cls : Str
  name : Str
  qual : Str
  st : Stmt
abbrev FnS : Type := Option (Str × Str × Arguments × FuncBody × Scope × Addr × List Str × Addr)
def fnS (K : PySem.W.Frag) (a : Addr) : FnS := match K.lookup a with
  | some ⟨_, _, .func fd, _⟩ => some (fd.name, fd.qualname, fd.params, fd.body, fd.scope, fd.globals, fd.closure.map (·.1), fd.builtins)
  | _ => none
def SuD.adr (K : PySem.W.Frag) (d : SuD) : Addr := ma K (ga K d.cls) d.name
def SuD.val (d : SuD) : FnS := some (d.name, d.qual, defArgs d.st, PySem.FuncBody.stmts (defBody d.st), defScope d.st, mainGlobals, ["__class__"], builtinsNs)
def fileB (F : Str) (K : PySem.W.Frag) (c : Addr) : Bool := match K.lookup c with
  | some ⟨_, _, .fields vs, _⟩ => (match (Array.toList vs)[2]? with
    | some (Value.str file _) => F == file
    | _ => false)
  | _ => false
def cellB (K : PySem.W.Frag) (cc D : Addr) : Bool := match K.lookup cc with
  | some ⟨_, _, .cell (some (.ref E)), _⟩ => decide (E = D)
  | _ => false
def noneB : Value → Bool
  | .none => true
  | _ => false
def clB (K : PySem.W.Frag) (D : Addr) : List (Str × Addr) → Bool
  | [(_, cc)] => cellB K cc D
  | _ => false
def cdB (F : Str) (K : PySem.W.Frag) (q : Str) : Value → Bool
  | .ref c => PySem.W.codeIn K (.ref c) q && fileB F K c
  | _ => false
def SuD.ok (F : Str) (K : PySem.W.Frag) (d : SuD) : Bool := match K.lookup (d.adr K) with
  | some ⟨_, _, .func fd, _⟩ => noneB fd.defaults && (cdB F K d.qual fd.code && (clB K (ga K d.cls) fd.closure && (PySem.W.clsIn K (ga K d.cls)).isSome))
  | _ => false
/-! ### the part of the heap that is looked at -/
def refC (o : Obj) : List Addr := match o.data with
  | .cls cd => [cd.ns]
  | .dict es _ => es.toList.flatMap fun e => He.refV e.val
  | .func fd => He.refV fd.code ++ (He.refV fd.defaults ++ (He.refV fd.kwdefaults ++ fd.closure.map (·.2)))
  | .fields vs => vs.toList.flatMap He.refV
  | _ => []
def stp (g : Addr → Option Obj) (as : List Addr) : List Addr := as.flatMap fun a => match g a with
  | some o => refC o
  | none => []
def fnO (g : Addr → Option Obj) (a : Addr) : Bool := match g a with
  | some ⟨_, _, .func _, _⟩ => true
  | _ => false
/-- classes by name, then what they reach; functions by name and their code -/
def asC (g : Addr → Option Obj) (C F : List Addr) : List Addr := [mainGlobals, cStatics] ++ (C ++ (stp g C ++ (stp g (stp g C) ++ (F ++ (stp g F ++ (stp g (stp g (stp g C)) ++ stp g ((stp g (stp g (stp g C))).filter (fnO g))))))))
def asL (cs fs : List Str) (g : Addr → Option Obj) : List Addr := asC g (cs.map (ga (He.frG g [mainGlobals]))) (fs.map (ga (He.frG g [mainGlobals])))
/-! ### the Hook -/
abbrev AlZ : Type := (List He.FnW × List FnS) × Bool
abbrev Chk : Type := PySem.W.Frag → Bool
def obsK (F : Str) (fn : List He5.DefA) (sf : List SuD) (tf : List He.Defn) (ex : List Chk) (g : Addr → Option Obj) (K : PySem.W.Frag) : AlZ :=
  ((fn.map fun d => He5.fnA K (d.at_ K), sf.map fun d => fnS K (d.adr K)), (fn.all fun d => d.ok K) && ((sf.all fun d => d.ok F K) && ((ex.all fun f => f K) && He.tabsB g tf K)))
def obsZ (F : Str) (as : (Addr → Option Obj) → List Addr) (fn : List He5.DefA) (sf : List SuD) (tf : List He.Defn) (ex : List Chk) (g : Addr → Option Obj) : AlZ := obsK F fn sf tf ex g (He.frT g (as g))
def valZ (fn : List He5.DefA) (sf : List SuD) : AlZ := ((fn.map He5.DefA.val, sf.map SuD.val), true)
structure SaysZ (F : Str) (fn : List He5.DefA) (sf : List SuD) (tf : List He.Defn) (ex : List Chk) (h : Heap) (K : PySem.W.Frag) : Prop where
  fns : fn.map (fun d => He5.fnA K (d.at_ K)) = fn.map He5.DefA.val
  sus : sf.map (fun d => fnS K (d.adr K)) = sf.map SuD.val
  fok : ∀ d ∈ fn, d.ok K = true
  sok : ∀ d ∈ sf, d.ok F K = true
  exs : ∀ f ∈ ex, f K = true
  hd : ∀ p ∈ tf, PySem.W.codeHdIn K (He.cT K p).1 (He.cT K p).2 = true
  out : ∀ p ∈ tf, K.lookup (He.cT K p).2 = none
  empty : ∀ p ∈ tf, h.get? (He.cT K p).2 = some { cls := .none, data := .fields #[] }
theorem saysZ_of {F : Str} {as : (Addr → Option Obj) → List Addr} {fn : List He5.DefA} {sf : List SuD} {tf : List He.Defn} {ex : List Chk} {h : Heap} (e : obsZ F as fn sf tf ex h.get? = valZ fn sf) : SaysZ F fn sf tf ex h (He.frT h.get? (as h.get?)) := by
  unfold obsZ at e
  have key : ∀ K, K = He.frT h.get? (as h.get?) → obsK F fn sf tf ex h.get? K = valZ fn sf → SaysZ F fn sf tf ex h K := fun K hK e => by
    have e1 : fn.map (fun d => He5.fnA K (d.at_ K)) = fn.map He5.DefA.val := congrArg (fun z : AlZ => z.1.1) e
    have e2 : sf.map (fun d => fnS K (d.adr K)) = sf.map SuD.val := congrArg (fun z : AlZ => z.1.2) e
    have e3 : ((fn.all fun d => d.ok K) && ((sf.all fun d => d.ok F K) && ((ex.all fun f => f K) && He.tabsB h.get? tf K))) = true := congrArg (fun z : AlZ => z.2) e
    obtain ⟨k1, k⟩ := ba e3
    obtain ⟨k2, k⟩ := ba k
    obtain ⟨k3, k4⟩ := ba k
    have tk : ∀ p ∈ tf, PySem.W.codeHdIn K (He.cT K p).1 (He.cT K p).2 = true ∧ ∃ o, h.get? (He.cT K p).2 = some o ∧ He.emptyTab o = true := fun p hp => by
      obtain ⟨h3, h4⟩ := ba (List.all_eq_true.mp k4 p hp)
      refine ⟨h3, ?_⟩
      cases q : h.get? (He.cT K p).2 with
      | none =>
        rw [q] at h4
        cases h4
      | some o =>
        rw [q] at h4
        exact ⟨o, rfl, h4⟩
    exact ⟨e1, e2, List.all_eq_true.mp k1, List.all_eq_true.mp k2, List.all_eq_true.mp k3, fun p hp => (tk p hp).1, fun p hp => by
      obtain ⟨_, o, q, z⟩ := tk p hp
      rw [hK] at q ⊢
      exact He.frT_none q z, fun p hp => by
      obtain ⟨_, o, q, z⟩ := tk p hp
      rw [q, He.emptyTab_eq z]⟩
  exact key _ rfl e
def hookZ (F : Str) (as : (Addr → Option Obj) → List Addr) (fn : List He5.DefA) (sf : List SuD) (tf : List He.Defn) (ex : List Chk) : PySem.W.Hook where
  α := AlZ
  obs := fun s => obsZ F as fn sf tf ex s.heap.get?
  val := fun _ => valZ fn sf
  says := fun _ h => ∃ K : PySem.W.Frag, K.In h ∧ SaysZ F fn sf tf ex h K
  of := fun _ _ e => ⟨_, He.frT_in, saysZ_of e⟩
  keeps := fun _ _ _ ⟨K, hK, c⟩ k => ⟨K, PySem.W.Frag.In.keeps hK k, ⟨c.fns, c.sus, c.fok, c.sok, c.exs, c.hd, c.out, fun p hp => k _ _ (c.empty p hp)⟩⟩
theorem obsZ_eq {F : Str} {as : (Addr → Option Obj) → List Addr} {fn : List He5.DefA} {sf : List SuD} {tf : List He.Defn} {ex : List Chk} {g : Addr → Option Obj} {s : Shared} (h : ∀ a, g a = s.heap.get? a) : obsZ F as fn sf tf ex g = (hookZ F as fn sf tf ex).obs s := by
  have e : g = s.heap.get? := funext h
  rw [e] <;> rfl
theorem obs_both {F : Str} {as : (Addr → Option Obj) → List Addr} {fn : List He5.DefA} {sf : List SuD} {tf : List He.Defn} {ex : List Chk} {g : Addr → Option Obj} (h1 : obsZ F as fn [] [] [] g = valZ fn []) (h2 : obsZ F as [] sf tf ex g = valZ [] sf) : obsZ F as fn sf tf ex g = valZ fn sf := by
  unfold obsZ at h1 h2 ⊢
  have key : ∀ K, obsK F fn [] [] [] g K = valZ fn [] → obsK F [] sf tf ex g K = valZ [] sf → obsK F fn sf tf ex g K = valZ fn sf := fun K h1 h2 => by
    have a1 : fn.map (fun d => He5.fnA K (d.at_ K)) = fn.map He5.DefA.val := congrArg (fun z : AlZ => z.1.1) h1
    have a2 : ((fn.all fun d => d.ok K) && ((([] : List SuD).all fun d => d.ok F K) && ((([] : List Chk).all fun f => f K) && He.tabsB g [] K))) = true := congrArg (fun z : AlZ => z.2) h1
    have b1 : sf.map (fun d => fnS K (d.adr K)) = sf.map SuD.val := congrArg (fun z : AlZ => z.1.2) h2
    have b2 : ((([] : List He5.DefA).all fun d => d.ok K) && ((sf.all fun d => d.ok F K) && ((ex.all fun f => f K) && He.tabsB g tf K))) = true := congrArg (fun z : AlZ => z.2) h2
    unfold obsK valZ
    rw [a1, b1, (ba a2).1, (ba b2).2]
    rfl
  exact key _ h1 h2
/-! ### facts of the head, each a Bool -/
def kGlo (x : Str) : Chk := fun K => (He.Fa.glo x).ok K
def kFree (x : Str) : Chk := fun K => (He.Fa.free x).ok K
def kInt (x : Str) (i : Int) : Chk := fun K => (He.Fa.int x i).ok K
def kStr (x z : Str) : Chk := fun K => (He.Fa.str x z).ok K
def kCls (x : Str) : Chk := fun K => (He.Fa.cls x).ok K
def kNo (x y : Str) : Chk := fun K => (He.Fa.noat x y).ok K
def kMeth (x m : Str) : Chk := fun K => (He.Fa.meth x m).ok K
def kMk (x : Str) : Chk := fun K => (He.Fa.mkr x).ok K
def kKeep (x : Str) : Chk := fun K => (He.Fa.keep x).ok K
def kSame (m : Str) : Chk := fun K => decide (ma K (aRec K) m = ma K (aSes K) m)
def kSameW (T : String) (m : Str) : Chk := fun K => decide (He5.wf K (aRec K) T m = He5.wf K (aSes K) T m)
def propB (K : PySem.W.Frag) (C : Addr) (m : Str) : Bool := He.eqO (PySem.W.findIn K (.ref C) m) (some (some (.ref (ma K C m)))) && (He.eqO (PySem.W.specialIn K (.ref (ma K C m)) "__get__") (some (some (.builtin "property.__get__"))) && (decide (PySem.W.takesIn K (.ref (ma K C m)) = some true) &&
  (match PySem.W.recIn K (ma K C m) "property" with
    | some (.ref _ :: _) => true
    | _ => false)))
def kProp (x m : Str) : Chk := fun K => propB K (ga K x) m
def rdB (K : PySem.W.Frag) (C : Addr) : Bool := PySem.W.readsIn K C (.type "type") && He.eqO (PySem.W.specialIn K (.ref C) "__getattribute__") (some (some (.builtin "type.__getattribute__")))
def kRd (x : Str) : Chk := fun K => rdB K (ga K x)
def kCm (x m : Str) : Chk := fun K => He5.wrapB K (ga K x) "classmethod" "classmethod.__get__" m && PySem.W.fnIn K (He5.wf K (ga K x) "classmethod" m)
def kCv (x y : Str) (i : Int) : Chk := fun K => match PySem.W.findCls K (.ref (ga K x)) (.type "type") y with
  | some (.val u) => He.relB (.int i) u
  | _ => false
def kCi (x y : Str) (b : String) : Chk := fun K => match PySem.W.findCls K (.ref (ga K x)) (.type "type") y with
  | some (.val (.builtin c)) => decide (c = b)
  | _ => false
def kCon (x y : Str) (i : Int) : Chk := fun K => He.conB K x y (.int i)
def kOB (e : PySem.W.Frag → Option Bool) (b : Bool) : Chk := fun K => decide (e K = some b)
def kFi (e : PySem.W.Frag → Option (Option Value)) (v : Option Value) : Chk := fun K => He.eqO (e K) (some v)
def kTy (e : PySem.W.Frag → Option Value) (v : Value) : Chk := fun K => decide (e K = some v)
def kFnI (e : PySem.W.Frag → Addr) : Chk := fun K => PySem.W.fnIn K (e K) && decide (PySem.W.typeIn K (.ref (e K)) = some (.type "function"))
def kExc (x : Str) (l : List Value) (b : String) : Chk := fun K => PySem.W.excIn K (ga K x) l b
def kNF (x : Str) : Chk := fun K => PySem.W.notFirst K (ga K x) (.ref (ga K x))
def kNe : Chk := fun K => !decide (aRec K = aSes K)
def kTupQ (x : Str) (vs : List He.Dv) : Chk := fun K => He.tupB K x vs
def kXf (x : Str) : Chk := fun K => xfB K (ga K x)
def splR : List Value → List Addr × List Value
  | .ref a :: r => (a :: (splR r).1, (splR r).2)
  | l => ([], l)
def slotB (nid : String) : List (Option Value) → Bool
  | [_, _, _, _, some (.builtin b), _] => decide (b = nid)
  | _ => false
def mroB (C : Addr) (tl : List Value) : List Value → Bool
  | .ref D :: r => decide (D = C) && decide ((splR r).2 = tl)
  | _ => false
def xclB (K : PySem.W.Frag) (C : Addr) (nid : String) (tl : List Value) : Bool := match K.lookup C with
  | some ⟨.type t, _, .cls cd, sl⟩ => decide (t = "type") && (mroB C tl cd.mro && (cd.hasDict && (!cd.hasDel && slotB nid sl.toList)))
  | _ => false
def kXc (x : Str) (nid : String) (tl : List Value) : Chk := fun K => xclB K (ga K x) nid tl
def kSu (x d m y : Str) : Chk := fun K => He.eqO (PySem.W.ks_superIn K (ga K x) (ga K d) m) (some (some (.ref (ma K (ga K y) m))))
/-! ### the defs, as the head tells them -/
def dG (x : Str) (i : Nat) : He5.DefA := ⟨fun K => ga K x, x, x, defArgs (tops i), defBody (tops i), defScope (tops i), [], []⟩
def dGk (x : Str) (i : Nat) (dv : List He.Dv) (kw : List (Str × He.Dv)) : He5.DefA := ⟨fun K => ga K x, x, x, defArgs (tops i), defBody (tops i), defScope (tops i), dv, kw⟩
def dM (c m q : Str) (i j : Nat) : He5.DefA := ⟨fun K => ma K (ga K c) m, m, q, defArgs (inClass (tops i) j), defBody (inClass (tops i) j), defScope (inClass (tops i) j), [], []⟩
def dMk (c m q : Str) (i j : Nat) (kw : List (Str × He.Dv)) : He5.DefA := ⟨fun K => ma K (ga K c) m, m, q, defArgs (inClass (tops i) j), defBody (inClass (tops i) j), defScope (inClass (tops i) j), [], kw⟩
def dP (c : Str) (T : String) (m q : Str) (i j : Nat) : He5.DefA := ⟨fun K => He5.wf K (ga K c) T m, m, q, defArgs (inClass (tops i) j), defBody (inClass (tops i) j), defScope (inClass (tops i) j), [], []⟩
abbrev tfL : List He.Defn := [("_law_refused", none)]
def csL : List Str := ["SetError", "InvalidNumber", "InvalidCell", "InvalidText", "StateError", "NotFree", "NotServed", "NothingToUndo", "LimitError", "TooLarge", "Cell", "RuledSequence", "ShiftedSequence", "Session", "Recorder"]
def fsL0 : List Str := ["_law_source",
  "_law_pick",
  "_law_pool",
  "_law_joined",
  "_law_cell",
  "_law_shown",
  "_law_lines",
  "_law_text",
  "_law_spot",
  "_law_is_so",
  "_law_right",
  "_law_made_right",
  "_law_forty_right",
  "is_between",
  "check_shape",
  "spoiling_triple",
  "serving_table",
  "unserved_remainder",
  "is_catalogue_name",
  "check_natural",
  "check_catalogue",
  "format_catalogue",
  "split_lines",
  "read_digits",
  "is_empty_text"]
def fsL1 : List Str := ["read_cell",
  "parse_cell",
  "parse_catalogue",
  "check_at_least",
  "failure_of",
  "need_form",
  "answer_of",
  "digits_in",
  "number_of",
  "are_plain",
  "rank_of",
  "in_base",
  "base_rank",
  "_law_refused",
  "is_integer",
  "check_number",
  "law",
  "QUESTIONS"]
def fsL : List Str := fsL0 ++ (fsL1)
def fnL0 : List He5.DefA := [dM "InvalidText" "__init__" "InvalidText.__init__" 8 0,
  dM "NotFree" "__init__" "NotFree.__init__" 10 0,
  dG "_law_source" 74,
  dG "_law_pick" 75,
  dG "_law_pool" 76,
  dG "_law_joined" 77,
  dG "_law_cell" 78,
  dG "_law_shown" 79,
  dG "_law_lines" 80,
  dG "_law_text" 81,
  dG "_law_spot" 82,
  dG "_law_is_so" 84,
  dG "_law_right" 85,
  dG "_law_made_right" 86,
  dG "_law_forty_right" 87,
  dG "is_between" 31,
  dG "check_shape" 32,
  dG "spoiling_triple" 33,
  dG "serving_table" 34,
  dG "unserved_remainder" 35,
  dG "is_catalogue_name" 41,
  dG "check_natural" 42,
  dG "check_catalogue" 44,
  dG "format_catalogue" 45,
  dG "split_lines" 49]
def fnL1 : List He5.DefA := [dG "read_digits" 50,
  dG "is_empty_text" 51,
  dG "read_cell" 52,
  dG "parse_cell" 53,
  dG "parse_catalogue" 54,
  dG "check_at_least" 59,
  dG "failure_of" 66,
  dG "need_form" 67,
  dG "answer_of" 70,
  dG "digits_in" 20,
  dG "number_of" 21,
  dG "are_plain" 22,
  dG "rank_of" 25,
  dG "in_base" 27,
  dG "base_rank" 28,
  dG "_law_refused" 83,
  dGk "is_integer" 18 [] [("low", .non), ("high", .non)],
  dGk "check_number" 19 [.int 0, .non] [],
  dM "Cell" "__init__" "Cell.__init__" 36 2,
  dM "Cell" "__eq__" "Cell.__eq__" 36 13,
  dM "Cell" "__str__" "Cell.__str__" 36 14,
  dP "Cell" "property" "modulus" "Cell.modulus" 36 3,
  dP "Cell" "property" "members" "Cell.members" 36 4,
  dP "Cell" "property" "size" "Cell.size" 36 5,
  dM "Session" "load" "Session.load" 71 7]
def fnL2 : List He5.DefA := [dM "Session" "change" "Session.change" 71 8,
  dM "Session" "lookup" "Session.lookup" 71 9,
  dM "Session" "find" "Session.find" 71 10,
  dM "Session" "outcome" "Session.outcome" 71 12,
  dM "Session" "execute" "Session.execute" 71 13,
  dM "Session" "perform" "Session.perform" 71 16,
  dM "Session" "undo" "Session.undo" 71 18,
  dM "Session" "need_place" "Session.need_place" 71 20,
  dM "Session" "create" "Session.create" 71 21,
  dM "Session" "__len__" "Session.__len__" 71 26,
  dM "Session" "__eq__" "Session.__eq__" 71 27,
  dP "Session" "property" "names" "Session.names" 71 5,
  dP "Session" "property" "text" "Session.text" 71 6,
  dP "Session" "classmethod" "restore" "Session.restore" 71 3,
  dM "Session" "__init__" "Session.__init__" 71 2,
  dMk "Session" "ask" "Session.ask" 71 11 [("shift", .int 0)],
  dP "Recorder" "property" "transcript" "Recorder.transcript" 72 2,
  dM "RuledSequence" "__init__" "RuledSequence.__init__" 60 1,
  dM "RuledSequence" "rank" "RuledSequence.rank" 60 4,
  dG "law" 88]
def fnL : List He5.DefA := fnL0 ++ (fnL1 ++ (fnL2))
def sfL0 : List SuD := [⟨"Recorder", "__init__", "Recorder.__init__", inClass (tops 72) 0⟩,
  ⟨"Recorder", "outcome", "Recorder.outcome", inClass (tops 72) 1⟩,
  ⟨"ShiftedSequence", "__init__", "ShiftedSequence.__init__", inClass (tops 61) 1⟩,
  ⟨"ShiftedSequence", "rank", "ShiftedSequence.rank", inClass (tops 61) 4⟩]
def sfL : List SuD := sfL0
def exL0 : List Chk := [kGlo "law",
  kFree "isinstance",
  kFree "int",
  kFree "bool",
  kFree "str",
  kFree "list",
  kFree "tuple",
  kFree "len",
  kFree "range",
  kFree "enumerate",
  kFree "zip",
  kFree "max",
  kFree "min",
  kFree "sorted",
  kFree "all",
  kFree "super",
  kInt "MAX_NAMES" 26,
  kInt "MAX_DIGITS" 600,
  kStr "EMPTY" "-",
  kStr "LETTERS" "abcdefghijklmnopqrstuvwxyz",
  kStr "DIGITS" "0123456789",
  kStr "DONE" "ok",
  kGlo "Cell",
  kGlo "Session",
  kGlo "Recorder"]
def exL1 : List Chk := [kRd "Cell",
  kCv "Cell" "MAX_MODULUS" 20000,
  kCv "Cell" "MAX_MEMBERS" 256,
  kFi (fun K => PySem.W.specialIn K (.builtin "object.__class__") "__get__") (some (.builtin "getset_descriptor.__get__")),
  kOB (fun K => PySem.W.takesIn K (.builtin "object.__class__")) true,
  kCls "Cell",
  kNo "Cell" "table",
  kNo "Cell" "own_modulus",
  kNo "Cell" "own_members",
  kNo "Cell" "known",
  kFi (fun K => PySem.W.findIn K (.ref (ga K "Cell")) "__class__") (some (.builtin "object.__class__")),
  kOB (fun K => PySem.W.mroIn K (ga K "Cell") (.type "object")) true,
  kOB (fun K => PySem.W.kitOne K (.ref (ga K "Cell")) (.ref (ga K "Cell"))) true,
  kCls "Session",
  kNo "Session" "held",
  kNo "Session" "history",
  kFi (fun K => PySem.W.findIn K (.ref (ga K "Session")) "__class__") (some (.builtin "object.__class__")),
  kOB (fun K => PySem.W.mroIn K (ga K "Session") (.type "object")) true,
  kOB (fun K => PySem.W.kitOne K (.ref (ga K "Session")) (.ref (ga K "Session"))) true,
  kCls "Recorder",
  kNo "Recorder" "held",
  kNo "Recorder" "history",
  kFi (fun K => PySem.W.findIn K (.ref (ga K "Recorder")) "__class__") (some (.builtin "object.__class__")),
  kOB (fun K => PySem.W.mroIn K (ga K "Recorder") (.type "object")) true,
  kOB (fun K => PySem.W.kitOne K (.ref (ga K "Recorder")) (.ref (ga K "Session"))) true]
def exL2 : List Chk := [kNo "Recorder" "entries",
  kGlo "InvalidText",
  kGlo "NotFree",
  kGlo "NotServed",
  kGlo "TooLarge",
  kGlo "InvalidCell",
  kGlo "InvalidNumber",
  kGlo "NothingToUndo",
  kOB (fun K => PySem.W.exmAny K (.ref (ga K "NotFree")) [.ref (ga K "NotFree"), .ref (ga K "NotServed"), .ref (ga K "TooLarge")]) true,
  kOB (fun K => PySem.W.exmAny K (.ref (ga K "NothingToUndo")) [.ref (ga K "InvalidText"), .ref (ga K "InvalidCell"), .ref (ga K "InvalidNumber"), .ref (ga K "TooLarge"), .ref (ga K "NothingToUndo")]) true,
  kOB (fun K => PySem.W.exmOne K (.ref (ga K "InvalidText")) (.ref (ga K "InvalidText"))) true,
  kXc "InvalidText" "ValueError.__new__" [.type "ValueError", .type "Exception", .type "BaseException", .type "object"],
  kFi (fun K => PySem.W.findIn K (.ref (ga K "InvalidText")) "__setattr__") (some (.builtin "object.__setattr__")),
  kOB (fun K => PySem.W.subIn K (.ref (ga K "InvalidText")) (.type "BaseException")) true,
  kTy (fun K => PySem.W.typeIn K (.ref (ga K "InvalidText"))) (.type "type"),
  kKeep "InvalidText",
  kMeth "InvalidText" "__init__",
  kGlo "SetError",
  kRd "SetError",
  kCi "SetError" "__init__" "ValueError.__init__",
  kXf "InvalidText",
  kNo "InvalidText" "row",
  kNo "InvalidText" "word",
  kXc "NotFree" "RuntimeError.__new__" [.type "RuntimeError", .type "Exception", .type "BaseException", .type "object"],
  kFi (fun K => PySem.W.findIn K (.ref (ga K "NotFree")) "__setattr__") (some (.builtin "object.__setattr__"))]
def exL3 : List Chk := [kOB (fun K => PySem.W.subIn K (.ref (ga K "NotFree")) (.type "BaseException")) true,
  kTy (fun K => PySem.W.typeIn K (.ref (ga K "NotFree"))) (.type "type"),
  kKeep "NotFree",
  kMeth "NotFree" "__init__",
  kGlo "StateError",
  kRd "StateError",
  kCi "StateError" "__init__" "RuntimeError.__init__",
  kNo "NotFree" "low",
  kNo "NotFree" "middle",
  kNo "NotFree" "high",
  kExc "NothingToUndo" [.type "RuntimeError", .type "Exception", .type "BaseException", .type "object"] "RuntimeError.__new__",
  kKeep "NothingToUndo",
  kOB (fun K => PySem.W.subIn K (.ref (ga K "NothingToUndo")) (.type "BaseException")) true,
  kTy (fun K => PySem.W.typeIn K (.ref (ga K "NothingToUndo"))) (.type "type"),
  kFi (fun K => PySem.W.findIn K (.ref (ga K "NothingToUndo")) "__getattribute__") (some (.builtin "BaseException.__getattribute__")),
  kFi (fun K => PySem.W.findIn K (.ref (ga K "NothingToUndo")) "__getattr__") (none),
  fun K => PySem.W.hasDictIn K (ga K "NothingToUndo"),
  kFi (fun K => PySem.W.findIn K (.ref (ga K "NothingToUndo")) "__class__") (some (.builtin "object.__class__")),
  kOB (fun K => PySem.W.mroIn K (ga K "NothingToUndo") (.type "object")) true,
  kOB (fun K => PySem.W.kitOne K (.ref (ga K "NothingToUndo")) (.ref (ga K "InvalidText"))) false,
  kOB (fun K => PySem.W.kitOne K (.ref (ga K "NothingToUndo")) (.ref (ga K "InvalidCell"))) false,
  kOB (fun K => PySem.W.kitOne K (.ref (ga K "NothingToUndo")) (.ref (ga K "InvalidNumber"))) false,
  kOB (fun K => PySem.W.kitOne K (.ref (ga K "NothingToUndo")) (.ref (ga K "TooLarge"))) false,
  kOB (fun K => PySem.W.subIn K (.ref (ga K "Session")) (.type "NoneType")) false,
  kOB (fun K => PySem.W.subIn K (.ref (ga K "Session")) (.type "int")) false]
def exL4 : List Chk := [kOB (fun K => PySem.W.subIn K (.ref (ga K "Session")) (.type "str")) false,
  kOB (fun K => PySem.W.subIn K (.ref (ga K "Session")) (.type "dict")) false,
  kNe,
  kOB (fun K => PySem.W.subIn K (.ref (ga K "Recorder")) (.ref (ga K "Session"))) true,
  kFi (fun K => PySem.W.findIn K (.ref (ga K "Recorder")) "__ne__") (some (.builtin "object.__ne__")),
  kNF "Session",
  kNF "Cell",
  kOB (fun K => PySem.W.kitOne K (.type "NoneType") (.ref (ga K "Session"))) false,
  kOB (fun K => PySem.W.kitOne K (.type "int") (.ref (ga K "Session"))) false,
  kOB (fun K => PySem.W.kitOne K (.type "str") (.ref (ga K "Session"))) false,
  kOB (fun K => PySem.W.kitOne K (.type "dict") (.ref (ga K "Session"))) false,
  kOB (fun K => PySem.W.kitOne K (.ref (ga K "Session")) (.ref (ga K "Recorder"))) false,
  kOB (fun K => PySem.W.kitOne K (.ref (ga K "Recorder")) (.ref (ga K "Recorder"))) true,
  kCls "ShiftedSequence",
  kNo "ShiftedSequence" "own_cell",
  kNo "ShiftedSequence" "offset",
  kGlo "ShiftedSequence",
  kGlo "QUESTIONS",
  kTupQ "QUESTIONS" [.str "member", .str "rank", .str "next", .str "last", .str "cover"],
  kGlo "_law_source",
  kGlo "_law_pick",
  kGlo "_law_pool",
  kGlo "_law_joined",
  kGlo "_law_cell",
  kGlo "_law_shown"]
def exL5 : List Chk := [kGlo "_law_lines",
  kGlo "_law_text",
  kGlo "_law_spot",
  kGlo "_law_is_so",
  kGlo "_law_right",
  kGlo "_law_made_right",
  kGlo "_law_forty_right",
  kGlo "is_between",
  kGlo "check_shape",
  kGlo "spoiling_triple",
  kGlo "serving_table",
  kGlo "unserved_remainder",
  kGlo "is_catalogue_name",
  kGlo "check_natural",
  kGlo "check_catalogue",
  kGlo "format_catalogue",
  kGlo "split_lines",
  kGlo "read_digits",
  kGlo "is_empty_text",
  kGlo "read_cell",
  kGlo "parse_cell",
  kGlo "parse_catalogue",
  kGlo "check_at_least",
  kGlo "failure_of",
  kGlo "need_form"]
def exL6 : List Chk := [kGlo "answer_of",
  kGlo "digits_in",
  kGlo "number_of",
  kGlo "are_plain",
  kGlo "rank_of",
  kGlo "in_base",
  kGlo "base_rank",
  kGlo "is_integer",
  kGlo "check_number",
  kMeth "Cell" "__init__",
  kMeth "Cell" "__eq__",
  kMeth "Cell" "__str__",
  kProp "Cell" "modulus",
  kProp "Cell" "members",
  kProp "Cell" "size",
  kMk "Cell",
  kMeth "Session" "load",
  kMeth "Session" "change",
  kMeth "Session" "lookup",
  kMeth "Session" "find",
  kMeth "Session" "outcome",
  kMeth "Session" "execute",
  kMeth "Session" "perform",
  kMeth "Session" "undo",
  kMeth "Session" "need_place"]
def exL7 : List Chk := [kMeth "Session" "create",
  kMeth "Session" "__len__",
  kMeth "Session" "__eq__",
  kProp "Session" "names",
  kProp "Session" "text",
  kCm "Session" "restore",
  kRd "Session",
  kCon "Session" "MAX_NAMES" 26,
  kSame "load",
  kMeth "Recorder" "load",
  kSame "change",
  kMeth "Recorder" "change",
  kSame "lookup",
  kMeth "Recorder" "lookup",
  kSame "find",
  kMeth "Recorder" "find",
  kSame "execute",
  kMeth "Recorder" "execute",
  kSame "perform",
  kMeth "Recorder" "perform",
  kSame "undo",
  kMeth "Recorder" "undo",
  kSame "need_place",
  kMeth "Recorder" "need_place",
  kSame "create"]
def exL8 : List Chk := [kMeth "Recorder" "create",
  kSame "__len__",
  kMeth "Recorder" "__len__",
  kSame "__eq__",
  kMeth "Recorder" "__eq__",
  kSameW "property" "names",
  kProp "Recorder" "names",
  kSameW "property" "text",
  kProp "Recorder" "text",
  kSameW "classmethod" "restore",
  kCm "Recorder" "restore",
  kRd "Recorder",
  kCon "Recorder" "MAX_NAMES" 26,
  kMeth "Session" "__init__",
  kMk "Session",
  kMk "Recorder",
  kSame "ask",
  kMeth "Recorder" "ask",
  kFi (fun K => PySem.W.nsIn K PySem.cStatics "thirdparty.any") (none),
  kMeth "Recorder" "__init__",
  kSu "Recorder" "Recorder" "__init__" "Session",
  fun K => PySem.W.fnIn K (ma K (ga K "Session") "__init__"),
  kOB (fun K => PySem.W.mroIn K (ga K "Recorder") (.ref (ga K "Recorder"))) true,
  kSu "Recorder" "Recorder" "outcome" "Session",
  fun K => PySem.W.fnIn K (ma K (ga K "Session") "outcome")]
def exL9 : List Chk := [kMeth "Recorder" "outcome",
  kProp "Recorder" "transcript",
  kMk "ShiftedSequence",
  kMeth "ShiftedSequence" "rank",
  kSu "ShiftedSequence" "ShiftedSequence" "__init__" "RuledSequence",
  kMeth "RuledSequence" "__init__",
  fun K => PySem.W.fnIn K (ma K (ga K "RuledSequence") "__init__"),
  kOB (fun K => PySem.W.mroIn K (ga K "ShiftedSequence") (.ref (ga K "ShiftedSequence"))) true,
  kSu "ShiftedSequence" "ShiftedSequence" "rank" "RuledSequence",
  kMeth "RuledSequence" "rank",
  fun K => PySem.W.fnIn K (ma K (ga K "RuledSequence") "rank"),
  kGlo "_law_refused"]
def exL : List Chk := exL0 ++ (exL1 ++ (exL2 ++ (exL3 ++ (exL4 ++ (exL5 ++ (exL6 ++ (exL7 ++ (exL8 ++ (exL9)))))))))
end TF
section
set_option maxHeartbeats 0
namespace HdK
open PySem PySem.W PySem.Calls PyProof.Rows
abbrev RO : OpenRow := OpenLaw.row PySem.Challenge.rw_triplefree_k64_whole_loaded_texts
def loose0 : List PySem.Str := ["_wall", "SetError", "InvalidNumber", "InvalidModulus", "InvalidMembers", "InvalidCell", "InvalidCertificate", "InvalidText", "StateError", "NotFree", "NotServed", "IsMember", "NotCovered", "NothingToUndo", "LimitError", "TooLarge", "is_integer", "check_number", "digits_in", "number_of"]
def loose1 : List PySem.Str := ["are_plain", "power_of", "member_at", "rank_of", "base_member", "in_base", "base_rank", "plain_pair", "is_between", "check_shape", "spoiling_triple", "serving_table", "unserved_remainder", "Cell", "MAX_NAMES", "EMPTY", "LETTERS", "is_catalogue_name", "check_natural", "format_numbers"]
def loose2 : List PySem.Str := ["check_catalogue", "format_catalogue", "MAX_DIGITS", "DIGITS", "split_lines", "read_digits", "is_empty_text", "read_cell", "parse_cell", "parse_catalogue", "check_cells", "product", "check_at_least", "RuledSequence", "ShiftedSequence", "DONE", "CELL_FAILURES", "QUESTIONS", "failure_of", "need_form"]
def loose3 : List PySem.Str := ["read_numbers", "cover_or_none", "answer_of", "Session", "Recorder", "_law_source", "_law_pick", "_law_pool", "_law_joined", "_law_cell", "_law_shown", "_law_lines", "_law_text", "_law_spot", "_law_refused", "_law_is_so", "_law_right", "_law_made_right", "_law_forty_right"]
def loose : List PySem.Str := loose0 ++ loose1 ++ loose2 ++ loose3
abbrev qv : Program := view RO.prog [88]
abbrev FlL : PySem.Str := PySem.Challenge.pw_triplefree_k64_whole_loaded_texts.main.file
abbrev asH : (Addr → Option Obj) → List Addr := TF.asL TF.csL TF.fsL
abbrev hk : PySem.W.Hook := TF.hookZ FlL asH TF.fnL TF.sfL TF.tfL TF.exL
def ob (s : PySem.W.SharedT) : TF.AlZ := TF.obsZ FlL asH TF.fnL TF.sfL TF.tfL TF.exL (HandSHeadRun.getT s)
theorem ob_eq (s : PySem.W.SharedT) : ob s = hk.obs s.abs := TF.obsZ_eq (HandSHeadRun.getT_eq s)
/-! the run, with the defs alone, with the other facts alone -/
abbrev hkA : PySem.W.Hook := TF.hookZ FlL asH TF.fnL [] [] []
def obA (s : PySem.W.SharedT) : TF.AlZ := TF.obsZ FlL asH TF.fnL [] [] [] (HandSHeadRun.getT s)
abbrev hkB : PySem.W.Hook := TF.hookZ FlL asH [] TF.sfL TF.tfL TF.exL
def obB (s : PySem.W.SharedT) : TF.AlZ := TF.obsZ FlL asH [] TF.sfL TF.tfL TF.exL (HandSHeadRun.getT s)
theorem runAF (w : World) : HandSHeadRun.RunEq RO qv hkA obA 12000 loose (w.withFollow "special-get-raises" false) := by
  intro os
  kernel_rfl
theorem runAT (w : World) : HandSHeadRun.RunEq RO qv hkA obA 12000 loose (w.withFollow "special-get-raises" true) := by
  intro os
  kernel_rfl
theorem runBF (w : World) : HandSHeadRun.RunEq RO qv hkB obB 12000 loose (w.withFollow "special-get-raises" false) := by
  intro os
  kernel_rfl
theorem runBT (w : World) : HandSHeadRun.RunEq RO qv hkB obB 12000 loose (w.withFollow "special-get-raises" true) := by
  intro os
  kernel_rfl
theorem map_both {α β γ δ ε ζ : Type} {o : Option α} {f : α → β} {g : α → γ} {a : α → δ} {b : α → ε} {c : α → ζ} {x : β} {y : γ} {va : δ} {vb : ε} {vc : ζ} (h1 : o.map (fun s => (f s, g s, a s)) = some (x, y, va)) (h2 : o.map (fun s => (f s, g s, b s)) = some (x, y, vb))
    (m : ∀ s, a s = va → b s = vb → c s = vc) : o.map (fun s => (f s, g s, c s)) = some (x, y, vc) := by
  cases o with
  | none => cases h1
  | some s =>
    have e1 : (f s, g s, a s) = (x, y, va) := Option.some.inj h1
    have e2 : (f s, g s, b s) = (x, y, vb) := Option.some.inj h2
    simp only [Prod.mk.injEq] at e1 e2
    show some (f s, g s, c s) = some (x, y, vc)
    rw [e1.1, e1.2.1, m s e1.2.2 e2.2.2]
theorem run_both {w : World} (h1 : HandSHeadRun.RunEq RO qv hkA obA 12000 loose w) (h2 : HandSHeadRun.RunEq RO qv hkB obB 12000 loose w) : HandSHeadRun.RunEq RO qv hk ob 12000 loose w :=
  fun os => map_both (h1 os) (h2 os) fun _ e1 e2 => TF.obs_both e1 e2
theorem run (w : World) : HandSHeadRun.RunEq RO qv hk ob 12000 loose w := PySem.W.byRow2 "special-get-raises" (P := fun w => HandSHeadRun.RunEq RO qv hk ob 12000 loose w) (fun w => run_both (runAF w) (runBF w)) (fun w => run_both (runAT w) (runBT w)) w
end HdK
end
end
section
set_option maxHeartbeats 4000000
namespace TF
open PySem PySem.Spec PyProof.Rows L2
/-! ### enumerate(tuple) -/
section
variable {prog : Program} {w : World} {A : Around} {E : Value → Shared → Prop} {s : Shared}
theorem enumT_new (l : Addr) (vals : Array Value) (n : Nat) (dd : Option Addr) (sl : Array (Option Value)) :
    Meets (Builtin.«enumerate.__new__» ⟨[.type "enumerate", .ref l], []⟩) (fun _ R s => s.heap.get? l = some { cls := .type "tuple", dict := dd, data := .seq vals n, slots := sl } ∧
      R (.ok (.ret (.ref (s.heap.push { cls := .type "tuple_iterator", data := .fields #[.ref l, .int 0 0] }).objs.size)))
        { s with heap := (s.heap.push { cls := .type "tuple_iterator", data := .fields #[.ref l, .int 0 0] }).push { cls := .type "enumerate", data := .fields #[.none, .bool false, .ref s.heap.objs.size, rawInt 0, .none, .none] } }) :=
  .of_wp fun prog w A R s h => by
    obtain ⟨hp0, g0, d0, tk0, os0⟩ := s
    obtain ⟨hl, h⟩ := h
    have hsub := sub_enumerate
    have hT : Heap.IsTuple (Shared.heap ⟨hp0, g0, d0, tk0, os0⟩) l vals := ⟨_, hl, rfl, n, rfl⟩
    wp_walk using AutoSeq1.wpAny_loadPart' hl
    refine wpAny_stack_any fun _ => wpAny_pure ?_
    split
    · rename_i cc _ _ _ _ _
      cases (cc == Value.type "enumerate") <;> (wp_walk using AutoSeq1.wpAny_loadPart' hl, wpAny_pyIter_tuple hT; exact ⟨_, rfl, h⟩)
    · wp_walk using AutoSeq1.wpAny_loadPart' hl, wpAny_pyIter_tuple hT
      exact ⟨_, rfl, h⟩
theorem enumT_call {l : Addr} {vals : Array Value} {Q : Value → Shared → Prop} (hT : s.heap.IsTuple l vals)
    (h : ∀ h', IsEnum h' (s.heap.objs.size + 1) s.heap.objs.size 0 .none → h'.IsTupleIter s.heap.objs.size l 0 → (∀ b o, s.heap.get? b = some o → h'.get? b = some o) → Q (.ref (s.heap.objs.size + 1)) { s with heap := h' }) :
    wpAny (model prog w) A (call (.type "enumerate") [.ref l]) Q E s := by
  obtain ⟨⟨c0, d0, dt0, sl0⟩, hl, hc, n, hd⟩ := hT
  obtain rfl : c0 = .type "tuple" := hc
  obtain rfl : dt0 = .seq vals n := hd
  refine callType_new F.called_enumerate (by decide) (F.typeCall_enumerate_1 _) (F.newCall_enumerate_1 _) (fun obj => F.args_object_init_2 obj _) F.entry_enumerate_new (enumT_new l vals n d0 sl0) ⟨hl, ?_⟩
  have hz : (s.heap.push { cls := .type "tuple_iterator", data := .fields #[.ref l, .int 0 0] }).objs.size = s.heap.objs.size + 1 := Heap.size_push ..
  show _ ∧ _
  rw [hz]
  have he := Heap.get?_push_size (s.heap.push { cls := .type "tuple_iterator", data := .fields #[.ref l, .int 0 0] }) (o := { cls := .type "enumerate", data := .fields #[.none, .bool false, .ref s.heap.objs.size, rawInt 0, .none, .none] }) rfl
  rw [hz] at he
  exact ⟨⟨_, he, rfl⟩, h _ he ⟨_, Heap.get?_push_of_some _ (Heap.get?_push_size _ rfl), rfl, rfl⟩ fun b o x => Heap.get?_push_of_some _ (Heap.get?_push_of_some _ x)⟩
end
/-- the tuple at a, each item in a new pair -/
def IteT (K : PySem.W.Frag) (a : Addr) : It :=
  ⟨fun i H => ∃ (xs : List V) (x : V), SqT K H a xs ∧ xs[i]? = some x, fun i H v H' => ∃ T x, v = .ref T ∧ H T = none ∧ H' = upd H T (.tup [.int (i : Nat), x]) ∧ ∀ xs, SqT K H a xs → xs[i]? = some x, fun i H => ∃ xs : List V, SqT K H a xs ∧ xs.length = i⟩
theorem turn_enumT {P : Program} {w : World} {K : PySem.W.Frag} {elts : List Expr} {kk : Nat} {tpos : Pos} (a e it : Addr) :
    Turn P w K (.Tuple elts kk tpos) (IteT K a) [e, it] e (fun i h => (∃ old, IsEnum h e it ((i : Nat) : Int) old) ∧ h.IsTupleIter it a i ∧ e ≠ it ∧ a ≠ it ∧ e ≠ a) where
  mem := by simp
  obj := fun i h st b hb => by
    obtain ⟨⟨old, he⟩, ⟨o, ho, hc, hd⟩, _⟩ := st
    rcases (show b = e ∨ b = it by simpa using hb) with rfl | rfl
    · exact ⟨_, he, fun v q => nomatch q⟩
    · exact ⟨o, ho, fun v q => by rw [hd] at q; cases q⟩
  keep := fun i h h' st k => let ⟨⟨old, he⟩, hi, hne⟩ := st; ⟨⟨old, k e (by simp) _ he⟩, hi.at fun o q => k it (by simp) o q, hne⟩
  item := by
    intro X hP hw hK hc i pins s σ H E I hf st hg
    subst hP hw hK
    obtain ⟨⟨old, he⟩, hit, hne, hai, hea⟩ := st
    obtain ⟨xs, x, hq, hx⟩ := hg
    obtain ⟨its, rv, p, hz⟩ := I.tuple hq
    obtain ⟨u, hu, ru⟩ := rv.get hx
    have hp' : s.heap.IsTuple a its.toArray := p
    have hel : e < s.heap.objs.size := Heap.lt_size he
    have hil : it < s.heap.objs.size := by obtain ⟨_, q, _⟩ := hit; exact Heap.lt_size q
    have hlt : i < its.toArray.size := by
      obtain ⟨z, _⟩ := List.getElem?_eq_some_iff.mp hu
      simpa using z
    have hef : e ∉ [it, a] := by
      intro z
      rcases List.mem_cons.mp z with z | z
      · exact hne z
      · exact hea (by simpa using z)
    refine wpAny_pyNext_enum_itemD (Draws.tuple (A := X.A.in1) (I.ok.hd hc) it a hai its.toArray) he ⟨hit, hp'⟩ hlt hne hef fun y h' tk hy ho hit' hT hsz hk => ?_
    have ey : y = u := by
      have z : its.toArray[i]? = some y := hy
      rw [List.getElem?_toArray, hu] at z
      exact (Option.some.inj z).symm
    subst ey
    refine ⟨_, rfl, wpAny_letOwnedTupleGo_enum (s := { s with heap := h', toks := tk + 1 }) ho fun h'' he' sb => ?_⟩
    have hT2 : h''.get? s.heap.objs.size = some { cls := .type "tuple", data := .seq #[.int i tk, y] } := (sb.2 _ (Nat.ne_of_gt hel)).trans hT
    have new : ObjOk X.prog X.w (upd H s.heap.objs.size (.tup [.int (i : Nat), x])) h'' s.heap.objs.size (.tup [.int (i : Nat), x]) :=
      ⟨by show 2 ≤ sizeLine; decide, [.int i tk, y], .cons ⟨_, rfl⟩ (.cons ru .nil), ⟨_, hT2, rfl, _, rfl⟩⟩
    have I1 : Inv X pins σ (upd H s.heap.objs.size (.tup [.int (i : Nat), x])) { s with heap := h'', toks := tk + 1 } :=
      I.turnedNew (ch := [e, it]) (fun b ob hb q => (sb.2 b (fun z => hb (by simp [z]))).trans (hk b ob (fun z => hb (by simp [z])) (fun z => hb (by simp [z])) q)) hf (Nat.le_refl _) new
    refine ⟨.ref s.heap.objs.size, _, I1, rfl, ⟨_, x, rfl, I.hok.fresh (Nat.le_refl _), rfl, fun ys hy => by rw [I.tuple_inj hy hq]; exact hx⟩, ⟨⟨y, ?_⟩, hit'.1.at fun o q => (sb.2 it (Ne.symm hne)).trans q, hne, hai, hea⟩, fun b hb => ?_⟩
    · rw [show ((i + 1 : Nat) : Int) = (i : Int) + 1 by omega]
      exact he'
    · have hb' : b < s.heap.objs.size := by
        rcases (show b = e ∨ b = it by simpa using hb) with z | z
        · rw [z]; exact hel
        · rw [z]; exact hil
      rw [upd_ne (Nat.ne_of_lt hb')]
      exact (hf b hb).1
  done := by
    intro X hP hw hK hc i pins s σ H E I hf st hg
    subst hP hw hK
    obtain ⟨⟨old, he⟩, hit, hne, hai, hea⟩ := st
    obtain ⟨xs, hq, hx⟩ := hg
    obtain ⟨its, rv, p, hz⟩ := I.tuple hq
    obtain ⟨f0, f1, f2, f3, f4, f5⟩ := hf it (by simp)
    have hl := rv.length
    have hp' : s.heap.IsTuple a its.toArray := p
    have hn : its.toArray.size = i := by simp; omega
    have st' : s.heap.IsTupleIter it a its.toArray.size ∧ s.heap.IsTuple a its.toArray := ⟨by rw [hn]; exact hit, hp'⟩
    exact wpAny_pyNext_enum_endD (Draws.tuple (A := X.A.in1) (I.ok.hd hc) it a hai its.toArray) he st' fun h' eb => ⟨rfl, I.turned (t' := s.toks) (fun b o hb q => eb b o hb q) f0 f1 f3 f4 f5⟩
  self := fun A i s Q E st h => let ⟨⟨_, he⟩, _⟩ := st; wpAny_pyIter_enum he h
def iEnumT (K : PySem.W.Frag) (ta : TA) : TI := fun σ H R => ta σ H fun vs H1 => ∃ a xs, vs = [.ref a] ∧ SqT K H1 a xs ∧ R (IteT K a) H1
theorem pi_enumT {X : Cx} {e : Expr} {ta : TA} {p pos tpos : Pos} {elts : List Expr} {kk : Nat} (hg : Gl X "enumerate") (hm : X.mg "enumerate" = none) (ha : PA X [e] ta) (hs : starEach [e] X.env = [(false, eval e X.env)] := by rfl) :
    PI X (.Tuple elts kk tpos) (.Call (.Name "enumerate" p) [e] [] pos) (iEnumT X.K ta) := by
  refine ⟨fun pins s σ H R I h => Call_ (ld_blt I hg hm boot_enumerate (PyProof.Rows.callWith_type1 (thn (ha.run pos pins s σ H _ I h) fun us s1 ⟨vs, H1, I1, r1, a, xs, ex, hq, q⟩ => ?_) hs rfl))⟩
  subst ex
  obtain ⟨u, rfl, ru⟩ := vals1 r1
  obtain rfl : u = Value.ref a := ru
  obtain ⟨its, rv, p', hz⟩ := I1.tuple hq
  have hal : a < s1.heap.objs.size := p'.lt
  refine enumT_call (show s1.heap.IsTuple a its.toArray from p') fun h' he hit hk => wpAny_pyIter_enum he ?_
  have I2 : Inv X pins σ H1 { s1 with heap := h' } := I1.kept (t' := s1.toks) hk
  refine ⟨s1.heap.objs.size + 1, [s1.heap.objs.size + 1, s1.heap.objs.size], _, _, H1, rfl, I2, turn_enumT a (s1.heap.objs.size + 1) s1.heap.objs.size, ⟨⟨.none, he⟩, hit, Nat.succ_ne_self _, Nat.ne_of_lt hal, Nat.ne_of_gt (Nat.lt_succ_of_lt hal)⟩, fun b hb => ?_, q⟩
  have hle : s1.heap.objs.size ≤ b := by
    rcases (show b = s1.heap.objs.size + 1 ∨ b = s1.heap.objs.size by simpa using hb) with rfl | rfl
    · exact Nat.le_add_right _ _
    · exact Nat.le_refl _
  exact I1.fpOk hle (I1.hok.fresh hle)
theorem walk_enumT {K : PySem.W.Frag} {a : Addr} {xs : List V} : Walk (IteT K a) xs.length (fun H => SqT K H a xs) (YPair (fun i => some (.int (i : Nat))) (fun i => xs[i]?)) := by
  refine ⟨fun i _ hi q => ⟨xs, xs[i], q, by simp [hi]⟩, fun _ q => ⟨xs, q, rfl⟩, fun i H v H' _ q y => ?_⟩
  obtain ⟨T, x, h1, h2, h3, h4⟩ := y
  exact ⟨T, .int (i : Nat), x, h1, h2, h3, rfl, h4 xs q⟩

/-! ### max(tuple) -/
section
variable {prog : Program} {w : World} {A : Around} {E : Value → Shared → Prop} {s : Shared} {l : Addr}
theorem max_tup {ks : Array (Int × Tok)} {Q : Value → Shared → Prop} (hh : A.handled = none) (hl : s.heap.IsTuple l (intItems ks)) (hne : 0 < ks.size)
    (h : ∀ v h' tk, (intItems ks)[argBest (fun i j => decide (numAt ks i > numAt ks j)) (ks.size - 1)]? = some v → (∀ b o, s.heap.get? b = some o → h'.get? b = some o) → Q v { s with heap := h', toks := tk }) :
    wpAny (model prog w) A (call (.builtin "max") [.ref l]) Q E s := by
  have hlt : l < s.heap.objs.size := by obtain ⟨_, e, _⟩ := hl; exact Heap.lt_size e
  refine call_max_walk (wpAny_pyIter_tuple hl ?_)
  refine ⟨_, [s.heap.objs.size, l], [s.heap.objs.size], _, _, _, _, rfl, Walks.tuple (A := A.in1) hh _ l (Nat.ne_of_lt hlt) (intItems ks), ⟨⟨_, Heap.get?_push_size _ rfl, rfl, rfl⟩, hl.push _⟩, fun b hb => ?_, by simpa [intItems] using hne,
    CmpOf.ints_gt (numAt ks) (fun _ _ => intItems_at), fun v h' tk hP hk => h v h' tk (by simpa [intItems] using hP) fun b o e => hk b o (fun hm => ?_) (Heap.get?_push_of_some _ e)⟩
  · show b < (s.heap.push _).objs.size
    rw [Heap.size_push]
    rcases (show b = s.heap.objs.size ∨ b = l by simpa using hb) with rfl | rfl
    · exact Nat.lt_succ_self _
    · exact Nat.lt_succ_of_lt hlt
  · have e1 : b = s.heap.objs.size := by simpa using hm
    rw [e1] at e
    exact absurd (Heap.lt_size e) (Nat.lt_irrefl _)
end
def rMaxT (K : PySem.W.Frag) : List V → Hp → VK → Prop := fun vs H Q => ∃ (a : Addr) (ns : List Int), vs = [V.ref a] ∧ SqT K H a (ns.map V.int) ∧ 0 < ns.length ∧ ∀ m, m ∈ ns → (∀ y, y ∈ ns → y ≤ m) → Q (.int m) H
theorem cr_maxT {X : Cx} (hc : X.calm = true) : CallR X (.builtin "max") (rMaxT X.K) := by
  intro pins s σ H vs us Q I r h
  obtain ⟨a, ns, rfl, hs, hne, q⟩ := h
  obtain ⟨its, rv, hl, _⟩ := I.tuple hs
  rw [Vals.ref1 r]
  have hl' : s.heap.IsTuple a its.toArray := hl
  have hi := rv.ints
  obtain ⟨xs, e⟩ := hi.allInts.items
  have hn : numsOf (intItems xs).toList = ns := by rw [← e]; exact hi.numsOf
  rw [nums_intItems] at hn
  subst hn
  rw [e] at hl'
  refine max_tup (I.ok.hd hc) hl' (by simpa using hne) fun v h' tk hv hk => ?_
  obtain ⟨t, rfl⟩ := intItems_at hv
  obtain ⟨h1, h2⟩ := argBest_gt (numAt xs) (xs.size - 1)
  have hne' : 0 < xs.size := by simpa using hne
  refine ⟨.int _, H, I.kept hk, ⟨_, rfl⟩, q _ ?_ fun y hy => ?_⟩
  · rw [numAt_eq]
    refine PySem.getD_mem ?_
    rw [List.length_map, Array.length_toList]
    exact Nat.lt_of_le_of_lt h1 (by omega)
  · obtain ⟨j, hj, rfl⟩ := mem_getD hy
    rw [← numAt_eq]
    refine h2 j ?_
    rw [List.length_map, Array.length_toList] at hj
    omega
/-! ### a dict comprehension over a walk -/
theorem dc_it {J : It} {n : Nat} {G : Hp → Prop} {Y : Nat → Hp → V → Hp → Prop} (w : Walk J n G Y) {g : TG} {tt : TT} {tk tv : TE} {vs : List Nat} {σ : L2.St} {H1 : Hp} {D : Addr} {Qd : Hp → Prop} (Pv : Nat → Hp → Prop) (h0 : Pv 0 (upd H1 D (.dK []))) (hG : ∀ i H, i ≤ n → Pv i H → G H)
    (hs : ∀ i x H H', i < n → Pv i H → Y i H x H' → g x (wipe σ vs) H' fun σ2 H2 => wipe σ2 vs = wipe σ vs ∧ tt σ2 H2 fun b H3 =>
      if b = true then tk σ2 H3 fun y H4 => tv σ2 H4 fun z H5 => ∃ kvs k, y = kV k ∧ H5 D = some (.dK kvs) ∧ kvs.length < sizeLine ∧ Pv (i + 1) (upd H5 D (.dK (putK kvs k z))) else Pv (i + 1) H3) (hd : ∀ H, Pv n H → Qd H) :
    ∃ W : Nat → Nat → Hp → Prop, (∃ m, W 0 m (upd H1 D (.dK []))) ∧ ∀ i m H, W i m H →
      (J.stop i H ∧ Qd H) ∨ (J.go i H ∧ ∃ Nx : Hp → Prop, (∀ H', Nx H' → ∃ m', m' < m ∧ W (i + 1) m' H') ∧ ∀ x H', J.yld i H x H' → g x (wipe σ vs) H' fun σ2 H2 => wipe σ2 vs = wipe σ vs ∧ tt σ2 H2 fun b H3 =>
        if b = true then tk σ2 H3 fun y H4 => tv σ2 H4 fun z H5 => ∃ kvs k, y = kV k ∧ H5 D = some (.dK kvs) ∧ kvs.length < sizeLine ∧ Nx (upd H5 D (.dK (putK kvs k z))) else Nx H3) := by
  refine ⟨fun i m H => m = n - i ∧ i ≤ n ∧ Pv i H, ⟨n, by simp, Nat.zero_le _, h0⟩, ?_⟩
  rintro i m H ⟨rfl, hi, p⟩
  by_cases hlt : i < n
  · exact .inr ⟨w.goes i H hlt (hG i H hi p), Pv (i + 1), fun H' p' => ⟨n - (i + 1), by omega, rfl, hlt, p'⟩, fun x H' y => hs i x H H' hlt p (w.yields i H x H' hlt (hG i H hi p) y)⟩
  · obtain rfl : i = n := by omega
    exact .inl ⟨w.stops H (hG i H hi p), hd H p⟩
end TF
end
section
set_option maxHeartbeats 4000000
namespace TF
open PySem PySem.Spec PyProof.Rows L2
theorem iteTr {c : Bool} {A B : Prop} (hc : c = true) (h : A) : if c = true then A else B := by subst hc; exact iteT h
theorem iteFr {c : Bool} {A B : Prop} (hc : c = false) (h : B) : if c = true then A else B := by subst hc; exact iteF h
theorem z0 : 0 ≤ sizeLine := by decide
theorem z1 : 1 ≤ sizeLine := by decide
theorem z2 : 2 ≤ sizeLine := by decide
theorem z3 : 3 ≤ sizeLine := by decide
theorem z4 : 4 ≤ sizeLine := by decide
theorem z5 : 5 ≤ sizeLine := by decide
theorem seqAsg {te : TE} {g : TG} {u : TS} {D : Ends} {σ : L2.St} {H : Hp} (h : te σ H fun x H1 => g x σ H1 (u D)) : tSeq (tAsg te g) u D σ H := h
theorem seqI {t u : TS} {D : Ends} {σ : L2.St} {H : Hp} (h : t { D with nx := u D } σ H) : tSeq t u D σ H := h
theorem asgI {te : TE} {g : TG} {D : Ends} {σ : L2.St} {H : Hp} (h : te σ H fun x H1 => g x σ H1 D.nx) : tAsg te g D σ H := h
theorem fldI {K : PySem.W.Frag} {to tv : TE} {f : Str} {D : Ends} {σ : L2.St} {H : Hp} (h : tv σ H fun y H1 => to σ H1 fun x H2 => ∃ a C dx fs, x = .ref a ∧ H2 a = some (.ins C dx fs) ∧ Cls K C ∧ NoAttr K C f ∧ fs.length < 1000 ∧ D.nx σ (upd H2 a (.ins C dx (putF f y fs)))) :
    sFld K to tv f D σ H := h
theorem retI {te : TE} {D : Ends} {σ : L2.St} {H : Hp} (h : te σ H D.rt) : tRet te D σ H := h
theorem g_pair {K : PySem.W.Frag} {p q : Nat} {T : Addr} {x y : V} {σ : L2.St} {H : Hp} {Q : L2.St → Hp → Prop} (hT : H T = some (.tup [x, y])) (h : Q ((σ.set p (some x)).set q (some y)) H) :
    gTup K 2 (gCons (gName p) (gCons (gName q) gNil)) (.ref T) σ H Q := ⟨T, [x, y], rfl, SqT.of hT, rfl, x, [y], rfl, y, [], rfl, rfl, h⟩
abbrev iAny (K : PySem.W.Frag) (j : Nat) : TI := fun σ H R => iList K (tVar j) σ H R ∨ iTup K (tVar j) σ H R
abbrev iEnumAny (K : PySem.W.Frag) (j : Nat) : TI := fun σ H R => iEnum K (tCons (tVar j) tNil) σ H R ∨ iEnumT K (tCons (tVar j) tNil) σ H R
section
variable {K : PySem.W.Frag} {j : Nat} {a : Addr} {xs : List V} {g : TG} {tb : TS} {D : Ends} {σ : L2.St} {H : Hp}
/-- for x in members, members a list or a tuple -/
theorem for_A (hσ : σ[j]? = some (some (.ref a))) {H0 : Hp} (hA : SqA H0 a xs) (hH : Same H0 H) (Pv : Nat → L2.St → Hp → Prop) (h0 : Pv 0 σ H) (hP : ∀ i σ' H', Pv i σ' H' → Same H0 H')
    (hs : ∀ i x σ' H', xs[i]? = some x → Pv i σ' H' → g x σ' H' fun σ2 H2 => tb { D with nx := Pv (i + 1), ct := Pv (i + 1), bk := D.nx } σ2 H2) (hd : ∀ σ' H', Pv xs.length σ' H' → D.nx σ' H') : tFor (iAny K j) g tb D σ H := by
  rcases hA with h | h
  · refine .inl ⟨_, hσ, a, rfl, ⟨xs, SqL.of (hH _ _ h)⟩, for_it walk_list Pv h0 (fun i σ' H' _ p => SqL.of (hP i σ' H' p _ _ h)) (fun i x σ' H' H'' hi p y => ?_) hd⟩
    obtain ⟨rfl, hx⟩ := y
    exact hs i x σ' H'' hx p
  · refine .inr ⟨_, hσ, a, rfl, ⟨xs, SqT.of (hH _ _ h)⟩, for_it walk_tup Pv h0 (fun i σ' H' _ p => SqT.of (hP i σ' H' p _ _ h)) (fun i x σ' H' H'' hi p y => ?_) hd⟩
    obtain ⟨rfl, hx⟩ := y
    exact hs i x σ' H'' hx p
/-- for i, x in enumerate(members) -/
theorem for_enumA {p q : Nat} (hσ : σ[j]? = some (some (.ref a))) {H0 : Hp} (hA : SqA H0 a xs) (hH : Same H0 H) (Pv : Nat → L2.St → Hp → Prop) (h0 : Pv 0 σ H) (hP : ∀ i σ' H', Pv i σ' H' → Same H0 H')
    (hs : ∀ i x σ' H' H2, xs[i]? = some x → Pv i σ' H' → Same H' H2 → tb { D with nx := Pv (i + 1), ct := Pv (i + 1), bk := D.nx } ((σ'.set p (some (.int (i : Nat)))).set q (some x)) H2) (hd : ∀ σ' H', Pv xs.length σ' H' → D.nx σ' H') :
    tFor (iEnumAny K j) (gTup K 2 (gCons (gName p) (gCons (gName q) gNil))) tb D σ H := by
  rcases hA with h | h
  · refine .inl ⟨_, hσ, a, xs, rfl, SqL.of (hH _ _ h), for_it walk_enum Pv h0 (fun i σ' H' _ p => SqL.of (hP i σ' H' p _ _ h)) (fun i x σ' H' H'' hi p y => ?_) hd⟩
    obtain ⟨T, y1, y2, rfl, hT, rfl, e1, e2⟩ := y
    cases e1
    exact g_pair upd_same (hs i y2 σ' H' _ e2 p (Same.new hT))
  · refine .inr ⟨_, hσ, a, xs, rfl, SqT.of (hH _ _ h), for_it walk_enumT Pv h0 (fun i σ' H' _ p => SqT.of (hP i σ' H' p _ _ h)) (fun i x σ' H' H'' hi p y => ?_) hd⟩
    obtain ⟨T, y1, y2, rfl, hT, rfl, e1, e2⟩ := y
    cases e1
    exact g_pair upd_same (hs i y2 σ' H' _ e2 p (Same.new hT))
end
section
variable {K : PySem.W.Frag} {j : Nat} {a : Addr} {xs : List V} {g : TG} {tt : TT} {σ : L2.St} {H : Hp} {Q : VK} {vs : List Nat}
/-- [.. for x in members], members a list or a tuple; Pv by the turn and the heap, the new list at D within -/
theorem lc_A {te : TE} (hσ : σ[j]? = some (some (.ref a))) {H0 : Hp} (hA : SqA H0 a xs) (hH : Same H0 H) (Pv : Addr → Nat → Hp → Prop) (h0 : ∀ D, H D = none → Pv D 0 (upd H D (.lst []))) (hP : ∀ D i H', H D = none → Pv D i H' → Same H0 H')
    (hs : ∀ D i x H', H D = none → xs[i]? = some x → Pv D i H' → g x (wipe σ vs) H' fun σ2 H2 => wipe σ2 vs = wipe σ vs ∧ tt σ2 H2 fun b H3 =>
      if b = true then te σ2 H3 fun y H4 => ∃ acc, H4 D = some (.lst acc) ∧ acc.length < sizeLine ∧ Pv D (i + 1) (upd H4 D (.lst (acc ++ [y]))) else Pv D (i + 1) H3) (hd : ∀ D H', H D = none → Pv D xs.length H' → Q (.ref D) H') : tLc (iAny K j) g tt te vs σ H Q := by
  rcases hA with h | h
  · refine .inl ⟨_, hσ, a, rfl, ⟨xs, SqL.of (hH _ _ h)⟩, fun D hD => lc_it walk_list (Pv D) (h0 D hD) (fun i H' _ p => SqL.of (hP D i H' hD p _ _ h)) (fun i x H' H'' hi p y => ?_) (fun H' p => hd D H' hD p)⟩
    obtain ⟨rfl, hx⟩ := y
    exact hs D i x H'' hD hx p
  · refine .inr ⟨_, hσ, a, rfl, ⟨xs, SqT.of (hH _ _ h)⟩, fun D hD => lc_it walk_tup (Pv D) (h0 D hD) (fun i H' _ p => SqT.of (hP D i H' hD p _ _ h)) (fun i x H' H'' hi p y => ?_) (fun H' p => hd D H' hD p)⟩
    obtain ⟨rfl, hx⟩ := y
    exact hs D i x H'' hD hx p
/-- {..: .. for x in members} -/
theorem dc_A {tk tv : TE} (hσ : σ[j]? = some (some (.ref a))) {H0 : Hp} (hA : SqA H0 a xs) (hH : Same H0 H) (Pv : Addr → Nat → Hp → Prop) (h0 : ∀ D, H D = none → Pv D 0 (upd H D (.dK []))) (hP : ∀ D i H', H D = none → Pv D i H' → Same H0 H')
    (hs : ∀ D i x H', H D = none → xs[i]? = some x → Pv D i H' → g x (wipe σ vs) H' fun σ2 H2 => wipe σ2 vs = wipe σ vs ∧ tt σ2 H2 fun b H3 =>
      if b = true then tk σ2 H3 fun y H4 => tv σ2 H4 fun z H5 => ∃ kvs k, y = kV k ∧ H5 D = some (.dK kvs) ∧ kvs.length < sizeLine ∧ Pv D (i + 1) (upd H5 D (.dK (putK kvs k z))) else Pv D (i + 1) H3) (hd : ∀ D H', H D = none → Pv D xs.length H' → Q (.ref D) H') : tDc (iAny K j) g tt tk tv vs σ H Q := by
  rcases hA with h | h
  · refine .inl ⟨_, hσ, a, rfl, ⟨xs, SqL.of (hH _ _ h)⟩, fun D hD => dc_it walk_list (Pv D) (h0 D hD) (fun i H' _ p => SqL.of (hP D i H' hD p _ _ h)) (fun i x H' H'' hi p y => ?_) (fun H' p => hd D H' hD p)⟩
    obtain ⟨rfl, hx⟩ := y
    exact hs D i x H'' hD hx p
  · refine .inr ⟨_, hσ, a, rfl, ⟨xs, SqT.of (hH _ _ h)⟩, fun D hD => dc_it walk_tup (Pv D) (h0 D hD) (fun i H' _ p => SqT.of (hP D i H' hD p _ _ h)) (fun i x H' H'' hi p y => ?_) (fun H' p => hd D H' hD p)⟩
    obtain ⟨rfl, hx⟩ := y
    exact hs D i x H'' hD hx p
end
abbrev tMaxAny (K : PySem.W.Frag) (j : Nat) : TE := fun σ H R => tCB (rMax K) (tCons (tVar j) tNil) σ H R ∨ tCB (rMaxT K) (tCons (tVar j) tNil) σ H R
theorem max_A {K : PySem.W.Frag} {j : Nat} {a : Addr} {ms : List Nat} {σ : L2.St} {H H0 : Hp} {Q : VK} (hσ : σ[j]? = some (some (.ref a))) (hA : SqA H0 a (ms.map fun n : Nat => V.int (n : Int))) (hH : Same H0 H) (hne : 0 < ms.length)
    (h : ∀ m ∈ ms, (∀ y ∈ ms, y ≤ m) → Q (.int (m : Nat)) H) : tMaxAny K j σ H Q := by
  have e : (ms.map fun n : Nat => V.int (n : Int)) = (ms.map fun n : Nat => (n : Int)).map V.int := by rw [List.map_map]; rfl
  have fin : ∀ m : Int, m ∈ (ms.map fun n : Nat => (n : Int)) → (∀ y, y ∈ (ms.map fun n : Nat => (n : Int)) → y ≤ m) → Q (.int m) H := fun m h1 h2 => by
    obtain ⟨k, hk, rfl⟩ := List.mem_map.mp h1
    exact h k hk fun y hy => Int.ofNat_le.mp (h2 _ (List.mem_map.mpr ⟨y, hy, rfl⟩))
  rw [e] at hA
  rcases hA with q | q
  · exact .inl ⟨_, hσ, a, _, rfl, SqL.of (hH _ _ q), by rw [List.length_map]; exact hne, fin⟩
  · exact .inr ⟨_, hσ, a, _, rfl, SqT.of (hH _ _ q), by rw [List.length_map]; exact hne, fin⟩
/-- tuple(members) -/
theorem tup_A {K : PySem.W.Frag} {j : Nat} {a : Addr} {xs : List V} {σ : L2.St} {H H0 : Hp} {Q : VK} (hσ : σ[j]? = some (some (.ref a))) (hA : SqA H0 a xs) (hH : Same H0 H) (h : ∀ tp H', Same H H' → H' tp = some (.tup xs) → Q (.ref tp) H') : tThen (tVar j) (kTup K) σ H Q := by
  rcases hA with q | q
  · exact ⟨_, hσ, .inl ⟨a, xs, rfl, SqL.of (hH _ _ q), fun p hp => h p _ (Same.new hp) upd_same⟩⟩
  · exact ⟨_, hσ, .inr ⟨a, xs, rfl, SqT.of (hH _ _ q), h a H (Same.refl H) (hH _ _ q)⟩⟩
/-- x = {..: .. for ..}, x a local -/
theorem ps_setDc {X : Cx} {i : Nat} {y : Str} {py : Pos} {kx vx tg iter : Expr} {ifs : List Expr} {scope : Scope} {own : List (Str × Nat)} {pos spos : Pos} {wi : TI} {g : TG} {tt : TT} {tk tv : TE} (hc : X.calm = true) (hN : X.N.Nodup) (hy : X.N[i]? = some y) (hyl : X.env.scope.names.lookup y = some .local)
    (hsw : swapsWith (.DictComp kx vx [⟨tg, iter, ifs, 0⟩] scope pos) (some (.Name y py)) spos.line X.env = pure true) (hi : PI X tg iter wi) (ok : BlkOk X.N X.env.scope scope own)
    (hg : ∀ (s : Shared) (H : Hp) (C : Addr) (cl : List (Str × Addr)) (fp : List Addr), PG (X.blk s H scope (compEnvC scope cl C X.env) fp) tg g) (ht : ∀ (s : Shared) (H : Hp) (C : Addr) (cl : List (Str × Addr)) (fp : List Addr), PTs (X.blk s H scope (compEnvC scope cl C X.env) fp) ifs tt)
    (hk : ∀ (s : Shared) (H : Hp) (C : Addr) (cl : List (Str × Addr)) (fp : List Addr), PE (X.blk s H scope (compEnvC scope cl C X.env) fp) kx tk)
    (he : ∀ (s : Shared) (H : Hp) (C : Addr) (cl : List (Str × Addr)) (fp : List Addr), PE (X.blk s H scope (compEnvC scope cl C X.env) fp) vx tv) (hs : ∀ x, foldedSetIterable iter X.env x = pure x := by intro _; rfl) :
    PS X (.Assign [.Name y py] (.DictComp kx vx [⟨tg, iter, ifs, 0⟩] scope pos) spos) (tAsg (tDc wi g tt tk tv (own.map (·.2))) (gName i)) := by
  refine ⟨fun pins s σ H D I h => ?_⟩
  rw [exec_Assign_Name_used _ _ _ _ hsw]
  refine wpAny_bind (wpAny_standAt (wpAny_bind ?_))
  show wpAny _ X.A (do let _ ← comprehension (.DictComp kx vx [⟨tg, iter, ifs, 0⟩] scope pos) scope X.env (firstIterPos [⟨tg, iter, ifs, 0⟩] pos) newDict false (eval iter X.env) (some (assign (.Name y py) X.env))) _ _ s
  have h : tDc wi g tt tk tv (own.map (·.2)) σ H (fun x H1 => gName i x σ H1 D.nx) := h
  refine wpAny_bind (thn (dc_core (Qf := fun _ s' => SP X pins D .next s') hc hN I hi ok hg ht hk he hs h fun L C s' m H' I' q hn f => ?_) fun _ s' hq => wpAny_pure (wpAny_pure hq))
  show wpAny _ _ (assign (.Name y py) X.env (.ref L)) _ _ _
  refine wpAny_assign_Name (store_ok2 (v := V.ref L) I' hN hy (.inl hyl) rfl (fun s2 I2 ⟨a, sb, ha⟩ => ?_) (.inr hyl))
  obtain ⟨f0, f1, f2, f3, f4, f5⟩ := f
  have haC : C ≠ a := by
    rcases ha with z | z
    · rw [z]; exact f1
    · exact fun e => f4 y a z e.symm
  refine ⟨m, hn.sameBut sb haC, fun h3 sb3 => ?_⟩
  exact ⟨_, H', I2.turned (t' := s2.toks) (fun b o hb e => (sb3.2 b hb).trans e) f0 f1 f3 f4 f5, q⟩
theorem sw_trueD {kx vx : Expr} {gs : List Comprehension} {scope : Scope} {pos py : Pos} {y : Str} {l : Nat} {env : Env} (hk : env.scope.kind = .function) (hy : env.scope.names.lookup y = some .local) (hl : (py.line == pos.line) = true)
    (ha : (scope.names.any fun (n, k) => n == y && (k == .local || k == .cell)) = false) : swapsWith (.DictComp kx vx gs scope pos) (some (.Name y py)) l env = pure true := by
  have ky : env.kindOf y = some .local := hy
  have hb : env.blockKind = .function := by unfold Env.blockKind; rw [hk]; rfl
  unfold swapsWith
  simp only [hb, ky, ha, Expr.pos, hl]
  rfl
/-! ### numbers of a list of naturals -/
theorem VI_len (ms : List Nat) : (VI ms).length = ms.length := List.length_map ..
theorem VI_at {ms : List Nat} {i : Nat} {x : V} (h : (VI ms)[i]? = some x) : ∃ m, ms[i]? = some m ∧ x = .int (m : Nat) ∧ m ∈ ms := by
  rw [List.getElem?_map, Option.map_eq_some_iff] at h
  obtain ⟨m, h1, h2⟩ := h
  exact ⟨m, h1, h2.symm, List.mem_of_getElem? h1⟩
end TF
end
section
set_option maxHeartbeats 4000000
namespace TF
open PySem PySem.Spec PyProof.Rows L2 PySem.W PySem.Calls
open Builtin Builtin.ObjectAttr
/-- own classes ahead of the built-in tail tl -/
def ahB (tl : List Value) : List Value → Bool
  | .ref c :: r => ahB tl r
  | l => l == tl
theorem ahB_ok {tl : List Value} : ∀ l : List Value, ahB tl l = true → ∃ pre : List Addr, l = pre.map Value.ref ++ tl
  | .ref c :: r, e => by
    obtain ⟨pre, h⟩ := ahB_ok r e
    exact ⟨c :: pre, by rw [h]; rfl⟩
  | [], e => ⟨[], beq_iff_eq.mp e⟩
  | .none :: _, e => ⟨[], beq_iff_eq.mp e⟩
  | .ellipsis :: _, e => ⟨[], beq_iff_eq.mp e⟩
  | .notImplemented :: _, e => ⟨[], beq_iff_eq.mp e⟩
  | .bool _ :: _, e => ⟨[], beq_iff_eq.mp e⟩
  | .int _ _ :: _, e => ⟨[], beq_iff_eq.mp e⟩
  | .float _ _ :: _, e => ⟨[], beq_iff_eq.mp e⟩
  | .str _ _ :: _, e => ⟨[], beq_iff_eq.mp e⟩
  | .bytes _ _ :: _, e => ⟨[], beq_iff_eq.mp e⟩
  | .type _ :: _, e => ⟨[], beq_iff_eq.mp e⟩
  | .builtin _ :: _, e => ⟨[], beq_iff_eq.mp e⟩
/-- a built-in exception class as a base -/
structure XBs (B nid iid : String) (tl : List Value) : Prop where
  F : ExcBaseFacts B nid iid tl
  pass : ∀ self, refuseLoop self "__setattr__" tl = pure ()
  obj : tl.contains (.type "object") = true
  ne : tl ≠ []
theorem XBs.passes {B nid iid : String} {tl : List Value} (b : XBs B nid iid tl) (self : Value) : ∀ pre : List Addr, refuseLoop self "__setattr__" (pre.map Value.ref ++ tl) = pure ()
  | [] => b.pass self
  | c :: r => by
    rw [List.map_cons, List.cons_append, refuseLoop_ref]
    exact b.passes self r
theorem has_tail {tl : List Value} (X : String) : ∀ pre : List Addr, (pre.map Value.ref ++ tl).contains (.type X) = tl.contains (.type X)
  | [] => rfl
  | c :: r => by
    rw [List.map_cons, List.cons_append, List.contains_cons, has_tail X r]
    rfl
abbrev tlVE : List Value := [.type "ValueError", .type "Exception", .type "BaseException", .type "object"]
abbrev tlRE : List Value := [.type "RuntimeError", .type "Exception", .type "BaseException", .type "object"]
theorem xbVE : XBs "ValueError" "ValueError.__new__" "ValueError.__init__" tlVE := ⟨F.excBase_ValueError, fun self => F.store_ValueError.passes self, by decide +kernel, by simp⟩
theorem xbRE : XBs "RuntimeError" "RuntimeError.__new__" "RuntimeError.__init__" tlRE := ⟨F.excBase_RuntimeError, fun self => F.store_RuntimeError.passes self, by decide +kernel, by simp⟩
section
variable {prog : Program} {w : World} {A : Around} {R : Result → Shared → Prop} {gh : Heap} {g : Array GenState} {d : Drawn} {t : Nat} {os : OsState} {B nid iid : String} {tl : List Value}
theorem osa_first (b : XBs B nid iid tl) {K : W.Frag} {name : Str} {tk : Tok} {v : Value} {x C : Addr} {fv : Array Value} {cd : ClassData} {pre : List Addr} (X : K.In gh) (hx : gh.get? x = some { cls := .ref C, data := .fields fv }) (hcd : W.clsIn K C = some cd) (hm : cd.mro = pre.map Value.ref ++ tl)
    (hh : cd.hasDict = true) (ha : W.findIn K (.ref C) name = some none)
    (hq : ∀ h' tk' dx, (∀ c o, c ≠ x → gh.get? c = some o → h'.get? c = some o) → gh.objs.size ≤ dx → dx ≠ x → h'.get? x = some { cls := .ref C, dict := some dx, data := .fields fv } →
      h'.Ns1 dx (fun y => if y = name then some v else none) → R (.ok (.ret .none)) ⟨h', g, d, tk', os⟩) :
    codeAny (model prog w) A (.call (.builtin "object.__setattr__") ⟨[.ref x, .str name tk, v], []⟩) R ⟨gh, g, d, t, os⟩ := by
  have I : W.InstAt gh x { cls := .ref C, data := .fields fv } C none := ⟨hx, rfl, rfl, trivial⟩
  have SF := F.store_object
  have nemp : cd.mro.isEmpty = false := by
    rw [hm]
    cases pre with
    | nil =>
      have := b.ne
      cases tl with
      | nil => exact absurd rfl this
      | cons _ _ => rfl
    | cons _ _ => rfl
  have hob : cd.mro.contains (.type "object") = true := by rw [hm, has_tail]; exact b.obj
  have xsz : x ≠ gh.objs.size := Nat.ne_of_lt (Heap.lt_size hx)
  have sub : W.Looks (model prog w) gh (isInstance (.ref x) (.type "object")) true := I.type.andThen (W.looks_mroIn X (by unfold W.mroIn; rw [hcd, Option.bind_some, if_neg (by rw [nemp]; decide), hob]))
  refine codeAny_call_builtin SF.slot.plain SF.entry (@W.check_slot (model prog w) _ _ ⟨gh, g, d, t, os⟩ "object.__setattr__" "object" "__setattr__" (.ref x) [.str name tk, v] [] _ SF.kind SF.split sub (SF.args (.ref x) (.str name tk) v) ?_)
  have lm : W.Looks (model prog w) gh (mroOf (.ref C)) cd.mro := (W.looks_clsIn X hcd).andThen .now
  have l3 : W.Looks (model prog w) gh (storeTaker? none) none := .now
  have lc : W.Looks (model prog w) gh (classData C) cd := W.looks_clsIn X hcd
  rw [W.osa_eq, refuse_eq]
  refine wpAny_bind (wpAny_bind (I.type.at (wpAny_bind (lm.at ?_))))
  rw [hm, b.passes]
  refine wpAny_pure (wpAny_bind (I.type.at (wpAny_bind ((W.looks_findIn X ha).at (wpAny_bind (l3.at ?_))))))
  show wpAny _ _ (storeInOwnDict (.ref x) (.ref C) (.str name tk) name v false) _ _ _
  obtain ⟨c1, c2, c3, c4, c5, c6, c7, c8, c9, c10, c11⟩ := cd
  dsimp only at hh
  subst hh
  unfold storeInOwnDict ownDictForStores
  repeat (first | with_reducible refine PySem.HandSPX.store_in_new ?_ ?_ | with_reducible refine wpAny_loadPart_at hx ?_ | with_reducible refine lc.at ?_ | wp_step)
  · exact ⟨_, #[], _, (Heap.get?_update_ne _ _ _ _ xsz.symm).trans (Heap.get?_push_at rfl rfl), rfl, fun e he => absurd he (by simp), fun _ => rfl⟩
  · intro h' tk' hn' sb
    have hx1 : (gh.push { cls := .type "dict", data := .dict #[] }).get? x = some { cls := .ref C, data := .fields fv } := Heap.get?_push_of_some _ hx
    refine hq h' tk' gh.objs.size (fun c o hc ho => ?_) (Nat.le_refl _) xsz.symm ?_ hn'
    · exact (sb.2 c (Nat.ne_of_lt (Heap.lt_size ho))).trans ((Heap.get?_update_ne _ _ _ _ hc).trans (Heap.get?_push_of_some _ ho))
    · exact (sb.2 x xsz).trans (Heap.get?_update_self _ hx1 rfl)
theorem osa_more (b : XBs B nid iid tl) {K : W.Frag} {name : Str} {tk : Tok} {v : Value} {x C dx : Addr} {fv : Array Value} {cd : ClassData} {m0 : Str → Option Value} {nl : List Str} {pre : List Addr} (X : K.In gh) (hx : gh.get? x = some { cls := .ref C, dict := some dx, data := .fields fv }) (hns : gh.Ns1 dx m0)
    (hw : Within m0 nl) (hz : nl.length ≤ 1000) (hcd : W.clsIn K C = some cd) (hm : cd.mro = pre.map Value.ref ++ tl) (hh : cd.hasDict = true) (ha : W.findIn K (.ref C) name = some none)
    (hq : ∀ h' tk', (∀ c o, c ≠ dx → gh.get? c = some o → h'.get? c = some o) → h'.Ns1 dx (fun y => if y = name then some v else m0 y) → R (.ok (.ret .none)) ⟨h', g, d, tk', os⟩) :
    codeAny (model prog w) A (.call (.builtin "object.__setattr__") ⟨[.ref x, .str name tk, v], []⟩) R ⟨gh, g, d, t, os⟩ := by
  obtain ⟨oD, esD, epD, hoD, hdD, _⟩ := hns.count hw
  have I : W.InstAt gh x { cls := .ref C, dict := some dx, data := .fields fv } C (some oD) := ⟨hx, rfl, rfl, hoD⟩
  have SF := F.store_object
  have nemp : cd.mro.isEmpty = false := by
    rw [hm]
    cases pre with
    | nil =>
      have := b.ne
      cases tl with
      | nil => exact absurd rfl this
      | cons _ _ => rfl
    | cons _ _ => rfl
  have hob : cd.mro.contains (.type "object") = true := by rw [hm, has_tail]; exact b.obj
  have sub : W.Looks (model prog w) gh (isInstance (.ref x) (.type "object")) true := I.type.andThen (W.looks_mroIn X (by unfold W.mroIn; rw [hcd, Option.bind_some, if_neg (by rw [nemp]; decide), hob]))
  refine codeAny_call_builtin SF.slot.plain SF.entry (@W.check_slot (model prog w) _ _ ⟨gh, g, d, t, os⟩ "object.__setattr__" "object" "__setattr__" (.ref x) [.str name tk, v] [] _ SF.kind SF.split sub (SF.args (.ref x) (.str name tk) v) ?_)
  have lm : W.Looks (model prog w) gh (mroOf (.ref C)) cd.mro := (W.looks_clsIn X hcd).andThen .now
  have l3 : W.Looks (model prog w) gh (storeTaker? none) none := .now
  have lc : W.Looks (model prog w) gh (classData C) cd := W.looks_clsIn X hcd
  rw [W.osa_eq, refuse_eq]
  refine wpAny_bind (wpAny_bind (I.type.at (wpAny_bind (lm.at ?_))))
  rw [hm, b.passes]
  refine wpAny_pure (wpAny_bind (I.type.at (wpAny_bind ((W.looks_findIn X ha).at (wpAny_bind (l3.at ?_))))))
  show wpAny _ _ (storeInOwnDict (.ref x) (.ref C) (.str name tk) name v false) _ _ _
  obtain ⟨c1, c2, c3, c4, c5, c6, c7, c8, c9, c10, c11⟩ := cd
  dsimp only at hh
  subst hh
  unfold storeInOwnDict ownDictForStores
  repeat (first | with_reducible refine PySem.OEX.store_in_old hns hw hz ?_ | with_reducible refine wpAny_loadPart_at hx ?_ | with_reducible refine lc.at ?_ | wp_step)
  intro h' tk' hn' sb
  exact hq h' tk' (fun c o hc ho => (sb.2 c hc).trans ho) hn'
end
/-- an own exception class whose __init__ stores -/
structure XCl (K : PySem.W.Frag) (C : Addr) (B nid iid : String) (tl : List Value) : Prop where
  b : XBs B nid iid tl
  cls : ∃ nm q N bs bm sn sub ab col dd k0 k1 k2 k3 k5 pre, K.lookup C = some (excClassObj nm q C N bs bm true sn sub ab col dd k0 k1 k2 k3 k5 nid) ∧ bm = List.map Value.ref pre ++ tl
  sa : PySem.W.findIn K (.ref C) "__setattr__" = some (some (.builtin "object.__setattr__"))
  exC : PySem.W.subIn K (.ref C) (.type "BaseException") = some true
  tyC : PySem.W.typeIn K (.ref C) = some (.type "type")
  kC : PySem.W.keepIn K (.ref C) = true
section
variable {X : Cx} {pins : List (Addr × Obj)} {σ : L2.St} {H : Hp} {s : Shared} {a C dx : Addr} {f : Str} {y : V} {u : Value} {fs : List (Str × V)} {Q : Unit → Shared → Prop} {E : Value → Shared → Prop} {A : Around} {B nid iid : String} {tl : List Value}
theorem xst_first (T : XCl X.K C B nid iid tl) (I : Inv X pins σ H s) (e : H a = some (exo a C none)) (hno : PySem.W.findIn X.K (.ref C) f = some none) (ry : RelV y u)
    (h : ∀ dx s', H dx = none → dx ≠ a → Inv X pins σ (upd (upd H dx (exd dx [(f, y)])) a (exo a C (some dx))) s' → Q () s') : wpAny (model X.prog X.w) A (setAttr (.ref a) f u) Q E s := by
  obtain ⟨nm, q, N, bs, bm, sn, sub, ab, col, dd, k0, k1, k2, k3, k5, pre, hC, hbm⟩ := T.cls
  have hcl : PySem.W.clsIn X.K C = some { name := nm, bases := bs, mro := .ref C :: bm, ns := N, qualname := q, hasDict := true, slotNames := sn, subclasses := sub, abstract := ab, collection := col, hasDel := false } := by unfold PySem.W.clsIn; rw [hC] <;> rfl
  obtain ⟨tt1, ho⟩ := exo_at I.hok e
  obtain ⟨gh, g, d, t, os⟩ := s
  refine PySem.W.set_plain I.kIn (ox := { cls := .ref C, dict := none, data := .fields #[.ref tt1, .none, .none, .none, .bool false, .none] }) (od := none) ⟨ho, rfl, rfl, trivial⟩ T.sa ?_
  refine osa_first T.b (pre := C :: pre) I.kIn ho hcl (by rw [hbm]; rfl) rfl hno (fun h' tk' dx k dn dne hx hn => ?_)
  have freeD : H dx = none := I.hok.fresh dn
  have offD : ∀ {c : Addr} {o : Obj}, gh.get? c = some o → c ≠ dx := fun {c o} q => Nat.ne_of_lt (Nat.lt_of_lt_of_le (Heap.lt_size q) dn)
  have offA : ∀ {c : Addr}, H c = none → c ≠ a := fun {c} n z => by
    rw [z, e] at n
    cases n
  have un : Un X.fs [] H (upd (upd H dx (exd dx [(f, y)])) a (exo a C (some dx))) gh h' := {
    keep := fun c o q n _ _ => k c o (offA n) q
    slot := fun c o q n _ _ => ⟨o.slots, k c o (offA n) q⟩
    free := fun c o q n _ => by rw [upd_ne (offA n), upd_ne (offD q)]; exact n
    there := fun c o q _ => by
      by_cases hc : c = a
      · exact ⟨_, by rw [hc]; exact hx⟩
      · exact ⟨o, k c o hc q⟩
    tups := fun c xs q => by rw [upd_ne (at_ne e q exo_tup), upd_ne (ne_of_none q freeD)]; exact q
    frzs := fun c o v q => by rw [upd_ne (at_ne e q exo_frz), upd_ne (ne_of_none q freeD)]; exact q
    tbls := fun c ps q => ⟨#[], by rw [upd_ne (at_ne e q exo_tbl), upd_ne (ne_of_none q freeD), q]; simp⟩ }
  refine h dx _ freeD dne (I.un (t' := tk') un fun c o q => ?_)
  by_cases hc : c = a
  · subst hc
    rw [upd_same] at q
    cases q
    exact exo_ok hx
  · rw [upd_ne hc] at q
    by_cases hd : c = dx
    · subst hd
      rw [upd_same] at q
      cases q
      exact exd_ok hn (relO_put (fs := []) ry fun _ => True.intro)
    · rw [upd_ne hd] at q
      refine (I.hok c o q).stay (fun c' v hc' z => k c' v ?_ z) (fun c' hc' => ?_) (fun c' xs hc' => ?_)
      · rcases hc' with hc' | hc'
        · rw [hc']
          exact hc
        · exact at_ne e hc' exo_own
      · rw [upd_ne (at_ne e hc' exo_own), upd_ne (ne_of_none hc' freeD)]
        exact hc'
      · rw [upd_ne (at_ne e hc' exo_tup), upd_ne (ne_of_none hc' freeD)]
        exact hc'
theorem xst_more (T : XCl X.K C B nid iid tl) (I : Inv X pins σ H s) (e : H a = some (exo a C (some dx))) (ed : H dx = some (exd dx fs)) (hl : fs.length ≤ 900) (hno : PySem.W.findIn X.K (.ref C) f = some none) (ry : RelV y u)
    (h : ∀ s', Inv X pins σ (upd H dx (exd dx ((f, y) :: fs))) s' → Q () s') : wpAny (model X.prog X.w) A (setAttr (.ref a) f u) Q E s := by
  obtain ⟨nm, q, N, bs, bm, sn, sub, ab, col, dd, k0, k1, k2, k3, k5, pre, hC, hbm⟩ := T.cls
  have hcl : PySem.W.clsIn X.K C = some { name := nm, bases := bs, mro := .ref C :: bm, ns := N, qualname := q, hasDict := true, slotNames := sn, subclasses := sub, abstract := ab, collection := col, hasDel := false } := by unfold PySem.W.clsIn; rw [hC] <;> rfl
  obtain ⟨tt1, ho⟩ := exo_at I.hok e
  obtain ⟨mA, hns, rel⟩ := exd_at I.hok ed
  have wi := within_of rel
  obtain ⟨gh, g, d, t, os⟩ := s
  obtain ⟨oD, _, _, hoD, _, _⟩ := hns.count wi
  refine PySem.W.set_plain I.kIn (ox := { cls := .ref C, dict := some dx, data := .fields #[.ref tt1, .none, .none, .none, .bool false, .none] }) (od := some oD) ⟨ho, rfl, rfl, hoD⟩ T.sa ?_
  refine osa_more T.b (pre := C :: pre) I.kIn ho hns wi (by rw [List.length_map]; omega) hcl (by rw [hbm]; rfl) rfl hno (fun h' tk' k hn => ?_)
  have ex : ∃ o, h'.get? dx = some o := by
    obtain ⟨o, _, _, e', _⟩ := hn
    exact ⟨o, e'⟩
  exact h _ (I.write (t' := tk') (x := dx) (e := dx) (o := exd dx ((f, y) :: fs)) (by rw [ed]; exact True.intro) (.inl rfl) k ex (exd_ok hn (relO_put ry rel)))
/-- the built-in __init__ -/
theorem xinit {us : List Value} {Q : Value → Shared → Prop} (T : XCl X.K C B nid iid tl) (I : Inv X pins σ H s) (e : H a = some (exo a C none)) (hl : us.length ≤ sizeLine) (h : ∀ s', Inv X pins σ H s' → Q .none s') :
    wpAny (model X.prog X.w) A (call (.builtin iid) (.ref a :: us)) Q E s := by
  obtain ⟨nm, q, N, bs, bm, sn, sub, ab, col, dd, k0, k1, k2, k3, k5, pre, hC, hbm⟩ := T.cls
  obtain ⟨tt1, ho⟩ := exo_at I.hok e
  obtain ⟨gh, g, d, t, os⟩ := s
  refine wpAny_call (PySem.HandSPX.init_base T.b.F (fun Y => by rw [hbm]; exact has_tail Y pre) (I.kIn _ _ hC) ho hl fun h' t2 k hx => ?_)
  have J := I.write (t' := t) (x := a) (e := a) (o := exo a C none) (by rw [e]; exact True.intro) (.inl rfl) k ⟨_, hx⟩ (exo_ok hx)
  have eu : upd H a (exo a C none) = H := by
    funext c
    by_cases hc : c = a
    · rw [hc, upd_same, e]
    · rw [upd_ne hc]
  rw [eu] at J
  exact h _ J
end
/-- S.__init__(self, ..), S an own class that has it from the built-in one -/
def tXI (K : PySem.W.Frag) (B nid iid : String) (tl : List Value) (ta : TA) : TE := fun σ H Q => ta σ H fun vs H1 => ∃ (a C : Addr) (ws : List V), vs = .ref a :: ws ∧ ws.length ≤ 1000 ∧ XCl K C B nid iid tl ∧ H1 a = some (exo a C none) ∧ Q .non H1
def tXst (K : PySem.W.Frag) (B nid iid : String) (tl : List Value) (f : Str) (to te : TE) : TS := fun D σ H => te σ H fun y H1 => to σ H1 fun x H2 => ∃ a C : Addr, x = .ref a ∧ XCl K C B nid iid tl ∧ PySem.W.findIn K (.ref C) f = some none ∧
  ((H2 a = some (exo a C none) ∧ ∀ dx, H2 dx = none → dx ≠ a → D.nx σ (upd (upd H2 dx (exd dx [(f, y)])) a (exo a C (some dx)))) ∨
    ∃ (dx : Addr) (fs : List (Str × V)), H2 a = some (exo a C (some dx)) ∧ H2 dx = some (exd dx fs) ∧ fs.length ≤ 900 ∧ D.nx σ (upd H2 dx (exd dx ((f, y) :: fs))))
section
variable {X : Cx} {o e : Expr} {es : List Expr} {to te : TE} {ta : TA} {f : Str} {p p' p1 p2 pos : Pos} {B nid iid : String} {tl : List Value}
theorem ps_xst (T : ∃ C, XCl X.K C B nid iid tl) (ho : PE X o to) (he : PE X e te) (hs : swapsWith e (some (.Attribute o f p')) pos.line X.env = pure false := by rfl) : PS X (.Assign [.Attribute o f p'] e pos) (tXst X.K B nid iid tl f to te) := by
  refine ⟨fun pins s σ H D I h => ?_⟩
  refine plainObj_wpAny_Assign_Attribute (thn (he.run pins s σ H _ I h) fun v s1 ⟨y, H1, I1, r1, q1⟩ => thn (ho.run pins s1 σ H1 _ I1 q1) fun u s2 ⟨x, H2, I2, r2, a, C, ex, T, hno, q⟩ => ?_) hs
  subst ex
  obtain rfl : u = Value.ref a := r2
  rcases q with ⟨ea, q⟩ | ⟨dx, fs, ea, ed, hl, q⟩
  · exact xst_first T I2 ea hno r1 fun dx s' n ne J => ⟨σ, _, J, q dx n ne⟩
  · exact xst_more T I2 ea ed hl hno r1 fun s' J => ⟨σ, _, J, q⟩
theorem pmk_x {CX : CXT} {x : Str} {C fI : Addr} {k : Nat} {fd : FuncData} {ps : List Str} {sp : Sp} {ds : List Value} {dvs : List V} (T : XCl X.K C B nid iid tl) (iC : PySem.W.findIn X.K (.ref C) "__init__" = some (some (.ref fI))) (tI : PySem.W.typeIn X.K (.ref fI) = some (.type "function"))
    (F1 : FnOk X.prog X.w X.K X.mg X.base CX k fI fd ps sp) (hr : Room (k + 1) X.A) (hb : Binds X.K fd ps ds) (hd : Vals dvs ds) (hx : Passes CX X (fun _ _ _ => False)) (hg : Gl X x) (hm : X.mg x = some (.ref C)) (ha : PA X (e :: es) ta)
    (hdb : (x == ("__debug__" : Str)) = false := by decide) (he : starEach (e :: es) X.env = (false, eval e X.env) :: starEach es X.env := by rfl) (hpl : (backTo pos (starEach es X.env)).any (·.1) = false := by rfl) :
    PMk X (.Call (.Name x p) (e :: es) [] pos) (tMkO C sp dvs ta) := by
  intro pins s σ H Q I h
  obtain ⟨nm, q, N, bs, bm, sn, sub, ab, col, dd, k0, k1, k2, k3, k5, pre, hC, hbm⟩ := T.cls
  refine wpAny_Call_Name_kw (ld_glob I hg hm ?_ hdb)
  refine PySem.W.callWith_K (h₀ := X.base) I.ok.mod.kin T.kC (thn (ha.run pos pins s σ H _ I h) fun us s1 ⟨vs, H1, I1, r1, hz, q1⟩ => ⟨I1.kIn, ?_⟩) he hpl
  show wpAny _ _ (call (.ref C) us) _ _ _
  obtain ⟨gh, g, dr, tk, os⟩ := s1
  have hsz : gh.objs.size ≤ gh.objs.size + 1 := Nat.le_succ _
  have free : H1 (gh.objs.size + 1) = none := I1.hok.fresh hsz
  have hq := q1 (gh.objs.size + 1) free
  have kk : ∀ c o, gh.get? c = some o → ((gh.push (PySem.W.kdv_tup us)).push (PySem.HandSPX.excO C gh.objs.size)).get? c = some o := fun c o e => Heap.get?_push_of_some _ (Heap.get?_push_of_some _ e)
  have hget : ((gh.push (PySem.W.kdv_tup us)).push (PySem.HandSPX.excO C gh.objs.size)).get? (gh.objs.size + 1) = some (PySem.HandSPX.excO C gh.objs.size) := by heap_get
  have I2 : Inv X pins σ (upd H1 (gh.objs.size + 1) (exo (gh.objs.size + 1) C none)) ⟨(gh.push (PySem.W.kdv_tup us)).push (PySem.HandSPX.excO C gh.objs.size), g, dr, tk, os⟩ :=
    I1.laid (t' := tk) (a := gh.objs.size + 1) (o := exo (gh.objs.size + 1) C none) (h' := (gh.push (PySem.W.kdv_tup us)).push (PySem.HandSPX.excO C gh.objs.size)) kk hsz (exo_ok hget)
  have r2 : Vals (V.ref (gh.objs.size + 1) :: (vs ++ dvs)) (Value.ref (gh.objs.size + 1) :: (us ++ ds)) := .cons rfl (r1.append hd)
  have hl : (Value.ref (gh.objs.size + 1) :: us ++ ds).length = ps.length := by
    have e := r2.length
    rw [F1.len _ _ _ _ hq] at e
    exact e.symm
  have hus : us.length ≤ sizeLine := by
    rw [← Paired.length r1, sizeLine_eq]
    omega
  refine wpAny_call (PySem.HandSPX.call_own T.b.F (fun Y => by rw [hbm]; exact has_tail Y pre) (I1.kIn _ _ hC) (PySem.W.looks_findIn I1.kIn iC) (fun self => PySem.W.bind_fn I1.kIn self tI) hus
    (codeAny_mono (F1.run _ X.stack _ _ ⟨Value.ref (gh.objs.size + 1) :: us, []⟩ (Value.ref (gh.objs.size + 1) :: (us ++ ds)) _ _ (fun _ _ _ => False) (hr.make C us []) (I2.env0.make C us []) (hb _ (Value.ref (gh.objs.size + 1) :: us) I2.kIn hl) r2 hq) fun r s' hq' => ?_))
  cases r with
  | error er => exact hx pins σ _ _ er s' I2 hq'
  | ok fl =>
    cases fl with
    | ret u =>
      obtain ⟨v, H2, os2, bare2, un2, hok2, rv, ev, d, fs, ea, ed, hd1, q2⟩ := hq'
      subst ev
      obtain ⟨h2, g2, d2, t2, os'⟩ := s'
      exact ⟨rv, mk_end (raises_own T.exC T.tyC) I1 hsz kk un2 hok2 os2 bare2 ea ed hd1 q2⟩
    | next => exact False.elim hq'
    | brk => exact False.elim hq'
    | cont => exact False.elim hq'
theorem pe_xi {pl : Sem Bool} {S : Str} {SA : Addr} (hg : Gl X S) (hS : GC X.mg S (.ref SA)) (rd : ClX.CRead X.K SA (.type "type")) (vi : PySem.W.findCls X.K (.ref SA) (.type "type") "__init__" = some (.val (.builtin iid))) (ih : handedIn (.builtin iid) = true) (ha : PA X (e :: es) ta)
    (hc : eval (.Call (.Attribute (.Name S p1) "__init__" p2) (e :: es) [] pos) X.env = (do
      let cv ← eval (.Name S p1) X.env
      standAt p2.atName
      let (f, first) ← holding [cv] (getMethod cv "__init__" pl)
      callWith pos f first (backTo pos (starEach (e :: es) X.env)) (backToKw pos (keywordEach [] X.env))) := by rfl)
    (hd : (S == ("__debug__" : Str)) = false := by decide)
    (he : starEach (e :: es) X.env = (false, eval e X.env) :: starEach es X.env := by rfl) (hpl : (backTo pos (starEach es X.env)).any (·.1) = false := by rfl) :
    PE X (.Call (.Attribute (.Name S p1) "__init__" p2) (e :: es) [] pos) (tXI X.K B nid iid tl ta) := by
  refine ⟨fun pins s σ H Q I h => ?_⟩
  refine PySem.W.methodCall_KW (pl := pl) (thn ((pe_gc hg hS hd).run pins s σ H (fun v H1 => v = .ref SA ∧ ta σ H1 _) I ⟨rfl, h⟩) fun cv s0 ⟨x, H0, I0, rx, ex, h⟩ => ?_) hc
  subst ex
  obtain rfl : cv = Value.ref SA := rx
  refine PySem.W.method_cls I0.kIn rd.ga (PySem.W.cls_value I0.kIn rd.rd vi ih ?_)
  show wpAny _ _ (callWith pos (Value.builtin iid) [] (backTo pos (starEach (e :: es) X.env)) []) _ _ _
  refine PyProof.Rows.callWith_method1 (thn (ha.run pos pins _ σ H0 _ (I0.tok _) h) fun us s1 ⟨vs, H1, I1, r1, a, C, ws, ev, hl, T, ea, q⟩ => ?_) he hpl
  subst ev
  cases r1 with
  | @cons _ u0 _ ur ra rw' =>
    obtain rfl : u0 = Value.ref a := ra
    have hlen : ur.length ≤ sizeLine := by
      rw [← Paired.length rw', sizeLine_eq]
      omega
    exact xinit T I1 ea hlen fun s' J => ⟨.non, H1, J, rfl, q⟩
end
end TF
end
section
set_option maxHeartbeats 4000000

namespace TF
open PySem PySem.Spec PyProof.Rows L2
/-! ### is_between -/
def spIsBetween : Sp := fun vs H Q _ => ∃ v lo hi : Int, vs = [.int v, .int lo, .int hi] ∧ Q (.bl (decide (lo ≤ v) && decide (v ≤ hi))) H
/-- modulus and members have the form of a cell -/
structure Shape (N : Nat) (ms : List Nat) : Prop where
  n1 : 1 ≤ N
  n2 : N ≤ 20000
  l1 : 1 ≤ ms.length
  l2 : ms.length ≤ 256
  lt : ∀ m ∈ ms, m < N
  up : ∀ i x y, ms[i]? = some x → ms[i + 1]? = some y → x < y
def spCheckShape : Sp := fun vs H Q _ => ∃ (N : Nat) (a : Addr) (ms : List Nat), vs = [.int N, .ref a] ∧ SqA H a (VI ms) ∧ Shape N ms ∧ ∀ H', Same H H' → Q .non H'
/-- the member ahead of place i, or -1 -/
def ahead (ms : List Nat) (i : Nat) : Int := match i with
  | 0 => -1
  | j + 1 => (ms.getD j 0 : Nat)
theorem ahead_succ {ms : List Nat} {i m : Nat} (h : ms[i]? = some m) : ahead ms (i + 1) = m := by
  show ((ms.getD i 0 : Nat) : Int) = m
  rw [List.getD_eq_getElem?_getD, h]
  rfl
theorem Shape.ahead_le {N : Nat} {ms : List Nat} (S : Shape N ms) {i m : Nat} (h : ms[i]? = some m) : ahead ms i + 1 ≤ (m : Int) := by
  cases i with
  | zero =>
    show (-1 : Int) + 1 ≤ m
    omega
  | succ j =>
    obtain ⟨hj, _⟩ := List.getElem?_eq_some_iff.mp h
    have hj' : j < ms.length := by omega
    have q : ms[j]? = some ms[j] := by simp [hj']
    have := S.up j _ m q h
    rw [ahead_succ q]
    omega
section
variable {P : Program} {w : World} {K : PySem.W.Frag} {mg : Str → Option Value} {base : Heap}
theorem scIsBetween : FnScope ["value", "low", "high"] ["value", "low", "high"] (defScope (tops 31)) := ⟨rfl, rfl, rfl, by decide +kernel, rfl, by decide +kernel, by decide +kernel⟩
theorem ok_is_between (G : GDef K mg "is_between" (tops 31)) (T : TxtA K mg) : GOk P w K mg base CX0 1 "is_between" spIsBetween := by
  refine G.ok scIsBetween (fun vs H Q E h => ?_) (fun _ _ _ _ _ _ us hl => match us, hl with | [_, _, _], _ => rfl) (fun f cdv A outer s H vs Q E hr h => ?_)
  · obtain ⟨v, lo, hi, rfl, _⟩ := h
    rfl
  · obtain ⟨v, lo, hi, rfl, hQ⟩ := h
    refine ⟨_, (pss_one (ps_ret (pe_and (pe_callB call_isi (by rfl) T.z_isinstance (by decide +kernel) (pa_cons (pv 0) (pa_cons (pe_bltn (v := .ty "int") (by rfl) T.z_int (by decide +kernel) rfl) pa_nil))) (pe_and (pe_not (pe_callB call_isi (by rfl) T.z_isinstance (by decide +kernel) (pa_cons (pv 0) (pa_cons (pe_bltn (v := .ty "bool") (by rfl) T.z_bool (by decide +kernel) rfl) pa_nil)))) (pe_one (pe_chain op_le op_le (pv 1) (pv 0) (pv 2))))))), ?_⟩
    refine ⟨_, rfl, _, _, _, _, _, rfl, .ty _, .base (.int _), kit_ty (by decide +kernel), true, rfl, iteT ?_⟩
    refine ⟨_, rfl, _, _, _, _, _, rfl, .ty _, .base (.int _), kit_ty (by decide +kernel), false, rfl, _, rfl, iteT ?_⟩
    refine ⟨_, rfl, _, rfl, _, _, rfl, rfl, _, rfl, ?_⟩
    by_cases c : lo ≤ v
    · rw [decide_eq_true c] at hQ ⊢
      exact iteT ⟨_, rfl, _, _, rfl, rfl, hQ⟩
    · rw [decide_eq_false c] at hQ ⊢
      exact iteF hQ
theorem scCheckShape : FnScope ["modulus", "members", "before", "index", "member"] ["modulus", "members"] (defScope (tops 32)) := ⟨rfl, rfl, rfl, by decide +kernel, rfl, by decide +kernel, by decide +kernel⟩
theorem ok_check_shape (G : GDef K mg "check_shape" (tops 32)) (T : TxtA K mg) (Fib : GOk P w K mg base CX0 1 "is_between" spIsBetween) : GOk P w K mg base CX0 2 "check_shape" spCheckShape := by
  refine G.ok scCheckShape (fun vs H Q E h => ?_) (fun _ _ _ _ _ _ us hl => match us, hl with | [_, _], _ => rfl) (fun f cdv A outer s H vs Q E hr h => ?_)
  · obtain ⟨v, lo, hi, rfl, _⟩ := h
    rfl
  · obtain ⟨N, a, ms, rfl, hA, S, k⟩ := h
    refine ⟨_, (pss_cons (ps_if (pt_not (pt_val (pe_cg Fib (hr.mono (by decide)) pass0 rfl (pa_cons (pv 0) (pa_cons pe_int (pa_cons (pe_ccv rfl T.c_Cell T.r_Cell T.v_MAX_MODULUS) pa_nil)))))) (pss_one (ps_never)) pss_nil)
      (pss_cons (ps_if (PW.pt (pw_or (pt_not (pt_val (pe_callB call_isiT (by rfl) T.z_isinstance (by decide +kernel) (pa_cons (pv 1) (pa_cons (pe_tup (pa_cons (pe_bltn (v := .ty "tuple") (by rfl) T.z_tuple (by decide +kernel) rfl) (pa_cons (pe_bltn (v := .ty "list") (by rfl) T.z_list (by decide +kernel) rfl) pa_nil))) pa_nil))))) (pw_or1 (pt_not (pt_chain op_le op_le pe_int (pe_callB call_len_seq (by rfl) T.z_len (by decide +kernel) (pa_cons (pv 1) pa_nil)) (pe_ccv rfl T.c_Cell T.r_Cell T.v_MAX_MEMBERS)))))) (pss_one (ps_never)) pss_nil)
      (pss_cons (ps_set (i := 2) scCheckShape.nd rfl (Or.inl rfl) (pe_un un_neg pe_int))
      (pss_one (ps_for PassesOwn.never rfl (PI.or (pi_enum (by rfl) T.z_enumerate (pa_cons (pv 1) pa_nil)) (pi_enumT (by rfl) T.z_enumerate (pa_cons (pv 1) pa_nil))) (pg_tup rfl (pgs_cons (pg_name (i := 3) scCheckShape.nd rfl (Or.inl rfl)) (pgs_cons (pg_name (i := 4) scCheckShape.nd rfl (Or.inl rfl)) pgs_nil))) (pss_cons (ps_if (pt_not (pt_val (pe_cg Fib (hr.mono (by decide)) pass0 rfl (pa_cons (pv 4) (pa_cons (pe_op op_add (pv 2) pe_int) (pa_cons (pe_op op_sub (pv 0) pe_int) pa_nil)))))) (pss_one (ps_never)) pss_nil)
      (pss_one (ps_set (i := 2) scCheckShape.nd rfl (Or.inl rfl) (pv 4))))))))), ?_⟩
    -- if not is_between(modulus, 1, Cell.MAX_MODULUS)
    refine ⟨_, rfl, _, _, _, rfl, _, rfl, ?_⟩
    rw [decide_eq_true (show (1 : Int) ≤ N by have := S.n1; omega), decide_eq_true (show (N : Int) ≤ 20000 by have := S.n2; omega)]
    refine iteF ?_
    -- isinstance(members, (tuple, list)), 1 <= len(members) <= 256
    have isT : ∀ T H', H' = upd H T (.tup [.ty "tuple", .ty "list"]) → H T = none → ∃ (t : Value) (b : Bool), TyX K H' (.ref a) t ∧ PySem.W.kitAny K t [.type "tuple", .type "list"] = some b ∧ b = true := by
      intro T H' e hT
      subst e
      rcases hA with h | h
      · exact ⟨_, true, .base (.lst (Same.new hT _ _ h)), kitAny_cons (b := false) (kit_ty (by decide +kernel)) (fun _ => kitAny_cons (b := true) (kit_ty (by decide +kernel)) (fun h => nomatch h) (fun _ => rfl)) (fun h => nomatch h), rfl⟩
      · exact ⟨_, true, .base (.tup (Same.new hT _ _ h)), kitAny_cons (b := true) (kit_ty (by decide +kernel)) (fun h => nomatch h) (fun _ => rfl), rfl⟩
    refine ⟨_, rfl, by decide, fun T hT => ?_⟩
    obtain ⟨t, b, h1, h2, rfl⟩ := isT T _ rfl hT
    refine ⟨_, _, _, _, _, _, rfl, upd_same, .cons (.ty _) (.cons (.ty _) .nil), h1, h2, _, rfl, ?_⟩
    refine iteF ?_
    have s1 : Same H (upd H T (.tup [.ty "tuple", .ty "list"])) := Same.new hT
    refine ⟨_, rfl, a, VI ms, rfl, (s1.seqA hA).imp SqL.of SqT.of, _, _, rfl, rfl, _, rfl, iteTr (by rw [VI_len, decide_eq_true]; have := S.l1; omega) ?_⟩
    refine ⟨_, _, rfl, rfl, _, rfl, iteFr (by rw [VI_len, decide_eq_true]; rfl; have := S.l2; omega) ?_⟩
    refine ⟨_, rfl, ?_⟩
    refine for_enumA rfl hA s1 (fun i σ' H' => ∃ x y, σ' = [some (.int N), some (.ref a), some (.int (ahead ms i)), x, y] ∧ Same H H') ⟨_, _, rfl, s1⟩ (fun i σ' H' p => ?_) (fun i x σ' H' H2 hx p e => ?_) (fun σ' H' p => ?_)
    · obtain ⟨_, _, _, s2⟩ := p
      exact s2
    · obtain ⟨y1, y2, rfl, s2⟩ := p
      obtain ⟨m, hm, rfl, hmem⟩ := VI_at hx
      refine ⟨_, rfl, _, rfl, _, _, rfl, rfl, _, rfl, _, _, rfl, rfl, _, _, _, rfl, _, rfl, iteFr (by rw [decide_eq_true (S.ahead_le hm), decide_eq_true (show (m : Int) ≤ N - 1 by have := S.lt m hmem; omega)]; rfl) ?_⟩
      exact ⟨_, rfl, some (.int (i : Nat)), some (.int (m : Nat)), by rw [ahead_succ hm]; rfl, s2.trans e⟩
    · obtain ⟨y1, y2, rfl, s2⟩ := p
      exact k _ s2
end
end TF
end
section
set_option maxHeartbeats 4000000

namespace TF
open PySem PySem.Spec PyProof.Rows L2
/-! ### {member: True for member in members} -/
/-- the keys of the table are ms -/
def Known (kvs : List (Key × V)) (ms : List Nat) : Prop := kvs.length ≤ ms.length ∧ ∀ k : Key, (valV kvs k).isSome = true ↔ ∃ m ∈ ms, k = .inl (m : Int)
theorem take_succ_mem {ms : List Nat} {i m x : Nat} (h : ms[i]? = some m) : x ∈ ms.take (i + 1) ↔ x ∈ ms.take i ∨ x = m := by
  rw [List.take_succ, h]
  simp
theorem Known.put {kvs : List (Key × V)} {ms : List Nat} {i m : Nat} {v : V} (h : Known kvs (ms.take i)) (e : ms[i]? = some m) (hl : i < ms.length) : Known (putK kvs (.inl (m : Int)) v) (ms.take (i + 1)) := by
  refine ⟨Nat.le_trans (length_putK ..) ?_, fun k => ?_⟩
  · have := h.1
    rw [List.length_take] at this ⊢
    omega
  · rw [valV_put]
    constructor
    · intro q
      by_cases c : k = .inl (m : Int)
      · exact ⟨m, (take_succ_mem e).mpr (.inr rfl), c⟩
      · rw [if_neg c] at q
        obtain ⟨x, hx, rfl⟩ := (h.2 k).mp q
        exact ⟨x, (take_succ_mem e).mpr (.inl hx), rfl⟩
    · rintro ⟨x, hx, rfl⟩
      by_cases c : (Sum.inl (x : Int) : Key) = .inl (m : Int)
      · rw [if_pos c]; rfl
      · rw [if_neg c]
        rcases (take_succ_mem e).mp hx with q | rfl
        · exact (h.2 _).mpr ⟨x, q, rfl⟩
        · exact (c rfl).elim
theorem dc_known {K : PySem.W.Frag} {j v : Nat} {a : Addr} {ms : List Nat} {σ : L2.St} {H H0 : Hp} {Q : VK} (hj : j ≠ v) (hσ : σ[j]? = some (some (.ref a))) (hv : v < σ.length) (hA : SqA H0 a (VI ms)) (hH : Same H0 H) (hl : ms.length ≤ 256)
    (hQ : ∀ D H' kvs, H D = none → Same H H' → H' D = some (.dK kvs) → Known kvs ms → Q (.ref D) H') : tDc (iAny K j) (gName v) tYes (tVar v) (tC (.bl true)) [v] σ H Q := by
  refine dc_A hσ hA hH (fun D i H' => Same H H' ∧ ∃ kvs, H' D = some (.dK kvs) ∧ Known kvs (ms.take i)) (fun D hD => ⟨Same.new hD, [], upd_same, Nat.zero_le _, fun k => ⟨fun h => (by cases h), fun ⟨x, hx, _⟩ => (by simp at hx)⟩⟩) (fun D i H' _ p => hH.trans p.1) (fun D i x H' hD hx p => ?_) (fun D H' hD p => ?_)
  · obtain ⟨m, hm, rfl, hmem⟩ := VI_at hx
    obtain ⟨s1, kvs, hk, kn⟩ := p
    have hi : i < ms.length := (List.getElem?_eq_some_iff.mp hm).1
    have e : ∀ y : V, (((wipe σ [v]).set v (some y))[v]? : Option (Option V)) = some (some y) := fun y => by
      rw [List.getElem?_set_self (by rw [wipe_length]; exact hv)]
    refine ⟨?_, ?_⟩
    · show (((σ.set v none).set v (some _)).set v none) = σ.set v none
      simp
    unfold tYes
    refine iteT ⟨_, e _, kvs, .inl (m : Int), rfl, hk, ?_, ?_⟩
    rotate_left
    refine ⟨?_, _, upd_same, kn.put hm hi⟩
    rotate_left
    · have := kn.1
      rw [List.length_take] at this
      rw [sizeLine_eq]; omega
    · intro b o h
      have : b ≠ D := fun z => by rw [z, hD] at h; cases h
      rw [upd_ne this]
      exact s1 _ _ h
  · obtain ⟨s1, kvs, hk, kn⟩ := p
    rw [VI_len, List.take_length] at kn
    exact hQ D H' kvs hD s1 hk kn
/-! ### spoiling_triple -/
def okPair (N : Nat) (ms : List Nat) (low mid : Nat) : Prop := low = mid ∨ ¬ ∃ m ∈ ms, (m : Int) = (2 * (mid : Int) - low) % N
def Free (N : Nat) (ms : List Nat) : Prop := ∀ low ∈ ms, ∀ mid ∈ ms, okPair N ms low mid
def spSpoil : Sp := fun vs H Q _ => ∃ (N : Nat) (a : Addr) (ms : List Nat), vs = [.int N, .ref a] ∧ SqA H a (VI ms) ∧ Shape N ms ∧ (Free N ms → ∀ H', Same H H' → Q .non H') ∧
  (¬ Free N ms → ∀ (H' : Hp) (T : Addr) (x y z : Int), Same H H' → H' T = some (.tup [.int x, .int y, .int z]) → Q (.ref T) H')
section
variable {P : Program} {w : World} {K : PySem.W.Frag} {mg : Str → Option Value} {base : Heap}
theorem scSpoil : FnScope ["modulus", "members", "known", "member", "low", "middle", "high"] ["modulus", "members"] (defScope (tops 33)) := ⟨rfl, rfl, rfl, by decide +kernel, rfl, by decide +kernel, by decide +kernel⟩
theorem ok_spoiling_triple (G : GDef K mg "spoiling_triple" (tops 33)) (T : TxtA K mg) : GOk P w K mg base CX0 2 "spoiling_triple" spSpoil := by
  refine G.ok scSpoil (fun vs H Q E h => ?_) (fun _ _ _ _ _ _ us hl => match us, hl with | [_, _], _ => rfl) (fun f cdv A outer s H vs Q E hr h => ?_)
  · obtain ⟨v, lo, hi, rfl, _⟩ := h
    rfl
  · obtain ⟨N, a, ms, rfl, hA, S, k1, k2⟩ := h
    refine ⟨_, (pss_cons (ps_setDc (i := 2) (own := [("member", 3)]) (g := gName 3) rfl scSpoil.nd rfl rfl (sw_trueD rfl rfl rfl (by decide +kernel)) (PI.or (pi_list (pv 1)) (pi_tup (pv 1))) (blkOk_by (N := ["modulus", "members", "known", "member", "low", "middle", "high"]) (sc := (defScope (tops 33))) (by decide +kernel)) (fun _ _ _ _ _ => (pg_name (i := 3) scSpoil.nd rfl (Or.inl rfl))) (fun _ _ _ _ _ => pts_nil) (fun _ _ _ _ _ => (pv 3)) (fun _ _ _ _ _ => pe_bl))
      (pss_cons (ps_for PassesOwn.never rfl (PI.or (pi_list (pv 1)) (pi_tup (pv 1))) (pg_name (i := 4) scSpoil.nd rfl (Or.inl rfl)) (pss_one (ps_for PassesOwn.never rfl (PI.or (pi_list (pv 1)) (pi_tup (pv 1))) (pg_name (i := 5) scSpoil.nd rfl (Or.inl rfl)) (pss_cons (ps_set (i := 6) scSpoil.nd rfl (Or.inl rfl) (pe_op op_mod (pe_op op_sub (pe_op op_mul pe_int (pv 5)) (pv 4)) (pv 0)))
      (pss_one (ps_if (PW.pt (pw_and (pt_cmpR op_ne (pv 4) (pv 5) (nomark _)) (pw_and1 (pt_cmp (pc_din (hu_of hr) (pv 6) (pv 2)))))) (pss_one (ps_ret (pe_tup (pa_cons (pv 4) (pa_cons (pv 5) (pa_cons (pv 6) pa_nil)))))) pss_nil))))))
      (pss_one (ps_ret pe_non)))), ?_⟩
    refine seqAsg ?_
    refine dc_known (j := 1) (v := 3) (by decide) rfl (by show 3 < 7; decide) hA (Same.refl H) S.l2 fun D H1 kvs hD s1 hk kn => ?_
    refine for_A rfl hA s1 (fun i σ' H' => (∀ low ∈ ms.take i, ∀ mid ∈ ms, okPair N ms low mid) ∧ ∃ x y z, σ' = [some (.int N), some (.ref a), some (.ref D), none, x, y, z] ∧ Same H1 H') ⟨fun low h => by simp at h, _, _, _, rfl, Same.refl _⟩ (fun i σ' H' p => ?_) (fun i x σ' H' hx p => ?_) (fun σ' H' p => ?_)
    · obtain ⟨_, _, _, _, _, s2⟩ := p
      exact s1.trans s2
    · obtain ⟨ok1, y1, y2, y3, rfl, s2⟩ := p
      obtain ⟨low, hlow, rfl, mlow⟩ := VI_at hx
      refine for_A rfl hA (s1.trans s2) (fun i' σ' H' => (∀ mid ∈ ms.take i', okPair N ms low mid) ∧ ∃ y z, σ' = [some (.int N), some (.ref a), some (.ref D), none, some (.int (low : Nat)), y, z] ∧ Same H1 H') ⟨fun low h => by simp at h, _, _, rfl, s2⟩ (fun i σ' H' p => ?_) (fun i' x σ' H' hx p => ?_) (fun σ' H' p => ?_)
      · obtain ⟨_, _, _, _, s2⟩ := p
        exact s1.trans s2
      · obtain ⟨ok2, y2, y3, rfl, s3⟩ := p
        obtain ⟨mid, hmid, rfl, mmid⟩ := VI_at hx
        refine ⟨_, rfl, _, _, rfl, rfl, .inl ⟨by decide, by decide⟩, _, rfl, _, _, rfl, rfl, _, rfl, _, _, rfl, rfl, by have := S.n1; omega, ?_⟩
        refine ⟨_, rfl, _, rfl, rfl, _, rfl, ?_⟩
        by_cases c : low = mid
        · refine iteFr (by rw [c, decide_eq_true rfl]; rfl) (iteF ?_)
          exact ⟨fun x hx => ((take_succ_mem hmid).mp hx).elim (ok2 x) fun e => .inl (c.trans e.symm), _, _, rfl, s3⟩
        · refine iteTr (by rw [decide_eq_false]; rfl; intro e; cases e; exact c rfl) ?_
          refine ⟨_, rfl, _, rfl, D, _, rfl, DGet.k (k := .inl ((2 * (mid : Int) - low) % N)) (s3 _ _ hk), _, rfl, ?_⟩
          cases q : (valV kvs (.inl ((2 * (mid : Int) - low) % N))).isSome with
          | false =>
            refine iteF ?_
            refine ⟨fun x hx => ((take_succ_mem hmid).mp hx).elim (ok2 x) fun e => .inr ?_, _, _, rfl, s3⟩
            rintro ⟨m, hm, e2⟩
            subst e
            rw [(kn.2 _).mpr ⟨m, hm, congrArg _ e2.symm⟩] at q
            cases q
          | true =>
            refine iteT ⟨_, rfl, _, rfl, _, rfl, z3, fun p hp => ?_⟩
            refine k2 (fun fr => ?_) _ p _ _ _ ((s1.trans s3).trans (Same.new hp)) upd_same
            obtain ⟨m, hm, e2⟩ := (kn.2 _).mp q
            rcases fr low mlow mid mmid with e | e
            · exact c e
            · exact e ⟨m, hm, (Sum.inl.inj e2).symm⟩
      · obtain ⟨ok2, _, _, rfl, s3⟩ := p
        rw [VI_len, List.take_length] at ok2
        exact ⟨fun x hx => ((take_succ_mem hlow).mp hx).elim (ok1 x) fun e => e ▸ ok2, _, _, _, rfl, s3⟩
    · obtain ⟨ok, _, _, _, rfl, s2⟩ := p
      rw [VI_len, List.take_length] at ok
      exact k1 ok _ (s1.trans s2)
/-! ### serving_table -/
def servP (N most low mid : Nat) (r : Int) : Prop := low < mid ∧ ((2 * (mid : Int) - low) / N = 0 ∨ (2 * (mid : Int) - low) % N < most) ∧ r = (2 * (mid : Int) - low) % N
/-- the table at D: at most n entries, all triples of ints; there are those of S -/
def TbOk (H : Hp) (D : Addr) (n : Nat) (S : Int → Prop) : Prop := ∃ kvs, H D = some (.dK kvs) ∧ kvs.length ≤ n ∧ (∀ k v, valV kvs (.inl k) = some v → ∃ p c l m, v = .ref p ∧ H p = some (.tup [.int c, .int l, .int m])) ∧
  ∀ k, S k → (valV kvs (.inl k)).isSome = true
theorem TbOk.same {H H' : Hp} {D : Addr} {n : Nat} {S : Int → Prop} (h : TbOk H D n S) (e : Same H H') : TbOk H' D n S := by
  obtain ⟨kvs, h1, h2, h3, h4⟩ := h
  refine ⟨kvs, e _ _ h1, h2, fun k v q => ?_, h4⟩
  obtain ⟨p, c, l, m, r1, r2⟩ := h3 k v q
  exact ⟨p, c, l, m, r1, e _ _ r2⟩
theorem TbOk.mono {H : Hp} {D : Addr} {n n' : Nat} {S S' : Int → Prop} (h : TbOk H D n S) (e : n ≤ n') (s : ∀ k, S' k → S k) : TbOk H D n' S' := by
  obtain ⟨kvs, h1, h2, h3, h4⟩ := h
  exact ⟨kvs, h1, Nat.le_trans h2 e, h3, fun k q => h4 k (s k q)⟩
theorem TbOk.put {H : Hp} {D T : Addr} {n : Nat} {S : Int → Prop} {kvs : List (Key × V)} {r c l m : Int} (h1 : H D = some (.dK kvs)) (h2 : kvs.length ≤ n) (h3 : ∀ k v, valV kvs (.inl k) = some v → ∃ p c l m, v = .ref p ∧ H p = some (.tup [.int c, .int l, .int m]))
    (h4 : ∀ k, S k → (valV kvs (.inl k)).isSome = true) (hT : H T = some (.tup [.int c, .int l, .int m])) : TbOk (upd H D (.dK (putK kvs (.inl r) (.ref T)))) D (n + 1) (fun k => S k ∨ k = r) := by
  have ne : ∀ p xs, H p = some (.tup xs) → p ≠ D := fun p xs q e => by rw [e, h1] at q; cases q
  refine ⟨_, upd_same, Nat.le_trans (length_putK ..) (by omega), fun k v q => ?_, fun k q => ?_⟩
  · rw [valV_put] at q
    by_cases e : (Sum.inl k : Key) = .inl r
    · rw [if_pos e] at q
      cases q
      exact ⟨T, c, l, m, rfl, by rw [upd_ne (ne _ _ hT)]; exact hT⟩
    · rw [if_neg e] at q
      obtain ⟨p, c, l, m, r1, r2⟩ := h3 k v q
      exact ⟨p, c, l, m, r1, by rw [upd_ne (ne _ _ r2)]; exact r2⟩
  · rw [valV_put]
    by_cases e : (Sum.inl k : Key) = .inl r
    · rw [if_pos e]; rfl
    · rw [if_neg e]
      exact h4 k (q.resolve_right fun z => e (by rw [z]))
theorem same_upd_new {H H' : Hp} {D : Addr} {o : HO} (s : Same H H') (hD : H D = none) : Same H (upd H' D o) := fun b u h => by
  have : b ≠ D := fun z => by rw [z, hD] at h; cases h
  rw [upd_ne this]
  exact s _ _ h
theorem tst_serv {K : PySem.W.Frag} {D : Addr} {kvs : List (Key × V)} {σ : L2.St} {H : Hp} {r c : Int} {Q : Bool → Hp → Prop} (h1 : H D = some (.dK kvs)) (h3 : ∀ k v, valV kvs (.inl k) = some v → ∃ p c l m, v = .ref p ∧ H p = some (.tup [.int c, .int l, .int m]))
    (e7 : σ[7]? = some (some (.int r))) (e2 : σ[2]? = some (some (.ref D))) (e6 : σ[6]? = some (some (.int c))) (hT : Q true H) (hF : (valV kvs (.inl r)).isSome = true → Q false H) :
    tOr (tB (tDNotIn (tVar 7) (tVar 2))) (tTest (tOp (rI0 fun i j => V.bl (decide (i < j))) (tVar 6) (tOp (rIxT K) (tDGet (tVar 2) (tVar 7)) (tC (V.int 0))))) σ H Q := by
  refine ⟨_, e7, _, e2, D, _, rfl, DGet.k (k := .inl r) h1, _, rfl, ?_⟩
  cases q : valV kvs (.inl r) with
  | none => exact iteT hT
  | some v =>
    obtain ⟨p, c', l, m, rfl, hp⟩ := h3 r v q
    refine iteF ⟨_, e6, _, e2, _, e7, D, _, rfl, by have := DGet.k (k := .inl r) h1; rw [q] at this; exact this, p, _, 0, .int c', rfl, rfl, SqT.of hp, rfl, _, _, rfl, rfl, _, rfl, ?_⟩
    cases decide (c < c') with
    | true => exact hT
    | false => exact hF (by rw [q]; rfl)
def spServ : Sp := fun vs H Q _ => ∃ (N : Nat) (a : Addr) (ms : List Nat), vs = [.int N, .ref a] ∧ SqA H a (VI ms) ∧ Shape N ms ∧
  ∀ (H' : Hp) (D : Addr) (most : Nat), Same H H' → most ∈ ms → (∀ y ∈ ms, y ≤ most) → TbOk H' D 65536 (fun k => ∃ low ∈ ms, ∃ mid ∈ ms, servP N most low mid k) → Q (.ref D) H'
theorem scServ : FnScope ["modulus", "members", "found", "most", "low", "middle", "carry", "rest"] ["modulus", "members"] (defScope (tops 34)) := ⟨rfl, rfl, rfl, by decide +kernel, rfl, by decide +kernel, by decide +kernel⟩
theorem ok_serving_table (G : GDef K mg "serving_table" (tops 34)) (T : TxtA K mg) : GOk P w K mg base CX0 2 "serving_table" spServ := by
  refine G.ok scServ (fun vs H Q E h => ?_) (fun _ _ _ _ _ _ us hl => match us, hl with | [_, _], _ => rfl) (fun f cdv A outer s H vs Q E hr h => ?_)
  · obtain ⟨v, lo, hi, rfl, _⟩ := h
    rfl
  · obtain ⟨N, a, ms, rfl, hA, S, k⟩ := h
    refine ⟨_, (pss_cons (ps_par (i := 2) (j := 3) (by rfl) scServ.nd rfl rfl (by decide) rfl rfl (pa_cons pe_dnewK (pa_cons (PE.or (pe_callB (cr_max rfl) (by rfl) T.z_max (by decide +kernel) (pa_cons (pv 1) pa_nil)) (pe_callB (cr_maxT rfl) (by rfl) T.z_max (by decide +kernel) (pa_cons (pv 1) pa_nil))) pa_nil)) (by rfl))
      (pss_cons (ps_for PassesOwn.never rfl (PI.or (pi_list (pv 1)) (pi_tup (pv 1))) (pg_name (i := 4) scServ.nd rfl (Or.inl rfl)) (pss_one (ps_for PassesOwn.never rfl (PI.or (pi_list (pv 1)) (pi_tup (pv 1))) (pg_name (i := 5) scServ.nd rfl (Or.inl rfl)) (pss_cons (ps_par (i := 6) (j := 7) (by rfl) scServ.nd rfl rfl (by decide) rfl rfl (pa_cons (pe_op op_fdiv (pe_op op_sub (pe_op op_mul pe_int (pv 5)) (pv 4)) (pv 0)) (pa_cons (pe_op op_mod (pe_op op_sub (pe_op op_mul pe_int (pv 5)) (pv 4)) (pv 0)) pa_nil)) (by rfl))
      (pss_one (ps_if (PW.pt (pw_and (pt_cmpR op_lt (pv 4) (pv 5) (nomark _)) (pw_and1 (PW.pt (pw_or (pt_cmpR op_eq (pv 6) pe_int (nomark _)) (pw_or1 (pt_cmpR op_lt (pv 7) (pv 3) (nomark _)))))))) (pss_one (ps_if (PW.pt (pw_or (pt_cmp (pc_dnotin (hu_of hr) (pv 7) (pv 2))) (pw_or1 (pt_cmpR op_lt (pv 6) (pe_ix ix_tup (pe_dget (hu_of hr) (pv 2) (pv 7) (fun _ _ => rfl)) pe_int (fun _ _ => rfl)) (nomark _))))) (pss_one (ps_dput (hu_of hr) (pv 2) (pv 7) (pe_tup (pa_cons (pv 6) (pa_cons (pv 4) (pa_cons (pv 5) pa_nil)))) rfl)) pss_nil)) pss_nil))))))
      (pss_one (ps_ret (pv 2))))), ?_⟩
    refine seqI ?_
    refine fun D hD => ?_
    have s0 : Same H (upd H D (.dK [])) := Same.new hD
    refine max_A rfl hA s0 S.l1 fun most hm hmax => ?_
    refine ⟨_, _, rfl, ?_⟩
    have hN : (0 : Int) < N := by have := S.n1; omega
    have hN2 : (N : Int) < 1073741824 := by have := S.n2; omega
    refine seqI ?_
    refine for_A rfl hA s0 (fun i σ' H' => TbOk H' D (i * ms.length) (fun k => ∃ low ∈ ms.take i, ∃ mid ∈ ms, servP N most low mid k) ∧ Same H H' ∧ ∃ x y z u, σ' = [some (.int N), some (.ref a), some (.ref D), some (.int (most : Nat)), x, y, z, u])
      ⟨⟨[], upd_same, Nat.zero_le _, fun k v q => (by cases q), fun k ⟨low, h, _⟩ => (by simp at h)⟩, s0, _, _, _, _, rfl⟩ (fun i σ' H' p => p.2.1) (fun i x σ' H' hx p => ?_) (fun σ' H' p => ?_)
    · obtain ⟨tb1, s2, y1, y2, y3, y4, rfl⟩ := p
      obtain ⟨low, hlow, rfl, mlow⟩ := VI_at hx
      refine for_A rfl hA s2 (fun j σ' H' => TbOk H' D (i * ms.length + j) (fun k => (∃ low ∈ ms.take i, ∃ mid ∈ ms, servP N most low mid k) ∨ ∃ mid ∈ ms.take j, servP N most low mid k) ∧ Same H H' ∧ ∃ y z u, σ' = [some (.int N), some (.ref a), some (.ref D), some (.int (most : Nat)), some (.int (low : Nat)), y, z, u])
        ⟨tb1.mono (by omega) (fun k q => q.resolve_right fun ⟨mid, h, _⟩ => (by simp at h)), s2, _, _, _, rfl⟩ (fun i σ' H' p => p.2.1) (fun j x σ' H' hx p => ?_) (fun σ' H' p => ?_)
      · obtain ⟨tb, s3, y2, y3, y4, rfl⟩ := p
        obtain ⟨mid, hmid, rfl, mmid⟩ := VI_at hx
        have hj : j < ms.length := (List.getElem?_eq_some_iff.mp hmid).1
        have skip : ∀ σ2 : L2.St, (¬ ∃ k, servP N most low mid k) → (∃ y z u : Option V, σ2 = [some (.int N), some (.ref a), some (.ref D), some (.int (most : Nat)), some (.int (low : Nat)), y, z, u]) → 
            TbOk H' D (i * ms.length + (j + 1)) (fun k => (∃ low ∈ ms.take i, ∃ mid ∈ ms, servP N most low mid k) ∨ ∃ mid ∈ ms.take (j + 1), servP N most low mid k) ∧ Same H H' ∧ ∃ y z u : Option V, σ2 = [some (.int N), some (.ref a), some (.ref D), some (.int (most : Nat)), some (.int (low : Nat)), y, z, u] := fun σ2 no e =>
          ⟨tb.mono (by omega) (fun k q => q.imp id fun ⟨x, hx, sv⟩ => ((take_succ_mem hmid).mp hx).elim (fun h => ⟨x, h, sv⟩) fun e => (no ⟨k, e ▸ sv⟩).elim), s3, e⟩
        refine ⟨_, rfl, _, _, rfl, rfl, .inl ⟨by decide, by decide⟩, _, rfl, _, _, rfl, rfl, _, rfl, _, _, rfl, rfl, ⟨hN, hN2⟩, ?_⟩
        refine ⟨_, rfl, _, _, rfl, rfl, .inl ⟨by decide, by decide⟩, _, rfl, _, _, rfl, rfl, _, rfl, _, _, rfl, rfl, hN, ?_⟩
        refine ⟨_, _, rfl, ?_⟩
        refine ⟨_, rfl, _, rfl, _, _, rfl, rfl, _, rfl, ?_⟩
        by_cases c : low < mid
        · rw [decide_eq_true (show (low : Int) < mid by omega)]
          refine iteT ⟨_, rfl, rfl, _, rfl, ?_⟩
          obtain ⟨kvs, h1, h2, h3, h4⟩ := tb
          have hz : kvs.length < sizeLine := by
            have l2 := S.l2
            have : i * ms.length + j ≤ 256 * 256 + 256 := by
              have hi : i < ms.length := (List.getElem?_eq_some_iff.mp hlow).1
              exact Nat.add_le_add (Nat.mul_le_mul (by omega) l2) (by omega)
            rw [sizeLine_eq]; omega
          have more : ∀ k, ((∃ low ∈ ms.take i, ∃ mid ∈ ms, servP N most low mid k) ∨ ∃ mid ∈ ms.take (j + 1), servP N most low mid k) →
              ((∃ low ∈ ms.take i, ∃ mid ∈ ms, servP N most low mid k) ∨ ∃ mid ∈ ms.take j, servP N most low mid k) ∨ k = (2 * (mid : Int) - low) % N := fun k q => by
            rcases q with q | ⟨x, hx, sv⟩
            · exact .inl (.inl q)
            · rcases (take_succ_mem hmid).mp hx with h | e
              · exact .inl (.inr ⟨x, h, sv⟩)
              · subst e
                exact .inr sv.2.2
          have put : ∀ T, H' T = none → TbOk (upd (upd H' T (.tup [.int ((2 * (mid : Int) - low) / N), .int (low : Nat), .int (mid : Nat)])) D (.dK (putK kvs (.inl ((2 * (mid : Int) - low) % N)) (.ref T)))) D (i * ms.length + (j + 1)) (fun k => (∃ low ∈ ms.take i, ∃ mid ∈ ms, servP N most low mid k) ∨ ∃ mid ∈ ms.take (j + 1), servP N most low mid k) := fun T hT => by
            have s := Same.new (o := .tup [.int ((2 * (mid : Int) - low) / N), .int (low : Nat), .int (mid : Nat)]) hT
            refine (TbOk.put (s _ _ h1) h2 (fun k v q => ?_) h4 upd_same).mono (by omega) more
            obtain ⟨p, c, l, m, r1, r2⟩ := h3 k v q
            exact ⟨p, c, l, m, r1, s _ _ r2⟩
          have both : ∀ b : Bool, (b = false → ¬ ∃ k, servP N most low mid k) → b = true ∨ b = false := fun b _ => by cases b <;> simp
          by_cases c2 : (2 * (mid : Int) - low) / N = 0 ∨ (2 * (mid : Int) - low) % N < most
          · have fin : ∀ (D' : Ends), D'.nx = (fun σ' H' => TbOk H' D (i * ms.length + (j + 1)) (fun k => (∃ low ∈ ms.take i, ∃ mid ∈ ms, servP N most low mid k) ∨ ∃ mid ∈ ms.take (j + 1), servP N most low mid k) ∧ Same H H' ∧ ∃ y z u, σ' = [some (.int N), some (.ref a), some (.ref D), some (.int (most : Nat)), some (.int (low : Nat)), y, z, u]) →
                tIfS (tOr (tB (tDNotIn (tVar 7) (tVar 2))) (tTest (tOp (rI0 fun i j => V.bl (decide (i < j))) (tVar 6) (tOp (rIxT K) (tDGet (tVar 2) (tVar 7)) (tC (V.int 0))))))
                  (sDPut (tVar 2) (tVar 7) (tTup (tCons (tVar 6) (tCons (tVar 4) (tCons (tVar 5) tNil))))) tNext D'
                  [some (V.int N), some (V.ref a), some (V.ref D), some (V.int (most : Nat)), some (V.int (low : Nat)), some (V.int (mid : Nat)), some (V.int ((2 * (mid : Int) - low) / N)), some (V.int ((2 * (mid : Int) - low) % N))] H' := fun D' eD => by
              refine tst_serv h1 h3 rfl rfl rfl (iteT ?_) (fun is => iteF ?_)
              · refine ⟨_, rfl, _, rfl, _, rfl, z3, fun T hT => ⟨_, rfl, _, rfl, D, _, rfl, DPut.k (k := .inl ((2 * (mid : Int) - low) % N)) (Same.new hT _ _ h1) hz, ?_⟩⟩
                rw [eD]
                exact ⟨put T hT, same_upd_new (s3.trans (Same.new hT)) hD, _, _, _, rfl⟩
              · show D'.nx _ _
                rw [eD]
                exact ⟨⟨kvs, h1, by omega, h3, fun k q => (more k q).elim (h4 k) fun e => by rw [e]; exact is⟩, s3, _, _, _, rfl⟩
            by_cases c3 : (2 * (mid : Int) - low) / N = 0
            · exact iteTr (decide_eq_true (congrArg V.int c3)) (iteT (fin _ rfl))
            · refine iteFr (decide_eq_false fun e => c3 (V.int.inj e)) ⟨_, rfl, _, rfl, _, _, rfl, rfl, _, rfl, iteTr (decide_eq_true (c2.resolve_left c3)) (fin _ rfl)⟩
          · refine iteFr (decide_eq_false fun e => c2 (.inl (V.int.inj e))) ⟨_, rfl, _, rfl, _, _, rfl, rfl, _, rfl, iteFr (decide_eq_false fun e => c2 (.inr e)) ?_⟩
            exact skip _ (fun ⟨k, sv⟩ => c2 sv.2.1) ⟨_, _, _, rfl⟩
        · rw [decide_eq_false (show ¬ (low : Int) < mid by omega)]
          exact iteF (iteF (skip _ (fun ⟨k, sv⟩ => c sv.1) ⟨_, _, _, rfl⟩))
      · obtain ⟨tb2, s3, _, _, _, rfl⟩ := p
        rw [VI_len, List.take_length] at tb2
        refine ⟨tb2.mono (by rw [Nat.succ_mul]; exact Nat.le_refl _) (fun k ⟨x, hx, h⟩ => ((take_succ_mem hlow).mp hx).elim (fun q => .inl ⟨x, q, h⟩) fun e => .inr (e ▸ h)), s3, _, _, _, _, rfl⟩
    · obtain ⟨tb, s2, _, _, _, _, rfl⟩ := p
      rw [VI_len, List.take_length] at tb
      exact ⟨_, rfl, k _ D most s2 hm hmax (tb.mono (by have := S.l2; exact Nat.le_trans (Nat.mul_le_mul this this) (by decide)) fun _ h => h)⟩
end
end TF
end
section
set_option maxHeartbeats 4000000

namespace TF
open PySem PySem.Spec PyProof.Rows L2
/-- a class of the module whose __init__ stores, with that __init__ -/
structure XDef (K : PySem.W.Frag) (mg : Str → Option Value) (x : Str) (C : Addr) (B nid iid : String) (tl : List Value) (qual : Str) (st : Stmt) : Prop where
  cl : XCl K C B nid iid tl
  df : ∃ fI fd, FunD K "__init__" qual (defArgs st) (defBody st) (defScope st) [] [] fI fd ∧ PySem.W.findIn K (.ref C) "__init__" = some (some (.ref fI)) ∧ PySem.W.typeIn K (.ref fI) = some (.type "function")
  m : mg x = some (.ref C)
/-- x(..) raises: its __init__ keeps sp -/
structure XOk (P : Program) (w : World) (K : PySem.W.Frag) (mg : Str → Option Value) (base : Heap) (k : Nat) (x : Str) (C : Addr) (sp : Sp) : Prop where
  g : ∃ (B nid iid : String) (tl : List Value) (fI : Addr) (fd : FuncData) (ps : List Str), XCl K C B nid iid tl ∧ PySem.W.findIn K (.ref C) "__init__" = some (some (.ref fI)) ∧ PySem.W.typeIn K (.ref fI) = some (.type "function") ∧
    FnOk P w K mg base CX0 k fI fd ps sp ∧ Binds K fd ps [] ∧ mg x = some (.ref C)
theorem pmk_cx {X : Cx} {k : Nat} {C : Addr} {sp : Sp} {x : Str} {p pos : Pos} {e : Expr} {es : List Expr} {t : TA} (F : XOk X.prog X.w X.K X.mg X.base k x C sp) (hr : Room (k + 1) X.A) (hg : Gl X x) (ha : PA X (e :: es) t)
    (hdb : (x == ("__debug__" : Str)) = false := by decide) (he : starEach (e :: es) X.env = (false, eval e X.env) :: starEach es X.env := by rfl) (hpl : (backTo pos (starEach es X.env)).any (·.1) = false := by rfl) :
    PMk X (.Call (.Name x p) (e :: es) [] pos) (tMkO C sp [] t) := by
  obtain ⟨B, nid, iid, tl, fI, fd, ps, h1, h2, h3, h4, h5, h6⟩ := F.g
  exact pmk_x h1 h2 h3 h4 hr h5 .nil pass0 hg h6 ha hdb he hpl
section
variable {P : Program} {w : World} {K : PySem.W.Frag} {mg : Str → Option Value} {base : Heap} {x qual : Str} {st : Stmt} {C : Addr} {B nid iid : String} {tl : List Value}
theorem XDef.ok {N ps : List Str} {k : Nat} {sp : Sp} (F : XDef K mg x C B nid iid tl qual st) (S : FnScope N ps (defScope st)) (len : ∀ vs H Q E, sp vs H Q E → vs.length = ps.length)
    (hb : ∀ (kV doc pm : Value) (an : Option Addr) (cdv ct : Value) (us : List Value), us.length = ps.length → bindArgs (PySem.W.fnOf "__init__" qual (defArgs st) (defBody st) (defScope st) .none kV doc pm an cdv ct) ⟨us, []⟩ = pure (ps.zip us))
    (hbody : ∀ (f : Addr) (cdv : Value) (A : Around) (outer : List Env) (s : Shared) (H : Hp) (vs : List V) (Q : VK) (E : XK), Room k (A.deeper (envOfC qual (defScope st) s.heap.objs.size f cdv)) → sp vs H Q E →
      ∃ t, PSs (cxOf CX0 P w K mg base N qual (defScope st) f cdv A outer s H E).nox (defBody st) t ∧ t { nx := fun _ H' => Q .non H', rt := Q } (start N vs) H) : XOk P w K mg base (k + 1) x C sp := by
  obtain ⟨fI, fd, FD, i1, i2⟩ := F.df
  refine ⟨B, nid, iid, tl, fI, fd, ps, F.cl, i1, i2, FD.ok S len (fun cdv A outer s H vs Q E hr h => ?_), FD.bindsN hb, F.m⟩
  obtain ⟨t, h1, h2⟩ := hbody fI cdv A outer s H vs Q E hr h
  exact ⟨t, h1.nox, h2⟩
end
/-- the base class of such a class as its __init__ names it -/
structure XSup (K : PySem.W.Frag) (mg : Str → Option Value) (S : Str) (SA : Addr) (iid : String) : Prop where
  g : GC mg S (.ref SA)
  rd : ClX.CRead K SA (.type "type")
  vi : PySem.W.findCls K (.ref SA) (.type "type") "__init__" = some (.val (.builtin iid))
/-- an exception object that is being made: what a store does -/
theorem tXst_first {K : PySem.W.Frag} {B nid iid : String} {tl : List Value} {f : Str} {to te : TE} {D : Ends} {σ : L2.St} {H : Hp} {a C : Addr} {y : V} (T : XCl K C B nid iid tl) (n : PySem.W.findIn K (.ref C) f = some none) (e : H a = some (exo a C none))
    (he : ∀ Q : VK, Q y H → te σ H Q) (ho : ∀ Q : VK, Q (.ref a) H → to σ H Q) (h : ∀ dx, H dx = none → dx ≠ a → D.nx σ (upd (upd H dx (exd dx [(f, y)])) a (exo a C (some dx)))) : tXst K B nid iid tl f to te D σ H :=
  he _ (ho _ ⟨a, C, rfl, T, n, .inl ⟨e, h⟩⟩)
/-- the object x(..) has made, the heap behind it -/
theorem made_xd {H1 H2 : Hp} {a d : Addr} {fs : List (Str × V)} (k : Same H1 H2) (ha : H1 a = none) (hd : H1 d = none) : Same H1 (upd (del H2 a) d (.xd fs)) := fun b o q => by
  rw [upd_ne (ne_of_none q hd), del_ne (ne_of_none q ha)]
  exact k b o q
section
variable {P : Program} {w : World} {K : PySem.W.Frag} {mg : Str → Option Value} {base : Heap}
def spIT : Sp := fun vs H Q _ => ∃ (a : Addr) (r w : Int), vs = [.ref a, .int r, .int w] ∧ H a = some (exo a (aIT K) none) ∧
  ∀ d, H d = none → d ≠ a → Q .non (upd (upd (upd H d (exd d [("row", .int r)])) a (exo a (aIT K) (some d))) d (exd d [("word", .int w), ("row", .int r)]))
theorem scIT : FnScope ["self", "row", "word"] ["self", "row", "word"] (defScope (inClass (tops 8) 0)) := ⟨rfl, rfl, rfl, by decide +kernel, rfl, by decide +kernel, by decide +kernel⟩
abbrev aSE (K : PySem.W.Frag) : Addr := He.ga K "SetError"
abbrev aStE (K : PySem.W.Frag) : Addr := He.ga K "StateError"
theorem ok_IT (F : XDef K mg "InvalidText" (aIT K) "ValueError" "ValueError.__new__" "ValueError.__init__" tlVE "InvalidText.__init__" (inClass (tops 8) 0)) (G : XSup K mg "SetError" (aSE K) "ValueError.__init__")
    (n1 : PySem.W.findIn K (.ref (aIT K)) "row" = some none) (n2 : PySem.W.findIn K (.ref (aIT K)) "word" = some none) : XOk P w K mg base 1 "InvalidText" (aIT K) (spIT (K := K)) := by
  refine F.ok scIT (fun vs H Q E h => ?_) (fun _ _ _ _ _ _ us hl => match us, hl with | [_, _, _], _ => rfl) (fun f cdv A outer s H vs Q E hr h => ?_)
  · obtain ⟨a, r, w, rfl, _⟩ := h
    rfl
  · obtain ⟨a, r, w, rfl, ha, k⟩ := h
    refine ⟨_, (pss_cons (ps_expr (pe_xi (B := "ValueError") (nid := "ValueError.__new__") (tl := tlVE) rfl G.g G.rd G.vi (by decide +kernel) (pa_cons (pv 0) (pa_cons pe_str pa_nil))))
      (pss_cons (ps_xst ⟨_, F.cl⟩ (pv 0) (pv 1))
      (pss_one (ps_xst ⟨_, F.cl⟩ (pv 0) (pv 2))))), ?_⟩
    refine ⟨_, rfl, a, aIT K, [.str "unexpected word in the text"], rfl, by decide, F.cl, ha, ?_⟩
    refine ⟨_, rfl, _, rfl, a, aIT K, rfl, F.cl, n1, .inl ⟨ha, fun d hd ne => ?_⟩⟩
    refine ⟨_, rfl, _, rfl, a, aIT K, rfl, F.cl, n2, .inr ⟨d, [("row", .int r)], upd_same, ?_, (show 1 ≤ 900 by decide), k d hd ne⟩⟩
    rw [upd_ne ne]
    exact upd_same
/-- what tMkO asks behind the arguments -/
abbrev MkB (C : Addr) (sp : Sp) (vs : List V) (H1 : Hp) (Q : XK) : Prop := vs.length ≤ 1000 ∧ ∀ a, H1 a = none → sp (.ref a :: (vs ++ [])) (upd H1 a (exo a C none))
  (fun v H2 => v = .non ∧ ∃ (d : Addr) (fs : List (Str × V)), H2 a = some (exo a C (some d)) ∧ H2 d = some (exd d fs) ∧ H1 d = none ∧ Q (.ref C) (some d) (upd (del H2 a) d (.xd fs))) (fun _ _ _ => False)
/-- InvalidText(row, word): the reading of its making -/
theorem mk_IT {vs : List V} {H1 : Hp} {Q : XK} (h : ∃ r w : Int, vs = [.int r, .int w] ∧ ∀ d H', Same H1 H' → H1 d = none → H' d = some (.xd [("word", .int w), ("row", .int r)]) → Q (.ref (aIT K)) (some d) H') :
    MkB (aIT K) (spIT (K := K)) vs H1 Q := by
  obtain ⟨r, w, rfl, k⟩ := h
  refine ⟨(show 2 ≤ 1000 by decide), fun a ha => ⟨a, r, w, rfl, upd_same, fun d hd ne => ⟨rfl, d, _, ?_, upd_same, ?_, ?_⟩⟩⟩
  · rw [upd_ne ne.symm, upd_same]
  · rw [upd_ne ne] at hd
    exact hd
  · rw [upd_ne ne] at hd
    refine k d _ (made_xd (fun b o q => ?_) ha hd) hd upd_same
    rw [upd_ne (ne_of_none q hd), upd_ne (ne_of_none q ha), upd_ne (ne_of_none q hd), upd_ne (ne_of_none q ha)]
    exact q
def spNF : Sp := fun vs H Q _ => ∃ (a : Addr) (x y z : Int), vs = [.ref a, .int x, .int y, .int z] ∧ H a = some (exo a (aNF K) none) ∧
  ∀ d, H d = none → d ≠ a → Q .non (upd (upd (upd (upd H d (exd d [("low", .int x)])) a (exo a (aNF K) (some d))) d (exd d [("middle", .int y), ("low", .int x)])) d (exd d [("high", .int z), ("middle", .int y), ("low", .int x)]))
theorem scNF : FnScope ["self", "low", "middle", "high"] ["self", "low", "middle", "high"] (defScope (inClass (tops 10) 0)) := ⟨rfl, rfl, rfl, by decide +kernel, rfl, by decide +kernel, by decide +kernel⟩
theorem ok_NF (F : XDef K mg "NotFree" (aNF K) "RuntimeError" "RuntimeError.__new__" "RuntimeError.__init__" tlRE "NotFree.__init__" (inClass (tops 10) 0)) (G : XSup K mg "StateError" (aStE K) "RuntimeError.__init__")
    (n1 : PySem.W.findIn K (.ref (aNF K)) "low" = some none) (n2 : PySem.W.findIn K (.ref (aNF K)) "middle" = some none) (n3 : PySem.W.findIn K (.ref (aNF K)) "high" = some none) : XOk P w K mg base 1 "NotFree" (aNF K) (spNF (K := K)) := by
  refine F.ok scNF (fun vs H Q E h => ?_) (fun _ _ _ _ _ _ us hl => match us, hl with | [_, _, _, _], _ => rfl) (fun f cdv A outer s H vs Q E hr h => ?_)
  · obtain ⟨a, x, y, z, rfl, _⟩ := h
    rfl
  · obtain ⟨a, x, y, z, rfl, ha, k⟩ := h
    refine ⟨_, (pss_cons (ps_expr (pe_xi (B := "RuntimeError") (nid := "RuntimeError.__new__") (tl := tlRE) rfl G.g G.rd G.vi (by decide +kernel) (pa_cons (pv 0) (pa_cons pe_str pa_nil))))
      (pss_cons (ps_xst ⟨_, F.cl⟩ (pv 0) (pv 1))
      (pss_cons (ps_xst ⟨_, F.cl⟩ (pv 0) (pv 2))
      (pss_one (ps_xst ⟨_, F.cl⟩ (pv 0) (pv 3)))))), ?_⟩
    refine ⟨_, rfl, a, aNF K, [.str "the set contains a triple"], rfl, by decide, F.cl, ha, ?_⟩
    refine ⟨_, rfl, _, rfl, a, aNF K, rfl, F.cl, n1, .inl ⟨ha, fun d hd ne => ?_⟩⟩
    refine ⟨_, rfl, _, rfl, a, aNF K, rfl, F.cl, n2, .inr ⟨d, [("low", .int x)], upd_same, ?_, (show 1 ≤ 900 by decide), ?_⟩⟩
    · rw [upd_ne ne]
      exact upd_same
    refine ⟨_, rfl, _, rfl, a, aNF K, rfl, F.cl, n3, .inr ⟨d, [("middle", .int y), ("low", .int x)], ?_, upd_same, (show 2 ≤ 900 by decide), k d hd ne⟩⟩
    rw [upd_ne ne.symm]
    exact upd_same
theorem mk_NF {vs : List V} {H1 : Hp} {Q : XK} (h : ∃ x y z : Int, vs = [.int x, .int y, .int z] ∧ ∀ d H', Same H1 H' → Q (.ref (aNF K)) (some d) H') : MkB (aNF K) (spNF (K := K)) vs H1 Q := by
  obtain ⟨x, y, z, rfl, k⟩ := h
  refine ⟨(show 3 ≤ 1000 by decide), fun a ha => ⟨a, x, y, z, rfl, upd_same, fun d hd ne => ⟨rfl, d, _, ?_, upd_same, ?_, ?_⟩⟩⟩
  · rw [upd_ne ne.symm, upd_ne ne.symm, upd_same]
  · rw [upd_ne ne] at hd
    exact hd
  · rw [upd_ne ne] at hd
    refine k d _ (made_xd (fun b o q => ?_) ha hd)
    rw [upd_ne (ne_of_none q hd), upd_ne (ne_of_none q hd), upd_ne (ne_of_none q ha), upd_ne (ne_of_none q hd), upd_ne (ne_of_none q ha)]
    exact q
end
end TF
end
section
set_option maxHeartbeats 4000000

namespace TF
open PySem PySem.Spec PyProof.Rows L2
/-! ### unserved_remainder -/
section
variable {P : Program} {w : World} {K : PySem.W.Frag} {mg : Str → Option Value} {base : Heap}
def spUns : Sp := fun vs H Q _ => ∃ (N : Nat) (a D : Addr) (ms : List Nat) (S : Int → Prop), vs = [.int N, .ref a, .ref D] ∧ SqA H a (VI ms) ∧ ms.length ≤ 256 ∧ N ≤ 20000 ∧ TbOk H D 65536 S ∧ (∀ r : Nat, r < N → (∃ m ∈ ms, m = r) ∨ S r) ∧ ∀ H', Same H H' → Q .non H'
theorem scUns : FnScope ["modulus", "members", "table", "known", "member", "rest"] ["modulus", "members", "table"] (defScope (tops 35)) := ⟨rfl, rfl, rfl, by decide +kernel, rfl, by decide +kernel, by decide +kernel⟩
theorem ok_uns (G : GDef K mg "unserved_remainder" (tops 35)) (T : TxtA K mg) : GOk P w K mg base CX0 2 "unserved_remainder" spUns := by
  refine G.ok scUns (fun vs H Q E h => ?_) (fun _ _ _ _ _ _ us hl => match us, hl with | [_, _, _], _ => rfl) (fun f cdv A outer s H vs Q E hr h => ?_)
  · obtain ⟨v, lo, hi, _, _, rfl, _⟩ := h
    rfl
  · obtain ⟨N, a, D, ms, S, rfl, hA, hl, hN, tb, hs, k⟩ := h
    refine ⟨_, (pss_cons (ps_setDc (i := 3) (own := [("member", 4)]) (g := gName 4) rfl scUns.nd rfl rfl (sw_trueD rfl rfl rfl (by decide +kernel)) (PI.or (pi_list (pv 1)) (pi_tup (pv 1))) (blkOk_by (N := ["modulus", "members", "table", "known", "member", "rest"]) (sc := (defScope (tops 35))) (by decide +kernel)) (fun _ _ _ _ _ => (pg_name (i := 4) scUns.nd rfl (Or.inl rfl))) (fun _ _ _ _ _ => pts_nil) (fun _ _ _ _ _ => (pv 4)) (fun _ _ _ _ _ => pe_bl))
      (pss_cons (ps_for PassesOwn.never rfl (pi_range1 rfl T.z_range (pa_cons (pv 0) pa_nil)) (pg_name (i := 5) scUns.nd rfl (Or.inl rfl)) (pss_one (ps_if (PW.pt (pw_and (pt_cmp (pc_dnotin (hu_of hr) (pv 5) (pv 3))) (pw_and1 (pt_cmp (pc_dnotin (hu_of hr) (pv 5) (pv 2)))))) (pss_one (ps_ret (pv 5))) pss_nil)))
      (pss_one (ps_ret pe_non)))), ?_⟩
    refine seqAsg ?_
    refine dc_known (j := 1) (v := 4) (by decide) rfl (by show 4 < 6; decide) hA (Same.refl H) hl fun D2 H1 kvs hD s1 hk kn => ?_
    refine ⟨_, rfl, ?_⟩
    refine ⟨N, rfl, by omega, by have := hN; omega, for_it walk_range (fun i σ' H' => ∃ x, σ' = [some (.int N), some (.ref a), some (.ref D), some (.ref D2), none, x] ∧ H' = H1) ⟨_, rfl, rfl⟩ (fun _ _ _ _ _ => trivial) (fun i x σ' H' H'' hi p y => ?_) (fun σ' H' p => ?_)⟩
    · obtain ⟨x1, rfl, rfl⟩ := p
      obtain ⟨rfl, rfl⟩ := y
      have hi' : i < N := by simpa using hi
      refine ⟨_, rfl, _, rfl, D2, _, rfl, DGet.k (k := .inl ((0 : Int) + i)) hk, _, rfl, ?_⟩
      cases q : (valV kvs (.inl ((0 : Int) + i))).isSome with
      | true => exact iteF (iteF ⟨_, rfl, rfl⟩)
      | false =>
        obtain ⟨ts, t1, t2, t3, t4⟩ := tb.same s1
        have is : (valV ts (.inl ((0 : Int) + i))).isSome = true := by
          rcases hs i hi' with ⟨m, hm, rfl⟩ | h
          · rw [(kn.2 _).mpr ⟨m, hm, by rw [Int.zero_add]⟩] at q
            cases q
          · rw [Int.zero_add]
            exact t4 _ h
        refine iteT ⟨_, rfl, _, rfl, D, _, rfl, DGet.k (k := .inl ((0 : Int) + i)) t1, _, rfl, ?_⟩
        rw [is]
        exact iteF ⟨_, rfl, rfl⟩
    · obtain ⟨x1, rfl, rfl⟩ := p
      exact k _ s1
/-! ### Cell -/
def Served (N : Nat) (ms : List Nat) : Prop := ∀ most ∈ ms, (∀ y ∈ ms, y ≤ most) → ∀ r : Nat, r < N → (∃ m ∈ ms, m = r) ∨ ∃ low ∈ ms, ∃ mid ∈ ms, servP N most low mid r
/-- a cell's modulus and members -/
structure Good (N : Nat) (ms : List Nat) : Prop where
  sh : Shape N ms
  fr : Free N ms
  sv : Served N ms
/-- the cell at c -/
def CellAt (K : PySem.W.Frag) (H : Hp) (c : Addr) (N : Nat) (ms : List Nat) : Prop := ∃ dx tb tp kd, H c = some (.ins (aCell K) dx [("table", .ref tb), ("own_modulus", .int N), ("own_members", .ref tp), ("known", .ref kd)]) ∧ H tp = some (.tup (VI ms))
/-- what is known of the class -/
structure CellA (K : PySem.W.Frag) : Prop where
  cl : Cls K (aCell K)
  n1 : NoAttr K (aCell K) "table"
  n2 : NoAttr K (aCell K) "own_modulus"
  n3 : NoAttr K (aCell K) "own_members"
  n4 : NoAttr K (aCell K) "known"
  ty : ∀ (H : Hp) (a dx : Addr) (fs : List (Str × V)), H a = some (.ins (aCell K) dx fs) → TyOf K H (.ref a) (.ref (aCell K))
  is : PySem.W.kitOne K (.ref (aCell K)) (.ref (aCell K)) = some true
theorem TbOk.ins {H : Hp} {D c C C' dx dx' : Addr} {n : Nat} {S : Int → Prop} {fs fs' : List (Str × V)} (h : TbOk H D n S) (hc : H c = some (.ins C dx fs)) : TbOk (upd H c (.ins C' dx' fs')) D n S := by
  obtain ⟨kvs, h1, h2, h3, h4⟩ := h
  refine ⟨kvs, by rw [upd_ne (fun e => by rw [e, hc] at h1; cases h1)]; exact h1, h2, fun k v q => ?_, h4⟩
  obtain ⟨p, c1, l, m, r1, r2⟩ := h3 k v q
  exact ⟨p, c1, l, m, r1, by rw [upd_ne (fun e => by rw [e, hc] at r2; cases r2)]; exact r2⟩
/-- all but c is kept -/
def But (c : Addr) (H H' : Hp) : Prop := ∀ b o, b ≠ c → H b = some o → H' b = some o
theorem But.same {c : Addr} {H H1 H2 : Hp} (e : But c H H1) (s : Same H1 H2) : But c H H2 := fun b o n q => s _ _ (e b o n q)
theorem But.upd {c : Addr} {H H1 : Hp} {o : HO} (e : But c H H1) : But c H (upd H1 c o) := fun b u n q => by rw [upd_ne n]; exact e b u n q
theorem But.of {c : Addr} {H H1 : Hp} (s : Same H H1) : But c H H1 := fun b o _ q => s b o q
theorem But.seqA {c C dx a : Addr} {fs : List (Str × V)} {xs : List V} {H H1 : Hp} (e : But c H H1) (hc : H c = some (.ins C dx fs)) (h : SqA H a xs) : SqA H1 a xs := by
  have n : a ≠ c := fun z => by
    rw [z] at h
    rcases h with q | q <;> rw [hc] at q <;> cases q
  exact h.imp (e a _ n) (e a _ n)
def spCell (K : PySem.W.Frag) : Sp := fun vs H Q E => ∃ (c dx a : Addr) (N : Nat) (ms : List Nat), vs = [.ref c, .int N, .ref a] ∧ H c = some (.ins (aCell K) dx []) ∧ SqA H a (VI ms) ∧ Shape N ms ∧
  (Free N ms → Served N ms ∧ ∀ H', But c H H' → CellAt K H' c N ms → Q .non H') ∧ (¬ Free N ms → ∀ d H', Same H H' → E (.ref (aNF K)) (some d) H')
theorem scCInit : FnScope ["self", "modulus", "members", "triple", "rest", "member"] ["self", "modulus", "members"] (defScope (inClass (tops 36) 2)) := ⟨rfl, rfl, rfl, by decide +kernel, rfl, by decide +kernel, by decide +kernel⟩
abbrev GFn (P : Program) (w : World) (K : PySem.W.Frag) (mg : Str → Option Value) (base : Heap) (k : Nat) (x : Str) (sp : Sp) : Prop := GOk P w K mg base CX0 k x sp
theorem ok_cell_init (G : MDef K (aCell K) "__init__" "Cell.__init__" (inClass (tops 36) 2)) (T : TxtA K mg) (C : CellA K) (Fcs : GFn P w K mg base 2 "check_shape" spCheckShape) (Fsp : GFn P w K mg base 2 "spoiling_triple" spSpoil)
    (Fse : GFn P w K mg base 2 "serving_table" spServ) (Fun : GFn P w K mg base 2 "unserved_remainder" spUns) (Fnf : XOk P w K mg base 1 "NotFree" (aNF K) (spNF (K := K))) : MOk P w K mg base (L2.CX P w) 3 (aCell K) "__init__" (spCell K) := by
  refine G.okX scCInit (fun vs H Q E h => ?_) (fun _ _ _ _ _ _ us hl => match us, hl with | [_, _, _], _ => rfl) (fun f cdv A outer s H vs Q E hr h => ?_)
  · obtain ⟨c, dx, a, N, ms, rfl, _⟩ := h
    rfl
  · obtain ⟨c, dx, a, N, ms, rfl, hc, hA, S, k1, k2⟩ := h
    refine ⟨_, (pss_cons (ps_expr (pe_cg Fcs (hr.mono (by decide)) pass0 rfl (pa_cons (pv 1) (pa_cons (pv 2) pa_nil))))
      (pss_cons (ps_set (i := 3) scCInit.nd rfl (Or.inl rfl) (pe_cg Fsp (hr.mono (by decide)) pass0 rfl (pa_cons (pv 1) (pa_cons (pv 2) pa_nil))))
      (pss_cons (ps_if (pt_cmpR op_notN (pv 3) pe_non (nomark _)) (pss_one (ps_raise rfl (takes_of rfl rfl rfl rfl) (pmk_cx Fnf (hr.mono (by decide)) rfl (pa_cons (pe_ix ix_tup (pv 3) pe_int (fun _ _ => rfl)) (pa_cons (pe_ix ix_tup (pv 3) pe_int (fun _ _ => rfl)) (pa_cons (pe_ix ix_tup (pv 3) pe_int (fun _ _ => rfl)) pa_nil)))))) pss_nil)
      (pss_cons (ps_fld (pv 0) (pe_cg Fse (hr.mono (by decide)) pass0 rfl (pa_cons (pv 1) (pa_cons (pv 2) pa_nil))) rfl)
      (pss_cons (ps_set (i := 4) scCInit.nd rfl (Or.inl rfl) (pe_cg Fun (hr.mono (by decide)) pass0 rfl (pa_cons (pv 1) (pa_cons (pv 2) (pa_cons (pe_fld (pv 0) rfl) pa_nil)))))
      (pss_cons (ps_if (pt_cmpR op_notN (pv 4) pe_non (nomark _)) (pss_one (ps_never)) pss_nil)
      (pss_cons (ps_fld (pv 0) (pv 1) rfl)
      (pss_cons (ps_fld (pv 0) (pe_tupleOf rfl T.z_tuple (pv 2)) rfl)
      (pss_one (ps_fld (pv 0) (pe_dc (own := [("member", 5)]) (g := gName 5) rfl scCInit.nd  (PI.or (pi_list (pv 2)) (pi_tup (pv 2))) (blkOk_by (N := ["self", "modulus", "members", "triple", "rest", "member"]) (sc := (defScope (inClass (tops 36) 2))) (by decide +kernel)) (fun _ _ _ _ _ => (pg_name (i := 5) scCInit.nd rfl (Or.inl rfl))) (fun _ _ _ _ _ => pts_nil) (fun _ _ _ _ _ => (pv 5)) (fun _ _ _ _ _ => pe_bl)) rfl)))))))))), ?_⟩
    refine ⟨_, rfl, _, rfl, N, a, ms, rfl, hA, S, fun H1 s1 => ?_⟩
    refine ⟨_, rfl, _, rfl, N, a, ms, rfl, s1.seqA hA, S, fun fr H2 s2 => ?_, fun nf H2 T x y z s2 hT => ?_⟩
    · obtain ⟨sv, k1⟩ := k1 fr
      refine ⟨_, rfl, rfl, _, rfl, iteFr (by decide) ?_⟩
      refine ⟨_, rfl, _, rfl, N, a, ms, rfl, (s1.trans s2).seqA hA, S, fun H3 D most s3 hm hmax tb => ?_⟩
      have e3 := (s1.trans s2).trans s3
      refine ⟨_, rfl, c, aCell K, dx, [], rfl, e3 _ _ hc, C.cl, C.n1, (show 0 < 1000 by decide), ?_⟩
      have b4 : But c H (upd H3 c (.ins (aCell K) dx (putF "table" (.ref D) []))) := (But.of e3).upd
      have tb4 := TbOk.ins (C' := aCell K) (dx' := dx) (fs' := putF "table" (.ref D) []) tb (e3 _ _ hc)
      refine ⟨_, rfl, _, rfl, _, rfl, c, aCell K, dx, _, .ref D, rfl, upd_same, C.cl, C.n1, rfl, N, a, D, ms, _, rfl, b4.seqA hc hA, S.l2, S.n2, tb4, sv most hm hmax, fun H5 s5 => ?_⟩
      refine ⟨_, rfl, rfl, _, rfl, iteFr (by decide) ?_⟩
      refine ⟨_, rfl, _, rfl, c, aCell K, dx, [("table", .ref D)], rfl, s5 _ _ upd_same, C.cl, C.n2, (show 1 < 1000 by decide), ?_⟩
      have b6 := (b4.same s5).upd (o := .ins (aCell K) dx (putF "own_modulus" (.int N) [("table", .ref D)]))
      refine tup_A rfl (b6.seqA hc hA) (Same.refl _) fun tp H7 s7 htp => ?_
      refine ⟨_, rfl, c, aCell K, dx, [("table", .ref D), ("own_modulus", .int N)], rfl, s7 _ _ upd_same, C.cl, C.n3, (show 2 < 1000 by decide), ?_⟩
      have b8 := (b6.same s7).upd (o := .ins (aCell K) dx (putF "own_members" (.ref tp) [("table", .ref D), ("own_modulus", .int N)]))
      dsimp only
      refine fldI ?_
      refine dc_known (j := 2) (v := 5) (by decide) rfl (by show 5 < 6; decide) (b8.seqA hc hA) (Same.refl _) S.l2 fun kd H9 kvs hkd s9 hk9 kn => ?_
      refine ⟨_, rfl, c, aCell K, dx, [("table", .ref D), ("own_modulus", .int N), ("own_members", .ref tp)], rfl, s9 _ _ upd_same, C.cl, C.n4, (show 3 < 1000 by decide), ?_⟩
      refine k1 _ (b8.same s9).upd ⟨dx, D, tp, kd, upd_same, ?_⟩
      have n7 : tp ≠ c := fun e => by
        have := s7 _ _ (upd_same (H := H5) (a := c))
        rw [e, this] at htp
        cases htp
      rw [upd_ne n7]
      refine s9 _ _ ?_
      rw [upd_ne n7]
      exact htp
    · refine ⟨_, rfl, rfl, _, rfl, iteTr (by rw [decide_eq_false (fun e => nomatch e)]; rfl) ?_⟩
      refine ⟨_, rfl, T, _, 0, .int x, rfl, rfl, SqT.of hT, rfl, _, rfl, T, _, 1, .int y, rfl, rfl, SqT.of hT, rfl, _, rfl, T, _, 2, .int z, rfl, rfl, SqT.of hT, rfl, ?_⟩
      exact mk_NF ⟨x, y, z, rfl, fun d H' s3 => k2 nf d H' ((s1.trans s2).trans s3)⟩
end
end TF
end
section
set_option maxHeartbeats 4000000
namespace TF
open PySem PySem.Spec PyProof.Rows L2 TL
/-! ### comprehensions that map, that filter -/
section
variable {J : It} {n : Nat} {G : Hp → Prop} {Y : Nat → Hp → V → Hp → Prop}
theorem wipe_one {σ : L2.St} {v : Nat} {x : V} : wipe ((wipe σ [v]).set v (some x)) [v] = wipe σ [v] := by
  show (((σ.set v none).set v (some x)).set v none) = σ.set v none
  simp
theorem lc_map (w : Walk J n G Y) {te : TE} {v : Nat} {σ : L2.St} {H1 : Hp} {D : Addr} {Qd : Hp → Prop} (hD : H1 D = none) (ys : List V) (hlen : ys.length = n) (hn : n < 1000000) (hG : ∀ H, Same H1 H → G H)
    (hs : ∀ i x y H H', ys[i]? = some y → Same H1 H → Y i H x H' → Same H H' ∧ ∀ R : VK, (∀ H4, Same H' H4 → R y H4) → te ((wipe σ [v]).set v (some x)) H' R) (hd : ∀ H, Same H1 H → H D = some (.lst ys) → Qd H) :
    ∃ W : Nat → Nat → Hp → Prop, (∃ m, W 0 m (upd H1 D (.lst []))) ∧ ∀ i m H, W i m H →
      (J.stop i H ∧ Qd H) ∨ (J.go i H ∧ ∃ Nx : Hp → Prop, (∀ H', Nx H' → ∃ m', m' < m ∧ W (i + 1) m' H') ∧ ∀ x H', J.yld i H x H' → gName v x (wipe σ [v]) H' fun σ2 H2 => wipe σ2 [v] = wipe σ [v] ∧ tYes σ2 H2 fun b H3 =>
        if b = true then te σ2 H3 fun y H4 => ∃ acc, H4 D = some (.lst acc) ∧ acc.length < sizeLine ∧ Nx (upd H4 D (.lst (acc ++ [y]))) else Nx H3) := by
  refine lc_it w (fun i H => Same H1 H ∧ H D = some (.lst (ys.take i))) ⟨Same.new hD, upd_same⟩ (fun i H _ p => hG H p.1) (fun i x H H' hi p y => ?_) (fun H p => hd H p.1 ?_)
  · obtain ⟨s1, hk⟩ := p
    have hy : ys[i]? = some (ys[i]'(by omega)) := by simp
    obtain ⟨s2, step⟩ := hs i x _ H H' hy s1 y
    refine ⟨wipe_one, ?_⟩
    unfold tYes
    refine iteT (step _ fun H4 s4 => ⟨ys.take i, s4 _ _ (s2 _ _ hk), ?_, ?_, ?_⟩)
    · rw [List.length_take, sizeLine_eq]; omega
    · intro b o h
      have : b ≠ D := fun z => by rw [z, hD] at h; cases h
      rw [upd_ne this]
      exact s4 _ _ (s2 _ _ (s1 _ _ h))
    · rw [upd_same, List.take_succ, hy]; rfl
  · have := p.2
    rw [List.take_of_length_le (by omega)] at this
    exact this
theorem lc_filt (w : Walk J n G Y) {tt : TT} {te : TE} {v : Nat} {σ : L2.St} {H1 : Hp} {D : Addr} {Qd : Hp → Prop} (hD : H1 D = none) (zs : List (V × Bool)) (hlen : zs.length = n) (hn : n < 1000000) (hG : ∀ H, Same H1 H → G H)
    (hs : ∀ i x y b H H', zs[i]? = some (y, b) → Same H1 H → Y i H x H' → Same H H' ∧ (∀ R : Bool → Hp → Prop, (∀ H4, Same H' H4 → R b H4) → tt ((wipe σ [v]).set v (some x)) H' R) ∧ (b = true → ∀ H4, Same H' H4 → ∀ R : VK, (∀ H5, Same H4 H5 → R y H5) → te ((wipe σ [v]).set v (some x)) H4 R))
    (hd : ∀ H, Same H1 H → H D = some (.lst ((zs.filter (·.2)).map (·.1))) → Qd H) :
    ∃ W : Nat → Nat → Hp → Prop, (∃ m, W 0 m (upd H1 D (.lst []))) ∧ ∀ i m H, W i m H →
      (J.stop i H ∧ Qd H) ∨ (J.go i H ∧ ∃ Nx : Hp → Prop, (∀ H', Nx H' → ∃ m', m' < m ∧ W (i + 1) m' H') ∧ ∀ x H', J.yld i H x H' → gName v x (wipe σ [v]) H' fun σ2 H2 => wipe σ2 [v] = wipe σ [v] ∧ tt σ2 H2 fun b H3 =>
        if b = true then te σ2 H3 fun y H4 => ∃ acc, H4 D = some (.lst acc) ∧ acc.length < sizeLine ∧ Nx (upd H4 D (.lst (acc ++ [y]))) else Nx H3) := by
  refine lc_it w (fun i H => Same H1 H ∧ H D = some (.lst (((zs.take i).filter (·.2)).map (·.1)))) ⟨Same.new hD, upd_same⟩ (fun i H _ p => hG H p.1) (fun i x H H' hi p y => ?_) (fun H p => hd H p.1 ?_)
  · obtain ⟨s1, hk⟩ := p
    have hlt : i < zs.length := by omega
    obtain ⟨⟨y0, b0⟩, hz⟩ : ∃ z, z = zs[i] := ⟨_, rfl⟩
    have hy : zs[i]? = some (y0, b0) := by rw [hz]; simp
    obtain ⟨s2, step1, step2⟩ := hs i x _ _ H H' hy s1 y
    refine ⟨wipe_one, step1 _ fun H4 s4 => ?_⟩
    cases b0 with
    | true =>
      refine iteT (step2 rfl H4 s4 _ fun H5 s5 => ⟨_, s5 _ _ (s4 _ _ (s2 _ _ hk)), ?_, ?_, ?_⟩)
      · have h1 := List.length_filter_le (fun z : V × Bool => z.2) (zs.take i)
        rw [List.length_take] at h1
        rw [List.length_map, sizeLine_eq]
        omega
      · intro b o h
        have : b ≠ D := fun z => by rw [z, hD] at h; cases h
        rw [upd_ne this]
        exact s5 _ _ (s4 _ _ (s2 _ _ (s1 _ _ h)))
      · rw [upd_same, List.take_succ, hy]
        simp
    | false =>
      refine iteF ⟨s1.trans (s2.trans s4), ?_⟩
      rw [s4 _ _ (s2 _ _ hk), List.take_succ, hy]
      simp
  · have := p.2
    rw [List.take_of_length_le (by omega)] at this
    exact this
end
abbrev rSgn : R2 := fun x y H Q => ∃ (c : Nat) (z : Str), x = .str ⟨#[c]⟩ ∧ y = .str z ∧ Q (.bl (decide (c ∈ z.cps.toList))) H
/-- all([c in S for c in z]) -/
theorem all_signs {K : PySem.W.Frag} {j v : Nat} {z S : Str} {σ : L2.St} {H : Hp} {Q : VK} (hσ : σ[j]? = some (some (.str z))) (hv : v < σ.length) (hz : z.length ≤ 100000)
    (h : ∀ H', Same H H' → Q (.bl (z.cps.toList.all fun c => decide (c ∈ S.cps.toList))) H') : tCB (rAll K) (tCons (tLc (iStr (tVar j)) (gName v) tYes (tOp rSgn (tVar v) (tC (.str S))) [v]) tNil) σ H Q := by
  refine ⟨_, hσ, z, rfl, fun D hD => ?_⟩
  have hsz : z.cps.size = z.length := rfl
  refine lc_map walk_str hD ((z.cps.toList.map fun c => decide (c ∈ S.cps.toList)).map V.bl) (by simp) (by omega) (fun _ _ => trivial) (fun i x y H2 H3 hy s2 yy => ?_) (fun H2 s2 hD2 => ?_)
  · obtain ⟨rfl, c, hc, rfl⟩ := yy
    rw [List.map_map, List.getElem?_map, Array.getElem?_toList, hc] at hy
    cases hy
    refine ⟨Same.refl _, fun R hR => ⟨_, ?_, c, S, rfl, rfl, hR _ (Same.refl _)⟩⟩
    rw [List.getElem?_set_self (by rw [wipe_length]; exact hv)]
  · refine ⟨D, _, rfl, SqL.of hD2, ?_⟩
    rw [List.all_map]
    exact h _ s2
/-! ### equal data -/
theorem VI_int (ms : List Nat) : VI ms = (ms.map fun n : Nat => (n : Int)).map V.int := by rw [List.map_map]; rfl
theorem dpInts {K : PySem.W.Frag} {H : Hp} : ∀ ns : List Int, DpAll K H (ns.map V.int) (ns.map PyData.int)
  | [] => .nil
  | n :: r => .cons (.int n) (dpInts r)
theorem dpStrs {K : PySem.W.Frag} {H : Hp} : ∀ ws : List Str, DpAll K H (ws.map V.str) (ws.map PyData.str)
  | [] => .nil
  | x :: r => .cons (.str x) (dpStrs r)
theorem sh_ints (ns : List Int) : SeqAt.shaped (.tuple (ns.map PyData.int)) = true := by
  simp [SeqAt.shaped, PyData.canLay0, PyData.depth, PySem.W.ke_canLayAll0, PySem.W.ke_depthAll]
theorem ints_eqv (ns ms : List Int) : PyData.eqv (.tuple (ns.map PyData.int)) (.tuple (ms.map PyData.int)) = decide (ns = ms) := by
  show PyData.eqvAll _ _ = _
  exact PySem.W.ked_eqvAll ns ms
theorem cast_inj {ms ms' : List Nat} : (ms.map fun n : Nat => (n : Int)) = (ms'.map fun n : Nat => (n : Int)) ↔ ms = ms' :=
  ⟨fun h => (List.map_inj_right fun a b e => Int.ofNat_inj.mp e).mp h, fun h => by rw [h]⟩
/-! ### texts -/
/-- the text of a number -/
abbrev num (n : Nat) : Str := Str.ofString (toString ((n : Nat) : Int))
theorem nb {n : Nat} (hn : n < 2 ^ 200) : ((n : Nat) : Int).natAbs.log2 < 1920 := by
  rw [Int.natAbs_natCast]
  by_cases h : n = 0
  · subst h; decide
  · exact Nat.lt_of_lt_of_le ((Nat.log2_lt h).mpr hn) (by decide)
theorem num_len {n : Nat} (h : n < 100000) : (num n).length ≤ 5 := by
  rw [len_tl, tl_num]
  exact numL_len (by decide) h
theorem sum_le {k : Nat} : ∀ {l : List Str}, (∀ w ∈ l, w.length ≤ k) → (l.map (·.length)).sum ≤ k * l.length
  | [], _ => Nat.zero_le _
  | x :: r, h => by
    have h1 := h x (List.mem_cons_self ..)
    have h2 := sum_le (l := r) fun w hw => h w (List.mem_cons_of_mem _ hw)
    rw [List.map_cons, List.sum_cons, List.length_cons, Nat.mul_succ]
    omega
/-- the words of a cell's text -/
def cWords (N : Nat) (ms : List Nat) : List Str := num N :: ":" :: ms.map num
def cellText (N : Nat) (ms : List Nat) : Str := Txt.join " " (cWords N ms)
theorem num_free {n s : Nat} (h : s < 48 ∨ 57 < s) : s ∉ tl (num n) := by rw [tl_num]; exact numL_free h
theorem cWords_free {N : Nat} {ms : List Nat} {s : Nat} (h : s < 48 ∨ 58 < s) : ∀ p ∈ cWords N ms, s ∉ tl p := by
  intro p hp
  rcases List.mem_cons.mp hp with rfl | hp
  · exact num_free (by omega)
  · rcases List.mem_cons.mp hp with rfl | hp
    · show s ∉ [58]
      intro z
      have := List.mem_singleton.mp z
      omega
    · obtain ⟨m, _, rfl⟩ := List.mem_map.mp hp
      exact num_free (by omega)
theorem cWords_len {N : Nat} {ms : List Nat} (h : N < 100000) (hm : ∀ m ∈ ms, m < 100000) : ∀ p ∈ cWords N ms, p.length ≤ 5 := by
  intro p hp
  rcases List.mem_cons.mp hp with rfl | hp
  · exact num_len h
  · rcases List.mem_cons.mp hp with rfl | hp
    · decide
    · obtain ⟨m, hm', rfl⟩ := List.mem_map.mp hp
      exact num_len (hm m hm')
theorem cWords_sum {N : Nat} {ms : List Nat} (h : N < 100000) (hm : ∀ m ∈ ms, m < 100000) (hl : ms.length ≤ 256) : ((cWords N ms).map (·.length)).sum + (cWords N ms).length * Str.length " " ≤ 16777216 := by
  have h1 := sum_le (cWords_len h hm)
  have h2 : (cWords N ms).length = ms.length + 2 := by show (ms.map num).length + 1 + 1 = _; rw [List.length_map]
  have h3 : Str.length " " = 1 := by decide
  rw [h2] at h1 ⊢
  rw [h3]
  omega
end TF
end
section
set_option maxHeartbeats 4000000

namespace TF
open PySem PySem.Spec PyProof.Rows L2 TL
section
variable {P : Program} {w : World} {K : PySem.W.Frag} {mg : Str → Option Value} {base : Heap}
/-- a property of a cell: its answer -/
def spCProp (K : PySem.W.Frag) (ans : Nat → List Nat → Addr → V) : Sp := fun vs H Q _ => ∃ (c dx tb tp kd : Addr) (N : Nat) (ms : List Nat), vs = [.ref c] ∧ H c = some (.ins (aCell K) dx [("table", .ref tb), ("own_modulus", .int N), ("own_members", .ref tp), ("known", .ref kd)]) ∧ H tp = some (.tup (VI ms)) ∧ Q (ans N ms tp) H
theorem scCMod : FnScope ["self"] ["self"] (defScope (inClass (tops 36) 3)) := ⟨rfl, rfl, rfl, by decide +kernel, rfl, by decide +kernel, by decide +kernel⟩
theorem ok_cell_modulus (G : PDef K (aCell K) "modulus" "Cell.modulus" (inClass (tops 36) 3)) (C : CellA K) : POk P w K mg base CX0 1 (aCell K) "modulus" (spCProp K fun N _ _ => .int N) := by
  refine G.ok scCMod (fun vs H Q E h => ?_) (fun _ _ _ _ _ _ us hl => match us, hl with | [_], _ => rfl) (fun f cdv A outer s H vs Q E hr h => ?_)
  · obtain ⟨c, _, _, _, _, _, _, rfl, _⟩ := h
    rfl
  · obtain ⟨c, dx, tb, tp, kd, N, ms, rfl, hc, ht, k⟩ := h
    exact ⟨_, (pss_one (ps_ret (pe_fld (pv 0) rfl))), _, rfl, c, _, _, _, _, rfl, hc, C.cl, C.n2, rfl, k⟩
theorem scCMem : FnScope ["self"] ["self"] (defScope (inClass (tops 36) 4)) := ⟨rfl, rfl, rfl, by decide +kernel, rfl, by decide +kernel, by decide +kernel⟩
theorem ok_cell_members (G : PDef K (aCell K) "members" "Cell.members" (inClass (tops 36) 4)) (C : CellA K) : POk P w K mg base CX0 1 (aCell K) "members" (spCProp K fun _ _ tp => .ref tp) := by
  refine G.ok scCMem (fun vs H Q E h => ?_) (fun _ _ _ _ _ _ us hl => match us, hl with | [_], _ => rfl) (fun f cdv A outer s H vs Q E hr h => ?_)
  · obtain ⟨c, _, _, _, _, _, _, rfl, _⟩ := h
    rfl
  · obtain ⟨c, dx, tb, tp, kd, N, ms, rfl, hc, ht, k⟩ := h
    exact ⟨_, (pss_one (ps_ret (pe_fld (pv 0) rfl))), _, rfl, c, _, _, _, _, rfl, hc, C.cl, C.n3, rfl, k⟩
theorem scCSize : FnScope ["self"] ["self"] (defScope (inClass (tops 36) 5)) := ⟨rfl, rfl, rfl, by decide +kernel, rfl, by decide +kernel, by decide +kernel⟩
theorem ok_cell_size (G : PDef K (aCell K) "size" "Cell.size" (inClass (tops 36) 5)) (C : CellA K) (T : TxtA K mg) : POk P w K mg base CX0 1 (aCell K) "size" (spCProp K fun _ ms _ => .int ms.length) := by
  refine G.ok scCSize (fun vs H Q E h => ?_) (fun _ _ _ _ _ _ us hl => match us, hl with | [_], _ => rfl) (fun f cdv A outer s H vs Q E hr h => ?_)
  · obtain ⟨c, _, _, _, _, _, _, rfl, _⟩ := h
    rfl
  · obtain ⟨c, dx, tb, tp, kd, N, ms, rfl, hc, ht, k⟩ := h
    refine ⟨_, (pss_one (ps_ret (pe_callB call_len_seq (by rfl) T.z_len (by decide +kernel) (pa_cons (pe_fld (pv 0) rfl) pa_nil)))), _, rfl, c, _, _, _, _, rfl, hc, C.cl, C.n3, rfl, tp, VI ms, rfl, .inr (SqT.of ht), ?_⟩
    rw [VI_len]
    exact k
theorem hu64 {A : Around} {k : Nat} (hr : Room k A) : A.units + 64 < cLine := Nat.lt_of_le_of_lt (by omega) hr.un
/-! ### Cell.__str__ -/
def spCStr (K : PySem.W.Frag) : Sp := fun vs H Q _ => ∃ (c : Addr) (N : Nat) (ms : List Nat), vs = [.ref c] ∧ CellAt K H c N ms ∧ Shape N ms ∧ ∀ H', Same H H' → Q (.str (cellText N ms)) H'
theorem scStr : FnScope ["self", "words", "member"] ["self"] (defScope (inClass (tops 36) 14)) := ⟨rfl, rfl, rfl, by decide +kernel, rfl, by decide +kernel, by decide +kernel⟩
theorem ok_cell_str (G : MDef K (aCell K) "__str__" "Cell.__str__" (inClass (tops 36) 14)) (C : CellA K) (T : TxtA K mg) : MOk P w K mg base CX0 1 (aCell K) "__str__" (spCStr K) := by
  refine G.ok scStr (fun vs H Q E h => ?_) (fun _ _ _ _ _ _ us hl => match us, hl with | [_], _ => rfl) (fun f cdv A outer s H vs Q E hr h => ?_)
  · obtain ⟨c, _, _, rfl, _⟩ := h
    rfl
  · obtain ⟨c, N, ms, rfl, ⟨dx, tb, tp, kd, hc, ht⟩, S, k⟩ := h
    refine ⟨_, (pss_cons (ps_set (i := 1) scStr.nd rfl (Or.inl rfl) (pe_op op_cat (pe_lst (pa_cons (pe_callTy call_str_int (by rfl) T.z_str (by decide +kernel) (pa_cons (pe_fld (pv 0) rfl) pa_nil)) (pa_cons pe_str pa_nil))) (pe_lc (own := [("member", 2)]) (g := gName 2) rfl scStr.nd  (pi_tup (pe_fld (pv 0) rfl)) (blkOk_by (N := ["self", "words", "member"]) (sc := (defScope (inClass (tops 36) 14))) (by decide +kernel)) (fun _ _ _ _ _ => (pg_name (i := 2) scStr.nd rfl (Or.inl rfl))) (fun _ _ _ _ _ => pts_nil) (fun _ _ _ _ _ => (pe_callTy call_str_int (by rfl) T.z_str (by decide +kernel) (pa_cons (pv 2) pa_nil))))))
      (pss_one (ps_ret (pe_join pe_str (pv 1))))), ?_⟩
    refine seqAsg ?_
    have nb : ∀ n : Nat, n ≤ 20000 → ((n : Nat) : Int).natAbs.log2 < 1920 := fun n hn => nb (Nat.lt_of_le_of_lt hn (by decide))
    refine ⟨_, rfl, c, _, _, _, _, rfl, hc, C.cl, C.n2, rfl, N, rfl, nb N S.n2, z2, fun p hp => ?_⟩
    have s1 : Same H (upd H p (.lst [.str (num N), .str ":"])) := Same.new hp
    refine ⟨_, rfl, c, _, _, _, _, rfl, s1 _ _ hc, C.cl, C.n3, rfl, tp, rfl, ⟨VI ms, SqT.of (s1 _ _ ht)⟩, fun D hD => ?_⟩
    refine lc_map walk_tup hD (ms.map fun m => V.str (num m)) (by rw [List.length_map, VI_len]) (by rw [VI_len]; have := S.l2; omega) (fun H2 s2 => SqT.of (s2 _ _ (s1 _ _ ht))) (fun i x y H2 H3 hy s2 yy => ?_) (fun H2 s2 hD2 => ?_)
    · obtain ⟨rfl, hx⟩ := yy
      obtain ⟨m, hm, rfl, mem⟩ := VI_at hx
      rw [List.getElem?_map, hm] at hy
      cases hy
      refine ⟨Same.refl _, fun R hR => ⟨_, rfl, m, rfl, nb m (by have := S.lt m mem; have := S.n2; omega), hR _ (Same.refl _)⟩⟩
    · refine ⟨p, D, _, _, rfl, rfl, s2 _ _ upd_same, hD2, ?_, fun q hq => ?_⟩
      · rw [List.length_map, sizeLine_eq]
        have := S.l2
        show 2 + _ ≤ _
        omega
      · refine ⟨⟨_, rfl⟩, _, rfl, " ", q, cWords N ms, rfl, rfl, .inl (SqL.of ?_), ?_, k _ (s1.trans (s2.trans (Same.new hq)))⟩
        · rw [upd_same]
          show some (HO.lst ([V.str (num N), V.str ":"] ++ _)) = some (HO.lst (List.map V.str (num N :: ":" :: ms.map num)))
          rw [List.map_cons, List.map_cons, List.map_map]
          rfl
        · exact cWords_sum (by have := S.n2; omega) (fun m hm => by have := S.lt m hm; have := S.n2; omega) S.l2
theorem scEq : FnScope ["self", "other"] ["self", "other"] (defScope (inClass (tops 36) 13)) := ⟨rfl, rfl, rfl, by decide +kernel, rfl, by decide +kernel, by decide +kernel⟩
def spCEq (K : PySem.W.Frag) : Sp := fun vs H Q _ => ∃ (c c' : Addr) (N N' : Nat) (ms ms' : List Nat), vs = [.ref c, .ref c'] ∧ CellAt K H c N ms ∧ CellAt K H c' N' ms' ∧ Q (.bl (decide (N = N' ∧ ms = ms'))) H
theorem ok_cell_eq (G : MDef K (aCell K) "__eq__" "Cell.__eq__" (inClass (tops 36) 13)) (C : CellA K) (T : TxtA K mg) : MOk P w K mg base CX0 1 (aCell K) "__eq__" (spCEq K) := by
  refine G.ok scEq (fun vs H Q E h => ?_) (fun _ _ _ _ _ _ us hl => match us, hl with | [_, _], _ => rfl) (fun f cdv A outer s H vs Q E hr h => ?_)
  · obtain ⟨c, c', _, _, _, _, rfl, _⟩ := h
    rfl
  · obtain ⟨c, c', N, N', ms, ms', rfl, ⟨dx, tb, tp, kd, hc, ht⟩, ⟨dx', tb', tp', kd', hc', ht'⟩, k⟩ := h
    refine ⟨_, (pss_cons (ps_if (pt_not (pt_val (pe_callB call_isi (by rfl) T.z_isinstance (by decide +kernel) (pa_cons (pv 1) (pa_cons (pe_gc rfl T.c_Cell) pa_nil))))) (pss_one (ps_ret pe_bl)) pss_nil)
      (pss_one (ps_ret (pe_and (pe_cmpR op_eq (pe_fld (pv 0) rfl) (pe_fld (pv 1) rfl) (nomark _)) (pe_one (pe_cmpR (op_eqD (hu64 hr)) (pe_fld (pv 0) rfl) (pe_fld (pv 1) rfl) (nomark _))))))), ?_⟩
    refine ⟨_, rfl, _, _, _, _, true, rfl, .own _, .base (C.ty _ _ _ _ hc'), C.is, _, rfl, iteF ?_⟩
    refine ⟨_, rfl, c, _, _, _, _, rfl, hc, C.cl, C.n2, rfl, _, rfl, c', _, _, _, _, rfl, hc', C.cl, C.n2, rfl, rfl, _, rfl, ?_⟩
    by_cases e : N = N'
    · rw [decide_eq_true (congrArg (fun n : Nat => V.int n) e)]
      refine iteT ⟨_, rfl, c, _, _, _, _, rfl, hc, C.cl, C.n3, rfl, _, rfl, c', _, _, _, _, rfl, hc', C.cl, C.n3, rfl, .tuple ((ms.map fun n : Nat => (n : Int)).map PyData.int), .tuple ((ms'.map fun n : Nat => (n : Int)).map PyData.int), .tup (SqT.of ht) ?_, .tup (SqT.of ht') ?_, sh_ints _, sh_ints _, ?_⟩
      · rw [VI_int]; exact dpInts _
      · rw [VI_int]; exact dpInts _
      · rw [ints_eqv]
        have z : decide ((ms.map fun n : Nat => (n : Int)) = (ms'.map fun n : Nat => (n : Int))) = decide (N = N' ∧ ms = ms') := by
          rw [decide_eq_decide, cast_inj]
          exact ⟨fun h => ⟨e, h⟩, fun h => h.2⟩
        rw [z]
        exact k
    · rw [decide_eq_false (fun z => e (by have := V.int.inj z; omega))]
      rw [decide_eq_false (fun z => e z.1)] at k
      exact iteF k
end
end TF
end
section
set_option maxHeartbeats 4000000
namespace TF
open PySem PySem.Spec PyProof.Rows L2 PySem.W PySem.Calls
/-! ### a tuple of five classes -/
section
variable {M : Model} {K : Frag}
theorem five_match {c1 c2 c3 c4 c5 cls : Value} {tp e : Addr} {b : Bool} {h : Heap} (X : K.In h) (LT : Looks M h (typeOf (.ref e)) cls) (hp : h.get? tp = some { cls := .type "tuple", data := .seq [c1, c2, c3, c4, c5].toArray }) (hx : exmAny K cls [c1, c2, c3, c4, c5] = some b) :
    Looks M h (excMatches (.ref e) (.ref tp)) b := by
  intro A Q E s kk q
  obtain ⟨gg, g, d, tk, os⟩ := s
  have k : ∀ b o, h.get? b = some o → gg.get? b = some o := kk
  have isT : Looks M h (isInstance (.ref tp) (.type "tuple")) true := ((Looks.ld hp).andThen .now).andThen (Looks.of_pure isSubtype_tuple_tuple)
  obtain ⟨b1, d1, x1, y1, z1⟩ := exmAny_cons hx
  obtain ⟨u1, t1⟩ := exm_cls (M := M) X x1
  have u1 := u1.keeps k
  have t1 := t1.keeps k
  obtain ⟨b2, d2, x2, y2, z2⟩ := exmAny_cons y1
  obtain ⟨u2, t2⟩ := exm_cls (M := M) X x2
  have u2 := u2.keeps k
  have t2 := t2.keeps k
  obtain ⟨b3, d3, x3, y3, z3⟩ := exmAny_cons y2
  obtain ⟨u3, t3⟩ := exm_cls (M := M) X x3
  have u3 := u3.keeps k
  have t3 := t3.keeps k
  obtain ⟨b4, d4, x4, y4, z4⟩ := exmAny_cons y3
  obtain ⟨u4, t4⟩ := exm_cls (M := M) X x4
  have u4 := u4.keeps k
  have t4 := t4.keeps k
  obtain ⟨b5, d5, x5, y5, z5⟩ := exmAny_cons y4
  obtain ⟨u5, t5⟩ := exm_cls (M := M) X x5
  have u5 := u5.keeps k
  have t5 := t5.keeps k
  have end5 : some false = some d5 := y5
  cases end5
  have LT := LT.keeps k
  have isT := isT.keeps k
  have hpk := k _ _ hp
  subst z1 z2 z3 z4 z5
  unfold excMatches
  refine wpAny_bind (isT.at ?_)
  dsimp only
  rw [if_pos rfl]
  first
    | refine wpAny_bind (wpAny_seqItems hpk rfl ?_)
    | refine wpAny_bind (wpAny_bind (wpAny_seqItems hpk rfl (wpAny_pure ?_)))
  dsimp only [Option.getD_some, Option.getD]
  cases b1 <;> cases b2 <;> cases b3 <;> cases b4 <;> cases b5 <;> ((repeat (first | simp only [List.forIn_cons, List.forIn_nil, Bool.not_true, Bool.false_eq_true, if_false, if_true] | lk)); exact q)
end
/-! ### the test of an except clause -/
/-- the clause's expression names classes; sel: whether a class is among them -/
structure Tst (X : Cx) (t : Expr) (sel : Value → Option Bool) : Prop where
  run : ∀ (a : Addr) (p : Addr × Obj) (pn : List (Addr × Obj)) (s : Shared) (σ : L2.St) (H : Hp) (cls : Value) (b : Bool) (Q : Bool → Shared → Prop) (E : Value → Shared → Prop), Inv (X.suite a (p :: pn)) [] σ H s → sel cls = some b → Looks (model X.prog X.w) s.heap (typeOf (.ref a)) cls →
    (∀ h', (∀ q o, s.heap.get? q = some o → h'.get? q = some o) → Q b { s with heap := h' }) →
    wpAny (model X.prog X.w) (X.A.mark (some (.ref a))) (eval t X.env) (fun c s₁ => wpAny (model X.prog X.w) (X.A.mark (some (.ref a))) (excMatches (.ref a) c) Q E s₁) E s
theorem Names.ld {X : Cx} {x : Str} {c : Value} (hc : Names X x c) {a : Addr} {p : Addr × Obj} {pn : List (Addr × Obj)} {s : Shared} {σ : L2.St} {H : Hp} {np : Pos} {Q : Value → Shared → Prop} {E : Value → Shared → Prop} (I : Inv (X.suite a (p :: pn)) [] σ H s) (q : Q c s) :
    wpAny (model X.prog X.w) (X.A.mark (some (.ref a))) (eval (.Name x np) X.env) Q E s := by
  obtain ⟨hg, nd, hm | ⟨hm, hv, nn⟩⟩ := hc
  · exact ld_glob (X := X.suite a (p :: pn)) I hg hm q nd
  · exact ld_blt (X := X.suite a (p :: pn)) I hg hm hv q nn nd
theorem tst_one {X : Cx} {x : Str} {c : Value} {np : Pos} (hc : Names X x c) : Tst X (.Name x np) (fun cls => exmOne X.K cls c) :=
  ⟨fun a p pn s σ H cls b Q E I e LT k => Names.ld hc I ((exm_one I.kIn LT e).here (k _ fun _ _ z => z))⟩
theorem tst_three {X : Cx} {x1 x2 x3 : Str} {c1 c2 c3 : Value} {p1 p2 p3 tpos : Pos} {kk : Nat} (h1 : Names X x1 c1) (h2 : Names X x2 c2) (h3 : Names X x3 c3) : Tst X (.Tuple [.Name x1 p1, .Name x2 p2, .Name x3 p3] kk tpos) (fun cls => exmAny X.K cls [c1, c2, c3]) := by
  refine ⟨fun a p pn s σ H cls b Q E I e LT k => ?_⟩
  refine wpAny_Tuple (wpAny_items_cons (Names.ld h1 I (wpAny_items_cons (Names.ld h2 I (wpAny_items_cons (Names.ld h3 I (wpAny_items_nil ⟨(by size_fits), ?_⟩)))))))
  have kp : ∀ q o, s.heap.get? q = some o → (s.heap.push { cls := .type "tuple", data := .seq [c1, c2, c3].toArray }).get? q = some o := fun _ _ z => Heap.get?_push_of_some _ z
  have ki := I.kIn
  exact (exm_tup3 (Frag.In.keeps ki kp) (LT.keeps kp) (Heap.get?_push_size s.heap rfl) e).here (k _ kp)
theorem tst_five {X : Cx} {x1 x2 x3 x4 x5 : Str} {c1 c2 c3 c4 c5 : Value} {p1 p2 p3 p4 p5 tpos : Pos} {kk : Nat} (h1 : Names X x1 c1) (h2 : Names X x2 c2) (h3 : Names X x3 c3) (h4 : Names X x4 c4) (h5 : Names X x5 c5) :
    Tst X (.Tuple [.Name x1 p1, .Name x2 p2, .Name x3 p3, .Name x4 p4, .Name x5 p5] kk tpos) (fun cls => exmAny X.K cls [c1, c2, c3, c4, c5]) := by
  refine ⟨fun a p pn s σ H cls b Q E I e LT k => ?_⟩
  refine wpAny_Tuple (wpAny_items_cons (Names.ld h1 I (wpAny_items_cons (Names.ld h2 I (wpAny_items_cons (Names.ld h3 I (wpAny_items_cons (Names.ld h4 I (wpAny_items_cons (Names.ld h5 I (wpAny_items_nil ⟨(by size_fits), ?_⟩)))))))))))
  have kp : ∀ q o, s.heap.get? q = some o → (s.heap.push { cls := .type "tuple", data := .seq [c1, c2, c3, c4, c5].toArray }).get? q = some o := fun _ _ z => Heap.get?_push_of_some _ z
  have ki := I.kIn
  exact (five_match (Frag.In.keeps ki kp) (LT.keeps kp) (Heap.get?_push_size s.heap rfl) e).here (k _ kp)
theorem fly_keeps {B h h' : Heap} {l : List Env} {e : Addr} {Z : Obj → Prop} (R : HandSPX.FlyingZ B l e Z h) (k : ∀ b o, h.get? b = some o → h'.get? b = some o) : HandSPX.FlyingZ B l e Z h' := by
  obtain ⟨f1, f2, f3, oe, ws, T, oT, ts, he, hz, hd, i1, nb, ne, hT, dT, i3⟩ := R
  exact ⟨fun b o q => k b o (f1 b o q), f2, f3.of_keeps fun b o q _ => ⟨o, k b o q, rfl⟩, oe, ws, T, oT, ts, k _ _ he, hz, hd, i1, nb, ne, k _ _ hT, dT, i3⟩
/-- what the one clause wishes -/
def wTst (sel : Value → Option Bool) (ts : Addr → Value → Option Addr → TS) (Wout : WX) (D : Ends) : WX := fun cls d σ H =>
  ∃ b, sel cls = some b ∧ (b = true → ∀ a, H a = none → ts a cls d D σ H) ∧ (b = false → Wout cls d σ H)
def goneAs (i : Nat) (D : Ends) : Ends := { nx := fun σ' H' => D.nx (σ'.set i none) H', rt := D.rt, bk := fun σ' H' => D.bk (σ'.set i none) H', ct := fun σ' H' => D.ct (σ'.set i none) H' }
def wTstAs (sel : Value → Option Bool) (i : Nat) (ts : Addr → Value → Option Addr → TS) (Wout : WX) (D : Ends) : WX := fun cls d σ H =>
  ∃ b, sel cls = some b ∧ (b = true → ∀ a, H a = none → ts a cls d (goneAs i D) (σ.set i (some (.ref a))) H) ∧ (b = false → Wout cls d σ H)
section
variable {X : Cx} {t : Expr} {n : Str} {sel : Value → Option Bool} {i : Nat} {body suite : List Stmt} {b₀ : Stmt} {pos pos' : Pos} {tb : WX → TS} {ts : Addr → Value → Option Addr → TS} {Wout : WX}
/-- no clause wants it: it goes on -/
theorem goes_on {a : Addr} {B : Heap} {sI : Shared} {s' : Shared} {h3 : Heap} {pins : List (Addr × Obj)} {σ σ' : L2.St} {H' : Hp} {D : Ends} {cls : Value} {d : Option Addr} (hs : X.stack = X.env :: X.outer) (hf : X.env.frame = some X.env.locals) (tk : Takes X Wout)
    (J : Inv X pins σ' H' sI) (nb : ∀ b o, sI.heap.get? b = some o → b ∉ frs X.stack → B.get? b = some o) (up : sI.heap.UpToSlots h3) (fl3 : HandSPX.FlyingZ B (X.env :: X.outer) a (Zc cls d) h3) (na : H' a = none) (os : s'.os = sI.os) (ag : AllBare s'.gens) (wo : Wout cls d σ' H') :
    wpAny (model X.prog X.w) X.A (handleBy (.ref a) X.env []) (SP X pins D) X.xe { s' with heap := h3 } := by
  refine wpAny_handleBy_nil ?_
  obtain ⟨k1, k2, k3, oe, vs, T, oT, ts', he, hz, hd, h1, hr⟩ := id fl3
  unfold PySem.passOn
  refine wpAny_bind (wpAny_field he hd h1 ?_)
  rw [if_neg (show ¬ ((Value.ref T == Value.none) = true) from by simp)]
  have fin : wpAny (model X.prog X.w) X.A (setFlight (.ref a) X.env.frame) (fun _ s4 => wpAny (model X.prog X.w) X.A (throw (.ref a) : Sem Flow) (SP X pins D) X.xe s4) X.xe { s' with heap := h3 } := by
    rw [hf]
    refine HandSPX.setFlight_upZ fl3 fun h4 held4 up4 => wpAny_throw (tk _ _ ?_)
    exact ⟨a, B, sI, pins, σ', H', cls, d, rfl, J, nb, up.trans up4, .inr (.inr (by rw [hs]; exact held4)), na, os, ag, wo⟩
  first
    | exact wpAny_bind (wpAny_pure (wpAny_bind fin))
    | exact wpAny_bind fin
/-- what follows a body with one clause, no exception -/
theorem try_calm {pins : List (Addr × Obj)} {σ : L2.St} {H : Hp} {s s1 : Shared} {D : Ends} {f : Flow} {xe : Value → Shared → Prop} (ok : X.Ok) (hsp : SP (X.tr (X.pn ++ pins) xe) [] D f s1) :
    (match f with | .next => wpAny (model X.prog X.w) X.A (execs [] X.env) (SP X pins D) X.xe s1 | .brk => SP X pins D .brk s1 | .cont => SP X pins D .cont s1 | .ret u => SP X pins D (.ret u) s1) := by
  cases f with
  | next =>
    obtain ⟨σ', H', J', q⟩ := hsp
    exact wpAny_execs_nil ⟨σ', H', J'.ofTry ok, q⟩
  | brk =>
    obtain ⟨σ', H', J', q⟩ := hsp
    exact ⟨σ', H', J'.ofTry ok, q⟩
  | cont =>
    obtain ⟨σ', H', J', q⟩ := hsp
    exact ⟨σ', H', J'.ofTry ok, q⟩
  | ret u =>
    obtain ⟨v, σ', H', J', r, q⟩ := hsp
    exact ⟨v, σ', H', J'.ofTry ok, r, q⟩
/-- try: body / except t: suite -/
theorem ps_tryT (hs : X.stack = X.env :: X.outer) (hf : X.env.frame = some X.env.locals) (ht : Tst X t sel) (tk : Takes X Wout)
    (hb : ∀ (W : WX) (pn : List (Addr × Obj)) (xe : Value → Shared → Prop), Takes (X.tr pn xe) W → PassesOwn (model X.prog X.w) X.A X.env xe → PSs (X.tr pn xe) body (tb W))
    (hsu : ∀ (a : Addr) (oe : Obj) (cls : Value) (d : Option Addr) (pn : List (Addr × Obj)), Zc cls d oe → (∃ vs, oe.data = .fields vs) → PSs (X.suite a ((a, oe) :: pn)) (b₀ :: suite) (ts a cls d)) :
    PS X (.Try body [.ExceptHandler (some t) none (b₀ :: suite) pos'] [] [] pos) (fun D σ H => tb (wTst sel ts Wout D) D σ H) := by
  refine ⟨fun pins s σ H D I h => ?_⟩
  have ok := I.ok
  have hfr : X.A.frames = some (X.env :: X.outer) := by rw [ok.frames, hs]
  refine wpAny_Try_except ?_
  refine wpAny_mono ((hb (wTst sel ts Wout D) (X.pn ++ pins) (fun e s₁ => wpAny (model X.prog X.w) X.A (noteFrame e X.env) (fun _ s₂ => wpAny (model X.prog X.w) X.A (setFlight e none) (fun _ s₃ =>
    wpAny (model X.prog X.w) X.A (handleBy e X.env [.ExceptHandler (some t) none (b₀ :: suite) pos']) (SP X pins D) X.xe s₃) X.xe s₂) X.xe s₁) (fun u s' xx => ?_) PassesOwn.looking).run [] s σ H D (I.toTry _) h) (fun f s1 hsp => ?_) (fun e s1 he => he)
  · obtain ⟨a, B, sI, pins', σ', H', cls, d, rfl, J', nb, up, sky, na, os, ag, b, hb1, yes, no⟩ := xx
    have J : Inv X pins σ' H' sI := J'.ofTry ok
    have skyE : Sky B (X.env :: X.outer) a (Zc cls d) X.env.locals s'.heap := by rw [← hs]; exact sky
    show wpAny (model X.prog X.w) X.A (noteFrame (.ref a) X.env) _ _ _
    refine Sky.land Zc.steady hfr hf skyE fun h3 fl3 up3 => ?_
    have J3 : Inv X pins σ' H' { s' with heap := h3 } := J.landed nb fl3.1 (up.trans up3) os ag
    obtain ⟨oe3, vs3, he3, hz3, hd3⟩ := fl3.there
    have off : ∀ {h : Heap} {o : Obj} {vs : Array Value}, h.FunFrames B (X.env :: X.outer) → h.get? a = some o → o.data = .fields vs → a ∉ frs (X.env :: X.outer) := fun {h o vs} ff e dd hm => by
      obtain ⟨_, o', e', nf⟩ := ff.mem hm
      rw [e] at e'; cases e'
      exact nf _ dd
    have offA := off fl3.2.2.1 he3 hd3
    have nL : a ≠ X.env.locals := fun z => offA (List.mem_filterMap.mpr ⟨X.env, List.mem_cons_self, by rw [hf, z]⟩)
    have nF : a ∉ X.fs := fun hm => by
      obtain ⟨e, he, q⟩ := List.mem_filterMap.mp hm
      exact offA (List.mem_filterMap.mpr ⟨e, List.mem_cons_of_mem _ he, q⟩)
    have S3 := J3.suite he3 hd3 na nL nF
    refine wpAny_handleBy_cons (codeAny_handlers_test ?_) (by intro q; cases q)
    have LT : PySem.W.Looks (model X.prog X.w) h3 (typeOf (.ref a)) cls := fun A Q E s k q => wpAny_typeOf_ref (k _ _ he3) (by rw [hz3.1]; exact q)
    refine ht.run a (a, oe3) (X.pn ++ pins) { s' with heap := h3 } σ' H' cls b _ _ S3 hb1 LT fun h5 k5 => ?_
    have fl5 := fly_keeps fl3 k5
    have up5 : sI.heap.UpToSlots h5 := (up.trans up3).trans (Heap.UpToSlots.of_keeps k5)
    cases b with
    | true =>
      refine codeAny_handlers_suite ?_
      refine HandSPX.lands_againZ fl5 fun h4 fl4 up4 => ?_
      have J4 : Inv X pins σ' H' { s' with heap := h4 } := J.landed nb fl4.1 (up5.trans up4) os ag
      obtain ⟨oe4, vs4, he4, hz4, hd4⟩ := fl4.there
      have S4 := J4.suite he4 hd4 na nL nF
      refine wpAny_mono ((hsu a oe4 cls d (X.pn ++ pins) hz4 ⟨_, hd4⟩).run [] _ _ H' _ S4 (yes rfl a na)) (fun f s6 hsp => ?_) (fun _ _ z => False.elim z)
      cases f with
      | next =>
        obtain ⟨σ6, H6, S6, q6⟩ := hsp
        exact ⟨_, _, S6.unsuite ok, q6⟩
      | brk =>
        obtain ⟨σ6, H6, S6, q6⟩ := hsp
        exact ⟨_, _, S6.unsuite ok, q6⟩
      | cont =>
        obtain ⟨σ6, H6, S6, q6⟩ := hsp
        exact ⟨_, _, S6.unsuite ok, q6⟩
      | ret u =>
        obtain ⟨v6, σ6, H6, S6, r6, q6⟩ := hsp
        exact ⟨_, _, _, S6.unsuite ok, r6, q6⟩
    | false => exact goes_on (σ := σ) hs hf tk J nb up5 fl5 na os ag (no rfl)
  · have := try_calm (s := s) (σ := σ) (H := H) (pins := pins) ok hsp
    cases f <;> exact this
/-- try: body / except t as n: suite -/
theorem ps_tryTas (hs : X.stack = X.env :: X.outer) (hf : X.env.frame = some X.env.locals) (hN : X.N.Nodup) (hi : X.N[i]? = some n) (hln : X.env.kindOf n = some .local) (ht : Tst X t sel) (tk : Takes X Wout)
    (hb : ∀ (W : WX) (pn : List (Addr × Obj)) (xe : Value → Shared → Prop), Takes (X.tr pn xe) W → PassesOwn (model X.prog X.w) X.A X.env xe → PSs (X.tr pn xe) body (tb W))
    (hsu : ∀ (a : Addr) (oe : Obj) (cls : Value) (d : Option Addr) (pn : List (Addr × Obj)), Zc cls d oe → (∃ vs, oe.data = .fields vs) → PSs (X.suite a ((a, oe) :: pn)) (b₀ :: suite) (ts a cls d)) :
    PS X (.Try body [.ExceptHandler (some t) (some n) (b₀ :: suite) pos'] [] [] pos) (fun D σ H => tb (wTstAs sel i ts Wout D) D σ H) := by
  refine ⟨fun pins s σ H D I h => ?_⟩
  have ok := I.ok
  have hfr : X.A.frames = some (X.env :: X.outer) := by rw [ok.frames, hs]
  have loc : Loc X.env.scope n := .inl hln
  refine wpAny_Try_except ?_
  refine wpAny_mono ((hb (wTstAs sel i ts Wout D) (X.pn ++ pins) (fun e s₁ => wpAny (model X.prog X.w) X.A (noteFrame e X.env) (fun _ s₂ => wpAny (model X.prog X.w) X.A (setFlight e none) (fun _ s₃ =>
    wpAny (model X.prog X.w) X.A (handleBy e X.env [.ExceptHandler (some t) (some n) (b₀ :: suite) pos']) (SP X pins D) X.xe s₃) X.xe s₂) X.xe s₁) (fun u s' xx => ?_) PassesOwn.looking).run [] s σ H D (I.toTry _) h) (fun f s1 hsp => ?_) (fun e s1 he => he)
  · obtain ⟨a, B, sI, pins', σ', H', cls, d, rfl, J', nb, up, sky, na, os, ag, b, hb1, yes, no⟩ := xx
    have J : Inv X pins σ' H' sI := J'.ofTry ok
    have skyE : Sky B (X.env :: X.outer) a (Zc cls d) X.env.locals s'.heap := by rw [← hs]; exact sky
    show wpAny (model X.prog X.w) X.A (noteFrame (.ref a) X.env) _ _ _
    refine Sky.land Zc.steady hfr hf skyE fun h3 fl3 up3 => ?_
    have J3 : Inv X pins σ' H' { s' with heap := h3 } := J.landed nb fl3.1 (up.trans up3) os ag
    obtain ⟨oe3, vs3, he3, hz3, hd3⟩ := fl3.there
    have off : ∀ {h : Heap} {o : Obj} {vs : Array Value}, h.FunFrames B (X.env :: X.outer) → h.get? a = some o → o.data = .fields vs → a ∉ frs (X.env :: X.outer) := fun {h o vs} ff e dd hm => by
      obtain ⟨_, o', e', nf⟩ := ff.mem hm
      rw [e] at e'; cases e'
      exact nf _ dd
    have offA := off fl3.2.2.1 he3 hd3
    have nL : a ≠ X.env.locals := fun z => offA (List.mem_filterMap.mpr ⟨X.env, List.mem_cons_self, by rw [hf, z]⟩)
    have nF : a ∉ X.fs := fun hm => by
      obtain ⟨e, he, q⟩ := List.mem_filterMap.mp hm
      exact offA (List.mem_filterMap.mpr ⟨e, List.mem_cons_of_mem _ he, q⟩)
    have S3 := J3.suite he3 hd3 na nL nF
    refine wpAny_handleBy_cons (codeAny_handlers_test ?_) (by intro q; cases q)
    have LT : PySem.W.Looks (model X.prog X.w) h3 (typeOf (.ref a)) cls := fun A Q E s k q => wpAny_typeOf_ref (k _ _ he3) (by rw [hz3.1]; exact q)
    refine ht.run a (a, oe3) (X.pn ++ pins) { s' with heap := h3 } σ' H' cls b _ _ S3 hb1 LT fun h5 k5 => ?_
    have fl5 := fly_keeps fl3 k5
    have up5 : sI.heap.UpToSlots h5 := (up.trans up3).trans (Heap.UpToSlots.of_keeps k5)
    cases b with
    | true =>
      refine codeAny_handlers_suite_as ?_
      refine HandSPX.lands_againZ fl5 fun h4 fl4 up4 => ?_
      have J4 : Inv X pins σ' H' { s' with heap := h4 } := J.landed nb fl4.1 (up5.trans up4) os ag
      obtain ⟨oe4, vs4, he4, hz4, hd4⟩ := fl4.there
      have S4 := J4.suite he4 hd4 na nL nF
      refine store_ok (X := X.suite a ((a, oe4) :: (X.pn ++ pins))) (v := .ref a) S4 hN hi loc rfl (fun s5 S5 => ?_) (.inr hln)
      refine wpAny_mono ((hsu a oe4 cls d (X.pn ++ pins) hz4 ⟨_, hd4⟩).run [] s5 _ H' _ S5 (yes rfl a na)) (fun f s6 hsp => ?_) (fun _ _ z => False.elim z)
      have gone : ∀ {σ6 : L2.St} {H6 : Hp} {Q : Shared → Prop}, Inv (X.suite a ((a, oe4) :: (X.pn ++ pins))) [] σ6 H6 s6 → (∀ s7, Inv X pins (σ6.set i none) H6 s7 → Q s7) →
          wpAny (model X.prog X.w) X.A (do bindName X.env n .none; unbindBehindTheSuite X.env n pos') (fun _ s7 => Q s7) X.xe s6 := fun {σ6 H6 Q} S6 hq => gone_ok (S6.unsuite ok) hN hi hln hq
      cases f with
      | next =>
        obtain ⟨σ6, H6, S6, q6⟩ := hsp
        exact gone S6 fun s7 J7 => ⟨_, _, J7, q6⟩
      | brk =>
        obtain ⟨σ6, H6, S6, q6⟩ := hsp
        exact gone S6 fun s7 J7 => ⟨_, _, J7, q6⟩
      | cont =>
        obtain ⟨σ6, H6, S6, q6⟩ := hsp
        exact gone S6 fun s7 J7 => ⟨_, _, J7, q6⟩
      | ret u =>
        obtain ⟨v6, σ6, H6, S6, r6, q6⟩ := hsp
        exact gone S6 fun s7 J7 => ⟨_, _, _, J7, r6, q6⟩
    | false => exact goes_on (σ := σ) hs hf tk J nb up5 fl5 na os ag (no rfl)
  · have := try_calm (s := s) (σ := σ) (H := H) (pins := pins) ok hsp
    cases f <;> exact this
end
end TF
end
section
set_option maxHeartbeats 4000000

namespace TF
open PySem PySem.Spec PyProof.Rows L2 TL
section
variable {P : Program} {w : World} {K : PySem.W.Frag} {mg : Str → Option Value} {base : Heap}
/-! ### is_catalogue_name -/
def nameOk (z : Str) : Bool := (decide ((1 : Int) ≤ z.length) && decide ((z.length : Int) ≤ 8)) && z.cps.toList.all fun c => decide (c ∈ Array.toList (Str.cps "abcdefghijklmnopqrstuvwxyz"))
def spIcn : Sp := fun vs H Q _ => ∃ z : Str, vs = [.str z] ∧ z.length ≤ 100000 ∧ ∀ H', Same H H' → Q (.bl (nameOk z)) H'
theorem scIcn : FnScope ["value", "letter"] ["value"] (defScope (tops 41)) := ⟨rfl, rfl, rfl, by decide +kernel, rfl, by decide +kernel, by decide +kernel⟩
theorem ok_icn (G : GDef K mg "is_catalogue_name" (tops 41)) (T : TxtA K mg) : GOk P w K mg base CX0 1 "is_catalogue_name" spIcn := by
  refine G.ok scIcn (fun vs H Q E h => ?_) (fun _ _ _ _ _ _ us hl => match us, hl with | [_], _ => rfl) (fun f cdv A outer s H vs Q E hr h => ?_)
  · obtain ⟨z, rfl, _⟩ := h
    rfl
  · obtain ⟨z, rfl, hz, k⟩ := h
    refine ⟨_, (pss_one (ps_ret (pe_and (pe_callB call_isi (by rfl) T.z_isinstance (by decide +kernel) (pa_cons (pv 0) (pa_cons (pe_bltn (v := .ty "str") (by rfl) T.z_str (by decide +kernel) rfl) pa_nil))) (pe_and (pe_chain op_le op_le pe_int (pe_callB call_len_str (by rfl) T.z_len (by decide +kernel) (pa_cons (pv 0) pa_nil)) pe_int) (pe_one (pe_callB (cr_all rfl) (by rfl) T.z_all (by decide +kernel) (pa_cons (pe_lc (own := [("letter", 1)]) (g := gName 1) rfl scIcn.nd  (pi_str (pv 0)) (blkOk_by (N := ["value", "letter"]) (sc := (defScope (tops 41))) (by decide +kernel)) (fun _ _ _ _ _ => (pg_name (i := 1) scIcn.nd rfl (Or.inl rfl))) (fun _ _ _ _ _ => pts_nil) (fun _ _ _ _ _ => (pe_cmpR op_in_sign (pv 1) (pe_gc rfl T.c_LETTERS) (by rfl)))) pa_nil))))))), ?_⟩
    have hz' : z.length ≤ sizeLine := by rw [sizeLine_eq]; omega
    refine ⟨_, rfl, _, _, _, _, true, rfl, .ty _, .base (.str _), kit_ty (by decide +kernel), true, rfl, iteT ?_⟩
    refine ⟨_, rfl, z, rfl, hz', _, _, rfl, rfl, _, rfl, ?_⟩
    by_cases c1 : (1 : Int) ≤ z.length
    · refine iteTr (decide_eq_true c1) ⟨_, _, rfl, rfl, _, rfl, ?_⟩
      by_cases c2 : (z.length : Int) ≤ 8
      · refine iteTr (decide_eq_true c2) (all_signs rfl (by show 1 < 2; decide) hz fun H' s1 => ?_)
        have e := k H' s1
        rw [nameOk, decide_eq_true c1, decide_eq_true c2] at e
        exact e
      · refine iteFr (decide_eq_false c2) ?_
        have e := k H (Same.refl H)
        rw [nameOk, decide_eq_true c1, decide_eq_false c2] at e
        exact e
    · refine iteFr (decide_eq_false c1) ⟨false, rfl, iteF ?_⟩
      have e := k H (Same.refl H)
      rw [nameOk, decide_eq_false c1] at e
      exact e
/-! ### check_natural, check_at_least: what is well -/
def spCnat : Sp := fun vs H Q _ => ∃ i : Int, vs = [.int i] ∧ 0 ≤ i ∧ Q .non H
theorem scCnat : FnScope ["value"] ["value"] (defScope (tops 42)) := ⟨rfl, rfl, rfl, by decide +kernel, rfl, by decide +kernel, by decide +kernel⟩
theorem ok_cnat (G : GDef K mg "check_natural" (tops 42)) (T : TxtA K mg) : GOk P w K mg base CX0 1 "check_natural" spCnat := by
  refine G.ok scCnat (fun vs H Q E h => ?_) (fun _ _ _ _ _ _ us hl => match us, hl with | [_], _ => rfl) (fun f cdv A outer s H vs Q E hr h => ?_)
  · obtain ⟨z, rfl, _⟩ := h
    rfl
  · obtain ⟨z, rfl, hz, k⟩ := h
    refine ⟨_, (pss_one (ps_if (PW.pt (pw_or (pt_not (pt_val (pe_callB call_isi (by rfl) T.z_isinstance (by decide +kernel) (pa_cons (pv 0) (pa_cons (pe_bltn (v := .ty "int") (by rfl) T.z_int (by decide +kernel) rfl) pa_nil))))) (pw_or (pt_val (pe_callB call_isi (by rfl) T.z_isinstance (by decide +kernel) (pa_cons (pv 0) (pa_cons (pe_bltn (v := .ty "bool") (by rfl) T.z_bool (by decide +kernel) rfl) pa_nil)))) (pw_or1 (pt_cmpR op_lt (pv 0) pe_int (nomark _)))))) (pss_one ps_never) pss_nil)), ?_⟩
    refine ⟨_, rfl, _, _, _, _, true, rfl, .ty _, .base (.int _), kit_ty (by decide +kernel), _, rfl, iteF ?_⟩
    refine ⟨_, rfl, _, _, _, _, false, rfl, .ty _, .base (.int _), kit_ty (by decide +kernel), _, rfl, iteF ?_⟩
    exact ⟨_, rfl, _, _, rfl, rfl, _, rfl, iteFr (decide_eq_false (by omega)) k⟩
def spCal : Sp := fun vs H Q _ => ∃ i : Int, vs = [.int i, .int 0] ∧ 0 ≤ i ∧ Q .non H
theorem scCal : FnScope ["given", "low"] ["given", "low"] (defScope (tops 59)) := ⟨rfl, rfl, rfl, by decide +kernel, rfl, by decide +kernel, by decide +kernel⟩
theorem ok_cal (G : GDef K mg "check_at_least" (tops 59)) (T : TxtA K mg) : GOk P w K mg base CX0 1 "check_at_least" spCal := by
  refine G.ok scCal (fun vs H Q E h => ?_) (fun _ _ _ _ _ _ us hl => match us, hl with | [_, _], _ => rfl) (fun f cdv A outer s H vs Q E hr h => ?_)
  · obtain ⟨z, rfl, _⟩ := h
    rfl
  · obtain ⟨z, rfl, hz, k⟩ := h
    refine ⟨_, (pss_one (ps_if (PW.pt (pw_or (pt_not (pt_val (pe_callB call_isi (by rfl) T.z_isinstance (by decide +kernel) (pa_cons (pv 0) (pa_cons (pe_bltn (v := .ty "int") (by rfl) T.z_int (by decide +kernel) rfl) pa_nil))))) (pw_or (pt_val (pe_callB call_isi (by rfl) T.z_isinstance (by decide +kernel) (pa_cons (pv 0) (pa_cons (pe_bltn (v := .ty "bool") (by rfl) T.z_bool (by decide +kernel) rfl) pa_nil)))) (pw_or1 (pt_cmpR op_lt (pv 0) (pv 1) (nomark _)))))) (pss_one ps_never) pss_nil)), ?_⟩
    refine ⟨_, rfl, _, _, _, _, true, rfl, .ty _, .base (.int _), kit_ty (by decide +kernel), _, rfl, iteF ?_⟩
    refine ⟨_, rfl, _, _, _, _, false, rfl, .ty _, .base (.int _), kit_ty (by decide +kernel), _, rfl, iteF ?_⟩
    exact ⟨_, rfl, _, rfl, _, _, rfl, rfl, _, rfl, iteFr (decide_eq_false (by omega)) k⟩
/-! ### read_digits: the text of a number -/
theorem at0 {α : Type} {x : α} {r : List α} : atI (x :: r) 0 = some x := by simp [atI, ixN]
theorem part_le {z y l : Str} (h : l ∈ Txt.split z y) : l.length ≤ z.length := by
  have := PySem.join_mem_le y _ _ h
  rw [StrLaws.join_split] at this
  exact this
theorem num_head {n : Nat} (h : 0 < n) : ∃ d r, numL n = d :: r ∧ d ≠ 48 := by
  induction n using Nat.strongRecOn with
  | _ n ih =>
    by_cases h10 : n < 10
    · rw [numL_lt h10]
      exact ⟨48 + n, [], rfl, by omega⟩
    · rw [numL_step (by omega)]
      obtain ⟨d, r, e, ne⟩ := ih (n / 10) (by omega) (by omega)
      exact ⟨d, r ++ [48 + n % 10], by rw [e]; rfl, ne⟩
def spRdg : Sp := fun vs H Q _ => ∃ n : Nat, vs = [.str (num n)] ∧ n < 100000 ∧ ∀ H', Same H H' → Q (.int n) H'
theorem scRdg : FnScope ["word", "character"] ["word"] (defScope (tops 50)) := ⟨rfl, rfl, rfl, by decide +kernel, rfl, by decide +kernel, by decide +kernel⟩
theorem ok_rdg (G : GDef K mg "read_digits" (tops 50)) (T : TxtA K mg) : GOk P w K mg base CX0 1 "read_digits" spRdg := by
  refine G.ok scRdg (fun vs H Q E h => ?_) (fun _ _ _ _ _ _ us hl => match us, hl with | [_], _ => rfl) (fun f cdv A outer s H vs Q E hr h => ?_)
  · obtain ⟨n, rfl, _⟩ := h
    rfl
  · obtain ⟨n, rfl, hn, k⟩ := h
    refine ⟨_, (pss_cons (ps_if (PW.pt (pw_or (pt_cmpR op_eq (pv 0) pe_str (nomark _)) (pw_or (pt_cmpR op_gt (pe_callB call_len_str (by rfl) T.z_len (by decide +kernel) (pa_cons (pv 0) pa_nil)) (pe_gc rfl T.c_MAX_DIGITS) (nomark _)) (pw_or1 (pt_not (pt_val (pe_callB (cr_all rfl) (by rfl) T.z_all (by decide +kernel) (pa_cons (pe_lc (own := [("character", 1)]) (g := gName 1) rfl scRdg.nd  (pi_str (pv 0)) (blkOk_by (N := ["word", "character"]) (sc := (defScope (tops 50))) (by decide +kernel)) (fun _ _ _ _ _ => (pg_name (i := 1) scRdg.nd rfl (Or.inl rfl))) (fun _ _ _ _ _ => pts_nil) (fun _ _ _ _ _ => (pe_cmpR op_in_sign (pv 1) (pe_gc rfl T.c_DIGITS) (by rfl)))) pa_nil)))))))) (pss_one (ps_ret pe_non)) pss_nil)
      (pss_one (ps_ret (pe_ifExp (PW.pt (pw_or (pt_cmpR op_eq (pv 0) pe_str (nomark _)) (pw_or1 (pt_cmpR op_ne (pe_ix ix_str (pv 0) pe_int (fun _ _ => rfl)) pe_str (nomark _))))) (pe_callTy call_int_str (by rfl) T.z_int (by decide +kernel) (pa_cons (pv 0) pa_nil)) pe_non)))), ?_⟩
    have hl : (num n).length ≤ 5 := num_len hn
    have hz : (num n).length ≤ sizeLine := by rw [sizeLine_eq]; omega
    refine ⟨_, rfl, rfl, _, rfl, iteFr (decide_eq_false fun e => ?_) ?_⟩
    · have e2 := congrArg tl (V.str.inj e)
      rw [tl_num] at e2
      exact numL_ne n e2
    refine ⟨_, rfl, _, rfl, hz, _, _, rfl, rfl, _, rfl, iteFr (decide_eq_false (by omega)) ?_⟩
    refine all_signs rfl (by show 1 < 2; decide) (by omega) fun H1 s1 => ?_
    have dg : ((num n).cps.toList.all fun c => decide (c ∈ Array.toList (Str.cps "0123456789"))) = true := by
      rw [List.all_eq_true]
      intro c hc
      have hc' : c ∈ numL n := by rw [← tl_num]; exact hc
      have := numL_digits n c hc'
      exact decide_eq_true ((by decide : ∀ c : Nat, c < 58 → 48 ≤ c → c ∈ Array.toList (Str.cps "0123456789")) c (by omega) (by omega))
    refine ⟨_, rfl, iteFr (by rw [dg]; rfl) ?_⟩
    have fin : tCB (fun xs H Q => ∃ (a : Str) (n : Int), xs = [V.str a] ∧ intText? a = some n ∧ a.length ≤ 640 ∧ Q (V.int n) H) (tCons (tVar 0) tNil) [some (V.str (num n)), none] H1 Q :=
      ⟨_, rfl, num n, n, rfl, int_num (Nat.le_trans (numL_len (k := 5) (by decide) hn) (by decide)), by omega, k _ s1⟩
    refine ⟨_, rfl, rfl, _, rfl, ?_⟩
    by_cases h0 : n = 0
    · subst h0
      exact iteTr (decide_eq_true (by decide)) (iteT fin)
    · obtain ⟨d, r, e, ne⟩ := num_head (n := n) (by omega)
      refine iteFr (decide_eq_false fun z => ?_) ⟨_, rfl, num n, 0, d, rfl, rfl, hz, ?_, rfl, _, rfl, ?_⟩
      · have z2 := congrArg tl (V.str.inj z)
        rw [tl_num, e] at z2
        exact ne (List.cons.inj z2).1
      · rw [show (num n).cps.toList = numL n from tl_num n, e]
        exact at0
      · refine iteTr ?_ fin
        rw [decide_eq_false fun z => ?_]
        · rfl
        · have z2 := congrArg tl (V.str.inj z)
          exact ne (List.cons.inj (show [d] = [48] from z2)).1
/-! ### split_lines -/
theorem pimp {α β : Type} {F G : α → β → Prop} : ∀ {l : List α} {m : List β}, (∀ a ∈ l, ∀ b, F a b → G a b) → Paired F l m → Paired G l m
  | _, _, _, .nil => .nil
  | _, _, h, .cons x t => .cons (h _ (List.mem_cons_self ..) _ x) (pimp (fun a m => h a (List.mem_cons_of_mem _ m)) t)
theorem rows_ne {H : Hp} {D a : Addr} {as : List Addr} {ws : List Str} (hD : H D = some (.lst (as.map V.ref))) (m : a ∈ as) (h : H a = some (.lst (ws.map V.str))) : a ≠ D := fun e => by
  rw [e, hD] at h
  have e2 : as.map V.ref = ws.map V.str := HO.lst.inj (Option.some.inj h)
  have : V.ref a ∈ ws.map V.str := by rw [← e2]; exact List.mem_map_of_mem m
  obtain ⟨x, _, hx⟩ := List.mem_map.mp this
  cases hx
/-- at p: a list of lists of texts -/
def RowsAt (H : Hp) (p : Addr) (wss : List (List Str)) : Prop := ∃ as : List Addr, H p = some (.lst (as.map V.ref)) ∧ Paired (fun a ws => H a = some (.lst (ws.map V.str))) as wss
def lineWords (z : Str) : List (List Str) := (Txt.split z "\n").map fun l => Txt.split l " "
/-- what is no text -/
inductive NoText (H : Hp) : V → Prop
  | non : NoText H .non
  | int (i : Int) : NoText H (.int i)
  | lst {a : Addr} {xs : List V} (h : H a = some (.lst xs)) : NoText H (.ref a)
def spSpl (K : PySem.W.Frag) : Sp := fun vs H Q E => ∃ v : V, vs = [v] ∧ ((∃ z : Str, v = .str z ∧ z.length ≤ 1000000 ∧ ∀ H' p, Same H H' → RowsAt H' p (lineWords z) → Q (.ref p) H') ∨
  (NoText H v ∧ ∀ d H', Same H H' → H' d = some (.xd [("word", .int 0), ("row", .int 0)]) → E (.ref (aIT K)) (some d) H'))
theorem scSpl : FnScope ["text", "line"] ["text"] (defScope (tops 49)) := ⟨rfl, rfl, rfl, by decide +kernel, rfl, by decide +kernel, by decide +kernel⟩
theorem ok_spl (G : GDef K mg "split_lines" (tops 49)) (T : TxtA K mg) (Fit : XOk P w K mg base 1 "InvalidText" (aIT K) (spIT (K := K))) : GOk P w K mg base (L2.CX P w) 3 "split_lines" (spSpl K) := by
  refine G.okX scSpl (fun vs H Q E h => ?_) (fun _ _ _ _ _ _ us hl => match us, hl with | [_], _ => rfl) (fun f cdv A outer s H vs Q E hr h => ?_)
  · obtain ⟨n, rfl, _⟩ := h
    rfl
  · obtain ⟨v, rfl, k⟩ := h
    refine ⟨_, (pss_cons (ps_if (pt_not (pt_val (pe_callB call_isi (by rfl) T.z_isinstance (by decide +kernel) (pa_cons (pv 0) (pa_cons (pe_bltn (v := .ty "str") (by rfl) T.z_str (by decide +kernel) rfl) pa_nil))))) (pss_one (ps_raise rfl (takes_of rfl rfl rfl rfl) (pmk_cx Fit (hr.mono (by decide)) rfl (pa_cons pe_int (pa_cons pe_int pa_nil))))) pss_nil)
      (pss_one (ps_ret (pe_lc (own := [("line", 1)]) (g := gName 1) rfl scSpl.nd  (pi_list (pe_split (pv 0) pe_str)) (blkOk_by (N := ["text", "line"]) (sc := (defScope (tops 49))) (by decide +kernel)) (fun _ _ _ _ _ => (pg_name (i := 1) scSpl.nd rfl (Or.inl rfl))) (fun _ _ _ _ _ => pts_nil) (fun _ _ _ _ _ => (pe_split (pv 1) pe_str)))))), ?_⟩
    rcases k with ⟨z, rfl, hz, k⟩ | ⟨nt, k⟩
    · refine ⟨_, rfl, _, _, _, _, true, rfl, .ty _, .base (.str _), kit_ty (by decide +kernel), _, rfl, iteF ?_⟩
      refine ⟨_, rfl, ⟨_, rfl⟩, z, "\n", rfl, rfl, rfl, by rw [sizeLine_eq]; omega, fun p hp => ⟨p, rfl, ⟨_, SqL.of upd_same⟩, fun D hD => ?_⟩⟩
      have s1 : Same H (upd H p (.lst ((Txt.split z "\n").map V.str))) := Same.new hp
      refine lc_it walk_list (fun i H' => Same (upd H p (.lst ((Txt.split z "\n").map V.str))) H' ∧ RowsAt H' D ((lineWords z).take i)) ⟨Same.new hD, [], upd_same, .nil⟩ (fun i H' _ q => SqL.of (q.1 _ _ upd_same)) (fun i x H2 H3 hi q yy => ?_) (fun H' q => ?_)
      · obtain ⟨rfl, hx⟩ := yy
        obtain ⟨s2, as, hD2, pr⟩ := q
        rw [List.getElem?_map, Option.map_eq_some_iff] at hx
        obtain ⟨l, hl, rfl⟩ := hx
        have ll : l.length ≤ z.length := part_le (List.mem_of_getElem? hl)
        refine ⟨wipe_one, ?_⟩
        unfold tYes
        refine iteT ⟨_, rfl, ⟨_, rfl⟩, l, " ", rfl, rfl, rfl, by rw [sizeLine_eq]; omega, fun q hq => ⟨as.map V.ref, ?_, ?_, ?_, as ++ [q], ?_, ?_⟩⟩
        · exact Same.new hq _ _ hD2
        · have h1 := pr.length
          have h2 := split_le z "\n"
          rw [List.length_take] at h1
          rw [List.length_map] at hi
          rw [List.length_map, sizeLine_eq]
          omega
        · exact fun b o h => by
            have nD : b ≠ D := fun e => by rw [e, hD] at h; cases h
            rw [upd_ne nD]
            exact Same.new hq _ _ (s2 _ _ h)
        · rw [upd_same, List.map_append]
          rfl
        · have e : (lineWords z)[i]? = some (Txt.split l " ") := by rw [lineWords, List.getElem?_map, hl]; rfl
          rw [List.take_succ, e]
          have nD : q ≠ D := fun e => by rw [e, hD2] at hq; cases hq
          refine (pimp (fun a ma ws h => ?_) pr).snoc ?_
          · rw [upd_ne (rows_ne hD2 ma h)]
            exact Same.new hq _ _ h
          · rw [upd_ne nD]
            exact upd_same
      · obtain ⟨s2, rw'⟩ := q
        rw [List.length_map, show (Txt.split z "\n").length = (lineWords z).length by rw [lineWords, List.length_map], List.take_length] at rw'
        exact k _ _ (s1.trans s2) rw'
    · have : ∃ t b, TyX K H v t ∧ PySem.W.kitOne K t (.type "str") = some b ∧ b = false := by
        cases nt with
        | non => exact ⟨_, false, .base .non, kit_ty (by decide +kernel), rfl⟩
        | int i => exact ⟨_, false, .base (.int i), kit_ty (by decide +kernel), rfl⟩
        | lst h => exact ⟨_, false, .base (.lst h), kit_ty (by decide +kernel), rfl⟩
      obtain ⟨t, b, h1, h2, rfl⟩ := this
      refine ⟨_, rfl, _, _, _, _, false, rfl, .ty _, h1, h2, _, rfl, iteT ?_⟩
      exact mk_IT ⟨0, 0, rfl, fun d H' s1 _ hd => k d H' s1 hd⟩
/-! ### is_empty_text -/
def spIet (K : PySem.W.Frag) : Sp := fun vs H Q E => ∃ (p : Addr) (x : Str) (ws : List Str) (wss : List (List Str)), vs = [.ref p] ∧ RowsAt H p ((x :: ws) :: wss) ∧
  (x = "-" → ws ≠ [] → ∀ d H', Same H H' → H' d = some (.xd [("word", .int 2), ("row", .int 1)]) → E (.ref (aIT K)) (some d) H') ∧ (x ≠ "-" ∨ ws = [] → Q (.bl (decide (x = "-"))) H)
theorem scIet : FnScope ["lines"] ["lines"] (defScope (tops 51)) := ⟨rfl, rfl, rfl, by decide +kernel, rfl, by decide +kernel, by decide +kernel⟩
theorem ok_iet (G : GDef K mg "is_empty_text" (tops 51)) (T : TxtA K mg) (Fit : XOk P w K mg base 1 "InvalidText" (aIT K) (spIT (K := K))) : GOk P w K mg base (L2.CX P w) 3 "is_empty_text" (spIet K) := by
  refine G.okX scIet (fun vs H Q E h => ?_) (fun _ _ _ _ _ _ us hl => match us, hl with | [_], _ => rfl) (fun f cdv A outer s H vs Q E hr h => ?_)
  · obtain ⟨n, _, _, _, rfl, _⟩ := h
    rfl
  · obtain ⟨p, x, ws, wss, rfl, ⟨as, hp, pr⟩, k1, k2⟩ := h
    refine ⟨_, (pss_cons (ps_if (PW.pt (pw_and (pt_cmpR op_eq (pe_ix ix_list (pe_ix ix_list (pv 0) pe_int (fun _ _ => rfl)) pe_int (fun _ _ => rfl)) (pe_gc rfl T.c_EMPTY) (nomark _)) (pw_and1 (pt_cmpR op_gt (pe_callB call_len_seq (by rfl) T.z_len (by decide +kernel) (pa_cons (pe_ix ix_list (pv 0) pe_int (fun _ _ => rfl)) pa_nil)) pe_int (nomark _))))) (pss_one (ps_raise rfl (takes_of rfl rfl rfl rfl) (pmk_cx Fit (hr.mono (by decide)) rfl (pa_cons pe_int (pa_cons pe_int pa_nil))))) pss_nil)
      (pss_one (ps_ret (pe_cmpR op_eq (pe_ix ix_list (pe_ix ix_list (pv 0) pe_int (fun _ _ => rfl)) pe_int (fun _ _ => rfl)) (pe_gc rfl T.c_EMPTY) (nomark _))))), ?_⟩
    cases pr with
    | @cons a _ as' _ ha pr' =>
      have hix : ∀ {R : VK}, R (.str x) H → tOp (rIxL K) (tOp (rIxL K) (tVar 0) (tC (.int 0))) (tC (.int 0)) [some (.ref p)] H R := fun q =>
        ⟨_, rfl, p, _, 0, .ref a, rfl, rfl, SqL.of hp, at0, a, _, 0, .str x, rfl, rfl, SqL.of ha, at0, q⟩
      refine hix ⟨rfl, _, rfl, ?_⟩
      by_cases e : x = "-"
      · subst e
        refine iteTr (decide_eq_true rfl) ⟨_, rfl, p, _, 0, .ref a, rfl, rfl, SqL.of hp, at0, a, _, rfl, .inl (SqL.of ha), _, _, rfl, rfl, _, rfl, ?_⟩
        cases ws with
        | nil =>
          refine iteFr (by decide) (hix ⟨rfl, ?_⟩)
          have := k2 (.inr rfl)
          exact this
        | cons y r =>
          refine iteTr (decide_eq_true (by simp; omega)) ?_
          exact mk_IT ⟨1, 2, rfl, fun d H' s1 _ hd => k1 rfl (by simp) d H' s1 hd⟩
      · refine iteFr (decide_eq_false fun z => e (V.str.inj z)) (iteF (hix ⟨rfl, ?_⟩))
        have := k2 (.inl e)
        rw [decide_eq_false e] at this
        rw [decide_eq_false (fun z => e (V.str.inj z))]
        exact this
end
end TF
end
section
set_option maxHeartbeats 4000000
namespace TF
open PySem PySem.Spec PyProof.Rows L2
/-- C(..): a class of the module whose __init__ keeps sp (sp of the instance and the arguments) -/
structure COk (P : Program) (w : World) (K : PySem.W.Frag) (mg : Str → Option Value) (base : Heap) (CX : CXT) (k : Nat) (C : Addr) (sp : Sp) : Prop where
  g : ∃ (f : Addr) (fd : FuncData) (ps : List Str), Mk K C f ∧ FnOk P w K mg base CX k f fd ps sp ∧ Binds K fd ps []
section
variable {P : Program} {w : World} {K : PySem.W.Frag} {mg : Str → Option Value} {base : Heap} {CX : CXT} {k : Nat} {C : Addr} {sp : Sp}
/-- from its __init__ as a method -/
theorem COk.of (F : MOk P w K mg base CX k C "__init__" sp) (mk : ∀ f, Meth K C "__init__" f → Mk K C f) : COk P w K mg base CX k C sp := by
  obtain ⟨f, fd, ps, h1, h2, h3⟩ := F.g
  exact ⟨f, fd, ps, mk f h3, h1, h2⟩
end
section
variable {X : Cx} {CX : CXT} {k : Nat} {C : Addr} {sp : Sp} {E : XK} {ES : L2.St → XK} {x m : Str} {p pos apos : Pos} {e o : Expr} {es : List Expr} {ta : TE} {t : TA}
theorem pe_cC (F : COk X.prog X.w X.K X.mg X.base CX k C sp) (hr : Room (k + 1) X.A) (hx : Passes CX X E) (hg : Gl X x) (hm : X.mg x = some (.ref C)) (ha : PA X (e :: es) t)
    (hdb : (x == ("__debug__" : Str)) = false := by decide) (he : starEach (e :: es) X.env = (false, eval e X.env) :: starEach es X.env := by rfl) (hpl : (backTo pos (starEach es X.env)).any (·.1) = false := by rfl) :
    PE X (.Call (.Name x p) (e :: es) [] pos) (tMake C sp [] E t) := by
  obtain ⟨f, fd, ps, h1, h2, h3⟩ := F.g
  exact pe_make h1 h2 hr hg hm h3 .nil hx ha hdb he hpl
/-- .. in a try -/
theorem run_mkS {pins : List (Addr × Obj)} {σ : L2.St} {H : Hp} {s : Shared} {Q : VK} {us : List Value} {vs : List V} {f : Addr} {fd : FuncData} {ps : List Str} (M : Mk X.K C f) (F : FnOk X.prog X.w X.K X.mg X.base CX k f fd ps sp) (hr : Room (k + 1) X.A) (hb : Binds X.K fd ps [])
    (hx : PassesAt CX X σ (ES σ)) (I : Inv X pins σ H s) (r : Vals vs us)
    (h : ∀ x dx, H x = none → H dx = none → dx ≠ x → sp (.ref x :: vs) (upd (upd H dx (.own x)) x (.ins C dx [])) (fun v H2 => v = .non ∧ Q (.ref x) H2) (ES σ)) :
    wpAny (model X.prog X.w) X.A (call (.ref C) us) (EP X pins σ Q) X.xe s := by
  have at_ := h (s.heap.objs.size + 1) s.heap.objs.size (I.hok.fresh (Nat.le_succ _)) (I.hok.fresh (Nat.le_refl _)) (Nat.ne_of_lt (Nat.lt_succ_self _))
  have J := Inv.made (C := C) I
  have r2 : Vals (V.ref (s.heap.objs.size + 1) :: vs) (Value.ref (s.heap.objs.size + 1) :: us) := .cons rfl r
  have len : (Value.ref (s.heap.objs.size + 1) :: us).length = ps.length := by
    rw [← r2.length]
    exact F.len _ _ _ _ at_
  have bd := hb _ (Value.ref (s.heap.objs.size + 1) :: us) J.kIn (by rw [List.append_nil]; exact len)
  rw [List.append_nil] at bd
  refine wpAny_call (make_map (f := f) I.kIn M.makes M.init (beq_iff_eq.mp M.fn) (codeAny_mono (F.run _ X.stack _ _ ⟨Value.ref (s.heap.objs.size + 1) :: us, []⟩ (Value.ref (s.heap.objs.size + 1) :: us) _ _ (ES σ) (hr.make C us [])
    (J.env0.make C us []) bd r2 at_) fun r s' got => ?_))
  cases r with
  | error e => exact hx pins _ _ e s' J got
  | ok fl =>
    cases fl with
    | ret u =>
      obtain ⟨v, H', J3, rv, ev, q3⟩ := J.after got
      subst ev
      exact ⟨rv, ⟨V.ref (s.heap.objs.size + 1), H', J3, rfl, q3⟩⟩
    | next => exact False.elim got
    | brk => exact False.elim got
    | cont => exact False.elim got
def tMakeS (C : Addr) (sp : Sp) (E : L2.St → XK) (t : TA) : TE := fun σ H Q => t σ H fun vs H1 => ∀ x dx, H1 x = none → H1 dx = none → dx ≠ x → sp (.ref x :: vs) (upd (upd H1 dx (.own x)) x (.ins C dx [])) (fun v H2 => v = .non ∧ Q (.ref x) H2) (E σ)
theorem pe_cCS (F : COk X.prog X.w X.K X.mg X.base CX k C sp) (hr : Room (k + 1) X.A) (hx : ∀ σ, PassesAt CX X σ (ES σ)) (hg : Gl X x) (hm : X.mg x = some (.ref C)) (ha : PA X (e :: es) t)
    (hdb : (x == ("__debug__" : Str)) = false := by decide) (he : starEach (e :: es) X.env = (false, eval e X.env) :: starEach es X.env := by rfl) (hpl : (backTo pos (starEach es X.env)).any (·.1) = false := by rfl) :
    PE X (.Call (.Name x p) (e :: es) [] pos) (tMakeS C sp ES t) := by
  obtain ⟨f, fd, ps, h1, h2, h3⟩ := F.g
  refine ⟨fun pins s σ H Q I h => ?_⟩
  refine wpAny_Call_Name_kw (ld_glob I hg hm ?_ hdb)
  refine PySem.W.callWith_K (h₀ := X.base) I.ok.mod.kin h1.kp (thn (ha.run pos pins s σ H _ I h) fun us s1 ⟨vs, H1, I1, r, q⟩ => ⟨I1.kIn, ?_⟩) he hpl
  exact run_mkS h1 h2 hr h3 (hx σ) I1 r q
def tMethS (C : Addr) (m : Str) (sp : Sp) (E : L2.St → XK) (ta : TE) (t : TA) : TE := fun σ H Q => ta σ H fun x H1 => ∃ a dx fs, x = .ref a ∧ H1 a = some (.ins C dx fs) ∧ fs.lookup m = none ∧ t σ H1 fun vs H2 => sp (x :: vs) H2 Q (E σ)
theorem pe_cmS {pl : Sem Bool} (F : MOk X.prog X.w X.K X.mg X.base CX k C m sp) (c : Cls X.K C) (hr : Room k X.A) (hx : ∀ σ, PassesAt CX X σ (ES σ)) (ho : PE X o ta) (ha : PA X (e :: es) t)
    (hst : starEach (e :: es) X.env = (false, eval e X.env) :: starEach es X.env := by rfl) (hpl : (backTo pos (starEach es X.env)).any (·.1) = false := by rfl)
    (ht : eval (.Call (.Attribute o m apos) (e :: es) [] pos) X.env = (do
      let ov ← eval o X.env
      standAt apos.atName
      let (f, first) ← holding [ov] (getMethod ov m pl)
      callWith pos f first (backTo pos (starEach (e :: es) X.env)) (backToKw pos (keywordEach [] X.env))) := by rfl) :
    PE X (.Call (.Attribute o m apos) (e :: es) [] pos) (tMethS C m sp ES ta t) := by
  obtain ⟨f, fd, ps, h1, h2, h3⟩ := F.g
  refine ⟨fun pins s σ H Q I h => ?_⟩
  refine PySem.W.methodCall_KW (pl := pl) (thn (ho.run pins s σ H _ I h) fun u s1 ⟨x, H1, I1, rx, a, dx, fs, ex, ea, l, q⟩ => ?_) ht
  subst ex
  obtain rfl : u = Value.ref a := rx
  refine getmeth_ok I1 ea c h3 l ?_
  refine PySem.W.callWith_K (first := [.ref a]) (h₀ := X.base) I.ok.mod.kin h3.kp (thn (ha.run pos pins s1 σ H1 _ I1 q) fun us s2 ⟨vs, H2, I2, r, q2⟩ => ⟨I2.kIn, ?_⟩) hst hpl
  exact run_fnS (us := .ref a :: us) (vs := .ref a :: vs) h1 hr h2 (hx σ) I2 (.cons rfl r) q2
end
/-- the error classes, by their names -/
structure ErrA (K : PySem.W.Frag) (mg : Str → Option Value) : Prop where
  m_IT : mg "InvalidText" = some (.ref (aIT K))
  m_NF : mg "NotFree" = some (.ref (aNF K))
  m_NS : mg "NotServed" = some (.ref (He.ga K "NotServed"))
  m_TL : mg "TooLarge" = some (.ref (He.ga K "TooLarge"))
  m_IC : mg "InvalidCell" = some (.ref (He.ga K "InvalidCell"))
  m_IN : mg "InvalidNumber" = some (.ref (He.ga K "InvalidNumber"))
  m_NU : mg "NothingToUndo" = some (.ref (He.ga K "NothingToUndo"))
  three : PySem.W.exmAny K (.ref (aNF K)) [.ref (aNF K), .ref (He.ga K "NotServed"), .ref (He.ga K "TooLarge")] = some true
  five : PySem.W.exmAny K (.ref (He.ga K "NothingToUndo")) [.ref (aIT K), .ref (He.ga K "InvalidCell"), .ref (He.ga K "InvalidNumber"), .ref (He.ga K "TooLarge"), .ref (He.ga K "NothingToUndo")] = some true
  one : PySem.W.exmOne K (.ref (aIT K)) (.ref (aIT K)) = some true
  m_Cell : mg "Cell" = some (.ref (aCell K))
end TF
end
section
set_option maxHeartbeats 4000000

namespace TF
open PySem PySem.Spec PyProof.Rows L2 TL
abbrev IL (ms : List Nat) : List Int := ms.map fun n : Nat => (n : Int)
theorem dpVI {K : PySem.W.Frag} {H : Hp} (ms : List Nat) : DpAll K H (VI ms) ((IL ms).map PyData.int) := by rw [VI_int]; exact dpInts _
theorem lints_eqv (ns : List Int) : PyData.eqv (.list (ns.map PyData.int)) (.list (([] : List Int).map PyData.int)) = decide (ns = []) := by
  show PyData.eqvAll _ _ = _
  exact PySem.W.ked_eqvAll ns []
theorem atlast {α : Type} {xs : List α} {x : α} : atI (xs ++ [x]) (-1) = some x := by
  have e : ((-1 : Int) + ((xs ++ [x]).length : Nat)).toNat = xs.length := by rw [List.length_append, List.length_singleton]; omega
  unfold atI ixN
  rw [if_neg (by decide), if_pos (by rw [List.length_append, List.length_singleton]; omega), e]
  simp
theorem cut_12 (x y : V) (r : List V) : cutV (x :: y :: r) (some 1) (some 2) = [y] := by
  unfold cutV HT.sIx
  simp
theorem cut_2n (x y : V) (r : List V) : cutV (x :: y :: r) (some 2) none = r := by
  unfold cutV HT.sIx
  simp
theorem cut_1n (x : V) (r : List V) : cutV (x :: r) (some 1) none = r := by
  unfold cutV HT.sIx
  simp
section
variable {P : Program} {w : World} {K : PySem.W.Frag} {mg : Str → Option Value} {base : Heap}
/-- InvalidText(r, c) is raised, the heap but grown -/
def RaisesIT (K : PySem.W.Frag) (H : Hp) (E : XK) (r c : Int) : Prop := ∀ d H', Same H H' → H' d = some (.xd [("word", .int c), ("row", .int r)]) → E (.ref (aIT K)) (some d) H'
def spRc (K : PySem.W.Frag) : Sp := fun vs H Q E => ∃ (a : Addr) (ws : List Str) (line off : Int), vs = [.ref a, .int line, .int off] ∧ H a = some (.lst (ws.map V.str)) ∧
  ((ws = [] ∧ RaisesIT K H E line (off + 1)) ∨ ∃ (N : Nat) (ms : List Nat), ws = cWords N ms ∧ Shape N ms ∧ (Free N ms → Served N ms ∧ ∀ H' c, Same H H' → CellAt K H' c N ms → Q (.ref c) H') ∧ (¬ Free N ms → RaisesIT K H E line (off + 1)))
theorem scRc : FnScope ["words", "line", "offset", "size", "found", "index", "word", "value"] ["words", "line", "offset"] (defScope (tops 52)) := ⟨rfl, rfl, rfl, by decide +kernel, rfl, by decide +kernel, by decide +kernel⟩
theorem ok_rc (G : GDef K mg "read_cell" (tops 52)) (T : TxtA K mg) (Er : ErrA K mg) (Frd : GOk P w K mg base CX0 1 "read_digits" spRdg) (Fit : XOk P w K mg base 1 "InvalidText" (aIT K) (spIT (K := K))) (Fce : COk P w K mg base (L2.CX P w) 3 (aCell K) (spCell K)) :
    GOk P w K mg base (L2.CX P w) 5 "read_cell" (spRc K) := by
  refine G.okX scRc (fun vs H Q E h => ?_) (fun _ _ _ _ _ _ us hl => match us, hl with | [_, _, _], _ => rfl) (fun f cdv A outer s H vs Q E hr h => ?_)
  · obtain ⟨a, ws, l, o, rfl, _⟩ := h
    rfl
  · obtain ⟨a, ws, line, off, rfl, ha, k⟩ := h
    refine ⟨_, (pss_cons (ps_set (i := 3) scRc.nd rfl (Or.inl rfl) (pe_ifExp (pt_cmpR op_gt (pe_callB call_len_seq (by rfl) T.z_len (by decide +kernel) (pa_cons (pv 0) pa_nil)) pe_int (nomark _)) (pe_cg Frd (hr.mono (by decide)) pass0 rfl (pa_cons (pe_ix ix_list (pv 0) pe_int (fun _ _ => rfl)) pa_nil)) pe_non))
      (pss_cons (ps_if (PW.pt (pw_or (pt_cmpR op_isN (pv 3) pe_non (nomark _)) (pw_or1 (pt_not (pt_chain op_le op_le pe_int (pv 3) (pe_ccv rfl T.c_Cell T.r_Cell T.v_MAX_MODULUS)))))) (pss_one (ps_raise rfl (takes_of rfl rfl rfl rfl) (pmk_cx Fit (hr.mono (by decide)) rfl (pa_cons (pv 1) (pa_cons (pe_op op_add (pv 2) pe_int) pa_nil))))) pss_nil)
      (pss_cons (ps_if (pt_cmpR (op_neD (hu64 hr)) (pe_slice sl_list (pv 0) (po_some pe_int) (po_some pe_int)) (pe_lst (pa_cons pe_str pa_nil)) (nomark _)) (pss_one (ps_raise rfl (takes_of rfl rfl rfl rfl) (pmk_cx Fit (hr.mono (by decide)) rfl (pa_cons (pv 1) (pa_cons (pe_op op_add (pv 2) pe_int) pa_nil))))) pss_nil)
      (pss_cons (ps_set (i := 4) scRc.nd rfl (Or.inl rfl) (pe_lst pa_nil))
      (pss_cons (ps_for (passes_of rfl) rfl (pi_enum (by rfl) T.z_enumerate (pa_cons (pe_slice sl_list (pv 0) (po_some pe_int) po_none) pa_nil)) (pg_tup rfl (pgs_cons (pg_name (i := 5) scRc.nd rfl (Or.inl rfl)) (pgs_cons (pg_name (i := 6) scRc.nd rfl (Or.inl rfl)) pgs_nil))) (pss_cons (ps_set (i := 7) scRc.nd rfl (Or.inl rfl) (pe_cg Frd (hr.mono (by decide)) pass0 rfl (pa_cons (pv 6) pa_nil)))
      (pss_cons (ps_if (PW.pt (pw_or (pt_cmpR op_isN (pv 7) pe_non (nomark _)) (pw_or (pt_cmpR op_ge (pv 7) (pv 3) (nomark _)) (pw_or (pt_cmpR op_eq (pv 5) (pe_ccv rfl T.c_Cell T.r_Cell T.v_MAX_MEMBERS) (nomark _)) (pw_or1 (PW.pt (pw_and (pt_cmpR (op_neD (hu64 hr)) (pv 4) (pe_lst pa_nil) (nomark _)) (pw_and1 (pt_cmpR op_le (pv 7) (pe_ix ix_list (pv 4) (pe_un un_neg pe_int) (fun _ _ => rfl)) (nomark _)))))))))) (pss_one (ps_raise rfl (takes_of rfl rfl rfl rfl) (pmk_cx Fit (hr.mono (by decide)) rfl (pa_cons (pv 1) (pa_cons (pe_op op_add (pe_op op_add (pv 2) (pv 5)) pe_int) pa_nil))))) pss_nil)
      (pss_one (ps_expr (pe_bm PySem.F.plainAttrs_list PySem.F.slot_list_append PySem.F.type_list_append mt_append (pv 4) (pa_cons (pv 7) pa_nil)))))))
      (pss_cons (ps_if (pt_cmpR (op_eqD (hu64 hr)) (pv 4) (pe_lst pa_nil) (nomark _)) (pss_one (ps_raise rfl (takes_of rfl rfl rfl rfl) (pmk_cx Fit (hr.mono (by decide)) rfl (pa_cons (pv 1) (pa_cons (pe_op op_add (pv 2) pe_int) pa_nil))))) pss_nil)
      (pss_cons (ps_tryT rfl rfl (tst_three ⟨rfl, by decide, .inl Er.m_NF⟩ ⟨rfl, by decide, .inl Er.m_NS⟩ ⟨rfl, by decide, .inl Er.m_TL⟩) takes_none5 (fun W pn xe tk _ => (pss_one (ps_ret (pe_cCS Fce (hr.mono (by decide)) (fun σ => passAt tk σ) rfl Er.m_Cell (pa_cons (pv 3) (pa_cons (pv 4) pa_nil)))))) (fun a oe cls d pn _ _ => (pss_one (ps_set (i := 4) scRc.nd rfl (Or.inl rfl) (pe_lst pa_nil)))))
      (pss_one (ps_raise rfl (takes_of rfl rfl rfl rfl) (pmk_cx Fit (hr.mono (by decide)) rfl (pa_cons (pv 1) (pa_cons (pe_op op_add (pv 2) pe_int) pa_nil)))))))))))), ?_⟩
    rcases k with ⟨rfl, kr⟩ | ⟨N, ms, rfl, S, kg, kb⟩
    · refine ⟨_, rfl, a, _, rfl, .inl (SqL.of ha), _, _, rfl, rfl, _, rfl, iteFr (by decide) ?_⟩
      refine ⟨_, rfl, rfl, _, rfl, iteTr (decide_eq_true rfl) (iteT ?_)⟩
      exact ⟨_, rfl, _, rfl, _, _, rfl, rfl, mk_IT ⟨_, _, rfl, fun d H' s1 _ hd => kr d H' s1 hd⟩⟩
    · have ha : H a = some (.lst (V.str (num N) :: V.str ":" :: ms.map fun m => V.str (num m))) := by
        rw [ha]
        show some (HO.lst (V.str (num N) :: V.str ":" :: (ms.map num).map V.str)) = _
        rw [List.map_map]
        rfl
      have n2 := S.n2
      refine ⟨_, rfl, a, _, rfl, .inl (SqL.of ha), _, _, rfl, rfl, _, rfl, iteTr (decide_eq_true (by simp; omega)) ?_⟩
      refine ⟨_, rfl, a, _, 0, .str (num N), rfl, rfl, SqL.of ha, at0, N, rfl, by omega, fun H1 s1 => ?_⟩
      refine ⟨_, rfl, rfl, _, rfl, iteFr (decide_eq_false fun e => nomatch e) ?_⟩
      refine ⟨_, rfl, _, _, rfl, rfl, _, rfl, iteTr (decide_eq_true (by have := S.n1; omega)) ⟨_, _, rfl, rfl, _, rfl, iteFr (by rw [decide_eq_true]; rfl; omega) ?_⟩⟩
      refine ⟨_, rfl, _, rfl, _, rfl, a, _, rfl, SqL.of (s1 _ _ ha), fun p hp => ?_⟩
      rw [show cutV (V.str (num N) :: V.str ":" :: ms.map fun m => V.str (num m)) (some 1) (some 2) = [V.str ":"] from cut_12 _ _ _]
      refine ⟨z1, fun q hq => ?_⟩
      have s2 := (Same.new (o := .lst [V.str ":"]) hp)
      have s3 := (Same.new (o := .lst [V.str ":"]) hq)
      refine ⟨.list [.str ":"], .list [.str ":"], .lst (SqL.of (s3 _ _ upd_same)) (.cons (.str _) .nil), .lst (SqL.of upd_same) (.cons (.str _) .nil), by decide +kernel, by decide +kernel, _, rfl, iteFr (by decide +kernel) ?_⟩
      refine ⟨z0, fun F hF => ?_⟩
      have s4 := (Same.new (o := .lst []) hF)
      have e4 := ((s1.trans s2).trans s3).trans s4
      generalize hH4 : upd (upd (upd H1 p (.lst [V.str ":"])) q (.lst [V.str ":"])) F (.lst []) = H4 at s4 e4
      have hF4 : H4 F = some (.lst []) := by rw [← hH4]; exact upd_same
      have hFn : H F = none := (((s1.trans s2).trans s3)).free hF
      refine seqI ?_
      refine ⟨_, rfl, _, rfl, a, _, rfl, SqL.of (e4 _ _ ha), fun p5 hp5 => ?_⟩
      rw [show cutV (V.str (num N) :: V.str ":" :: ms.map fun m => V.str (num m)) (some 2) none = ms.map fun m => V.str (num m) from cut_2n _ _ _]
      have s5 := (Same.new (o := .lst (ms.map fun m => V.str (num m))) hp5)
      have np5 : p5 ≠ F := fun e => by rw [e, hF4] at hp5; cases hp5
      refine ⟨p5, _, rfl, SqL.of upd_same, ?_⟩
      have hF5 : (upd H4 p5 (.lst (ms.map fun m => V.str (num m)))) F = some (.lst []) := s5 _ _ hF4
      generalize hH5 : upd H4 p5 (.lst (ms.map fun m => V.str (num m))) = H5 at s5 hF5
      have hp55 : H5 p5 = some (.lst (ms.map fun m => V.str (num m))) := by rw [← hH5]; exact upd_same
      have l2 := S.l2
      let Pv : Nat → L2.St → Hp → Prop := fun i σ' H' => But F H5 H' ∧ H' F = some (.lst (VI (ms.take i))) ∧ ∃ x y z, σ' = [some (.ref a), some (.int line), some (.int off), some (.int N), some (.ref F), x, y, z]
      refine for_it walk_enum Pv ⟨But.of (Same.refl _), hF5, _, _, _, rfl⟩ (fun i σ' H' _ pv => SqL.of (pv.1 _ _ np5 hp55)) (fun i x σ' H' H'' hi pv y => ?_) (fun σ' H' pv => ?_)
      · obtain ⟨b1, hF1, y1, y2, y3, rfl⟩ := pv
        obtain ⟨T1, x1, x2, rfl, hT1, rfl, e1, e2⟩ := y
        cases e1
        dsimp only at e2
        rw [List.getElem?_map, Option.map_eq_some_iff] at e2
        obtain ⟨m, hm, rfl⟩ := e2
        have mem := List.mem_of_getElem? hm
        have lt := S.lt m mem
        have hil : i < ms.length := (List.getElem?_eq_some_iff.mp hm).1
        refine g_pair upd_same ?_
        have s6 := (Same.new (o := .tup [.int (i : Nat), .str (num m)]) hT1)
        refine ⟨_, rfl, m, rfl, by omega, fun H7 s7 => ?_⟩
        have e7 := s6.trans s7
        have hF7 := e7 _ _ hF1
        -- the append
        have app : ∀ (H8 : Hp) (_ : Same H7 H8),
            tyV K "list" (.ref F) H8 ∧ tCons (tVar 7) tNil [some (.ref a), some (.int line), some (.int off), some (.int N), some (.ref F), some (.int (i : Nat)), some (.str (num m)), some (.int (m : Nat))] H8 fun xs H9 => rAppend (.ref F) xs H9 fun _ H9 => Pv (i + 1) [some (.ref a), some (.int line), some (.int off), some (.int N), some (.ref F), some (.int (i : Nat)), some (.str (num m)), some (.int (m : Nat))] H9 := fun H8 s8 => by
          have hF8 := s8 _ _ hF7
          refine ⟨.inl ⟨rfl, _, SqL.of hF8⟩, _, rfl, F, _, _, rfl, rfl, hF8, ?_, (b1.same (e7.trans s8)).upd, ?_, _, _, _, rfl⟩
          · rw [VI_len, List.length_take, sizeLine_eq]
            omega
          · rw [upd_same, List.take_succ, hm]
            show some (HO.lst (VI (ms.take i) ++ [V.int m])) = some (HO.lst (VI (ms.take i ++ [m])))
            rw [VI, VI, List.map_append]
            rfl
        refine ⟨_, rfl, rfl, _, rfl, iteFr (decide_eq_false fun e => nomatch e) ?_⟩
        refine ⟨_, rfl, _, rfl, _, _, rfl, rfl, _, rfl, iteFr (decide_eq_false (by omega)) ?_⟩
        refine ⟨_, rfl, rfl, _, rfl, iteFr (decide_eq_false fun e => by have := V.int.inj e; omega) ?_⟩
        refine ⟨_, rfl, z0, fun q8 hq8 => ?_⟩
        have s8 := (Same.new (o := .lst []) hq8)
        refine ⟨.list ((IL (ms.take i)).map PyData.int), .list (([] : List Int).map PyData.int), .lst (SqL.of (s8 _ _ hF7)) (dpVI _), .lst (SqL.of upd_same) .nil, PySem.W.ke_shaped_ints _, by decide +kernel, _, rfl, ?_⟩
        rw [lints_eqv]
        cases i with
        | zero =>
          refine iteFr (by rw [decide_eq_true (show IL (ms.take 0) = [] from rfl)]; rfl) (iteF ?_)
          exact ⟨_, rfl, app _ s8⟩
        | succ j =>
          have hj : j < ms.length := by omega
          have qj : ms[j]? = some ms[j] := by simp [hj]
          have ne : IL (ms.take (j + 1)) ≠ [] := fun e => by
            have h2 : (IL (ms.take (j + 1))).length = 0 := by rw [e]; rfl
            rw [List.length_map, List.length_take] at h2
            omega
          refine iteTr (by rw [decide_eq_false ne]; rfl) ⟨_, rfl, _, rfl, _, rfl, F, _, -1, .int (ms[j] : Nat), rfl, rfl, SqL.of (s8 _ _ hF7), ?_, _, _, rfl, rfl, _, rfl, iteFr (decide_eq_false ?_) ?_⟩
          · rw [List.take_succ, qj]
            show atI (VI (ms.take j ++ [ms[j]])) (-1) = _
            rw [VI, List.map_append]
            exact atlast
          · have h1 : ms[j] < m := S.up j _ m qj hm
            exact fun z => absurd (Int.ofNat_le.mp z) (Nat.not_le_of_lt h1)
          · exact ⟨_, rfl, app _ s8⟩
      · obtain ⟨b1, hF1, y1, y2, y3, rfl⟩ := pv
        rw [List.length_map, List.take_length] at hF1
        refine ⟨_, rfl, z0, fun q8 hq8 => ?_⟩
        have s8 := (Same.new (o := .lst []) hq8)
        refine ⟨.list ((IL ms).map PyData.int), .list (([] : List Int).map PyData.int), .lst (SqL.of (s8 _ _ hF1)) (dpVI _), .lst (SqL.of upd_same) .nil, PySem.W.ke_shaped_ints _, by decide +kernel, _, rfl, ?_⟩
        have ne : IL ms ≠ [] := fun e => by
          have h2 : (IL ms).length = 0 := by rw [e]; rfl
          rw [List.length_map] at h2
          have := S.l1
          omega
        rw [lints_eqv, decide_eq_false ne]
        refine iteF ?_
        generalize hH8 : upd H' q8 (.lst []) = H8 at s8
        have e8 : Same H H8 := fun b o h => by
          have nF : b ≠ F := fun e => by rw [e, hFn] at h; cases h
          exact s8 _ _ (b1 _ _ nF (s5 _ _ (e4 _ _ h)))
        refine ⟨_, rfl, _, rfl, fun x dx hx hdx ne => ?_⟩
        have m1 : Same H8 (upd (upd H8 dx (.own x)) x (.ins (aCell K) dx [])) := fun b o h => by rw [upd_ne (ne_of_none h hx), upd_ne (ne_of_none h hdx)]; exact h
        refine ⟨x, dx, F, N, ms, rfl, upd_same, .inl (m1 _ _ (s8 _ _ hF1)), S, fun fr => ⟨(kg fr).1, fun H9 b9 c9 => ⟨rfl, (kg fr).2 H9 x (fun b o h => ?_) c9⟩⟩, fun nf d H9 s9 => ⟨true, Er.three, fun _ e he => ?_, fun z => nomatch z⟩⟩
        · have h8 := e8 _ _ h
          exact b9 _ _ (ne_of_none h8 hx) (m1 _ _ h8)
        · refine ⟨z0, fun q9 hq9 => ?_⟩
          refine ⟨_, rfl, _, rfl, _, _, rfl, rfl, mk_IT ⟨_, _, rfl, fun d' H10 s10 _ hd => kb nf d' H10 (((e8.trans m1).trans s9).trans ((Same.new hq9).trans s10)) hd⟩⟩
end
end TF
end
section
set_option maxHeartbeats 4000000
set_option pp.maxSteps 3000

namespace TF
open PySem PySem.Spec PyProof.Rows L2 TL
section
variable {P : Program} {w : World} {K : PySem.W.Frag} {mg : Str → Option Value} {base : Heap}
/-! ### texts of catalogues -/
/-- a name and a cell -/
abbrev Row := Str × Nat × List Nat
def rowWords (r : Row) : List Str := r.1 :: cWords r.2.1 r.2.2
def lineOf (r : Row) : Str := Txt.join " " (rowWords r)
def catText (cs : List Row) : Str := if cs = [] then "-" else Txt.join "\n" (cs.map lineOf)
theorem letters {c : Nat} (h : c ∈ Array.toList (Str.cps "abcdefghijklmnopqrstuvwxyz")) : 97 ≤ c ∧ c ≤ 122 := by
  have : ∀ c ∈ Array.toList (Str.cps "abcdefghijklmnopqrstuvwxyz"), 97 ≤ c ∧ c ≤ 122 := by decide
  exact this c h
theorem name_free {z : Str} (h : nameOk z = true) {s : Nat} (hs : s < 97) : s ∉ tl z := fun m => by
  obtain ⟨_, h2⟩ := Bool.and_eq_true_iff.mp h
  have := letters (of_decide_eq_true (List.all_eq_true.mp h2 s m))
  omega
theorem name_len {z : Str} (h : nameOk z = true) : 1 ≤ z.length ∧ z.length ≤ 8 := by
  obtain ⟨h1, _⟩ := Bool.and_eq_true_iff.mp h
  obtain ⟨a, b⟩ := Bool.and_eq_true_iff.mp h1
  have := of_decide_eq_true a
  have := of_decide_eq_true b
  omega
theorem row_free {r : Row} (h : nameOk r.1 = true) {s : Nat} (hs : s < 48) : ∀ p ∈ rowWords r, s ∉ tl p := by
  intro p hp
  rcases List.mem_cons.mp hp with rfl | hp
  · exact name_free h (by omega)
  · exact cWords_free (by omega) p hp
theorem joinL_mem {S : List Nat} {c : Nat} : ∀ {parts : List (List Nat)}, c ∈ joinL S parts → c ∈ S ∨ ∃ p ∈ parts, c ∈ p
  | [], h => by cases h
  | [p], h => .inr ⟨p, List.mem_singleton.mpr rfl, h⟩
  | p :: q :: r, h => by
    rcases List.mem_append.mp (show c ∈ p ++ (S ++ joinL S (q :: r)) from h) with h | h
    · exact .inr ⟨p, List.mem_cons_self .., h⟩
    · rcases List.mem_append.mp h with h | h
      · exact .inl h
      · rcases joinL_mem h with h | ⟨x, hx, hc⟩
        · exact .inl h
        · exact .inr ⟨x, List.mem_cons_of_mem _ hx, hc⟩
theorem join_free {y : Str} {parts : List Str} {s : Nat} (h1 : s ∉ tl y) (h2 : ∀ p ∈ parts, s ∉ tl p) : s ∉ tl (Txt.join y parts) := fun m => by
  rw [join_eq, tl_join] at m
  rcases joinL_mem m with h | ⟨p, hp, hc⟩
  · exact h1 h
  · obtain ⟨x, hx, rfl⟩ := List.mem_map.mp hp
    exact h2 x hx hc
theorem split_sp {ws : List Str} (h0 : ws ≠ []) (h : ∀ p ∈ ws, 32 ∉ tl p) : Txt.split (Txt.join " " ws) " " = ws := split_join (y := " ") (s := 32) (S := []) rfl (by decide +kernel) h0 h
theorem split_nl {ls : List Str} (h0 : ls ≠ []) (h : ∀ p ∈ ls, 10 ∉ tl p) : Txt.split (Txt.join "\n" ls) "\n" = ls := split_join (y := "\n") (s := 10) (S := []) rfl (by decide +kernel) h0 h
theorem join_one (y z : Str) : Txt.join y [z] = z := by rw [join_eq]; rfl
theorem lineWords_cell (N : Nat) (ms : List Nat) : lineWords (cellText N ms) = [cWords N ms] := by
  have f : 10 ∉ tl (cellText N ms) := join_free (by decide) (cWords_free (by omega))
  have := split_nl (ls := [cellText N ms]) (by simp) (fun p hp => by rw [List.mem_singleton.mp hp]; exact f)
  rw [join_one] at this
  rw [lineWords, this]
  show [Txt.split (cellText N ms) " "] = _
  rw [cellText, split_sp (by simp [cWords]) (cWords_free (by omega))]
theorem lineWords_cat {cs : List Row} (h0 : cs ≠ []) (h : ∀ r ∈ cs, nameOk r.1 = true) : lineWords (catText cs) = cs.map rowWords := by
  have f : ∀ p ∈ cs.map lineOf, 10 ∉ tl p := fun p hp => by
    obtain ⟨r, hr, rfl⟩ := List.mem_map.mp hp
    exact join_free (by decide) (row_free (h r hr) (by omega))
  rw [catText, if_neg h0, lineWords, split_nl (by simp [h0]) f, List.map_map]
  refine List.map_congr_left fun r hr => ?_
  show Txt.split (lineOf r) " " = rowWords r
  rw [lineOf, split_sp (by simp [rowWords]) (row_free (h r hr) (by omega))]
/-! ### parse_cell -/
theorem cell_short {N : Nat} {ms : List Nat} (S : Shape N ms) : (cellText N ms).length ≤ 10000 := by
  have n2 := S.n2
  have l2 := S.l2
  have h := sum_le (cWords_len (N := N) (ms := ms) (by omega) (fun m hm => by have := S.lt m hm; omega))
  have h2 : (cWords N ms).length = ms.length + 2 := by show (ms.map num).length + 1 + 1 = _; rw [List.length_map]
  have h3 := StrLaws.join_length_le " " (cWords N ms)
  have h4 : Str.length " " = 1 := by decide
  rw [cellText, join_eq]
  rw [h2] at h h3
  rw [h4] at h3
  omega
def spPce (K : PySem.W.Frag) : Sp := fun vs H Q _ => ∃ (N : Nat) (ms : List Nat), vs = [.str (cellText N ms)] ∧ Good N ms ∧ ∀ H' c, Same H H' → CellAt K H' c N ms → Q (.ref c) H'
theorem scPce : FnScope ["text", "lines"] ["text"] (defScope (tops 53)) := ⟨rfl, rfl, rfl, by decide +kernel, rfl, by decide +kernel, by decide +kernel⟩
theorem ok_pce (G : GDef K mg "parse_cell" (tops 53)) (T : TxtA K mg) (Fsl : GOk P w K mg base (L2.CX P w) 3 "split_lines" (spSpl K)) (Frc : GOk P w K mg base (L2.CX P w) 5 "read_cell" (spRc K)) : GOk P w K mg base (L2.CX P w) 6 "parse_cell" (spPce K) := by
  refine G.okX scPce (fun vs H Q E h => ?_) (fun _ _ _ _ _ _ us hl => match us, hl with | [_], _ => rfl) (fun f cdv A outer s H vs Q E hr h => ?_)
  · obtain ⟨N, ms, rfl, _⟩ := h
    rfl
  · obtain ⟨N, ms, rfl, g, k⟩ := h
    refine ⟨_, (pss_cons (ps_set (i := 1) scPce.nd rfl (Or.inl rfl) (pe_cg Fsl (hr.mono (by decide)) (passes_call (takes_of rfl rfl rfl rfl) fun _ _ _ _ h => h) rfl (pa_cons (pv 0) pa_nil)))
      (pss_cons (ps_if (pt_cmpR op_gt (pe_callB call_len_seq (by rfl) T.z_len (by decide +kernel) (pa_cons (pv 1) pa_nil)) pe_int (nomark _)) pss_never pss_nil)
      (pss_one (ps_ret (pe_cg Frc (hr.mono (by decide)) (passes_call (takes_of rfl rfl rfl rfl) fun _ _ _ _ h => h) rfl (pa_cons (pe_ix ix_list (pv 1) pe_int (fun _ _ => rfl)) (pa_cons pe_int (pa_cons pe_int pa_nil)))))))), ?_⟩
    refine ⟨_, rfl, _, rfl, .inl ⟨_, rfl, Nat.le_trans (cell_short g.sh) (by decide), fun H1 p s1 rw1 => ?_⟩⟩
    rw [lineWords_cell] at rw1
    obtain ⟨as, hp, pr⟩ := rw1
    cases pr with
    | @cons a _ as' _ ha pr' =>
      cases pr'
      refine ⟨_, rfl, p, _, rfl, .inl (SqL.of hp), _, _, rfl, rfl, _, rfl, iteFr (show decide ((1 : Int) < 1) = false by decide) ?_⟩
      refine ⟨_, rfl, p, _, 0, .ref a, rfl, rfl, SqL.of hp, at0, a, _, 1, 0, rfl, ha, .inr ⟨N, ms, rfl, g.sh, fun fr => ⟨g.sv, fun H2 c s2 hc => k H2 c (s1.trans s2) hc⟩, fun nf => absurd g.fr nf⟩⟩
/-! ### parse_catalogue -/
theorem pget {α β : Type} {F : α → β → Prop} : ∀ {l : List α} {m : List β} {i : Nat} {a : α} {b : β}, Paired F l m → l[i]? = some a → m[i]? = some b → F a b
  | _, _, _, _, _, .nil, h, _ => by simp at h
  | _, _, 0, _, _, .cons x _, h1, h2 => by
    simp at h1 h2
    subst h1 h2
    exact x
  | _, _, i + 1, _, _, .cons _ t, h1, h2 => pget (i := i) t (by simpa using h1) (by simpa using h2)
/-- an entry of a catalogue in the heap -/
structure Ent where
  nm : Str
  c : Addr
  N : Nat
  ms : List Nat
def Ent.row (e : Ent) : Row := (e.nm, e.N, e.ms)
def Ent.kv (e : Ent) : Key × V := (.inr e.nm, .ref e.c)
/-- the dict at d holds the entries es -/
def EntsAt (K : PySem.W.Frag) (H : Hp) (d : Addr) (es : List Ent) : Prop := H d = some (.dK (es.map Ent.kv)) ∧ ∀ e ∈ es, CellAt K H e.c e.N e.ms
/-- the rows of a catalogue: rising names, good cells -/
structure OkRows (cs : List Row) : Prop where
  nm : ∀ r ∈ cs, nameOk r.1 = true
  gd : ∀ r ∈ cs, Good r.2.1 r.2.2
  up : cs.Pairwise fun a b => a.1.cps.toList < b.1.cps.toList
  ln : cs.length ≤ 26
/-- the name ahead of row i -/
def before (cs : List Row) (i : Nat) : Str := match i with
  | 0 => ""
  | j + 1 => (cs.getD j ("", 0, [])).1
theorem nil_lt {z : Str} (h : 1 ≤ z.length) : Array.toList (Str.cps "") < z.cps.toList := by
  have e : Array.toList (Str.cps "") = [] := by decide +kernel
  rw [e]
  cases q : z.cps.toList with
  | nil =>
    have := len_tl z
    rw [show tl z = [] from q] at this
    simp at this
    omega
  | cons x r => exact List.nil_lt_cons x r
theorem OkRows.bf {cs : List Row} (ok : OkRows cs) {i : Nat} {r : Row} (h : cs[i]? = some r) : (before cs i).cps.toList < r.1.cps.toList := by
  cases i with
  | zero => exact nil_lt (name_len (ok.nm r (List.mem_of_getElem? h))).1
  | succ j =>
    obtain ⟨h1, h2⟩ := List.getElem?_eq_some_iff.mp h
    have hj : j < cs.length := by omega
    show (cs.getD j ("", 0, [])).1.cps.toList < _
    rw [List.getD_eq_getElem?_getD, List.getElem?_eq_getElem hj, Option.getD_some, ← h2]
    exact List.pairwise_iff_getElem.mp ok.up j (j + 1) hj h1 (by omega)
theorem lt_irr (l : List Nat) : ¬ l < l := List.lt_irrefl l
theorem OkRows.before_ne {cs : List Row} (ok : OkRows cs) {i : Nat} {r x : Row} (h : cs[i]? = some r) (hx : x ∈ cs.take i) : x.1 ≠ r.1 := fun e => by
  obtain ⟨h1, h2⟩ := List.getElem?_eq_some_iff.mp h
  obtain ⟨j, hj, e2⟩ := List.mem_iff_getElem.mp hx
  rw [List.length_take] at hj
  rw [List.getElem_take] at e2
  have := List.pairwise_iff_getElem.mp ok.up j i (by omega) h1 (by omega)
  rw [e2, h2, e] at this
  exact lt_irr _ this
theorem ents_new {es : List Ent} {nm : Str} (h : ∀ e ∈ es, e.nm ≠ nm) : valV (es.map Ent.kv) (.inr nm) = none := by
  induction es with
  | nil => rfl
  | cons e r ih =>
    rw [List.map_cons, valV_neg (p := e.kv) (fun z => h e (List.mem_cons_self ..) (Sum.inr.inj z))]
    exact ih fun x hx => h x (List.mem_cons_of_mem _ hx)
theorem CellAt.same {K : PySem.W.Frag} {H H' : Hp} {c : Addr} {N : Nat} {ms : List Nat} (h : CellAt K H c N ms) (e : Same H H') : CellAt K H' c N ms := by
  obtain ⟨dx, tb, tp, kd, h1, h2⟩ := h
  exact ⟨dx, tb, tp, kd, e _ _ h1, e _ _ h2⟩
theorem CellAt.upd_dict {K : PySem.W.Frag} {H : Hp} {c D : Addr} {N : Nat} {ms : List Nat} {kvs : List (Key × V)} {o : HO} (h : CellAt K H c N ms) (hD : H D = some (.dK kvs)) : CellAt K (upd H D o) c N ms := by
  obtain ⟨dx, tb, tp, kd, h1, h2⟩ := h
  exact ⟨dx, tb, tp, kd, by rw [upd_ne (fun e => by rw [e, hD] at h1; cases h1)]; exact h1, by rw [upd_ne (fun e => by rw [e, hD] at h2; cases h2)]; exact h2⟩
/-- a row that is refused, at word c -/
inductive BadRow (bf : Str) : List Str → Int → Prop
  | name {nm : Str} {ws : List Str} (h : nameOk nm = false) (l : nm.length ≤ 100000) (n : nm ≠ "-") : BadRow bf (nm :: ws) 1
  | order {nm : Str} {ws : List Str} (h : nameOk nm = true) (o : ¬ bf.cps.toList < nm.cps.toList) : BadRow bf (nm :: ws) 1
  | empty {nm : Str} (h : nameOk nm = true) (o : bf.cps.toList < nm.cps.toList) : BadRow bf [nm] 2
  | cell {nm : Str} {N : Nat} {ms : List Nat} (h : nameOk nm = true) (o : bf.cps.toList < nm.cps.toList) (s : Shape N ms) (f : ¬ Free N ms) : BadRow bf (nm :: cWords N ms) 2
theorem BadRow.hd {bf : Str} {ws : List Str} {c : Int} (h : BadRow bf ws c) : ∃ nm r, ws = nm :: r ∧ nm ≠ "-" ∧ nm.length ≤ 100000 := by
  cases h with
  | name h l n => exact ⟨_, _, rfl, n, l⟩
  | order h o => exact ⟨_, _, rfl, fun e => by rw [e] at h; exact absurd h (by decide), by have := name_len h; omega⟩
  | empty h o => exact ⟨_, _, rfl, fun e => by rw [e] at h; exact absurd h (by decide), by have := name_len h; omega⟩
  | cell h o s f => exact ⟨_, _, rfl, fun e => by rw [e] at h; exact absurd h (by decide), by have := name_len h; omega⟩
/-- how the rows of a text are read -/
inductive Reads3 (K : PySem.W.Frag) (H : Hp) (Q : VK) (E : XK) (wss : List (List Str)) : Prop
  | none (h : wss = [[("-" : Str)]]) (k : ∀ H' d, Same H H' → H d = none → EntsAt K H' d [] → Q (.ref d) H')
  | dash (x : Str) (ws : List Str) (r : List (List Str)) (h : wss = (("-" : Str) :: x :: ws) :: r) (k : RaisesIT K H E 1 2)
  | good (cs : List Row) (h0 : cs ≠ []) (ok : OkRows cs) (h : wss = cs.map rowWords) (k : ∀ H' d es, Same H H' → H d = none → EntsAt K H' d es → es.map Ent.row = cs → Q (.ref d) H')
  | bad (cs : List Row) (ok : OkRows cs) (b : List Str) (r : List (List Str)) (c : Int) (h : wss = cs.map rowWords ++ b :: r) (l : cs.length < 26) (hb : BadRow (before cs cs.length) b c) (k : RaisesIT K H E (cs.length + 1) c)
def spPca (K : PySem.W.Frag) : Sp := fun vs H Q E => ∃ v : V, vs = [v] ∧ ((NoText H v ∧ RaisesIT K H E 0 0) ∨ ∃ z : Str, v = .str z ∧ z.length ≤ 1000000 ∧ Reads3 K H Q E (lineWords z))
theorem scPca : FnScope ["text", "lines", "found", "before", "index", "words"] ["text"] (defScope (tops 54)) := ⟨rfl, rfl, rfl, by decide +kernel, rfl, by decide +kernel, by decide +kernel⟩
theorem ok_pca (G : GDef K mg "parse_catalogue" (tops 54)) (T : TxtA K mg) (Fsl : GOk P w K mg base (L2.CX P w) 3 "split_lines" (spSpl K)) (Frc : GOk P w K mg base (L2.CX P w) 5 "read_cell" (spRc K)) (Fie : GOk P w K mg base (L2.CX P w) 3 "is_empty_text" (spIet K))
    (Fcn : GOk P w K mg base CX0 1 "is_catalogue_name" spIcn) (Fit : XOk P w K mg base 1 "InvalidText" (aIT K) (spIT (K := K))) : GOk P w K mg base (L2.CX P w) 6 "parse_catalogue" (spPca K) := by
  refine G.okX scPca (fun vs H Q E h => ?_) (fun _ _ _ _ _ _ us hl => match us, hl with | [_], _ => rfl) (fun f cdv A outer s H vs Q E hr h => ?_)
  · obtain ⟨N, rfl, _⟩ := h
    rfl
  · obtain ⟨v, rfl, k⟩ := h
    refine ⟨_, (pss_cons (ps_par3 (i := 1) (j := 2) (l := 3) (by rfl) scPca.nd rfl rfl rfl (by decide) (by decide) (by decide) rfl rfl rfl (pa_cons (pe_cg Fsl (hr.mono (by decide)) (passes_call (takes_of rfl rfl rfl rfl) fun _ _ _ _ h => h) rfl (pa_cons (pv 0) pa_nil)) (pa_cons pe_dnewK (pa_cons pe_str pa_nil))) (by rfl))
      (pss_cons (ps_if (pt_val (pe_cg Fie (hr.mono (by decide)) (passes_call (takes_of rfl rfl rfl rfl) fun _ _ _ _ h => h) rfl (pa_cons (pv 1) pa_nil))) (pss_cons (ps_if (pt_cmpR op_gt (pe_callB call_len_seq (by rfl) T.z_len (by decide +kernel) (pa_cons (pv 1) pa_nil)) pe_int (nomark _)) (pss_one (ps_raise rfl (takes_of rfl rfl rfl rfl) (pmk_cx Fit (hr.mono (by decide)) rfl (pa_cons pe_int (pa_cons pe_int pa_nil))))) pss_nil)
      (pss_one (ps_ret (pv 2)))) pss_nil)
      (pss_cons (ps_for (passes_of rfl) rfl (pi_enum (by rfl) T.z_enumerate (pa_cons (pv 1) pa_nil)) (pg_tup rfl (pgs_cons (pg_name (i := 4) scPca.nd rfl (Or.inl rfl)) (pgs_cons (pg_name (i := 5) scPca.nd rfl (Or.inl rfl)) pgs_nil))) (pss_cons (ps_if (PW.pt (pw_or (pt_cmpR op_eq (pv 4) (pe_gc rfl T.c_MAX_NAMES) (nomark _)) (pw_or (pt_not (pt_val (pe_cg Fcn (hr.mono (by decide)) pass0 rfl (pa_cons (pe_ix ix_list (pv 5) pe_int (fun _ _ => rfl)) pa_nil)))) (pw_or1 (pt_cmpR op_le_str (pe_ix ix_list (pv 5) pe_int (fun _ _ => rfl)) (pv 3) (nomark _)))))) (pss_one (ps_raise rfl (takes_of rfl rfl rfl rfl) (pmk_cx Fit (hr.mono (by decide)) rfl (pa_cons (pe_op op_add (pv 4) pe_int) (pa_cons pe_int pa_nil))))) pss_nil)
      (pss_cons (ps_set (i := 3) scPca.nd rfl (Or.inl rfl) (pe_ix ix_list (pv 5) pe_int (fun _ _ => rfl)))
      (pss_one (ps_dput (hu_of hr) (pv 2) (pv 3) (pe_cg Frc (hr.mono (by decide)) (passes_call (takes_of rfl rfl rfl rfl) fun _ _ _ _ h => h) rfl (pa_cons (pe_slice sl_list (pv 5) (po_some pe_int) po_none) (pa_cons (pe_op op_add (pv 4) pe_int) (pa_cons pe_int pa_nil)))) rfl)))))
      (pss_one (ps_ret (pv 2)))))), ?_⟩
    refine ⟨_, rfl, v, rfl, ?_⟩
    rcases k with ⟨nt, kr⟩ | ⟨z, rfl, hz, rd⟩
    · exact .inr ⟨nt, fun d H' s1 hd => kr d H' s1 hd⟩
    refine .inl ⟨z, rfl, hz, fun H1 p s1 rw1 => ?_⟩
    refine fun D hD => ?_
    have s2 := Same.new (o := .dK []) hD
    refine ⟨_, _, _, rfl, ?_⟩
    have hD2 : (upd H1 D (.dK [])) D = some (.dK []) := upd_same
    generalize hH2 : upd H1 D (.dK []) = H2 at s2 hD2
    have e2 := s1.trans s2
    have nD : ∀ {b : Addr} {o : HO}, H1 b = some o → b ≠ D := fun h => ne_of_none h hD
    obtain ⟨as, hp, pr⟩ := rw1
    -- the first word
    have first : ∀ x ws r, lineWords z = (x :: ws) :: r → RowsAt H2 p ((x :: ws) :: r) := fun x ws r e => ⟨as, s2 _ _ hp, by rw [← e]; exact pimp (fun a _ b h => s2 _ _ h) pr⟩
    have two : (lineWords z = [[("-" : Str)]] ∧ ∀ H' d, Same H H' → H d = none → EntsAt K H' d [] → Q (.ref d) H') ∨ (∃ (x : Str) (ws : List Str) (r : List (List Str)), lineWords z = (("-" : Str) :: x :: ws) :: r ∧ RaisesIT K H E 1 2) ∨
        ∃ cs, OkRows cs ∧ ((lineWords z = cs.map rowWords ∧ cs ≠ [] ∧ ∀ H' d es, Same H H' → H d = none → EntsAt K H' d es → es.map Ent.row = cs → Q (.ref d) H') ∨ ∃ b r c, lineWords z = cs.map rowWords ++ b :: r ∧ cs.length < 26 ∧ BadRow (before cs cs.length) b c ∧ RaisesIT K H E (cs.length + 1) c) := by
      cases rd with
      | none h k => exact .inl ⟨h, k⟩
      | dash x ws r h k => exact .inr (.inl ⟨x, ws, r, h, k⟩)
      | good cs h0 ok h k => exact .inr (.inr ⟨cs, ok, .inl ⟨h, h0, k⟩⟩)
      | bad cs ok b r c h l hb k => exact .inr (.inr ⟨cs, ok, .inr ⟨b, r, c, h, l, hb, k⟩⟩)
    rcases two with ⟨h, k⟩ | ⟨x, ws, r, h, k⟩ | ⟨cs, ok, q⟩
    · have f := first _ _ _ h
      refine ⟨_, rfl, p, "-", [], [], rfl, f, fun _ n => absurd rfl n, fun _ => ⟨_, rfl, iteTr (decide_eq_true rfl) ?_⟩⟩
      obtain ⟨as2, hp2, pr2⟩ := f
      cases pr2 with
      | @cons a _ as' _ ha pr' =>
        cases pr'
        refine ⟨_, rfl, p, _, rfl, .inl (SqL.of hp2), _, _, rfl, rfl, _, rfl, iteFr (show decide ((1 : Int) < 1) = false by decide) ?_⟩
        exact ⟨_, rfl, k _ D e2 (s1.free hD) ⟨hD2, fun e he => by cases he⟩⟩
    · refine ⟨_, rfl, p, "-", x :: ws, r, rfl, first _ _ _ h, fun _ _ d H' s3 hd => k d H' (e2.trans s3) hd, fun z => z.elim (fun n => absurd rfl n) (fun n => nomatch n)⟩
    have fw : ∃ x ws r, lineWords z = (x :: ws) :: r ∧ x ≠ "-" := by
      rcases q with ⟨e, n, _⟩ | ⟨b, r, c, e, _, hb, _⟩
      · cases cs with
        | nil => exact absurd rfl n
        | cons r0 cs' => exact ⟨r0.1, _, _, e, fun z => by have := ok.nm r0 (List.mem_cons_self ..); rw [z] at this; exact absurd this (by decide)⟩
      · cases cs with
        | nil =>
          obtain ⟨nm, r1, rfl, n, _⟩ := hb.hd
          exact ⟨nm, r1, r, e, n⟩
        | cons r0 cs' => exact ⟨r0.1, _, _, e, fun z => by have := ok.nm r0 (List.mem_cons_self ..); rw [z] at this; exact absurd this (by decide)⟩
    obtain ⟨x, ws, r, e, n⟩ := fw
    refine ⟨_, rfl, p, x, ws, r, rfl, first x ws r e, fun z => absurd z n, fun _ => ⟨_, rfl, iteFr (decide_eq_false n) ?_⟩⟩
    have hpl := pr.length
    -- the rows
    have rowAt : ∀ (i : Nat) (a : Addr) (ws : List Str), as[i]? = some a → (lineWords z)[i]? = some ws → H1 a = some (.lst (ws.map V.str)) := fun i a ws h1 h2 => pget (F := fun a ws => H1 a = some (.lst (ws.map V.str))) pr h1 h2
    let Pv : Nat → L2.St → Hp → Prop := fun i σ' H' => i ≤ cs.length ∧ But D H2 H' ∧ (∃ es, EntsAt K H' D es ∧ es.map Ent.row = cs.take i) ∧ ∃ x y, σ' = [some (.str z), some (.ref p), some (.ref D), some (.str (before cs i)), x, y]
    refine seqI ?_
    refine ⟨_, rfl, p, _, rfl, SqL.of (s2 _ _ hp), for_it walk_enum Pv ⟨Nat.zero_le _, But.of (Same.refl _), ⟨[], ⟨hD2, fun e he => by cases he⟩, rfl⟩, _, _, rfl⟩ (fun i σ' H' _ pv => SqL.of (pv.2.1 _ _ (nD hp) (s2 _ _ hp))) (fun i x σ' H' H'' hi pv y => ?_) (fun σ' H' pv => ?_)⟩
    · obtain ⟨hic, b1, ⟨es, hes, erow⟩, y1, y2, rfl⟩ := pv
      obtain ⟨T1, x1, x2, rfl, hT1, rfl, e1, e3⟩ := y
      cases e1
      dsimp only at e3
      rw [List.getElem?_map, Option.map_eq_some_iff] at e3
      obtain ⟨a, ha, rfl⟩ := e3
      refine g_pair upd_same ?_
      have s4 := Same.new (o := .tup [.int (i : Nat), .ref a]) hT1
      have hzi : i < (lineWords z).length := by rw [← hpl]; exact (List.getElem?_eq_some_iff.mp ha).1
      -- what stands in this row
      have row : ∃ (nm : Str) (wr : List Str), (lineWords z)[i]? = some (nm :: wr) ∧ nm.length ≤ 100000 ∧ i < 26 ∧
          ((∃ r, cs[i]? = some r ∧ nm = r.1 ∧ wr = cWords r.2.1 r.2.2) ∨ (i = cs.length ∧ ∃ c, BadRow (before cs i) (nm :: wr) c ∧ RaisesIT K H E (i + 1) c)) := by
        rcases Nat.lt_or_ge i cs.length with hlt | hge
        · have hr : cs[i]? = some cs[i] := by simp [hlt]
          have hw : (lineWords z)[i]? = some (rowWords cs[i]) := by
            rcases q with ⟨e', _, _⟩ | ⟨b, r', c, e', _, _, _⟩
            · rw [e', List.getElem?_map, hr]; rfl
            · rw [e', List.getElem?_append_left (by rw [List.length_map]; exact hlt), List.getElem?_map, hr]; rfl
          have l8 := name_len (ok.nm cs[i] (List.getElem_mem hlt))
          exact ⟨_, _, hw, by omega, by have := ok.ln; omega, .inl ⟨cs[i], hr, rfl, rfl⟩⟩
        · have hi' : i = cs.length := by omega
          rcases q with ⟨e', _, _⟩ | ⟨b, r', c, e', l, hb, k⟩
          · rw [e', List.length_map] at hzi
            omega
          · obtain ⟨nm, wr, rfl, _, l2⟩ := hb.hd
            refine ⟨nm, wr, ?_, l2, by omega, .inr ⟨hi', c, ?_, ?_⟩⟩
            · rw [e', List.getElem?_append_right (by rw [List.length_map]; omega), List.length_map, hi', Nat.sub_self]; rfl
            · rw [hi']; exact hb
            · rw [hi']; exact k
      obtain ⟨nm, wr, hw, l1, i26, what⟩ := row
      have ha1 := rowAt i a _ ha hw
      have keep : ∀ {H5 : Hp}, Same H' H5 → Same H H5 := fun {H5} s5 b o h => by
        have h1 := s1 _ _ h
        exact s5 _ _ (b1 _ _ (nD h1) (s2 _ _ h1))
      have ha4 : ∀ {H5 : Hp}, Same H' H5 → H5 a = some (.lst (V.str nm :: wr.map V.str)) := fun {H5} s5 => s5 _ _ (b1 _ _ (nD ha1) (s2 _ _ ha1))
      refine ⟨_, rfl, rfl, _, rfl, iteFr (decide_eq_false fun e => by have := V.int.inj e; omega) ?_⟩
      refine ⟨_, rfl, a, _, 0, .str nm, rfl, rfl, SqL.of (ha4 s4), at0, nm, rfl, l1, fun H5 s5 => ⟨_, rfl, ?_⟩⟩
      have e5 := s4.trans s5
      have ht : ∀ (R : Bool → Hp → Prop), R (!decide ((before cs i).cps.toList < nm.cps.toList)) H5 → tTest (tOp (fun x y H Q => ∃ i j, x = V.str i ∧ y = V.str j ∧ Q (.bl (!decide (j.cps.toList < i.cps.toList))) H) (tOp (rIxL K) (tVar 5) (tC (.int 0))) (tVar 3))
          [some (.str z), some (.ref p), some (.ref D), some (.str (before cs i)), some (.int (i : Nat)), some (.ref a)] H5 R := fun R h => ⟨_, rfl, a, _, 0, .str nm, rfl, rfl, SqL.of (ha4 e5), at0, _, rfl, _, _, rfl, rfl, _, rfl, h⟩
      have raise1 : ∀ (Z : XK), (∀ d H'', Same H5 H'' → H'' d = some (.xd [("word", .int 1), ("row", .int ((i : Nat) + 1))]) → Z (.ref (aIT K)) (some d) H'') → tMkO (aIT K) (spIT (K := K)) [] (tCons (tOp (rI0 fun i j => V.int (i + j)) (tVar 4) (tC (.int 1))) (tCons (tC (.int 1)) tNil))
          [some (.str z), some (.ref p), some (.ref D), some (.str (before cs i)), some (.int (i : Nat)), some (.ref a)] H5 Z := fun Z h => ⟨_, rfl, _, _, rfl, rfl, mk_IT ⟨_, _, rfl, fun d H'' s _ hd => h d H'' s hd⟩⟩
      -- the row's name is good: it is read on
      have what2 : (nameOk nm = false ∧ RaisesIT K H E (i + 1) 1) ∨ (nameOk nm = true ∧ ¬ (before cs i).cps.toList < nm.cps.toList ∧ RaisesIT K H E (i + 1) 1) ∨ (nameOk nm = true ∧ (before cs i).cps.toList < nm.cps.toList ∧
          ((wr = [] ∧ RaisesIT K H E (i + 1) 2) ∨ ∃ N ms, wr = cWords N ms ∧ Shape N ms ∧ (Free N ms → Served N ms ∧ cs[i]? = some (nm, N, ms)) ∧ (¬ Free N ms → RaisesIT K H E (i + 1) 2))) := by
        rcases what with ⟨r, hr, rfl, rfl⟩ | ⟨hi', c, hb, k⟩
        · have g := ok.gd r (List.mem_of_getElem? hr)
          exact .inr (.inr ⟨ok.nm r (List.mem_of_getElem? hr), ok.bf hr, .inr ⟨_, _, rfl, g.sh, fun _ => ⟨g.sv, hr⟩, fun nf => absurd g.fr nf⟩⟩)
        · cases hb with
          | name h l n => exact .inl ⟨h, k⟩
          | order h o => exact .inr (.inl ⟨h, o, k⟩)
          | empty h o => exact .inr (.inr ⟨h, o, .inl ⟨rfl, k⟩⟩)
          | cell h o s f => exact .inr (.inr ⟨h, o, .inr ⟨_, _, rfl, s, fun fr => absurd fr f, fun _ => k⟩⟩)
      rcases what2 with ⟨hn, k⟩ | ⟨hn, ho, k⟩ | ⟨hn, ho, sub⟩
      · rw [hn]
        exact iteT (iteT (raise1 _ fun d H'' s hd => k d H'' ((keep e5).trans s) hd))
      · rw [hn]
        exact iteF (ht _ (by rw [decide_eq_false ho]; exact iteT (raise1 _ fun d H'' s hd => k d H'' ((keep e5).trans s) hd)))
      rw [hn]
      refine iteF (ht _ ?_)
      rw [decide_eq_true ho]
      refine iteF ?_
      refine ⟨_, rfl, a, _, 0, .str nm, rfl, rfl, SqL.of (ha4 e5), at0, ?_⟩
      refine ⟨_, rfl, _, rfl, a, _, rfl, SqL.of (ha4 e5), fun a6 ha6 => ?_⟩
      rw [show cutV (V.str nm :: wr.map V.str) (some 1) none = wr.map V.str from cut_1n _ _]
      have s6 := Same.new (o := .lst (wr.map V.str)) ha6
      refine ⟨_, rfl, _, _, rfl, rfl, a6, wr, _, _, rfl, upd_same, ?_⟩
      rcases sub with ⟨rfl, k⟩ | ⟨N, ms, rfl, S, kg, kb⟩
      · exact .inl ⟨rfl, fun d H'' s hd => k d H'' ((keep (e5.trans s6)).trans s) hd⟩
      refine .inr ⟨N, ms, rfl, S, fun fr => ⟨(kg fr).1, fun H7 c s7 hc => ?_⟩, fun nf d H'' s hd => kb nf d H'' ((keep (e5.trans s6)).trans s) hd⟩
      have hr := (kg fr).2
      have e7 := (e5.trans s6).trans s7
      have hil : i < cs.length := (List.getElem?_eq_some_iff.mp hr).1
      have hz7 : (es.map Ent.kv).length < sizeLine := by
        have h1 := congrArg List.length erow
        rw [List.length_map, List.length_take] at h1
        rw [List.length_map, sizeLine_eq]
        omega
      refine ⟨_, rfl, _, rfl, D, _, rfl, DPut.k (k := .inr nm) (e7 _ _ hes.1) hz7, ?_⟩
      refine ⟨hil, (b1.same e7).upd, ⟨es ++ [⟨nm, c, N, ms⟩], ⟨?_, fun e he => ?_⟩, ?_⟩, some (.int (i : Nat)), some (.ref a), ?_⟩
      · rw [upd_same, putK_new _ (ents_new fun e he => ?_), List.map_append]
        · rfl
        · have hm : e.row ∈ cs.take i := by rw [← erow]; exact List.mem_map_of_mem he
          intro en
          have := ok.before_ne hr hm
          exact this en
      · have cell7 : CellAt K H7 e.c e.N e.ms := by
          rcases List.mem_append.mp he with h | h
          · exact (hes.2 e h).same e7
          · rw [List.mem_singleton.mp h]
            exact hc
        exact cell7.upd_dict (e7 _ _ hes.1)
      · rw [List.map_append, erow, List.take_succ, hr]
        rfl
      · have : before cs (i + 1) = nm := by
          show (cs.getD i ("", 0, [])).1 = nm
          rw [List.getD_eq_getElem?_getD, hr]
          rfl
        rw [this]
        rfl
    · obtain ⟨hic, b1, ⟨es, hes, erow⟩, y1, y2, rfl⟩ := pv
      rw [List.length_map, hpl] at hic
      rcases q with ⟨e', n', k⟩ | ⟨b, r', c, e', _, hb, _⟩
      · have hlen : (lineWords z).length = cs.length := by rw [e', List.length_map]
        rw [List.length_map, hpl, hlen, List.take_length] at erow
        refine ⟨_, rfl, k _ D es (fun b o h => ?_) (s1.free hD) hes erow⟩
        have h1 := s1 _ _ h
        exact b1 _ _ (nD h1) (s2 _ _ h1)
      · rw [e', List.length_append, List.length_map, List.length_cons] at hic
        omega
end
end TF
end
section
set_option maxHeartbeats 4000000
namespace TF
open PySem PySem.Spec PyProof.Rows L2 StX
theorem ns_new {prog : Program} {w : World} {A : Around} {E : Value → Shared → Prop} {s : Shared} {d : Addr} {kvs : List (Key × Value)} {x : Str} {v : Value} {Q : Unit → Shared → Prop} (hm : s.heap.DictOf (mixKind prog w) d kvs) (hx : (Sum.inr x : Key) ∉ kvs.map (·.1))
    (hQ : ∀ h', h'.DictOf (mixKind prog w) d (kvs ++ [(.inr x, v)]) → Heap.SameBut d s.heap h' → Q () { s with heap := h', toks := s.toks + 1 }) : wpAny (model prog w) A (nsSet d x v) Q E s := by
  obtain ⟨o, es, ep, ho, hc, hd, hk, hp, hn⟩ := hm
  have noRef : es.any (·.refKey) = false := by
    rw [Array.any_eq_false']
    intro e he
    obtain ⟨k, h1, _⟩ := hk e he
    rcases keyIs_shape h1 with ⟨i, t, _, e1⟩ | ⟨y, t, _, e1⟩ <;> simp [DictEntry.refKey, e1]
  have noKey : es.findIdx? (·.key.isStr x) = none := by
    rw [Array.findIdx?_eq_none_iff]
    intro e he
    have no : (kvs.findIdx? fun kv => decide (kv.1 = (Sum.inr x : Key))) = none := by
      rw [List.findIdx?_eq_none_iff]
      intro kv hkv
      exact decide_eq_false fun z => hx (List.mem_map.mpr ⟨kv, hkv, z⟩)
    rw [← hp.findIdx, List.findIdx?_eq_none_iff] at no
    have z := no e (Array.mem_toList_iff.mpr he)
    obtain ⟨k, h1, _⟩ := hk e he
    rcases keyIs_shape h1 with ⟨i, t, _, e1⟩ | ⟨y, t, _, e1⟩
    · rw [e1]; rfl
    · rw [e1] at z ⊢
      cases q : (Value.str y t).isStr x with
      | false => rfl
      | true =>
        exfalso
        have e2 : y = x := by simpa [Value.isStr] using q
        rw [← e2, mixKind_is, keyIs_str] at z
        cases z
  refine fun Γ p _ => ?_
  simp only [nsSet, strHash, Sem.wp_bind', Sem.wp_cmd_ask, Sem.wp_pure', Sem.wp_cmd_mkText]
  rw [Sem.wp_loadPart_of _ Γ _ p { s with toks := s.toks + 1 } (o := o) _ ho]
  simp only [hd, aRefKeyMayBeTheName_eq, aRefKeyMayBeTheNameByArray, noRef, Bool.and_false, Bool.false_eq_true, if_false, Sem.wp_cmd_updatePart]
  refine ⟨by rw [ho]; rfl, hQ _ ?_ (Heap.SameBut.update ..)⟩
  obtain ⟨c, dd, dt, sl⟩ := o
  subst hd
  refine ⟨_, _, ep + 1, Heap.get?_update_self _ ho (by simp only [Obj.putName_eq, Obj.putNameByArray, noKey]; rfl), by simp only [Obj.putName_eq, Obj.putNameByArray, noKey]; exact hc, by simp only [Obj.putName_eq, Obj.putNameByArray, noKey]; rfl, hk.push (k := .inr x) (mixKind_str prog w x _) _, ?_, ?_⟩
  · have := hp.append (k := .inr x) (mixKind_str prog w x s.toks) ((mixKind prog w).hash (.inr x)) v
    obtain ⟨l⟩ := es
    simpa using this
  · rw [List.map_append, List.nodup_append]
    refine ⟨hn, by simp, ?_⟩
    intro a ha b hb
    simp only [List.map_cons, List.map_nil, List.mem_singleton] at hb
    subst hb
    exact fun e => hx (e ▸ ha)

/-! ### binding **cells -/
structure KwPar (a : Arguments) (ps : List Str) (pk : Str) : Prop where
  po : a.posonlyargs = []
  ar : a.args.map (·.arg) = ps
  va : a.vararg = none
  ko : a.kwonlyargs = []
  kw : ∃ x, a.kwarg = some x ∧ x.arg = pk
theorem kw_loop {f : Str × Value → List (Str × Value) × List (Str × Value) → Sem (ForInStep (List (Str × Value) × List (Str × Value)))} : ∀ (kws : List (Str × Value)) (s : List (Str × Value) × List (Str × Value)),
    (∀ q ∈ kws, ∀ s, f q s = pure (ForInStep.yield (s.1, s.2 ++ [(q.1, q.2)]))) → (forIn kws s f : Sem _) = pure (s.1, s.2 ++ kws)
  | [], s, _ => by
    rw [List.append_nil]
    rfl
  | q :: r, s, h => by
    rw [List.forIn_cons, h q (List.mem_cons_self ..)]
    show (forIn r (s.1, s.2 ++ [(q.1, q.2)]) f : Sem _) = _
    rw [kw_loop r _ fun x hx => h x (List.mem_cons_of_mem _ hx)]
    show pure (s.1, (s.2 ++ [q]) ++ r) = _
    rw [List.append_assoc]
    rfl

theorem seqNone : (seqItems? Value.none : Sem (Option (Array Value))) = pure none := rfl
theorem bind_kw1 {name qual : Str} {params : Arguments} {body : List Stmt} {scope : Scope} {kV doc pm cdv ct : Value} {an : Option Addr} {p1 pk : Str} (p : KwPar params [p1] pk) {u : Value} {kws : List (Str × Value)} (hk : ∀ q ∈ kws, q.1 ≠ p1) (hz : kws.length ≤ sizeLine) :
    bindArgs (PySem.W.fnOf name qual params body scope .none kV doc pm an cdv ct) ⟨[u], kws⟩ = (do
      let d ← (alloc ({ cls := .type "dict", data := .dict #[] } : Obj) : Sem Addr)
      let _ ← kws.foldlM (fun _ a => nsSet d a.1 a.2) PUnit.unit
      pure [(p1, u), (pk, Value.ref d)]) := by
  obtain ⟨po, ar, va, ko, ⟨x, kwa, ex⟩⟩ := p
  unfold bindArgs
  simp only [PySem.W.fnOf, po, ar, va, ko, kwa, List.map_nil, List.nil_append]
  rw [kw_loop kws _ fun q hq s => by
    have n : ([p1].contains q.1 || ([] : List Str).contains q.1) = false := by
      simp
      exact hk q hq
    rw [if_neg (by rw [n]; decide)]; rfl]
  have big : ¬ (kws.length > sizeLine + 1) := by omega
  simp [big, seqNone, ex]
theorem bind_kw0 {name qual : Str} {params : Arguments} {body : List Stmt} {scope : Scope} {kV doc pm cdv ct : Value} {an : Option Addr} {pk : Str} (p : KwPar params [] pk) {kws : List (Str × Value)} (hz : kws.length ≤ sizeLine) :
    bindArgs (PySem.W.fnOf name qual params body scope .none kV doc pm an cdv ct) ⟨[], kws⟩ = (do
      let d ← (alloc ({ cls := .type "dict", data := .dict #[] } : Obj) : Sem Addr)
      let _ ← kws.foldlM (fun _ a => nsSet d a.1 a.2) PUnit.unit
      pure [(pk, Value.ref d)]) := by
  obtain ⟨po, ar, va, ko, ⟨x, kwa, ex⟩⟩ := p
  unfold bindArgs
  simp only [PySem.W.fnOf, po, ar, va, ko, kwa, List.map_nil, List.nil_append]
  rw [kw_loop kws _ fun q hq s => by
    have n : (([] : List Str).contains q.1 || ([] : List Str).contains q.1) = false := rfl
    rw [if_neg (by rw [n]; decide)]; rfl]
  have big : ¬ (kws.length > sizeLine + 1) := by omega
  simp [big, seqNone, ex]
/-- the dict is filled -/
theorem fill_kw {prog : Program} {w : World} {A : Around} {E : Value → Shared → Prop} {d : Addr} : ∀ {kws : List (Str × Value)} {kvs : List (Key × Value)} {s : Shared} {Q : PUnit → Shared → Prop}, s.heap.DictOf (mixKind prog w) d kvs → ((kvs.map (·.1)) ++ kws.map fun q => (Sum.inr q.1 : Key)).Nodup →
    (∀ h' tk, h'.DictOf (mixKind prog w) d (kvs ++ kws.map fun q => ((Sum.inr q.1 : Key), q.2)) → Heap.SameBut d s.heap h' → Q PUnit.unit { s with heap := h', toks := tk }) → wpAny (model prog w) A (kws.foldlM (fun _ a => nsSet d a.1 a.2) PUnit.unit) Q E s
  | [], kvs, s, Q, hd, _, hQ => by
    refine wpAny_pure ?_
    have := hQ s.heap s.toks (by simpa using hd) (.refl ..)
    exact this
  | q :: r, kvs, s, Q, hd, hn, hQ => by
    rw [List.foldlM_cons]
    have hx : (Sum.inr q.1 : Key) ∉ kvs.map (·.1) := fun m => by
      rw [List.map_cons] at hn
      exact (List.nodup_append.mp hn).2.2 _ m _ (List.mem_cons_self ..) rfl
    refine wpAny_bind (ns_new hd hx fun h1 hd1 sb1 => ?_)
    refine fill_kw (s := { s with heap := h1, toks := s.toks + 1 }) hd1 ?_ fun h2 tk hd2 sb2 => ?_
    · rw [List.map_append, List.append_assoc]
      exact hn
    · refine hQ h2 tk ?_ (sb1.trans sb2)
      rw [List.append_assoc] at hd2
      exact hd2
section
variable {P : Program} {w : World} {K : PySem.W.Frag} {mg : Str → Option Value} {base : Heap} {A : Around} {outer : List Env} {s : Shared} {H : Hp}
theorem env0_more {h' : Heap} {u : HO} {t' : Nat} (e0 : Env0 P w K mg base A outer s H) (kp : ∀ b x, s.heap.get? b = some x → h'.get? b = some x) (sz : s.heap.objs.size ≤ h'.objs.size) (new : ObjOk P w (upd H s.heap.objs.size u) h' s.heap.objs.size u) :
    Env0 P w K mg base A outer { s with heap := h', toks := t' } (upd H s.heap.objs.size u) := by
  refine ⟨e0.frames, e0.mod, fun b x e => ⟨kp b x (e0.bs b x e).1, ?_⟩, Nat.le_trans e0.bsz sz, Heap.FunFrames.of_keeps (fun b x e _ => ⟨x, kp b x e, rfl⟩) e0.funs, fun b hb => ?_, e0.hok.laid kp (Nat.le_refl _) new, e0.bare⟩
  · rw [upd_ne (Nat.ne_of_lt (Heap.lt_size (e0.bs b x e).1))]
    exact (e0.bs b x e).2
  · obtain ⟨_, x, hx, _⟩ := e0.funs.mem hb
    rw [upd_ne (Nat.ne_of_lt (Heap.lt_size hx))]
    exact e0.frf b hb
end
/-- a def called with keywords that it gathers: sp of the positional ones and the keywords -/
def FnKw (P : Program) (w : World) (K : PySem.W.Frag) (mg : Str → Option Value) (base : Heap) (CX : CXT) (k : Nat) (f : Addr) (sp : List V → List (Str × V) → Hp → VK → XK → Prop) : Prop :=
  ∀ (A : Around) (outer : List Env) (s : Shared) (H : Hp) (us : List Value) (kws : List (Str × Value)) (vs : List V) (ws : List (Str × V)) (Q : VK) (E : XK), Room k A → Env0 P w K mg base A outer s H → Vals vs us → KV ws kws → sp vs ws H Q E →
    codeAny (model P w) A (.call (.ref f) ⟨us, kws⟩) (CR CX outer P w H s Q E) s
/-- the promise: the gathered dict is new -/
def spKw (n : Nat) (ps : List Str) (sp : Sp) : List V → List (Str × V) → Hp → VK → XK → Prop := fun vs ws H Q E => vs.length = n ∧ ws.length ≤ 1000 ∧ (ws.map (·.1)).Nodup ∧ (∀ q ∈ ws, q.1 ∉ ps) ∧ ∀ D, H D = none → sp (vs ++ [.ref D]) (upd H D (.dK (ws.map fun q => ((Sum.inr q.1 : Key), q.2)))) Q E
theorem kv_names {ws : List (Str × V)} {kws : List (Str × Value)} (r : KV ws kws) : ws.map (·.1) = kws.map (·.1) := by
  unfold KV at r
  induction r with
  | nil => rfl
  | cons h _ ih => rw [List.map_cons, List.map_cons, h.1, ih]
theorem kv_inr {ws : List (Str × V)} {kws : List (Str × Value)} (r : KV ws kws) : KV (ws.map fun q => ((Sum.inr q.1 : Key), q.2)) (kws.map fun q => ((Sum.inr q.1 : Key), q.2)) := by
  unfold KV at r ⊢
  induction r with
  | nil => exact .nil
  | cons h _ ih => exact .cons ⟨congrArg Sum.inr h.1, h.2⟩ ih
section
variable {CX : CXT} {P : Program} {w : World} {K : PySem.W.Frag} {mg : Str → Option Value} {base : Heap} {k : Nat} {f : Addr} {name qual : Str} {params : Arguments} {body : List Stmt} {scope : Scope} {kV doc pm cdv ct oc : Value} {an od : Option Addr} {osl : Array (Option Value)} {N ps : List Str} {pk : Str} {sp : Sp}
theorem fn_kw (lk : K.lookup f = some ⟨oc, od, .func (PySem.W.fnOf name qual params body scope .none kV doc pm an cdv ct), osl⟩) (hcd : PySem.W.codeIn K cdv qual = true) (S : FnScope N (ps ++ [pk]) scope) (hCX : CXUp CX)
    (hb : ∀ (us : List Value) (kws : List (Str × Value)), us.length = ps.length → (∀ q ∈ kws, q.1 ∉ ps) → kws.length ≤ sizeLine → bindArgs (PySem.W.fnOf name qual params body scope .none kV doc pm an cdv ct) ⟨us, kws⟩ = (do
      let d ← (alloc ({ cls := .type "dict", data := .dict #[] } : Obj) : Sem Addr)
      let _ ← kws.foldlM (fun _ a => nsSet d a.1 a.2) PUnit.unit
      pure (ps.zip us ++ [(pk, Value.ref d)])))
    (hbody : ∀ (A : Around) (outer : List Env) (s : Shared) (H : Hp) (vs : List V) (Q : VK) (E : XK), Room k (A.deeper (envOfC qual scope s.heap.objs.size f cdv)) → sp vs H Q E →
      ∃ t, PSs (cxOf CX P w K mg base N qual scope f cdv A outer s H E) body t ∧ t { nx := fun _ H' => Q .non H', rt := Q } (start N vs) H) : FnKw P w K mg base CX (k + 1) f (spKw ps.length ps sp) := by
  intro A outer s H us kws vs ws Q E hr e0 r rk hsp
  obtain ⟨hl, hz, hn, hp, hq⟩ := hsp
  have hnD : H s.heap.objs.size = Option.none := e0.hok.fresh (Nat.le_refl _)
  have names := kv_names rk
  have hl1 : us.length = ps.length := by rw [← r.length]; exact hl
  have hlk : kws.length = ws.length := by have := congrArg List.length names; simpa using this.symm
  refine run_bnd lk hcd S hr e0 (G := fun xs H2 => ∃ D, H D = none ∧ xs = vs ++ [V.ref D] ∧ H2 = upd H D (.dK (ws.map fun q => ((Sum.inr q.1 : Key), q.2)))) (fun A' Ex Q' h => ?_) fun s2 H2 xs ⟨D, hD, ex, eH⟩ hr' => ?_
  · have hkp : ∀ q ∈ kws, q.1 ∉ ps := fun q hq => by
      have m : q.1 ∈ ws.map (·.1) := by rw [names]; exact List.mem_map_of_mem hq
      obtain ⟨x, hx, e⟩ := List.mem_map.mp m
      rw [← e]
      exact hp x hx
    rw [hb us kws hl1 hkp (by rw [hlk, sizeLine_eq]; omega)]
    refine wpAny_bind (wpAny_alloc (wpAny_bind ?_))
    have d0 : (s.heap.push { cls := .type "dict", data := .dict #[] }).DictOf (mixKind P w) s.heap.objs.size [] := Heap.DictOf.new s.heap
    refine fill_kw (s := { s with heap := s.heap.push { cls := .type "dict", data := .dict #[] } }) d0 ?_ fun h' tk hd sb => wpAny_pure ?_
    · have : (kws.map fun q => (Sum.inr q.1 : Key)) = (ws.map (·.1)).map Sum.inr := by rw [names, List.map_map]; rfl
      rw [List.map_nil, List.nil_append, this]
      exact hn.map (f := Sum.inr) fun a b ne e => ne (Sum.inr.inj e)
    · rw [List.nil_append] at hd
      have kp : ∀ b x, s.heap.get? b = some x → h'.get? b = some x := fun b x e => (sb.2 b (Nat.ne_of_lt (Heap.lt_size e))).trans (Heap.get?_push_of_some _ e)
      have sz : s.heap.objs.size ≤ h'.objs.size := by
        obtain ⟨o, _, _, ho, _⟩ := hd
        exact Nat.le_of_lt (Heap.lt_size ho)
      have new : ObjOk P w (upd H s.heap.objs.size (.dK (ws.map fun q => ((Sum.inr q.1 : Key), q.2)))) h' s.heap.objs.size (.dK (ws.map fun q => ((Sum.inr q.1 : Key), q.2))) :=
        ⟨by rw [List.length_map, sizeLine_eq]; omega, beq_eq_false_iff_ne.mpr (Ne.symm (Nat.ne_of_lt (env0_big e0))), _, kv_inr rk, hd⟩
      have un : Un (frs outer) [] H (upd H s.heap.objs.size (.dK (ws.map fun q => ((Sum.inr q.1 : Key), q.2)))) s.heap h' := Un.laid kp (Nat.le_refl _) hnD
      have z := h _ _ (vs ++ [V.ref s.heap.objs.size]) (us ++ [Value.ref s.heap.objs.size]) (env0_more (t' := tk) e0 kp sz new) un rfl (fun e s' => hCX outer s H _ _ E e s' un kp rfl) (r.append (.cons rfl .nil)) (by rw [List.length_append, List.length_append, hl] <;> rfl) ⟨_, hnD, rfl, rfl⟩
      rw [List.zip_append hl1.symm] at z
      exact z
  · subst ex eH
    exact hbody A outer s2 _ _ Q E hr' (hq D hD)
end
end TF
end
section
set_option maxHeartbeats 4000000
namespace TF
open PySem PySem.Spec PyProof.Rows L2 StX PySem.W PySem.Calls
section
variable {prog : Program} {w : World} {A : Around} {E : Value → Shared → Prop} {s : Shared}
/-- a value is put into a dict by a key and its hash -/
theorem put_dict {d : Addr} {kvs : List (Key × Value)} {k : Key} {key v : Value} {Q : Unit → Shared → Prop} (hkey : (mixKind prog w).is k key = true) (hm : s.heap.DictOf (mixKind prog w) d kvs)
    (hQ : ∀ h', h'.DictOf (mixKind prog w) d (stored kvs k v) → Heap.SameBut d s.heap h' → Q () { s with heap := h' }) (hsz : kvs.length ≤ sizeLine) :
    wpAny (model prog w) A (dictPut d ((mixKind prog w).hash k) key v) Q E s := by
  obtain ⟨o, es, ep, ho, hc, hd, hk, hp, hn⟩ := hm
  have small : es.size ≤ sizeLine := by
    have e1 := hp.length
    have e2 : es.toList.length = es.size := by simp
    omega
  unfold dictPut
  refine wpAny_bind (wpAny_dictFind_of hkey ho hd hk ?_)
  have idx : (es.findIdx? fun e => (mixKind prog w).is k e.key) = kvs.findIdx? fun kv => decide (kv.1 = k) := by
    rw [← hp.findIdx k]; obtain ⟨l⟩ := es; simp
  cases hi : es.findIdx? fun e => (mixKind prog w).is k e.key with
  | some i =>
    refine wpAny_updateDict ho hd (hQ _ ⟨_, _, ep, Heap.get?_update_self _ ho (Obj.isFreed_of_dict (Obj.data_mapDict hd _)), hc.mapDict _, Obj.data_mapDict hd _, hk.modify _ _, ?_, ?_⟩ (Heap.SameBut.update ..))
    · rw [stored, if_pos (any_of_findIdx_some (idx ▸ hi))]
      have at_ : (es.toList.findIdx? fun e => (mixKind prog w).is k e.key) = some i := by rw [← hi]; obtain ⟨l⟩ := es; simp
      have := hp.modify hn at_ v
      obtain ⟨l⟩ := es
      simpa using this
    · rw [stored, if_pos (any_of_findIdx_some (idx ▸ hi)), keys_map_store]; exact hn
  | none =>
    have off : k ∉ kvs.map (·.1) := not_mem_of_findIdx_none (idx ▸ hi)
    have nany : ¬ (kvs.any fun kv => decide (kv.1 = k)) = true := by
      rw [List.any_eq_true]; rintro ⟨kv, hkv, he⟩
      exact off (List.mem_map.mpr ⟨kv, hkv, of_decide_eq_true he⟩)
    refine wpAny_updateDictKeys (hz := small) ho hd (hQ _ ⟨_, _, ep + 1, Heap.get?_update_self _ ho (Obj.isFreed_of_dict (Obj.data_mapDictKeys hd _)), hc.mapDictKeys _, Obj.data_mapDictKeys hd _, hk.push hkey _, ?_, ?_⟩ (Heap.SameBut.update ..))
    · rw [stored, if_neg nany]
      have := hp.append hkey ((mixKind prog w).hash k) v
      obtain ⟨l⟩ := es
      simpa using this
    · rw [stored, if_neg nany, List.map_append, List.nodup_append]
      refine ⟨hn, by simp, ?_⟩
      intro a ha b hb
      simp only [List.map_cons, List.map_nil, List.mem_singleton] at hb
      subst hb
      exact fun e => off (e ▸ ha)
theorem pairs_at {es : List DictEntry} {kvs : List (Key × Value)} (h : Pairs (mixKind prog w) es kvs) : ∀ {i : Nat} {e : DictEntry}, es[i]? = some e → ∃ kv, kvs[i]? = some kv ∧ (mixKind prog w).is kv.1 e.key = true ∧ e.val = kv.2 := by
  induction h with
  | nil => intro i e h; simp at h
  | cons h1 h2 _ ih =>
    intro i e h
    cases i with
    | zero =>
      simp at h
      subst h
      exact ⟨_, rfl, h1, h2⟩
    | succ j => exact ih (by simpa using h)
/-- the items of the dict at a go into the one at d -/
theorem merge_dict {d a : Addr} {kvs more : List (Key × Value)} {unique : Bool} {Q : Unit → Shared → Prop} (hd : s.heap.DictOf (mixKind prog w) d kvs) (ha : s.heap.DictOf (mixKind prog w) a more) (hne : d ≠ a) (hm : (a == sysModules) = false) (hz : kvs.length + more.length ≤ sizeLine)
    (hu : unique = true → ((kvs ++ more).map (·.1)).Nodup)
    (hQ : ∀ h', h'.DictOf (mixKind prog w) d (merged kvs more) → Heap.SameBut d s.heap h' → Q () { s with heap := h' }) : wpAny (model prog w) A (mergeMapping d (.ref a) unique) Q E s := by
  obtain ⟨oa, ea, pa, hoa, hca, hda, hka, hpa, hna⟩ := id ha
  obtain ⟨od, ed, pd, hod, hcd, hdd, hkd, hpd, hnd⟩ := id hd
  have la : ea.size = more.length := by
    have e1 := hpa.length
    have e2 : ea.toList.length = ea.size := by simp
    omega
  unfold mergeMapping
  have isd : isSubtype (.type "dict") (.type "dict") = pure true := by first | rfl | kernel_rfl
  refine wpAny_bind (wpAny_isInstance ha.typeIs isd ?_)
  simp only [if_true]
  refine wpAny_bind (wpAny_specialOf ha.typeIs F.slot_dict_iter.lookup (wpAny_bind (wpAny_pure ?_)))
  rw [show (some (Value.builtin "dict.__iter__") == some (Value.builtin "dict.__iter__")) = true by decide +kernel]
  simp only [hm, Bool.false_eq_true, if_false]
  -- the loop
  have loop : wpAny (model prog w) A (do
      let es ← dictEntries a
      let epoch ← dictEpoch a
      forIn (List.range es.size) PUnit.unit fun i _ => do
        match (← dictEntries a)[i]? with
          | some e => do
            holding [e.key, e.val] (if unique = true then do
              if (← dictFind d e.key e.hash).isSome = true then do
                rule "dict.merge.duplicate-key"
                let x ← newExc (Value.type "KeyError") [e.key]
                raiseNew x
                dictPut d e.hash e.key e.val
              else dictPut d e.hash e.key e.val
            else dictPut d e.hash e.key e.val)
            if ((← dictEpoch a) != epoch) = true then do
              unsupported "dict.changed-during-merge"
              pure (ForInStep.yield PUnit.unit)
            else pure (ForInStep.yield PUnit.unit)
          | _ => do
            unsupported "dict.changed-during-merge"
            pure (ForInStep.yield PUnit.unit)
      pure ()) Q E s := by
    refine wpAny_bind (wpAny_dictEntries hoa hda (wpAny_bind (wpAny_dictEpoch hoa hda (wpAny_bind ?_))))
    have hl : ∀ i, i < ea.size → ∃ e kv, ea[i]? = some e ∧ more[i]? = some kv ∧ (mixKind prog w).is kv.1 e.key = true ∧ e.val = kv.2 ∧ e.hash = (mixKind prog w).hash kv.1 := fun i hi => by
      have he : ea[i]? = some ea[i] := by simp [hi]
      have he2 : ea.toList[i]? = some ea[i] := by rw [Array.getElem?_toList]; exact he
      obtain ⟨kv, h1, h2, h3⟩ := pairs_at hpa he2
      obtain ⟨k, h4, h5⟩ := hka ea[i] (Array.getElem_mem hi)
      have : k = kv.1 := (mixKind prog w).inj _ _ _ h4 h2
      exact ⟨_, kv, he, h1, h2, h3, by rw [h5, this]⟩
    refine wpAny_forIn_list _ (fun l _ s' => ∃ i, l = (List.range ea.size).drop i ∧ i ≤ ea.size ∧ ∃ h', s' = { s with heap := h' } ∧ h'.DictOf (mixKind prog w) d (merged kvs (more.take i)) ∧ Heap.SameBut d s.heap h') _ (fun x rest b s' hI => ?_) (fun b s' hI => ?_) _ PUnit.unit ⟨0, rfl, Nat.zero_le _, s.heap, rfl, hd, .refl ..⟩
    · obtain ⟨i, hl1, hi, h', rfl, hd', sb⟩ := hI
      have hlt : i < ea.size := by
        rcases Nat.lt_or_ge i ea.size with h | h
        · exact h
        · rw [List.drop_of_length_le (by rw [List.length_range]; exact h)] at hl1
          cases hl1
      rw [List.drop_eq_getElem_cons (by rw [List.length_range]; exact hlt), List.getElem_range] at hl1
      obtain ⟨rfl, rfl⟩ := List.cons.inj hl1
      obtain ⟨e, kv, he, hkv, isk, ev, eh⟩ := hl x hlt
      have hoa' : h'.get? a = some oa := (sb.2 a (Ne.symm hne)).trans hoa
      refine wpAny_bind (wpAny_dictEntries (s := { s with heap := h' }) hoa' hda ?_)
      rw [he]
      dsimp only
      have put : wpAny (model prog w) A (dictPut d e.hash e.key e.val) (fun _ s'' => ∃ h'', s'' = { s with heap := h'' } ∧ h''.DictOf (mixKind prog w) d (merged kvs (more.take (x + 1))) ∧ Heap.SameBut d s.heap h'') E { s with heap := h' } := by
        rw [eh, ev]
        refine put_dict (s := { s with heap := h' }) isk hd' (fun h'' hd'' sb'' => ⟨h'', rfl, ?_, sb.trans sb''⟩) ?_
        · rw [merged_take_succ kvs more x kv hkv]
          exact hd''
        · have := merged_length_le kvs (more.take x)
          rw [List.length_take] at this
          omega
      have held : ∀ {m : Sem Unit} {R : Unit → Shared → Prop}, wpAny (model prog w) A m R E { s with heap := h' } → wpAny (model prog w) A (holding [e.key, e.val] m) R E { s with heap := h' } := fun h => wpAny_holding h
      refine wpAny_bind (held ?_)
      have cont : ∀ (s'' : Shared), (∃ h'', s'' = { s with heap := h'' } ∧ h''.DictOf (mixKind prog w) d (merged kvs (more.take (x + 1))) ∧ Heap.SameBut d s.heap h'') →
          wpAny (model prog w) A (do
            if ((← dictEpoch a) != pa) = true then do
              unsupported "dict.changed-during-merge"
              pure (ForInStep.yield PUnit.unit)
            else pure (ForInStep.yield PUnit.unit)) (fun r s' => match r with
              | .yield b' => ∃ i, List.drop (x + 1) (List.range ea.size) = (List.range ea.size).drop i ∧ i ≤ ea.size ∧ ∃ h', s' = { s with heap := h' } ∧ h'.DictOf (mixKind prog w) d (merged kvs (more.take i)) ∧ Heap.SameBut d s.heap h'
              | .done b' => False) E s'' := fun s'' ⟨h'', e1, hd'', sb''⟩ => by
        subst e1
        have hoa2 : h''.get? a = some oa := (sb''.2 a (Ne.symm hne)).trans hoa
        refine wpAny_bind (wpAny_dictEpoch (s := { s with heap := h'' }) hoa2 hda ?_)
        rw [show (pa != pa) = false by simp]
        exact wpAny_pure ⟨x + 1, rfl, hlt, h'', rfl, hd'', sb''⟩
      have fin : wpAny (model prog w) A (dictPut d e.hash e.key e.val) (fun _ s'' => wpAny (model prog w) A (do
            if ((← dictEpoch a) != pa) = true then do
              unsupported "dict.changed-during-merge"
              pure (ForInStep.yield PUnit.unit)
            else pure (ForInStep.yield PUnit.unit)) (fun r s' => match r with
              | .yield b' => ∃ i, List.drop (x + 1) (List.range ea.size) = (List.range ea.size).drop i ∧ i ≤ ea.size ∧ ∃ h', s' = { s with heap := h' } ∧ h'.DictOf (mixKind prog w) d (merged kvs (more.take i)) ∧ Heap.SameBut d s.heap h'
              | .done b' => wpAny (model prog w) A (pure ()) Q E s') E s'') E { s with heap := h' } := wpAny_mono put (fun _ s'' h => wpAny_mono (cont s'' h) (fun r s3 hr => by cases r with | yield b' => exact hr | done b' => exact hr.elim) fun _ _ y => y) fun _ _ y => y
      cases unique with
      | false =>
        rw [if_neg Bool.false_ne_true]
        exact wpAny_mono fin (fun _ _ h2 => wpAny_mono h2 (fun r _ h3 => by cases r <;> exact h3) fun _ _ y => y) fun _ _ y => y
      | true =>
        rw [if_pos rfl]
        obtain ⟨o2, e2, p2, ho2, hc2, hd2, hk2, hp2, hn2⟩ := id hd'
        refine wpAny_bind ?_
        rw [eh]
        refine wpAny_dictFind_of (s := { s with heap := h' }) isk ho2 hd2 hk2 ?_
        have none_ : (e2.findIdx? fun y => (mixKind prog w).is kv.1 y.key) = none := by
          have idx : (e2.findIdx? fun y => (mixKind prog w).is kv.1 y.key) = (merged kvs (more.take x)).findIdx? fun z => decide (z.1 = kv.1) := by
            rw [← hp2.findIdx kv.1]; obtain ⟨l⟩ := e2; simp
          rw [idx, List.findIdx?_eq_none_iff]
          have nd := hu rfl
          have nd2 : ((kvs ++ more.take x).map (·.1)).Nodup := by
            rw [List.map_append] at nd ⊢
            refine List.nodup_append.mpr ⟨(List.nodup_append.mp nd).1, ((List.take_sublist x more).map _).nodup (List.nodup_append.mp nd).2.1, fun a ha b hb => (List.nodup_append.mp nd).2.2 a ha b (((List.take_sublist x more).map _).subset hb)⟩
          rw [merged_append_of_fresh _ _ nd2]
          intro z hz
          refine decide_eq_false fun ez => ?_
          rcases List.mem_append.mp hz with h | h
          · rw [List.map_append] at nd
            exact (List.nodup_append.mp nd).2.2 z.1 (List.mem_map_of_mem h) kv.1 (List.mem_map_of_mem (List.mem_of_getElem? hkv)) ez
          · rw [List.map_append] at nd
            have nm := (List.nodup_append.mp nd).2.1
            obtain ⟨j, hj, ej⟩ := List.mem_iff_getElem.mp h
            rw [List.length_take] at hj
            rw [List.getElem_take] at ej
            obtain ⟨hx1, hx2⟩ := List.getElem?_eq_some_iff.mp hkv
            have := (List.pairwise_iff_getElem.mp (List.nodup_iff_pairwise_ne.mp nm)) j x (by rw [List.length_map]; omega) (by rw [List.length_map]; exact hx1) (by omega)
            rw [List.getElem_map, List.getElem_map, ej, hx2] at this
            exact this ez
        rw [none_, show (Option.none : Option Nat).isSome = false from rfl, if_neg Bool.false_ne_true]
        rw [eh] at fin
        exact wpAny_mono fin (fun _ _ h2 => wpAny_mono h2 (fun r _ h3 => by cases r <;> exact h3) fun _ _ y => y) fun _ _ y => y
    · obtain ⟨i, hl1, hi, h', rfl, hd', sb⟩ := hI
      have : i = ea.size := by
        rcases Nat.lt_or_ge i ea.size with h | h
        · rw [List.drop_eq_getElem_cons (by rw [List.length_range]; exact h)] at hl1
          cases hl1
        · omega
      subst this
      rw [la, List.take_length] at hd'
      exact wpAny_pure (hQ h' hd' sb)
  refine wpAny_bind (wpAny_dictEntries hod hdd ?_)
  have keys : ∀ e ∈ ea, ∀ b, e.key ≠ .ref b := fun e he b z => by
    obtain ⟨k, h1, _⟩ := hka e he
    rcases keyIs_shape h1 with ⟨i, t, _, e1⟩ | ⟨y, t, _, e1⟩ <;> rw [e1] at z <;> cases z
  split
  · refine wpAny_bind (wpAny_dictEntries hoa hda ?_)
    refine wpAny_bind (PySem.wpAny_forIn_array' _ (fun l _ s' => s' = s ∧ ∀ e ∈ l, e ∈ ea) _ (fun e rest b s' h => ?_) (fun b s' h => ?_) ea PUnit.unit ⟨rfl, fun e he => Array.mem_toList_iff.mp he⟩)
    · obtain ⟨rfl, hl⟩ := h
      have k := keys e (hl e (List.mem_cons_self ..))
      split
      · rename_i b' hb
        exact absurd hb (k b')
      · exact wpAny_pure ⟨rfl, fun x hx => hl x (List.mem_cons_of_mem _ hx)⟩
    · obtain ⟨rfl, _⟩ := h
      exact loop
  · exact loop
/-- the new dict of f(**x) -/
theorem mergedK {f : Value} {x : Sem Value} {Q : Addr → Shared → Prop}
    (h : wpAny (model prog w) A x (fun v s1 => ∃ (a : Addr) (more : List (Key × Value)), v = .ref a ∧ (a == sysModules) = false ∧ s.heap.objs.size ≠ a ∧ s1.heap.DictOf (mixKind prog w) s.heap.objs.size [] ∧ s1.heap.DictOf (mixKind prog w) a more ∧ more.length ≤ 1000 ∧
      ∀ h', h'.DictOf (mixKind prog w) s.heap.objs.size more → Heap.SameBut s.heap.objs.size s1.heap h' → Q s.heap.objs.size { s1 with heap := h' }) E { s with heap := s.heap.push { cls := .type "dict", data := .dict #[] } }) : wpAny (model prog w) A (mergedKeywords f [(none, x)]) Q E s := by
  unfold mergedKeywords
  refine wpAny_bind (wpAny_alloc ?_)
  refine wpAny_bind (wpAny_holding ?_)
  dsimp only
  rw [List.forIn_cons, if_pos (show ([] : List (Str × Sem Value)).isEmpty = true from rfl)]
  refine wpAny_bind (wpAny_bind (wpAny_bind (wpAny_pure (wpAny_bind (wpAny_mono h (fun v s1 h1 => ?_) fun _ _ y => y)))))
  obtain ⟨a, more, rfl, hs, ne, hd, ha, hz, hq⟩ := h1
  obtain ⟨_, _, _, _, _, _, _, _, nd⟩ := id ha
  refine wpAny_bind (wpAny_onRaise (wpAny_holding (wpAny_tryCatch (wpAny_onRaise ?_))))
  refine merge_dict hd ha ne hs (by rw [List.length_nil, sizeLine_eq]; omega) (fun _ => by rw [List.nil_append]; exact nd) fun h' hd' sb => ?_
  rw [merged_nil_of_nodup _ nd] at hd'
  refine wpAny_pure ?_
  dsimp only
  refine wpAny_pure ?_
  rw [if_pos (show ([] : List (Str × Sem Value)).isEmpty = true from rfl)]
  exact wpAny_pure (wpAny_pure (hq h' hd' sb))
/-- its entries, as keywords -/
theorem kwIn {f : Value} {d : Addr} {more : List (Str × Value)} {Q : List (Str × Value) → Shared → Prop} (hd : s.heap.DictOf (mixKind prog w) d (more.map fun q => ((Sum.inr q.1 : Key), q.2))) (h : Q more s) : wpAny (model prog w) A (keywordsIn f d) Q E s := by
  obtain ⟨o, es, ep, ho, hc, hdt, hk, hp, hn⟩ := hd
  unfold keywordsIn
  refine wpAny_bind (wpAny_dictEntries ho hdt ?_)
  refine wpAny_bind (PySem.wpAny_forIn_array' _ (fun l kw s' => s' = s ∧ ∃ i, l = es.toList.drop i ∧ i ≤ es.size ∧ kw = more.take i) _ (fun e rest kw s' hI => ?_) (fun kw s' hI => ?_) es [] ⟨rfl, 0, rfl, Nat.zero_le _, rfl⟩)
  · obtain ⟨rfl, i, hl, hi, rfl⟩ := hI
    have hlt : i < es.toList.length := by
      rcases Nat.lt_or_ge i es.toList.length with h | h
      · exact h
      · rw [List.drop_of_length_le h] at hl
        cases hl
    rw [List.drop_eq_getElem_cons hlt] at hl
    obtain ⟨rfl, rfl⟩ := List.cons.inj hl
    obtain ⟨kv, h1, h2, h3⟩ := pairs_at hp (show es.toList[i]? = some es.toList[i] by simp)
    rw [List.getElem?_map, Option.map_eq_some_iff] at h1
    obtain ⟨q, hq, rfl⟩ := h1
    obtain ⟨x, t, ex, ek⟩ : ∃ x t, (Sum.inr q.1 : Key) = Sum.inr x ∧ (es.toList[i]).key = Value.str x t := by
      have h2' : keyIs (Sum.inr q.1) es.toList[i].key = true := h2
      rcases keyIs_shape h2' with ⟨j, t, e0, _⟩ | ⟨x, t, e0, e1⟩
      · cases e0
      · exact ⟨x, t, e0, e1⟩
    rw [ek]
    refine wpAny_pure ⟨rfl, i + 1, rfl, ?_, ?_⟩
    · have : es.toList.length = es.size := by simp
      omega
    · rw [List.take_succ, hq, h3, ← Sum.inr.inj ex]
      rfl
  · obtain ⟨rfl, i, hl, hi, rfl⟩ := hI
    have hge : es.toList.length ≤ i := by
      rcases Nat.lt_or_ge i es.toList.length with h | h
      · rw [List.drop_eq_getElem_cons h] at hl
        cases hl
      · exact h
    have := hp.length
    rw [List.length_map] at this
    rw [List.take_of_length_le (by omega)]
    exact wpAny_pure h
theorem spl0 {Q : List Value → Shared → Prop} (h : Q [] s) : wpAny (model prog w) A (spliced []) Q E s := wpAny_pure h
/-- f(**x) -/
theorem args_kw {f : Value} {x : Sem Value} {Q : Args → Shared → Prop}
    (h : wpAny (model prog w) A x (fun v s1 => ∃ (a : Addr) (more : List (Str × Value)), v = .ref a ∧ (a == sysModules) = false ∧ s.heap.objs.size ≠ a ∧ s1.heap.DictOf (mixKind prog w) s.heap.objs.size [] ∧ s1.heap.DictOf (mixKind prog w) a (more.map fun q => ((Sum.inr q.1 : Key), q.2)) ∧ more.length ≤ 1000 ∧
      ∀ h', Heap.SameBut s.heap.objs.size s1.heap h' → Q ⟨[], more⟩ { s1 with heap := h' }) E { s with heap := s.heap.push { cls := .type "dict", data := .dict #[] } }) : wpAny (model prog w) A (evalArgs f true [] [(none, x)]) Q E s := by
  unfold evalArgs
  dsimp only
  refine wpAny_bind (spl0 (wpAny_bind (wpAny_pure ?_)))
  dsimp only
  refine wpAny_holding ?_
  rw [if_neg (by simp)]
  refine wpAny_bind (mergedK (wpAny_mono h (fun v s1 h1 => ?_) fun _ _ y => y))
  obtain ⟨a, more, e, hs, ne, hd, ha, hz, hq⟩ := h1
  refine ⟨a, _, e, hs, ne, hd, ha, by rw [List.length_map]; exact hz, fun h' hd' sb => ?_⟩
  refine wpAny_bind (wpAny_pure (wpAny_bind (wpAny_holding (kwIn (s := { s1 with heap := h' }) hd' (wpAny_pure (hq h' sb))))))
end
end TF
end
section
set_option maxHeartbeats 4000000
namespace TF
open PySem PySem.Spec PyProof.Rows L2 StX PySem.W PySem.Calls
/-! ### f(**e) -/
theorem kw_callWith {M : Model} {A : Around} {E : Value → Shared → Prop} {s : Shared} {f : Value} {first : List Value} {pos : Pos} {Q : Value → Shared → Prop} {P : Heap → Prop} {kws : List (Option Str × Sem Value)} (hst : kws.any (·.1.isNone) = true)
    (hk : ∀ h, P h → ∃ k, (k = Keeper.frame ∨ k = Keeper.machine ∨ k = Keeper.boundFrame) ∧ Looks M h (keeperOf f) k)
    (h : wpAny M A (evalArgs f true [] kws) (fun a s₁ => P s₁.heap ∧ wpAny M A (call f (first ++ a.pos) a.kw) Q E s₁) E s) : wpAny M A (callWith pos f first [] kws) Q E s := by
  unfold callWith
  refine wpAny_bind (wpAny_holding (wpAny_mono h (fun a s₁ h₁ => wpAny_bind (wpAny_standAt ?_)) fun _ _ x => x))
  obtain ⟨k, hk', L⟩ := hk _ h₁.1
  simp only [hst, List.any_nil, Bool.false_or]
  refine wpAny_bind (L.here ?_)
  have tail : ∀ {t : Sem Value}, wpAny M A t Q E s₁ → wpAny M A (t >>= fun r => holding [r] point >>= fun _ => pure r) Q E s₁ :=
    fun ht => wpAny_bind (wpAny_mono ht (fun r s₂ hr => wpAny_bind (wpAny_holding (wpAny_point (wpAny_pure hr)))) fun _ _ x => x)
  have marked (mk : Value) : wpAny M A (callMarked mk f (first ++ a.pos) a.kw) Q E s₁ := by unfold callMarked; exact Calls.wpAny_keep h₁.2
  rcases hk' with rfl | rfl | rfl <;> dsimp only <;> first | exact tail (marked _) | exact tail (wpAny_operating h₁.2)
section
variable {X : Cx} {CX : CXT} {k : Nat} {f : Addr} {sp : List V → List (Str × V) → Hp → VK → XK → Prop} {E : XK} {pins : List (Addr × Obj)} {σ : L2.St} {H : Hp} {s : Shared} {Q : VK}
theorem run_kw {us : List Value} {kws : List (Str × Value)} {vs : List V} {ws : List (Str × V)} (F : FnKw X.prog X.w X.K X.mg X.base CX k f sp) (hr : Room k X.A) (hx : Passes CX X E) (I : Inv X pins σ H s) (r : Vals vs us) (rk : KV ws kws) (h : sp vs ws H Q E) :
    wpAny (model X.prog X.w) X.A (call (.ref f) us kws) (EP X pins σ Q) X.xe s := by
  refine wpAny_call (codeAny_mono (F X.A X.stack s H us kws vs ws Q E hr I.env0 r rk h) fun r s' got => ?_)
  cases r with
  | error e => exact hx pins σ H s e s' I got
  | ok fl =>
    cases fl with
    | ret u => exact I.after got
    | next => exact False.elim got
    | brk => exact False.elim got
    | cont => exact False.elim got
theorem kv_split {ws : List (Str × V)} : ∀ {more : List (Key × Value)}, KV (ws.map fun q => ((Sum.inr q.1 : Key), q.2)) more → ∃ kws, more = kws.map (fun q => ((Sum.inr q.1 : Key), q.2)) ∧ KV ws kws := by
  induction ws with
  | nil =>
    intro more h
    cases h
    exact ⟨[], rfl, .nil⟩
  | cons q r ih =>
    intro more h
    unfold KV at h
    rw [List.map_cons] at h
    cases h with
    | @cons _ b _ l h1 t =>
      obtain ⟨kws, rfl, rk⟩ := ih t
      obtain ⟨b1, b2⟩ := b
      obtain ⟨e1, e2⟩ := h1
      dsimp only at e1
      subst e1
      exact ⟨(q.1, b2) :: kws, rfl, .cons ⟨rfl, e2⟩ rk⟩
/-- the call with **e -/
theorem run_kwstar {first : List Value} {vs : List V} {e : Expr} {te : TE} {pos : Pos} (F : FnKw X.prog X.w X.K X.mg X.base CX k f sp) (hr : Room k X.A) (hx : Passes CX X E) (hk : PySem.W.keepIn X.K (.ref f) = true) (r : Vals vs first) (he : PE X e te) (I : Inv X pins σ H s)
    (h : te σ H fun x H1 => ∃ (a : Addr) (ws : List (Str × V)), x = .ref a ∧ H1 a = some (.dK (ws.map fun q => ((Sum.inr q.1 : Key), q.2))) ∧ ws.length ≤ 1000 ∧ sp vs ws H1 Q E) :
    wpAny (model X.prog X.w) X.A (callWith pos (.ref f) first [] (backToKw pos [(none, eval e X.env)])) (EP X pins σ Q) X.xe s := by
  refine kw_callWith (P := fun h => X.K.In h) rfl (keeps_K hk) ?_
  refine args_kw ?_
  have hle : s.heap.objs.size ≤ s.heap.objs.size := Nat.le_refl _
  have hfr : H s.heap.objs.size = none := I.hok.fresh hle
  have fp := I.fpOk hle hfr
  have nd : (({ cls := .type "dict", data := .dict #[] } : Obj)).data = .dict #[] 0 := rfl
  have J := ClX.pin_new (t' := s.toks) (o := ({ cls := .type "dict", data := .dict #[] } : Obj)) I (h' := s.heap.push { cls := .type "dict", data := .dict #[] }) (fun _ _ z => Heap.get?_push_of_some _ z) hle (Heap.get?_push_size s.heap rfl) (fun v z => nomatch z)
  refine wpAny_bind (thn (he.run _ _ σ H _ J h) fun u s1 ⟨x, H1, I1, rx, a, ws, ex, ha, hz, q⟩ => wpAny_bind (wpAny_standAt (wpAny_pure ?_)))
  subst ex
  obtain rfl : u = Value.ref a := rx
  have hd := ClX.pin_at I1
  have hdn := ClX.pin_un I1
  obtain ⟨z, hm, more, rel, dd⟩ := dk_of I1.hok ha
  obtain ⟨kws, rfl, rk⟩ := kv_split rel
  have ne : s.heap.objs.size ≠ a := fun z => by
    dsimp only at hdn
    rw [z, ha] at hdn
    cases hdn
  refine ⟨a, kws, rfl, hm, ne, ⟨_, #[], 0, hd, ⟨rfl, rfl, rfl⟩, rfl, fun _ he => by simp at he, Pairs.nil, List.nodup_nil⟩, dd, ?_, fun h' sb => ?_⟩
  · have := congrArg List.length (kv_names rk)
    simp at this
    omega
  · obtain ⟨f0, f1, f2, f3, f4, f5⟩ := fp
    have I2 : Inv X pins σ H1 { s1 with heap := h' } := (ClX.unpin I1).turned (t' := s1.toks) (fun b o hb e => (sb.2 b hb).trans e) hdn f1 f3 f4 f5
    refine ⟨I2.kIn, ?_⟩
    rw [List.append_nil]
    exact run_kw F hr hx I2 r rk q
end
/-! ### rules -/
/-- a def of the module that gathers keywords -/
structure KOk (P : Program) (w : World) (K : PySem.W.Frag) (mg : Str → Option Value) (base : Heap) (CX : CXT) (k : Nat) (x : Str) (sp : List V → List (Str × V) → Hp → VK → XK → Prop) : Prop where
  g : ∃ f : Addr, FnKw P w K mg base CX k f sp ∧ mg x = some (.ref f) ∧ PySem.W.keepIn K (.ref f) = true
/-- a class of the module whose __init__ gathers keywords -/
structure CKOk (P : Program) (w : World) (K : PySem.W.Frag) (mg : Str → Option Value) (base : Heap) (CX : CXT) (k : Nat) (C : Addr) (sp : List V → List (Str × V) → Hp → VK → XK → Prop) : Prop where
  g : ∃ f : Addr, Mk K C f ∧ FnKw P w K mg base CX k f sp
section
variable {X : Cx} {CX : CXT} {k : Nat} {f C : Addr} {sp : List V → List (Str × V) → Hp → VK → XK → Prop} {E : XK} {pins : List (Addr × Obj)} {σ : L2.St} {H : Hp} {s : Shared} {Q : VK} {x : Str} {p pos kpos : Pos} {e : Expr} {te : TE} {kws : List Keyword} {tk : TA} {ks : List Str}
/-- x(**e) -/
def tKwStar (sp : List V → List (Str × V) → Hp → VK → XK → Prop) (E : XK) (te : TE) : TE := fun σ H Q => te σ H fun x H1 => ∃ (a : Addr) (ws : List (Str × V)), x = .ref a ∧ H1 a = some (.dK (ws.map fun q => ((Sum.inr q.1 : Key), q.2))) ∧ ws.length ≤ 1000 ∧ sp [] ws H1 Q E
theorem pe_kwstar (F : KOk X.prog X.w X.K X.mg X.base CX k x sp) (hr : Room k X.A) (hx : Passes CX X E) (hg : Gl X x) (he : PE X e te) (hdb : (x == ("__debug__" : Str)) = false := by decide)
    (hs : backToKw pos (keywordEach [⟨none, e, kpos⟩] X.env) = backToKw pos [(none, eval e X.env)] := by rfl) (hs0 : backTo pos (starEach [] X.env) = [] := by rfl) : PE X (.Call (.Name x p) [] [⟨none, e, kpos⟩] pos) (tKwStar sp E te) := by
  obtain ⟨f, h1, h2, h3⟩ := F.g
  refine ⟨fun pins s σ H Q I h => ?_⟩
  refine wpAny_Call_Name_kw (ld_glob I hg h2 ?_ hdb)
  rw [hs, hs0]
  exact run_kwstar (vs := []) h1 hr hx h3 .nil he I h
theorem run_mkKw {kws : List (Str × Value)} {ws : List (Str × V)} (F : CKOk X.prog X.w X.K X.mg X.base CX k C sp) (hr : Room (k + 1) X.A) (hx : Passes CX X E) (I : Inv X pins σ H s) (rk : KV ws kws)
    (h : ∀ x dx, H x = none → H dx = none → dx ≠ x → sp [.ref x] ws (upd (upd H dx (.own x)) x (.ins C dx [])) (fun v H2 => v = .non ∧ Q (.ref x) H2) E) :
    wpAny (model X.prog X.w) X.A (call (.ref C) [] kws) (EP X pins σ Q) X.xe s := by
  obtain ⟨f, M, F⟩ := F.g
  have at_ := h (s.heap.objs.size + 1) s.heap.objs.size (I.hok.fresh (Nat.le_succ _)) (I.hok.fresh (Nat.le_refl _)) (Nat.ne_of_lt (Nat.lt_succ_self _))
  have J := Inv.made (C := C) I
  refine wpAny_call (make_map (f := f) I.kIn M.makes M.init (beq_iff_eq.mp M.fn) (codeAny_mono (F _ X.stack _ _ [Value.ref (s.heap.objs.size + 1)] kws [V.ref (s.heap.objs.size + 1)] ws _ E (hr.make C [] kws) (J.env0.make C [] kws) (.cons rfl .nil) rk at_) fun r s' got => ?_))
  cases r with
  | error e => exact hx pins σ _ _ e s' J got
  | ok fl =>
    cases fl with
    | ret u =>
      obtain ⟨v, H', J3, rv, ev, q3⟩ := J.after got
      subst ev
      exact ⟨rv, ⟨V.ref (s.heap.objs.size + 1), H', J3, rfl, q3⟩⟩
    | next => exact False.elim got
    | brk => exact False.elim got
    | cont => exact False.elim got
theorem kv_zip : ∀ {ks : List Str} {zs : List V} {ws : List Value}, ks.length = zs.length → Vals zs ws → KV (ks.zip zs) (ks.zip ws)
  | [], [], _, _, .nil => .nil
  | k :: ks, z :: zs, _, h, .cons r t => .cons ⟨rfl, r⟩ (kv_zip (by simpa using h) t)
/-- C(k = e, ..) -/
def tMkKw (C : Addr) (ks : List Str) (sp : List V → List (Str × V) → Hp → VK → XK → Prop) (E : XK) (tk : TA) : TE := fun σ H Q => tk σ H fun zs H1 => ks.length = zs.length ∧ ∀ x dx, H1 x = none → H1 dx = none → dx ≠ x →
  sp [.ref x] (ks.zip zs) (upd (upd H1 dx (.own x)) x (.ins C dx [])) (fun v H2 => v = .non ∧ Q (.ref x) H2) E
theorem pe_mkKw (F : CKOk X.prog X.w X.K X.mg X.base CX k C sp) (hr : Room (k + 1) X.A) (hx : Passes CX X E) (hg : Gl X x) (hm : X.mg x = some (.ref C)) (hkw : PK X kws tk)
    (hall : (backToKw pos (keywordEach kws X.env)).all (·.1.isSome) = true := by rfl) (hks : (backToKw pos (keywordEach kws X.env)).filterMap (·.1) = ks := by rfl) (hdb : (x == ("__debug__" : Str)) = false := by decide)
    (hpl : ((backTo pos (starEach [] X.env)).any (·.1) || (backToKw pos (keywordEach kws X.env)).any (·.1.isNone)) = false := by rfl) :
    PE X (.Call (.Name x p) [] kws pos) (tMkKw C ks sp E tk) := by
  refine ⟨fun pins s σ H Q I h => ?_⟩
  refine wpAny_Call_Name_kw (ld_glob I hg hm ?_ hdb)
  obtain ⟨f, M, F1⟩ := id F.g
  refine PySem.W.callWith_KW0 (h₀ := X.base) I.ok.mod.kin M.kp hall ?_ hpl
  refine thn (hkw.run pos pins s σ H _ I h) fun ws s2 ⟨zs, H2, I2, rz, l2, q2⟩ => ⟨I2.kIn, ?_⟩
  rw [hks]
  exact run_mkKw F hr hx I2 (kv_zip l2 rz) q2
/-- C() -/
def tMkKw0 (C : Addr) (sp : List V → List (Str × V) → Hp → VK → XK → Prop) (E : XK) : TE := fun _ H Q => ∀ x dx, H x = none → H dx = none → dx ≠ x → sp [.ref x] [] (upd (upd H dx (.own x)) x (.ins C dx [])) (fun v H2 => v = .non ∧ Q (.ref x) H2) E
theorem pe_mkKw0 (F : CKOk X.prog X.w X.K X.mg X.base CX k C sp) (hr : Room (k + 1) X.A) (hx : Passes CX X E) (hg : Gl X x) (hm : X.mg x = some (.ref C)) (hdb : (x == ("__debug__" : Str)) = false := by decide) : PE X (.Call (.Name x p) [] [] pos) (tMkKw0 C sp E) := by
  refine ⟨fun pins s σ H Q I h => ?_⟩
  refine wpAny_Call_Name_kw (ld_glob I hg hm ?_ hdb)
  obtain ⟨f, M, F1⟩ := id F.g
  exact PySem.W.callWith_K0 I.kIn M.kp (run_mkKw (kws := []) (ws := []) F hr hx I .nil h)
/-- c(), c a local that holds the class -/
theorem pe_mkLoc0 {i : Nat} (hr : Room (k + 1) X.A) (hx : Passes CX X E) (hN : X.N[i]? = some x) (hv : Vis X.env.scope x) (hd : (x == ("__debug__" : Str)) = false := by decide) (hcd : (x == ("__classdict__" : Str)) = false := by decide)
    (hc : eval (.Call (.Name x p) [] [] pos) X.env = (do callWith pos (← eval (.Name x p) X.env) [] (backTo pos (starEach [] X.env)) (backToKw pos (keywordEach [] X.env))) := by rfl) :
    PE X (.Call (.Name x p) [] [] pos) (fun σ H Q => ∃ C, σ[i]? = some (some (.ref C)) ∧ CKOk X.prog X.w X.K X.mg X.base CX k C sp ∧ tMkKw0 C sp E σ H Q) := by
  refine ⟨fun pins s σ H Q I ⟨C, hσ, F, h⟩ => ?_⟩
  refine Call_ (thn ((pe_var hN hv hd hcd).run pins s σ H (fun v H1 => v = .ref C ∧ H1 = H) I ⟨_, hσ, rfl, rfl⟩) fun u s1 ⟨v, H1, I1, rv, ev, eH⟩ => ?_) hc
  subst ev eH
  obtain rfl : u = Value.ref C := rv
  obtain ⟨f, M, F1⟩ := id F.g
  exact PySem.W.callWith_K0 I1.kIn M.kp (run_mkKw (kws := []) (ws := []) F hr hx I1 .nil h)
end
end TF
end
section
set_option maxHeartbeats 4000000
namespace TF
open PySem PySem.Spec PyProof.Rows L2 StX PySem.W PySem.Calls
/-- what stands around super() in the body of a method of the class at D -/
structure SupX (X : Cx) (sf : Str) (D : Addr) : Prop where
  e1 : X.env.kindOf "super" = some .globalImplicit
  e2 : X.env.kindOf "__class__" = some .free
  kd : X.env.scope.kind = .function
  fn : ∃ (f : Addr) (of : Obj) (fd : FuncData) (ar : Arg), X.env.func = some f ∧ X.K.lookup f = some of ∧ of.data = .func fd ∧ (fd.params.posonlyargs ++ fd.params.args).head? = some ar ∧ ar.arg = sf
  co : ∃ (cc : Addr) (oc : Obj) (vs : Array Value) (file : Str) (tf : Tok), X.env.code = .ref cc ∧ X.K.lookup cc = some oc ∧ oc.data = .fields vs ∧ vs[2]? = some (.str file tf) ∧ ((X.prog.main.file : Str) == file) = true
  top : (X.prog.main.scope.names.lookup ("super" : Str)).isSome = false
  ce : ∃ (c : Addr) (oc : Obj), X.env.cells.lookup ("__class__" : Str) = some c ∧ X.K.lookup c = some oc ∧ oc.data = .cell (some (.ref D))
  n0 : X.N[0]? = some sf
  v0 : X.env.scope.names.lookup sf = some .local
  mg : X.mg "super" = none
  cD : (clsIn X.K D).isSome = true
  tp : nsIn X.K cStatics "thirdparty.any" = some none
/-- the method that super() of an instance of C, in a method of D, finds -/
structure SupM (K : Frag) (C D : Addr) (m : Str) (g : Addr) : Prop where
  at_ : ks_superIn K C D m = some (some (.ref g))
  ty : typeIn K (.ref g) = some (.type "function")
  fi : fnIn K g = true
  sub : mroIn K C (.ref D) = some true
  nm : (m == ("__class__" : Str)) = false
/-- how the method is asked for: in a call's own way, or (with **) as an attribute -/
def superAcc (pl : Option (Sem Bool)) (ov : Value) (m : Str) : Sem (Value × List Value) := match pl with
  | some p => getMethod ov m p
  | none => do pure (← getAttr ov m true, [])
theorem super_attr {prog : Program} {w : World} {A : Around} {E : Value → Shared → Prop} {hh : Heap} {gg : Array GenState} {dd : Drawn} {tt : Nat} {os : OsState} {so D x C f : Addr} {fo : Obj} {l₀ l : List Value} {K : Frag} {nm : Str} {Q : Value → Shared → Prop}
    (e1 : hh.get? so = some { cls := .type "super", dict := none, data := .fields #[.ref D, .ref x, .ref C], slots := #[] }) (e2 : Looks (model prog w) hh (opaqueClassAbove (.ref C)) none) (e3 : Looks (model prog w) hh (mroOf (.ref C)) l₀) (e4 : (l₀.dropWhile (· != .ref D)).drop 1 = l) (KI : K.In hh)
    (e5 : alongIn K nm l = some (some (.ref f))) (e6 : hh.get? f = some fo) (e7 : fo.cls = .type "function") (e8 : x ≠ C) (e9 : (nm == ("__class__" : Str)) = false)
    (q : Q (.ref hh.objs.size) ⟨hh.push { cls := .type "method", data := .fields #[.ref f, .ref x] }, gg, dd, tt + 1, os⟩) : wpAny (model prog w) A (getAttr (.ref so) nm true) Q E ⟨hh, gg, dd, tt, os⟩ := by
  have ty : ∀ n, (⟨hh, gg, dd, n, os⟩ : Shared).TypeIs (.ref so) "super" := fun _ => ⟨_, e1, rfl⟩
  unfold getAttr getAttrBy
  refine wpAny_bind (wpAny_mkText (wpAny_holding (wpAny_bind (wpAny_typeOf (ty _) (wpAny_bind (wpAny_of_eq PySem.F.ks_slot_super_ga.lookup ?_))))))
  show wpAny (model prog w) A (getAttrByItsOwn (.ref so) (.str nm tt) (.type "super") (.builtin "super.__getattribute__") true true) _ E _
  unfold getAttrByItsOwn hookBefore callGetattribute boundAndCalled
  refine wpAny_bind (wpAny_of_eq (a := none) rfl (wpAny_bind (wpAny_attempt (wpAny_holding ?_))))
  show wpAny (model prog w) A (bindSpecial (.builtin "super.__getattribute__") (.ref so) >>= _) _ _ _
  refine wpAny_bind (wpAny_of_eq (PySem.F.ks_slot_super_ga.bind _) (wpAny_mono (Q := fun v s' => v = .ref hh.objs.size ∧ s' = ⟨hh.push { cls := .type "method", data := .fields #[.ref f, .ref x] }, gg, dd, tt + 1, os⟩) (E := fun _ _ => False)
    (wpAny_call_entry PySem.F.ks_slot_super_ga (ty _) PySem.F.ks_entry_super_ga (ks_wpAny_super_ga e1 e2 e3 e4 KI e5 e6 e7 e8 e9 ⟨_, rfl, rfl, rfl⟩) (PySem.F.ks_gaArgs_super _ _)) (fun v s' z => ?_) fun _ _ z => z.elim))
  obtain ⟨rfl, rfl⟩ := z
  exact wpAny_pure q
section
variable {X : Cx} {pins : List (Addr × Obj)} {σ : L2.St} {H : Hp} {s : Shared} {x C D dx g : Addr} {fs : List (Str × V)} {m sf : Str} {p0 p1 apos pos : Pos} {args : List Expr} {kws : List Keyword} {body : List Stmt} {Q : Value → Shared → Prop} {E : Value → Shared → Prop}
theorem at_super {pl : Option (Sem Bool)} (S : SupX X sf D) (M : SupM X.K C D m g) (I : Inv X pins σ H s) (hσ : σ[0]? = some (some (.ref x))) (hx : H x = some (.ins C dx fs))
    (he : eval (.Call (.Attribute (.Call (.Name "super" p0) [] [] p1) m apos) args kws pos) X.env = (do
      let ov ← attributeBase (.Call (.Name "super" p0) [] [] p1) m X.env (eval (.Call (.Name "super" p0) [] [] p1) X.env)
      standAt apos.atName
      let (f, first) ← holding [ov] (superAcc pl ov m)
      callWith pos f first (backTo pos (starEach args X.env)) (backToKw pos (keywordEach kws X.env))))
    (k : ∀ q s', Inv X ((q, methodObj (.ref g) (.ref x)) :: pins) σ H s' → X.base.get? q = none → wpAny (model X.prog X.w) X.A (callWith pos (.ref q) [] (backTo pos (starEach args X.env)) (backToKw pos (keywordEach kws X.env))) Q E s') :
    PySem.wpAt (model X.prog X.w) X.A (.func body X.env) (eval (.Call (.Attribute (.Call (.Name "super" p0) [] [] p1) m apos) args kws pos) X.env) Q E s := by
  obtain ⟨f, of, fd, ar, f1, f2, f3, f4, f5⟩ := S.fn
  obtain ⟨cc, oc, vs, file, tf, c1, c2, c3, c4, c5⟩ := S.co
  obtain ⟨cl, ocl, l1, l2, l3⟩ := S.ce
  obtain ⟨cdD, hD⟩ := Option.isSome_iff_exists.mp S.cD
  obtain ⟨cdC, hC⟩ : ∃ cd, clsIn X.K C = some cd := by
    have := M.at_
    unfold ks_superIn at this
    cases q : clsIn X.K C with
    | none => rw [q] at this; cases this
    | some cd => exact ⟨cd, rfl⟩
  rw [he]
  obtain ⟨mA, O, _⟩ := ins_get I.hok hx
  obtain ⟨od, J, _⟩ := O.look
  have KI := I.kIn
  obtain ⟨ml, hml, hlk⟩ := I.loc
  have self_ : ∃ u, L2.RelV (.ref x) u ∧ Look X.env s.heap ml sf u := hlk 0 sf (.ref x) S.n0 hσ (.inl S.v0)
  obtain ⟨u, ru, lu⟩ := self_
  obtain rfl : u = Value.ref x := ru
  have lself : ml sf = some (.ref x) := by
    rcases lu with ⟨_, h⟩ | ⟨h, _⟩
    · exact h
    · have e : X.env.kindOf sf = some .local := S.v0
      rw [e] at h
      rcases h with h | h <;> cases h
  obtain ⟨oD, hD1, hD2⟩ : ∃ oD, s.heap.get? D = some oD ∧ oD.data = .cls cdD := by
    unfold clsIn at hD
    split at hD
    · rename_i c d cd' sl ho
      cases hD
      exact ⟨_, KI _ _ ho, rfl⟩
    · cases hD
  refine PySem.wpAt_bind (PySem.ks_wpAt_super_base (env := X.env) S.e1 S.e2 M.nm f1 (KI _ _ f2) f3 f4 c1 (KI _ _ c2) c3 c4 c5 S.top ?_)
  obtain ⟨mb, hb1, hb2⟩ := I.mod.blt
  refine ks_loadName_global S.kd S.e1 (Calls.loadGlobal_builtin (by rw [I.ok.glob]; exact I.mod.glob.keeps I.bk) S.mg (by rw [I.ok.blt]; exact hb1.keeps I.bk) ((hb2 "super" (by decide)).trans (by decide +kernel : bootBuiltins "super" = some (.type "super"))) ⟨rfl, ?_⟩)
  refine wpAny_loadName_free S.kd S.e2 l1 ⟨_, KI _ _ l2, l3⟩ ?_
  rw [f5]
  refine wpAny_loadName_local S.kd S.v0 hml lself ?_
  refine ks_wpAny_isType_cls hD1 hD2 ⟨rfl, ?_⟩
  obtain ⟨hh, gg, dd, tt, os⟩ := s
  refine ks_wpAny_call_super hD1 hD2 J.at_ J.cls (fun c e => ?_) (looks_mroIn KI M.sub) (fun h' e kp => ?_)
  · have := J.no
    unfold notCls at this
    rw [e] at this
    exact Bool.noConfusion this
  have I1 := ClX.pin_new (t' := tt) (o := ks_superObj D x C) I kp (Nat.le_refl _) e (fun v z => nomatch z)
  refine PySem.wpAt_of_wpAny (wpAny_bind (wpAny_standAt (wpAny_bind (wpAny_holding ?_))))
  obtain ⟨og, hog, hogc⟩ : ∃ og, h'.get? g = some og ∧ og.cls = .type "function" := by
    have ht : (X.K.lookup g).map (·.cls) = some (.type "function") := M.ty
    cases z : X.K.lookup g with
    | none => rw [z] at ht; cases ht
    | some og => rw [z] at ht; exact ⟨og, I1.kIn _ _ z, Option.some.inj ht⟩
  have at2 := M.at_
  unfold ks_superIn at at2
  rw [hC] at at2
  have noOpq := looks_opaque (M := model X.prog X.w) I1.kIn S.tp (C := C)
  have mro : Looks (model X.prog X.w) h' (mroOf (.ref C)) cdC.mro := fun A Q E s k q => wpAny_bind ((looks_clsIn I1.kIn hC) A _ E s k (wpAny_pure q))
  have I2 := ClX.pin_new (t' := tt + 1) (o := methodObj (.ref g) (.ref x)) (ClX.unpin I1) (h' := h'.push (methodObj (.ref g) (.ref x))) (fun _ _ z => Heap.get?_push_of_some _ z) (Nat.le_refl _) (Heap.get?_push_size h' rfl) (fun v z => nomatch z)
  have fin := k _ _ I2 (ClX.base_none (ClX.unpin I1) (Nat.le_refl _))
  cases pl with
  | some pl => exact ks_wpAny_getMethod_super (so := hh.objs.size) e noOpq (l₀ := cdC.mro) mro rfl I1.kIn at2 hog hogc (ks_ne KI J hC) M.nm fin
  | none => exact wpAny_bind (super_attr (so := hh.objs.size) e noOpq (l₀ := cdC.mro) mro rfl I1.kIn at2 hog hogc (ks_ne KI J hC) M.nm (wpAny_pure fin))
end
end TF
end
section
set_option maxHeartbeats 4000000
namespace TF
open PySem PySem.Spec PyProof.Rows L2 StX PySem.W PySem.Calls
/-! ### readings where the frame's own code stands on top -/
structure PEAt (X : Cx) (body : List Stmt) (e : Expr) (te : TE) : Prop where
  run : ∀ (pins : List (Addr × Obj)) (s : Shared) (σ : L2.St) (H : Hp) (Q : VK), Inv X pins σ H s → te σ H Q → PySem.wpAt (model X.prog X.w) X.A (.func body X.env) (eval e X.env) (EP X pins σ Q) X.xe s
structure PSAt (X : Cx) (body : List Stmt) (st : Stmt) (t : TS) : Prop where
  run : ∀ (pins : List (Addr × Obj)) (s : Shared) (σ : L2.St) (H : Hp) (D : Ends), Inv X pins σ H s → t D σ H → PySem.wpAt (model X.prog X.w) X.A (.func body X.env) (exec st X.env) (SP X pins D) X.xe s
structure PSsAt (X : Cx) (body : List Stmt) (sts : List Stmt) (t : TS) : Prop where
  run : ∀ (pins : List (Addr × Obj)) (s : Shared) (σ : L2.St) (H : Hp) (D : Ends), Inv X pins σ H s → t D σ H → PySem.wpAt (model X.prog X.w) X.A (.func body X.env) (execs sts X.env) (SP X pins D) X.xe s
section
variable {X : Cx} {body sts : List Stmt} {st : Stmt} {e : Expr} {te : TE} {t u : TS} {pos : Pos}
theorem PS.at (h : PS X st t) : PSAt X body st t := ⟨fun pins s σ H D I q => PySem.wpAt_of_wpAny (h.run pins s σ H D I q)⟩
theorem PSs.at (h : PSs X sts t) : PSsAt X body sts t := ⟨fun pins s σ H D I q => PySem.wpAt_of_wpAny (h.run pins s σ H D I q)⟩
theorem pss_consAt (h1 : PSAt X body st t) (h2 : PSsAt X body sts u) : PSsAt X body (st :: sts) (tSeq t u) := by
  refine ⟨fun pins s σ H D I q => PySem.ks_wpAt_execs_cons (PySem.ks_wpAt_mono (h1.run pins s σ H _ I q) (fun f s' hs => ?_) fun _ _ z => z)⟩
  cases f with
  | next =>
    obtain ⟨σ', H', J, q'⟩ := hs
    exact h2.run pins s' σ' H' D J q'
  | brk => exact hs
  | cont => exact hs
  | ret v => exact hs
theorem ps_exprAt (he : PEAt X body e te) (hi : interactive X.env = false := by rfl) (hs : swapsWith e none pos.line X.env = pure false := by rfl) : PSAt X body (.Expr e pos) (tDrop te) :=
  ⟨fun pins s σ H D I q => PySem.ks_wpAt_Expr_any (hi := hi) (hs := hs) (PySem.ks_wpAt_mono (he.run pins s σ H _ I q) (fun v s' ⟨_, H', J, _, q'⟩ => ⟨σ, H', J, q'⟩) fun _ _ z => z)⟩
theorem ps_retAt (he : PEAt X body e te) : PSAt X body (.Return (some e) pos) (tRet te) :=
  ⟨fun pins s σ H D I q => PySem.ks_wpAt_Return_some (PySem.ks_wpAt_mono (he.run pins s σ H _ I q) (fun v s' ⟨x, H', J, r, q'⟩ => ⟨x, σ, H', J, r, q'⟩) fun _ _ z => z)⟩
theorem ps_setAt {i : Nat} {x : Str} {py : Pos} (hN : X.N.Nodup) (hi : X.N[i]? = some x) (hx : Loc X.env.scope x) (he : PEAt X body e te) (hf : X.fn x = true ∨ X.env.scope.names.lookup x = some .local := by first | exact .inl rfl | exact .inr rfl)
    (hs : swapsWith e (some (.Name x py)) pos.line X.env = pure false := by rfl) : PSAt X body (.Assign [.Name x py] e pos) (tAsg te (gName i)) :=
  ⟨fun pins s σ H D I q => PySem.ks_wpAt_Assign_Name (hs := hs) (PySem.ks_wpAt_mono (he.run pins s σ H _ I q) (fun v s' ⟨y, H', J, r, q'⟩ => store_ok J hN hi hx r (fun s2 J2 => ⟨_, H', J2, q'⟩) hf) fun _ _ z => z)⟩
end
section
variable {X : Cx} {body : List Stmt} {C D g : Addr} {m sf : Str} {p0 p1 apos pos kpos : Pos} {e : Expr} {es : List Expr} {te : TE} {t : TA} {CX : CXT} {k : Nat} {sp : Sp} {spk : List V → List (Str × V) → Hp → VK → XK → Prop} {E : XK}
/-- super().m(e, ..) -/
def tSup (C : Addr) (sp : Sp) (E : XK) (t : TA) : TE := fun σ H Q => ∃ x dx fs, σ[0]? = some (some (.ref x)) ∧ H x = some (.ins C dx fs) ∧ t σ H fun vs H1 => sp (.ref x :: vs) H1 Q E
theorem pe_super {pl : Sem Bool} (S : SupX X sf D) (M : SupM X.K C D m g) (F : FnR X.prog X.w X.K X.mg X.base CX k g sp) (hr : Room k X.A) (hx : Passes CX X E) (ha : PA X (e :: es) t)
    (he : eval (.Call (.Attribute (.Call (.Name "super" p0) [] [] p1) m apos) (e :: es) [] pos) X.env = (do
      let ov ← attributeBase (.Call (.Name "super" p0) [] [] p1) m X.env (eval (.Call (.Name "super" p0) [] [] p1) X.env)
      standAt apos.atName
      let (f, first) ← holding [ov] (getMethod ov m pl)
      callWith pos f first (backTo pos (starEach (e :: es) X.env)) (backToKw pos (keywordEach [] X.env))) := by rfl)
    (hst : starEach (e :: es) X.env = (false, eval e X.env) :: starEach es X.env := by rfl) (hpl : (backTo pos (starEach es X.env)).any (·.1) = false := by rfl) :
    PEAt X body (.Call (.Attribute (.Call (.Name "super" p0) [] [] p1) m apos) (e :: es) [] pos) (tSup C sp E t) := by
  refine ⟨fun pins s σ H Q I ⟨x, dx, fs, hσ, hx', q⟩ => at_super (pl := some pl) S M I hσ hx' he fun qa s' J hb => ?_⟩
  refine thn (ClX.callwith_cm (C := x) J hb M.fi (thn (ha.run pos _ s' σ H _ J q) fun us s2 ⟨vs, H2, J2, r, q2⟩ => ⟨⟨ClX.pin_at J2, J2.kIn⟩, ClX.run_cm (C := x) F hr hx J2 r q2⟩) hst hpl) fun _ _ z => z
/-- super().m(**e) -/
def tSupKw (C : Addr) (spk : List V → List (Str × V) → Hp → VK → XK → Prop) (E : XK) (te : TE) : TE := fun σ H Q => ∃ x dx fs, σ[0]? = some (some (.ref x)) ∧ H x = some (.ins C dx fs) ∧
  te σ H fun y H1 => ∃ (a : Addr) (ws : List (Str × V)), y = .ref a ∧ H1 a = some (.dK (ws.map fun q => ((Sum.inr q.1 : Key), q.2))) ∧ ws.length ≤ 1000 ∧ spk [.ref x] ws H1 Q E
theorem pe_superkw (S : SupX X sf D) (M : SupM X.K C D m g) (F : FnKw X.prog X.w X.K X.mg X.base CX k g spk) (hr : Room k X.A) (hx : Passes CX X E) (hE : PE X e te)
    (he : eval (.Call (.Attribute (.Call (.Name "super" p0) [] [] p1) m apos) [] [⟨none, e, kpos⟩] pos) X.env = (do
      let ov ← attributeBase (.Call (.Name "super" p0) [] [] p1) m X.env (eval (.Call (.Name "super" p0) [] [] p1) X.env)
      standAt apos.atName
      let (f, first) ← holding [ov] (superAcc none ov m)
      callWith pos f first (backTo pos (starEach [] X.env)) (backToKw pos (keywordEach [⟨none, e, kpos⟩] X.env))) := by rfl)
    (hs : backToKw pos (keywordEach [⟨none, e, kpos⟩] X.env) = backToKw pos [(none, eval e X.env)] := by rfl) (hs0 : backTo pos (starEach [] X.env) = [] := by rfl) :
    PEAt X body (.Call (.Attribute (.Call (.Name "super" p0) [] [] p1) m apos) [] [⟨none, e, kpos⟩] pos) (tSupKw C spk E te) := by
  refine ⟨fun pins s σ H Q I ⟨x, dx, fs, hσ, hx', q⟩ => at_super (pl := none) S M I hσ hx' he fun qa s' J hb => ?_⟩
  rw [hs, hs0]
  refine kw_callWith (P := fun h => MethP X.K qa g (.ref x) h) rfl (keeps_M M.fi) ?_
  refine args_kw ?_
  have hle : s'.heap.objs.size ≤ s'.heap.objs.size := Nat.le_refl _
  have hfr : H s'.heap.objs.size = none := J.hok.fresh hle
  have fp := J.fpOk hle hfr
  have J1 := ClX.pin_new (t' := s'.toks) (o := ({ cls := .type "dict", data := .dict #[] } : Obj)) J (h' := s'.heap.push { cls := .type "dict", data := .dict #[] }) (fun _ _ z => Heap.get?_push_of_some _ z) hle (Heap.get?_push_size s'.heap rfl) (fun v z => nomatch z)
  refine wpAny_bind (thn (hE.run _ _ σ H _ J1 q) fun u s1 ⟨y, H1, I1, ry, a, ws, ey, ha, hz, q⟩ => wpAny_bind (wpAny_standAt (wpAny_pure ?_)))
  subst ey
  obtain rfl : u = Value.ref a := ry
  have hd := ClX.pin_at I1
  have hdn := ClX.pin_un I1
  obtain ⟨z, hm, more, rel, dd⟩ := dk_of I1.hok ha
  obtain ⟨kws, rfl, rk⟩ := kv_split rel
  have ne : s'.heap.objs.size ≠ a := fun z => by
    dsimp only at hdn
    rw [z, ha] at hdn
    cases hdn
  refine ⟨a, kws, rfl, hm, ne, ⟨_, #[], 0, hd, ⟨rfl, rfl, rfl⟩, rfl, fun _ he => by simp at he, Pairs.nil, List.nodup_nil⟩, dd, ?_, fun h' sb => ?_⟩
  · have := congrArg List.length (kv_names rk)
    simp at this
    omega
  · obtain ⟨f0, f1, f2, f3, f4, f5⟩ := fp
    have I2 : Inv X ((qa, methodObj (.ref g) (.ref x)) :: pins) σ H1 { s1 with heap := h' } := (ClX.unpin I1).turned (t' := s1.toks) (fun b o hb e => (sb.2 b hb).trans e) hdn f1 f3 f4 f5
    refine ⟨⟨ClX.pin_at I2, I2.kIn⟩, ?_⟩
    refine thn (wpAny_call (PySem.W.method_call (ClX.pin_at I2) (codeAny_mono (F X.A X.stack _ H1 [.ref x] kws [.ref x] ws Q E hr I2.env0 (.cons rfl .nil) rk q) fun r s2 got => ?_))) fun _ _ y => ClX.unpinE (p := (qa, methodObj (.ref g) (.ref x))) y
    cases r with
    | error e => exact hx _ σ H1 _ e s2 I2 got
    | ok fl =>
      cases fl with
      | ret u => exact I2.after got
      | next => exact False.elim got
      | brk => exact False.elim got
      | cont => exact False.elim got
end
end TF
end
section
set_option maxHeartbeats 4000000
namespace TF
open PySem PySem.Spec PyProof.Rows L2 StX PySem.W PySem.Calls NdefX
/-! ### a method that holds the cell __class__ -/
/-- the words of a method that holds __class__ -/
abbrev supF (name qual : Str) (st : Stmt) (cc c : Addr) : NF := ⟨name, qual, defArgs st, defBody st, defScope st, [("__class__", cc)], c⟩
abbrev supD (name qual : Str) (st : Stmt) (cc c : Addr) (kV doc pm : Value) (an : Option Addr) (ct : Value) : FuncData := PySem.W.fnX name qual (defArgs st) (defBody st) (defScope st) [("__class__", cc)] .none kV doc pm an (.ref c) ct
/-- it stands in K: D the class that it names -/
structure SupO (K : Frag) (f : Addr) (name qual : Str) (st : Stmt) (D cc c : Addr) (kV doc pm : Value) (an : Option Addr) (ct : Value) : Prop where
  lk : ∃ oc od osl, K.lookup f = some ⟨oc, od, .func (supD name qual st cc c kV doc pm an ct), osl⟩
  cd : PySem.W.codeIn K (.ref c) qual = true
  ce : ∃ oc : Obj, K.lookup cc = some oc ∧ oc.data = .cell (some (.ref D))
  cl : (clsIn K D).isSome = true
section
variable {CX : CXT} {P : Program} {w : World} {K : Frag} {mg : Str → Option Value} {base : Heap} {k : Nat} {f D cc c : Addr} {name qual : Str} {st : Stmt} {kV doc pm ct : Value} {an : Option Addr} {N ps : List Str} {sp : Sp}
theorem run_sup {A : Around} {outer : List Env} {s : Shared} {H : Hp} {args : Args} {Q : VK} {E : XK} {G : List V → Hp → Prop} (O : SupO K f name qual st D cc c kV doc pm an ct) (S : NScope N ps ["__class__"] (defScope st)) (hr : Room (k + 1) A) (e0 : Env0 P w K mg base A outer s H)
    (hb : Bnd CX P w K mg base (supD name qual st cc c kV doc pm an ct) args ps A outer s H E G)
    (hbody : ∀ (s2 : Shared) (H2 : Hp) (vs : List V), G vs H2 → Room k (A.deeper (envF (supF name qual st cc c) f s2.heap.objs.size)) →
      ∃ t, PSsAt (ncx CX P w K mg base N (supF name qual st cc c) f A outer s2 H2 E) (defBody st) (defBody st) t ∧ t { nx := fun _ H' => Q .non H', rt := Q } (startF N vs [some (.ref D)]) H2) : codeAny (model P w) A (.call (.ref f) args) (CR CX outer P w H s Q E) s := by
  obtain ⟨oc, od, osl, lk⟩ := O.lk
  obtain ⟨co, hc1, hc2⟩ := O.ce
  have KB : K.In base := e0.mod.kin
  have KX : K.In s.heap := KB.keeps fun b o e => (e0.bs b o e).1
  refine codeAny_call_function hr.depth (KX _ _ lk) rfl S.co S.gen rfl (PySem.W.codeRec_of KX O.cd) ?_
  refine hb _ _ _ fun s2 H2 vs us e2 un ho hx r hl g => ?_
  have lim : s2.heap.NoLimit := e0.mod.nolimit.keeps fun b o e => (e2.bs b o e).1
  have C : CellsAt (supF name qual st cc c).cl ["__class__"] [some (.ref D)] s2.heap H2 := by
    have a1 : H2 cc = none := (e2.bs cc co (KB _ _ hc1)).2
    have a2 : s2.heap.get? cc = some co := (e2.bs cc co (KB _ _ hc1)).1
    refine ⟨rfl, fun y c' e => ?_, fun x y c' e1 e2 => ?_, fun i y e => ?_⟩
    · have : c' = cc := by
        have q := PySem.mem_of_lookup e
        simp at q
        exact q.2
      subst this
      exact ⟨a1, _, co, a2, hc2⟩
    · have q1 := PySem.mem_of_lookup e1
      have q2 := PySem.mem_of_lookup e2
      simp at q1 q2
      rw [q1.1, q2.1]
    · cases i with
      | zero =>
        cases e
        refine ⟨cc, rfl, fun v ev => ?_⟩
        cases ev
        exact ⟨.ref D, rfl, co, a2, hc2⟩
      | succ n => simp at e
  refine wpAny_newFunctionEnv S.nocell (fun ⟨n, _⟩ hy => S.par n (List.of_mem_zip hy).1) (fun h₁ hns hsb => ⟨lim.fresh _ hsb, ?_⟩) S.kind
  show codeAny _ _ (.func (defBody st) (envF (supF name qual st cc c) f s2.heap.objs.size)) _ _
  refine ks_codeAny_funcAt ?_
  have kp : ∀ b o, s2.heap.get? b = some o → h₁.get? b = some o := fun b o e => hsb.extBut b o (Nat.ne_of_lt (Heap.lt_size e)) (Heap.get?_push_of_some _ e)
  obtain ⟨t, ht, hq⟩ := hbody s2 H2 vs g (hr.deeper _)
  have I : Inv (ncx CX P w K mg base N (supF name qual st cc c) f A outer s2 H2 E) [] (startF N vs [some (.ref D)]) H2 { s2 with heap := h₁, toks := s2.toks + (ps.zip us).length } := inv_startN S hr.hd e2 hl r C hns kp
  refine PySem.ks_wpAt_mono (ht.run [] _ (startF N vs [some (.ref D)]) H2 _ I hq) (fun fl s' hs => ?_) fun e s' hs => ?_
  · have fin : ∀ {σ' : L2.St} {H' : Hp} {v : V} {u : Value}, Inv (ncx CX P w K mg base N (supF name qual st cc c) f A outer s2 H2 E) [] σ' H' s' → L2.RelV v u → Q v H' → CE outer P w H s Q u s' :=
      fun {σ' H' v u} J rv q => ⟨v, H', J.os.trans ho, J.bare, un.trans J.base, J.hok, rv, q⟩
    cases fl with
    | ret u =>
      obtain ⟨v, σ', H', J, rv, q⟩ := hs
      exact fin J rv q
    | next =>
      obtain ⟨σ', H', J, q⟩ := hs
      exact fin (v := V.non) (u := Value.none) J rfl q
    | brk =>
      obtain ⟨_, _, _, q⟩ := hs
      exact False.elim q
    | cont =>
      obtain ⟨_, _, _, q⟩ := hs
      exact False.elim q
  · exact wpAny_mono hs (fun _ s'' z => hx e s'' z) fun e' s'' z => hx e' s'' z
/-- bound without new objects -/
theorem bnd_to {A : Around} {outer : List Env} {s : Shared} {H : Hp} {args : Args} {E : XK} {fd : FuncData} {us : List Value} {vs : List V} {G : List V → Hp → Prop} (e0 : Env0 P w K mg base A outer s H) (hb : BindsTo s fd args (ps.zip us)) (r : Vals vs us) (hl : vs.length = ps.length) (g : G vs H) :
    Bnd CX P w K mg base fd args ps A outer s H E G := fun A' Ex Q h => hb _ _ _ _ (h s H vs us e0 (Un.refl ..) rfl (fun _ _ z => z) r hl g)
/-- THE RULE: a method with super(), called with its own values -/
theorem fn_sup (O : SupO K f name qual st D cc c kV doc pm an ct) (S : NScope N ps ["__class__"] (defScope st)) (len : ∀ vs H Q E, sp vs H Q E → vs.length = ps.length)
    (hbody : ∀ (A : Around) (outer : List Env) (s : Shared) (H : Hp) (vs : List V) (Q : VK) (E : XK), Room k (A.deeper (envF (supF name qual st cc c) f s.heap.objs.size)) → sp vs H Q E →
      ∃ t, PSsAt (ncx CX P w K mg base N (supF name qual st cc c) f A outer s H E) (defBody st) (defBody st) t ∧ t { nx := fun _ H' => Q .non H', rt := Q } (startF N vs [some (.ref D)]) H) :
    FnOk P w K mg base CX (k + 1) f (supD name qual st cc c kV doc pm an ct) ps sp :=
  ⟨len, fun A outer s H args us vs Q E hr e0 hb r h => run_sup (G := fun ws H2 => ws = vs ∧ H2 = H) O S hr e0 (bnd_to e0 hb r (len _ _ _ _ h) ⟨rfl, rfl⟩) fun s2 H2 ws ⟨e1, e2⟩ hr' => by
    subst e1 e2
    exact hbody A outer s2 _ _ Q E hr' h⟩
end
section
variable {name qual : Str} {params : Arguments} {body : List Stmt} {scope : Scope} {cl : List (Str × Addr)} {kV doc pm cdv ct : Value} {an : Option Addr} {p1 pk : Str}
theorem bind_kwX (p : KwPar params [p1] pk) {u : Value} {kws : List (Str × Value)} (hk : ∀ q ∈ kws, q.1 ≠ p1) (hz : kws.length ≤ sizeLine) :
    bindArgs (PySem.W.fnX name qual params body scope cl .none kV doc pm an cdv ct) ⟨[u], kws⟩ = (do
      let d ← (alloc ({ cls := .type "dict", data := .dict #[] } : Obj) : Sem Addr)
      let _ ← kws.foldlM (fun _ a => nsSet d a.1 a.2) PUnit.unit
      pure [(p1, u), (pk, Value.ref d)]) := by
  obtain ⟨po, ar, va, ko, ⟨x, kwa, ex⟩⟩ := p
  unfold bindArgs
  simp only [PySem.W.fnX, po, ar, va, ko, kwa, List.map_nil, List.nil_append]
  rw [kw_loop kws _ fun q hq s => by
    have n : ([p1].contains q.1 || ([] : List Str).contains q.1) = false := by
      simp
      exact hk q hq
    rw [if_neg (by rw [n]; decide)]; rfl]
  have big : ¬ (kws.length > sizeLine + 1) := by omega
  simp [big, seqNone, ex]
end
section
variable {CX : CXT} {P : Program} {w : World} {K : Frag} {mg : Str → Option Value} {base : Heap} {k : Nat} {f D cc c : Addr} {name qual : Str} {st : Stmt} {kV doc pm ct : Value} {an : Option Addr} {N ps : List Str} {pk : Str} {sp : Sp}
/-- keywords gathered: what binding does -/
theorem bnd_kw {A : Around} {outer : List Env} {s : Shared} {H : Hp} {us : List Value} {kws : List (Str × Value)} {vs : List V} {ws : List (Str × V)} {E : XK} {fd : FuncData} (e0 : Env0 P w K mg base A outer s H) (hCX : CXUp CX) (r : Vals vs us) (rk : KV ws kws) (hl : vs.length = ps.length)
    (hz : ws.length ≤ 1000) (hn : (ws.map (·.1)).Nodup)
    (hb : bindArgs fd ⟨us, kws⟩ = (do
      let d ← (alloc ({ cls := .type "dict", data := .dict #[] } : Obj) : Sem Addr)
      let _ ← kws.foldlM (fun _ a => nsSet d a.1 a.2) PUnit.unit
      pure (ps.zip us ++ [(pk, Value.ref d)]))) :
    Bnd CX P w K mg base fd ⟨us, kws⟩ (ps ++ [pk]) A outer s H E (fun xs H2 => ∃ D, H D = none ∧ xs = vs ++ [V.ref D] ∧ H2 = upd H D (.dK (ws.map fun q => ((Sum.inr q.1 : Key), q.2)))) := by
  intro A' Ex Q' h
  have hnD : H s.heap.objs.size = Option.none := e0.hok.fresh (Nat.le_refl _)
  have names := kv_names rk
  have hl1 : us.length = ps.length := by rw [← r.length]; exact hl
  have hlk : kws.length = ws.length := by have := congrArg List.length names; simpa using this.symm
  rw [hb]
  refine wpAny_bind (wpAny_alloc (wpAny_bind ?_))
  have d0 : (s.heap.push { cls := .type "dict", data := .dict #[] }).DictOf (mixKind P w) s.heap.objs.size [] := Heap.DictOf.new s.heap
  refine fill_kw (s := { s with heap := s.heap.push { cls := .type "dict", data := .dict #[] } }) d0 ?_ fun h' tk hd sb => wpAny_pure ?_
  · have : (kws.map fun q => (Sum.inr q.1 : Key)) = (ws.map (·.1)).map Sum.inr := by rw [names, List.map_map]; rfl
    rw [List.map_nil, List.nil_append, this]
    exact hn.map (f := Sum.inr) fun a b ne e => ne (Sum.inr.inj e)
  · rw [List.nil_append] at hd
    have kp : ∀ b x, s.heap.get? b = some x → h'.get? b = some x := fun b x e => (sb.2 b (Nat.ne_of_lt (Heap.lt_size e))).trans (Heap.get?_push_of_some _ e)
    have sz : s.heap.objs.size ≤ h'.objs.size := by
      obtain ⟨o, _, _, ho, _⟩ := hd
      exact Nat.le_of_lt (Heap.lt_size ho)
    have new : ObjOk P w (upd H s.heap.objs.size (.dK (ws.map fun q => ((Sum.inr q.1 : Key), q.2)))) h' s.heap.objs.size (.dK (ws.map fun q => ((Sum.inr q.1 : Key), q.2))) :=
      ⟨by rw [List.length_map, sizeLine_eq]; omega, beq_eq_false_iff_ne.mpr (Ne.symm (Nat.ne_of_lt (env0_big e0))), _, kv_inr rk, hd⟩
    have un : Un (frs outer) [] H (upd H s.heap.objs.size (.dK (ws.map fun q => ((Sum.inr q.1 : Key), q.2)))) s.heap h' := Un.laid kp (Nat.le_refl _) hnD
    have z := h _ _ (vs ++ [V.ref s.heap.objs.size]) (us ++ [Value.ref s.heap.objs.size]) (env0_more (t' := tk) e0 kp sz new) un rfl (fun e s' => hCX outer s H _ _ E e s' un kp rfl) (r.append (.cons rfl .nil)) (by rw [List.length_append, List.length_append, hl] <;> rfl) ⟨_, hnD, rfl, rfl⟩
    rw [List.zip_append hl1.symm] at z
    exact z
/-- THE RULE: a method with super() and **cells -/
theorem fn_supkw (O : SupO K f name qual st D cc c kV doc pm an ct) (S : NScope N ["self", pk] ["__class__"] (defScope st)) (hCX : CXUp CX) (p : KwPar (defArgs st) ["self"] pk)
    (hbody : ∀ (A : Around) (outer : List Env) (s : Shared) (H : Hp) (vs : List V) (Q : VK) (E : XK), Room k (A.deeper (envF (supF name qual st cc c) f s.heap.objs.size)) → sp vs H Q E →
      ∃ t, PSsAt (ncx CX P w K mg base N (supF name qual st cc c) f A outer s H E) (defBody st) (defBody st) t ∧ t { nx := fun _ H' => Q .non H', rt := Q } (startF N vs [some (.ref D)]) H) :
    FnKw P w K mg base CX (k + 1) f (spKw 1 ["self"] sp) := by
  intro A outer s H us kws vs ws Q E hr e0 r rk hsp
  obtain ⟨hl, hz, hn, hp, hq⟩ := hsp
  obtain ⟨v, rfl⟩ : ∃ v, vs = [v] := by
    match vs, hl with
    | [v], _ => exact ⟨v, rfl⟩
  cases r with
  | cons r1 r2 =>
    cases r2
    have names := kv_names rk
    have hkp : ∀ q ∈ kws, q.1 ≠ "self" := fun q hq => by
      have m : q.1 ∈ ws.map (·.1) := by rw [names]; exact List.mem_map_of_mem hq
      obtain ⟨x, hx, e⟩ := List.mem_map.mp m
      rw [← e]
      have := hp x hx
      simpa using this
    have hlk : kws.length = ws.length := by have := congrArg List.length names; simpa using this.symm
    refine run_sup O S hr e0 (bnd_kw (ps := ["self"]) (pk := pk) e0 hCX (.cons r1 .nil) rk rfl hz hn ?_) fun s2 H2 xs ⟨d, hd, ex, eH⟩ hr' => ?_
    · exact bind_kwX p hkp (by rw [hlk, sizeLine_eq]; omega)
    · subst ex eH
      exact hbody A outer s2 _ _ Q E hr' (hq d hd)
end
end TF
end
section
set_option maxHeartbeats 4000000
namespace TF
open PySem PySem.Spec PyProof.Rows L2 TL
/-! ### sorted texts -/
theorem ltCps_iff : ∀ a b : List Nat, ltCps a b = decide (a < b)
  | [], [] => rfl
  | [], _ :: _ => rfl
  | _ :: _, [] => rfl
  | a :: r, b :: t => by
    show (decide (a < b) || (a == b && ltCps r t)) = _
    rw [ltCps_iff r t]
    by_cases h : a < b
    · simp [h, List.cons_lt_cons_iff]
    · by_cases e : a = b
      · subst e
        simp [List.cons_lt_cons_iff]
      · simp [h, e, List.cons_lt_cons_iff]
theorem rising_all : ∀ {p : Str} {l : List Str}, risingS p l = true → (∀ x ∈ l, ¬ x.cps.toList < p.cps.toList) ∧ l.Pairwise fun a b => ¬ b.cps.toList < a.cps.toList
  | p, [], _ => ⟨fun _ h => (nomatch h), .nil⟩
  | p, x :: r, h => by
    have h : (!ltCps x.cps.toList p.cps.toList && risingS x r) = true := h
    rw [Bool.and_eq_true, ltCps_iff] at h
    have h1 : ¬ x.cps.toList < p.cps.toList := by simpa using h.1
    obtain ⟨h2, h3⟩ := rising_all h.2
    refine ⟨fun y hy => ?_, List.pairwise_cons.mpr ⟨h2, h3⟩⟩
    rcases List.mem_cons.mp hy with rfl | hy
    · exact h1
    · exact fun z => h1 (List.lt_of_le_of_lt (List.not_lt.mp (h2 y hy)) z)
theorem sorted_all {l : List Str} (h : sortedS l = true) : l.Pairwise fun a b => ¬ b.cps.toList < a.cps.toList := by
  cases l with
  | nil => exact .nil
  | cons x r => exact List.pairwise_cons.mpr (rising_all h)
theorem sorted_one : ∀ {zs ys : List Str}, ys.Perm zs → ys.Pairwise (fun a b => ¬ b.cps.toList < a.cps.toList) → zs.Pairwise (fun a b => a.cps.toList < b.cps.toList) → ys = zs
  | [], ys, h, _, _ => List.perm_nil.mp h
  | z :: zs, ys, h, h1, h2 => by
    obtain ⟨n1, n2⟩ := List.pairwise_cons.mp h2
    cases ys with
    | nil => exact absurd h.length_eq (by simp)
    | cons y r =>
      obtain ⟨m1, m2⟩ := List.pairwise_cons.mp h1
      have e : y = z := by
        rcases List.mem_cons.mp (h.mem_iff.mp (List.mem_cons_self ..)) with e | hy
        · exact e
        · rcases List.mem_cons.mp (h.mem_iff.mpr (List.mem_cons_self ..)) with e | hz
          · exact e.symm
          · exact absurd (n1 y hy) (m1 z hz)
      subst e
      rw [sorted_one (List.Perm.cons_inv h) m2 n2]
/-! ### catalogues in the heap, in some order -/
def CatAt (K : PySem.W.Frag) (H : Hp) (d : Addr) (cs : List Row) : Prop := ∃ es, EntsAt K H d es ∧ (es.map Ent.row).Perm cs
theorem EntsAt.same {K : PySem.W.Frag} {H H' : Hp} {d : Addr} {es : List Ent} (h : EntsAt K H d es) (s : Same H H') : EntsAt K H' d es := ⟨s _ _ h.1, fun e he => (h.2 e he).same s⟩
theorem CatAt.same {K : PySem.W.Frag} {H H' : Hp} {d : Addr} {cs : List Row} (h : CatAt K H d cs) (s : Same H H') : CatAt K H' d cs := by
  obtain ⟨es, h1, h2⟩ := h
  exact ⟨es, h1.same s, h2⟩
theorem ents_keys (es : List Ent) : (es.map Ent.kv).map (·.1) = (es.map (·.nm)).map Sum.inr := by rw [List.map_map, List.map_map]; rfl
theorem ents_names {es : List Ent} {cs : List Row} (h : (es.map Ent.row).Perm cs) : (es.map (·.nm)).Perm (cs.map (·.1)) := by
  have := h.map (·.1)
  rw [List.map_map] at this
  exact this
theorem names_sorted {es : List Ent} {cs : List Row} (h : (es.map Ent.row).Perm cs) (ok : OkRows cs) {ys : List Str} (p : ys.Perm (es.map (·.nm))) (s : sortedS ys = true) : ys = cs.map (·.1) :=
  sorted_one (p.trans (ents_names h)) (sorted_all s) (List.pairwise_map.mpr ok.up)
theorem OkRows.nd {cs : List Row} (ok : OkRows cs) : (cs.map (·.1)).Nodup := by
  refine List.pairwise_map.mpr (ok.up.imp fun {a b} h e => ?_)
  rw [e] at h
  exact List.lt_irrefl _ h
theorem ents_get : ∀ {es : List Ent} {nm : Str} {v : V}, valV (es.map Ent.kv) (.inr nm) = some v → ∃ e ∈ es, e.nm = nm ∧ v = .ref e.c
  | [], _, _, h => by cases h
  | e :: r, nm, v, h => by
    by_cases q : e.nm = nm
    · rw [List.map_cons, valV_pos (p := e.kv) (congrArg Sum.inr q)] at h
      exact ⟨e, List.mem_cons_self .., q, (Option.some.inj h).symm⟩
    · rw [List.map_cons, valV_neg (p := e.kv) (fun z => q (Sum.inr.inj z))] at h
      obtain ⟨e', h1, h2⟩ := ents_get h
      exact ⟨e', List.mem_cons_of_mem _ h1, h2⟩
theorem ents_has : ∀ {es : List Ent} {e : Ent}, e ∈ es → (es.map (·.nm)).Nodup → valV (es.map Ent.kv) (.inr e.nm) = some (.ref e.c)
  | x :: r, e, h, nd => by
    rw [List.map_cons] at nd
    obtain ⟨n1, n2⟩ := List.nodup_cons.mp nd
    rcases List.mem_cons.mp h with rfl | h
    · rw [List.map_cons, valV_pos (p := Ent.kv e) (k := .inr e.nm) rfl]
      rfl
    · have q : ¬ x.nm = e.nm := fun z => n1 (by rw [z]; exact List.mem_map_of_mem h)
      rw [List.map_cons, valV_neg (p := Ent.kv x) (fun z => q (Sum.inr.inj z))]
      exact ents_has h n2
/-- the row's cell -/
theorem cat_row {es : List Ent} {cs : List Row} (h : (es.map Ent.row).Perm cs) (ok : OkRows cs) {r : Row} (hr : r ∈ cs) : ∃ e ∈ es, e.row = r ∧ valV (es.map Ent.kv) (.inr r.1) = some (.ref e.c) := by
  obtain ⟨e, he, rfl⟩ := List.mem_map.mp (h.mem_iff.mpr hr)
  exact ⟨e, he, rfl, ents_has he ((ents_names h).nodup_iff.mpr ok.nd)⟩
theorem ents_len {es : List Ent} {cs : List Row} (h : (es.map Ent.row).Perm cs) : es.length = cs.length := by
  have := h.length_eq
  rwa [List.length_map] at this
/-! ### for k in d -/
section
variable {j : Nat} {d : Addr} {kvs : List (Key × V)} {g : TG} {tb : TS} {D : Ends} {σ : L2.St} {H : Hp}
theorem for_keys (hσ : σ[j]? = some (some (.ref d))) (hd : H d = some (.dK kvs)) (Pv : Nat → L2.St → Prop) (h0 : Pv 0 σ)
    (hs : ∀ i k v σ' H' (D' : Ends), kvs[i]? = some (k, v) → Pv i σ' → (∀ σ2 H2, Pv (i + 1) σ2 → Same H' H2 → D'.nx σ2 H2) → g (kV k) σ' H' fun σ2 H2 => tb D' σ2 H2)
    (hk : ∀ σ' H', Pv kvs.length σ' → Same H H' → D.nx σ' H') : tLock (tFor (iKeys (tVar j)) g tb) D σ H := by
  refine ⟨d, _, hd, trivial, fun od => ⟨_, hσ, d, od, rfl, .inl ⟨kvs, upd_same, for_it walk_keys (fun i σ' H' => Pv i σ' ∧ Same (upd H d (.frz od (.dK kvs))) H') ⟨h0, Same.refl _⟩ (fun i σ' H' _ pv => pv.2 _ _ upd_same) (fun i x σ' H' H'' hi pv y => ?_) fun σ' H' pv => ?_⟩⟩⟩
  · obtain ⟨rfl, k, v, e, rfl⟩ := y
    exact hs i k v σ' _ _ e pv.1 fun σ2 H2 p s => ⟨p, pv.2.trans s⟩
  · refine ⟨pv.2 _ _ upd_same, hk _ _ pv.1 fun b o e => ?_⟩
    by_cases q : b = d
    · rw [q, hd] at e
      rw [q, ← e]
      exact upd_same
    · rw [upd_ne q]
      exact pv.2 _ _ (by rw [upd_ne q]; exact e)
end
end TF
end
section
set_option maxHeartbeats 4000000
namespace TF
open PySem PySem.Spec PyProof.Rows L2 PySem.W PySem.Calls
section
variable {X : Cx} {CX : CXT} {k : Nat} {f C : Addr} {fd : FuncData} {ps : List Str} {sp : Sp} {E : XK} {m : Str} {pins : List (Addr × Obj)} {σ : L2.St} {H : Hp} {s : Shared} {Q : VK}
theorem run_at {A : Around} {us : List Value} {vs : List V} (F : FnOk X.prog X.w X.K X.mg X.base CX k f fd ps sp) (hb : Binds X.K fd ps []) (hr : Room k A) (e0 : Env0 X.prog X.w X.K X.mg X.base A X.stack s H) (hx : Passes CX X E) (I : Inv X pins σ H s) (r : Vals vs us) (h : sp vs H Q E) :
    wpAny (model X.prog X.w) A (call (.ref f) us) (EP X pins σ Q) X.xe s := by
  have hl : (us ++ []).length = ps.length := by rw [List.append_nil, ← r.length]; exact F.len _ _ _ _ h
  have hbt := hb s us I.kIn hl
  rw [List.append_nil] at hbt
  refine wpAny_call (codeAny_mono (F.run A X.stack s H ⟨us, []⟩ us vs _ E hr e0 hbt r h) fun r s' hq => ?_)
  cases r with
  | error e => exact hx pins σ H s e s' I hq
  | ok fl =>
    cases fl with
    | ret u => exact I.after hq
    | next => exact False.elim hq
    | brk => exact False.elim hq
    | cont => exact False.elim hq
/-- len(x), x of an own class with __len__ -/
theorem call_lenOwn (F : MOk X.prog X.w X.K X.mg X.base CX k C "__len__" sp) (hr : Room (k + 1) X.A) (hx : Passes CX X E) :
    CallR X (.builtin "len") (fun xs H Q => ∃ a dx fs, xs = [.ref a] ∧ H a = some (.ins C dx fs) ∧ sp [.ref a] H (fun v H' => ∃ n : Nat, v = .int n ∧ n < 2 ^ 63 ∧ Q (.int n) H') E) := by
  intro pins s σ H xs us Q I r h
  obtain ⟨a, dx, fs, rfl, ha, h⟩ := h
  obtain ⟨u, rfl, ru⟩ := vals1 r
  obtain rfl : u = Value.ref a := ru
  obtain ⟨f, fd, ps, h1, h2, h3⟩ := F.g
  obtain ⟨mA, J, _⟩ := ins_get I.hok ha
  obtain ⟨od, J, _⟩ := J.look
  obtain ⟨m, hF⟩ := I.fr
  refine len_K hF I.ok.mod.kin J h3.at_ h3.fn (thn (run_at h1 h2 hr.in1 I.env0.in1 hx I r h) fun v s' ⟨x, H', I', rx, n, ex, hn, q⟩ => ?_)
  subst ex
  obtain ⟨t, rfl⟩ := rx
  exact ⟨⟨by omega, by omega⟩, .int n, H', I'.tok _, ⟨_, rfl⟩, q⟩
/-- str(x), x of an own class with __str__ -/
theorem call_strOwn (F : MOk X.prog X.w X.K X.mg X.base CX k C "__str__" sp) (hr : Room (k + 2) X.A) (hx : Passes CX X E) :
    CallR X (.type "str") (fun xs H Q => ∃ a dx fs, xs = [.ref a] ∧ H a = some (.ins C dx fs) ∧ sp [.ref a] H (fun v H' => ∃ z : Str, v = .str z ∧ Q (.str z) H') E) := by
  intro pins s σ H xs us Q I r h
  obtain ⟨a, dx, fs, rfl, ha, h⟩ := h
  obtain ⟨u, rfl, ru⟩ := vals1 r
  obtain rfl : u = Value.ref a := ru
  obtain ⟨f, fd, ps, h1, h2, h3⟩ := F.g
  obtain ⟨mA, J, _⟩ := ins_get I.hok ha
  obtain ⟨od, J, _⟩ := J.look
  refine callType_newIn PySem.F.called_str (by decide) (PySem.F.typeCall_str_1 _) (PySem.F.newCall_str_1 _) (fun obj => PySem.F.args_object_init_2 obj _) PySem.F.entry_str_new
    (S := fun A R s' => A = X.A.in1 ∧ s' = s ∧ R = wants (fun obj s₁ => s₁.TypeIs obj "str" ∧ EP X pins σ Q obj s₁) X.xe) (.of_wp fun A R s' hS => ?_) ⟨rfl, rfl, rfl⟩
  obtain ⟨rfl, rfl, rfl⟩ := hS
  rw [str_new_tree]
  refine wpAny_bind (wpAny_pure ?_)
  refine wpAny_bind (wpAny_of_eq isSubtype_str_str ?_)
  refine wpAny_bind (wpAny_mono (Q := fun v s' => ∃ z t, v = Value.str z t ∧ EP X pins σ Q v s') ?_ (fun v s' ⟨z, t, ez, q⟩ => wpAny_pure ⟨v, rfl, by rw [ez]; exact typeIs_str _ _ _, q⟩) fun _ _ e => e)
  unfold Builtin.Str.strOf
  rw [if_neg (show ¬ Builtin.Str.isExactStr (Value.ref a) = true from fun z => nomatch (show false = true from z))]
  refine wpAny_bind (wpAny_cRoomFor (show X.A.in1.in1.units < cLine from hr.in1.in1.units0) ?_)
  refine wpAny_bind (m := callSpecial? (.ref a) (Str.ofString "__str__")) (special_fn I.kIn J h3.at_ (beq_iff_eq.mp h3.fn) (thn (run_at h1 h2 hr.in1.in1 I.env0.in1.in1 hx I r h) fun v s' ⟨x, H', I', rx, z, ex, q⟩ => ?_))
  subst ex
  obtain ⟨t, rfl⟩ := rx
  exact wpAny_pure ⟨z, t, rfl, .str z, H', I', ⟨_, rfl⟩, q⟩
end
/-! ### data of texts -/
theorem lay_strs : ∀ {ws : List Str}, (∀ x ∈ ws, PyData.strOk x = true) → PyData.canLayAll0 (ws.map PyData.str) = true
  | [], _ => by simp [PyData.canLayAll0]
  | x :: r, h => by
    have h1 := h x (List.mem_cons_self ..)
    have h2 := lay_strs (ws := r) fun y hy => h y (List.mem_cons_of_mem _ hy)
    simp [PyData.canLayAll0, PyData.canLay0, h1, h2]
theorem dep_strs : ∀ ws : List Str, PyData.depthAll (ws.map PyData.str) = 0
  | [] => by simp [PyData.depthAll]
  | x :: r => by simp [PyData.depthAll, PyData.depth, dep_strs r]
theorem sh_strs {ws : List Str} (h : ∀ x ∈ ws, PyData.strOk x = true) : SeqAt.shaped (.list (ws.map PyData.str)) = true := by
  simp [SeqAt.shaped, PyData.canLay0, PyData.depth, lay_strs h, dep_strs]
theorem sh_strsT {ws : List Str} (h : ∀ x ∈ ws, PyData.strOk x = true) : SeqAt.shaped (.tuple (ws.map PyData.str)) = true := by
  simp [SeqAt.shaped, PyData.canLay0, PyData.depth, lay_strs h, dep_strs]
theorem strs_all : ∀ ws xs : List Str, PyData.eqvAll (ws.map PyData.str) (xs.map PyData.str) = decide (ws = xs)
  | [], [] => by simp [PyData.eqvAll]
  | [], _ :: _ => by simp [PyData.eqvAll]
  | _ :: _, [] => by simp [PyData.eqvAll]
  | a :: r, b :: t => by
    simp only [List.map_cons, PyData.eqvAll, PyData.eqv, strs_all r t]
    by_cases h : a = b <;> by_cases h' : r = t <;> simp [h, h']
theorem strs_eqv (ws xs : List Str) : PyData.eqv (.list (ws.map PyData.str)) (.list (xs.map PyData.str)) = decide (ws = xs) := by
  show PyData.eqvAll _ _ = _
  exact strs_all ws xs
theorem strs_eqvT (ws xs : List Str) : PyData.eqv (.tuple (ws.map PyData.str)) (.tuple (xs.map PyData.str)) = decide (ws = xs) := by
  show PyData.eqvAll _ _ = _
  exact strs_all ws xs
abbrev pairD (p : Str × Str) : PyData := .tuple [.str p.1, .str p.2]
theorem lay_pairs : ∀ {ws : List (Str × Str)}, (∀ x ∈ ws, PyData.strOk x.1 = true ∧ PyData.strOk x.2 = true) → PyData.canLayAll0 (ws.map pairD) = true
  | [], _ => by simp [PyData.canLayAll0]
  | x :: r, h => by
    have h1 := h x (List.mem_cons_self ..)
    have h2 := lay_pairs (ws := r) fun y hy => h y (List.mem_cons_of_mem _ hy)
    simp [PyData.canLayAll0, PyData.canLay0, h1, h2]
theorem dep_pairs : ∀ ws : List (Str × Str), PyData.depthAll (ws.map pairD) ≤ 2
  | [] => by simp [PyData.depthAll]
  | x :: r => by
    have := dep_pairs r
    simp [PyData.depthAll, PyData.depth]
    omega
theorem sh_pairs {ws : List (Str × Str)} (h : ∀ x ∈ ws, PyData.strOk x.1 = true ∧ PyData.strOk x.2 = true) : SeqAt.shaped (.list (ws.map pairD)) = true := by
  have := dep_pairs ws
  simp [SeqAt.shaped, PyData.canLay0, PyData.depth, lay_pairs h]
  omega
theorem pairs_all : ∀ ws xs : List (Str × Str), PyData.eqvAll (ws.map pairD) (xs.map pairD) = decide (ws = xs)
  | [], [] => by simp [PyData.eqvAll]
  | [], _ :: _ => by simp [PyData.eqvAll]
  | _ :: _, [] => by simp [PyData.eqvAll]
  | (a, a') :: r, (b, b') :: t => by
    simp only [List.map_cons, PyData.eqvAll, PyData.eqv, pairs_all r t]
    by_cases h : a = b <;> by_cases h' : a' = b' <;> by_cases h'' : r = t <;> simp [h, h', h'']
theorem pairs_eqv (ws xs : List (Str × Str)) : PyData.eqv (.list (ws.map pairD)) (.list (xs.map pairD)) = decide (ws = xs) := by
  show PyData.eqvAll _ _ = _
  exact pairs_all ws xs
end TF
end
section
set_option maxHeartbeats 4000000
set_option pp.maxSteps 3000

namespace TF
open PySem PySem.Spec PyProof.Rows L2 TL
section
variable {P : Program} {w : World} {K : PySem.W.Frag} {mg : Str → Option Value} {base : Heap}
def spCc (K : PySem.W.Frag) : Sp := fun vs H Q _ => ∃ (d : Addr) (cs : List Row), vs = [.ref d] ∧ CatAt K H d cs ∧ OkRows cs ∧ ∀ H', Same H H' → Q .non H'
theorem scCc : FnScope ["cells", "name"] ["cells"] (defScope (tops 44)) := ⟨rfl, rfl, rfl, by decide +kernel, rfl, by decide +kernel, by decide +kernel⟩
theorem ok_cc (G : GDef K mg "check_catalogue" (tops 44)) (T : TxtA K mg) (C : CellA K) (Fcn : GOk P w K mg base CX0 1 "is_catalogue_name" spIcn) : GOk P w K mg base CX0 2 "check_catalogue" (spCc K) := by
  refine G.ok scCc (fun vs H Q E h => ?_) (fun _ _ _ _ _ _ us hl => match us, hl with | [_], _ => rfl) (fun f cdv A outer s H vs Q E hr h => ?_)
  · obtain ⟨d, cs, rfl, _⟩ := h
    rfl
  · obtain ⟨d, cs, rfl, ⟨es, hE, hp⟩, ok, k⟩ := h
    have hl : es.length = cs.length := ents_len hp
    have l26 := ok.ln
    have nmE : ∀ e ∈ es, nameOk e.nm = true := fun e he => ok.nm e.row (hp.mem_iff.mp (List.mem_map_of_mem he))
    refine ⟨_, (pss_cons (ps_lock (ps_for PassesOwn.never rfl (pi_keys (pv 0)) (pg_name (i := 1) scCc.nd rfl (Or.inl rfl)) (pss_one (ps_if (pt_not (pt_val (pe_cg Fcn (hr.mono (by decide)) pass0 rfl (pa_cons (pv 1) pa_nil)))) (pss_one ps_never) pss_nil))))
      (pss_cons (ps_if (pt_cmpR op_gt (pe_callB call_lenD (by rfl) T.z_len (by decide +kernel) (pa_cons (pv 0) pa_nil)) (pe_gc rfl T.c_MAX_NAMES) (nomark _)) (pss_one ps_never) pss_nil)
      (pss_one (ps_for PassesOwn.never rfl (pi_list (pe_callB (call_sortedD rfl) (by rfl) T.z_sorted (by decide +kernel) (pa_cons (pv 0) pa_nil))) (pg_name (i := 1) scCc.nd rfl (Or.inl rfl)) (pss_one (ps_if (pt_not (pt_val (pe_callB call_isi (by rfl) T.z_isinstance (by decide +kernel) (pa_cons (pe_dget (hu_of hr) (pv 0) (pv 1) (fun _ _ => rfl)) (pa_cons (pe_gc rfl T.c_Cell) pa_nil))))) (pss_one ps_never) pss_nil)))))), ?_⟩
    refine seqI ?_
    refine for_keys rfl hE.1 (fun i σ' => ∃ x, σ' = [some (.ref d), x]) ⟨_, rfl⟩ (fun i kk v σ' H' D' hi pv next => ?_) fun σ' H1 pv s1 => ?_
    · obtain ⟨x, rfl⟩ := pv
      rw [List.getElem?_map, Option.map_eq_some_iff] at hi
      obtain ⟨e, he, ek⟩ := hi
      cases ek
      have mem := List.mem_of_getElem? he
      refine ⟨_, rfl, e.nm, rfl, by have := name_len (nmE e mem); omega, fun H2 s2 => ?_⟩
      rw [nmE e mem]
      exact ⟨_, rfl, iteF (next _ _ ⟨_, rfl⟩ s2)⟩
    · obtain ⟨x, rfl⟩ := pv
      have hE1 := hE.same s1
      refine ⟨_, rfl, d, _, rfl, hE1.1, _, _, rfl, rfl, _, rfl, iteFr (decide_eq_false (by rw [List.length_map]; omega)) ?_⟩
      refine ⟨_, rfl, d, _, es.map (·.nm), rfl, .inl hE1.1, ents_keys es, by rw [List.length_map]; omega, fun ys p py sy hpn => ?_⟩
      rw [names_sorted hp ok py sy]
      have s2 := s1.trans (Same.new (o := .lst ((cs.map (·.1)).map V.str)) hpn)
      refine ⟨p, rfl, ⟨_, SqL.of upd_same⟩, ?_⟩
      let Pv : Nat → L2.St → Hp → Prop := fun i σ' H' => Same H H' ∧ H' p = some (.lst ((cs.map (·.1)).map V.str)) ∧ ∃ x, σ' = [some (.ref d), x]
      refine for_it walk_list Pv ⟨s2, upd_same, _, rfl⟩ (fun i σ' H' _ pv => SqL.of pv.2.1) (fun i x σ' H' H'' hi pv y => ?_) (fun σ' H' pv => k _ pv.1)
      obtain ⟨s3, hp3, x0, rfl⟩ := pv
      obtain ⟨rfl, hx⟩ := y
      rw [List.getElem?_map, List.getElem?_map, Option.map_map, Option.map_eq_some_iff] at hx
      obtain ⟨r, hr', rfl⟩ := hx
      obtain ⟨e, he, er, hv⟩ := cat_row hp ok (List.mem_of_getElem? hr')
      have hE3 := hE.same s3
      obtain ⟨dx, tb, tp, kd, hc, ht⟩ := hE3.2 e he
      refine ⟨_, rfl, _, rfl, d, _, rfl, ?_, _, _, _, _, true, rfl, .own _, .base (C.ty _ _ _ _ hc), C.is, _, rfl, iteF ⟨s3, hp3, _, rfl⟩⟩
      rw [← hv]
      exact DGet.k (k := .inr r.1) hE3.1
end
end TF
end
section
set_option maxHeartbeats 4000000
set_option pp.maxSteps 3000

namespace TF
open PySem PySem.Spec PyProof.Rows L2 TL StX
section
variable {P : Program} {w : World} {K : PySem.W.Frag} {mg : Str → Option Value} {base : Heap}
/-! ### defs with keywords, as they stand -/
theorem kwPar_of {a : Arguments} {ps : List Str} {x : Arg} (h1 : a.posonlyargs = []) (h2 : a.args.map (·.arg) = ps) (h3 : a.vararg = none) (h4 : a.kwonlyargs = []) (h5 : a.kwarg = some x) : KwPar a ps x.arg := ⟨h1, h2, h3, h4, x, h5, rfl⟩
theorem cxUp0 : CXUp CX0 := fun _ _ _ _ _ _ _ _ _ _ _ z => z
theorem GDef.kw {CX : CXT} {x pk : Str} {st : Stmt} {N : List Str} {k : Nat} {sp : Sp} (F : GDef K mg x st) (S : FnScope N [pk] (defScope st)) (hCX : CXUp CX) (p : KwPar (defArgs st) [] pk)
    (hbody : ∀ (f : Addr) (cdv : Value) (A : Around) (outer : List Env) (s : Shared) (H : Hp) (vs : List V) (Q : VK) (E : XK), Room k (A.deeper (envOfC x (defScope st) s.heap.objs.size f cdv)) → sp vs H Q E →
      ∃ t, PSs (cxOf CX P w K mg base N x (defScope st) f cdv A outer s H E) (defBody st) t ∧ t { nx := fun _ H' => Q .non H', rt := Q } (start N vs) H) : KOk P w K mg base CX (k + 1) x (spKw 0 [] sp) := by
  obtain ⟨f, fd, ⟨⟨oc, od, dV, kV, doc, pm, an, cdv, ct, osl, rfl, lk, hcd, hD, hK⟩, kp⟩, hm⟩ := F
  have hD : dV = .none := hD.elim (fun z => z.2) fun z => absurd rfl z.1
  subst hD
  refine ⟨f, fn_kw (ps := []) (pk := pk) lk hcd S hCX (fun us kws hl hn hz => ?_) fun A outer s H vs Q E hr h => hbody f cdv A outer s H vs Q E hr h, hm, kp⟩
  obtain rfl : us = [] := List.eq_nil_of_length_eq_zero hl
  exact bind_kw0 p hz
theorem MDef.mkKw {CX : CXT} {C : Addr} {qual pk : Str} {st : Stmt} {N : List Str} {k : Nat} {sp : Sp} (F : MDef K C "__init__" qual st) (M : ∃ f, Mk K C f) (S : FnScope N ["self", pk] (defScope st)) (hCX : CXUp CX) (p : KwPar (defArgs st) ["self"] pk)
    (hbody : ∀ (f : Addr) (cdv : Value) (A : Around) (outer : List Env) (s : Shared) (H : Hp) (vs : List V) (Q : VK) (E : XK), Room k (A.deeper (envOfC qual (defScope st) s.heap.objs.size f cdv)) → sp vs H Q E →
      ∃ t, PSs (cxOf CX P w K mg base N qual (defScope st) f cdv A outer s H E) (defBody st) t ∧ t { nx := fun _ H' => Q .non H', rt := Q } (start N vs) H) :
    ∃ f, Mk K C f ∧ Meth K C "__init__" f ∧ FnKw P w K mg base CX (k + 1) f (spKw 1 ["self"] sp) := by
  obtain ⟨f, fd, ⟨⟨oc, od, dV, kV, doc, pm, an, cdv, ct, osl, rfl, lk, hcd, hD, hK⟩, kp⟩, hm⟩ := F
  have hD : dV = .none := hD.elim (fun z => z.2) fun z => absurd rfl z.1
  subst hD
  obtain ⟨g, M⟩ := M
  have e : g = f := by
    have := M.init.symm.trans hm.at_
    cases this
    rfl
  subst e
  refine ⟨g, M, hm, fn_kw (ps := ["self"]) (pk := pk) lk hcd S hCX (fun us kws hl hn hz => ?_) fun A outer s H vs Q E hr h => hbody g cdv A outer s H vs Q E hr h⟩
  match us, hl with
  | [u], _ => exact bind_kw1 p (fun q hq => by have := hn q hq; simpa using this) hz
theorem line_eq (r : Row) : lineOf r = r.1 ++ " " ++ cellText r.2.1 r.2.2 := by
  show Txt.join " " (r.1 :: cWords r.2.1 r.2.2) = _
  rw [cellText, join_eq, join_eq]
  rfl
theorem line_len {r : Row} (hn : nameOk r.1 = true) (g : Shape r.2.1 r.2.2) : (lineOf r).length ≤ 10100 := by
  have h1 := cell_short g
  have h2 := name_len hn
  rw [line_eq, len_tl, tl_append, tl_append]
  rw [len_tl] at h1 h2
  have h4 : (tl " ").length = 1 := by decide
  rw [List.length_append, List.length_append, h4]
  omega
theorem cat_len {cs : List Row} (ok : OkRows cs) : ((cs.map lineOf).map (·.length)).sum + (cs.map lineOf).length * Str.length "\n" ≤ 16777216 := by
  have h1 := sum_le (k := 10100) (l := cs.map lineOf) fun w hw => by
    obtain ⟨r, hr, rfl⟩ := List.mem_map.mp hw
    exact line_len (ok.nm r hr) (ok.gd r hr).sh
  have h2 := ok.ln
  have h3 : Str.length "\n" = 1 := by decide
  rw [List.length_map] at h1 ⊢
  rw [h3]
  omega
theorem str_ok {z : Str} (h : ∀ c ∈ tl z, c < 128) : PyData.strOk z = true := by
  unfold PyData.strOk
  rw [Array.all_eq_true]
  intro i hi
  have := h z.cps[i] (by show z.cps[i] ∈ z.cps.toList; simp)
  exact decide_eq_true (by omega)
theorem join_low {y : Str} {parts : List Str} (h1 : ∀ c ∈ tl y, c < 128) (h2 : ∀ p ∈ parts, ∀ c ∈ tl p, c < 128) : ∀ c ∈ tl (Txt.join y parts), c < 128 := by
  intro c hc
  rw [join_eq, tl_join] at hc
  rcases joinL_mem hc with h | ⟨p, hp, hq⟩
  · exact h1 c h
  · obtain ⟨x, hx, rfl⟩ := List.mem_map.mp hp
    exact h2 x hx c hq
theorem name_low {z : Str} (h : nameOk z = true) : ∀ c ∈ tl z, c < 128 := by
  intro c hc
  obtain ⟨_, h2⟩ := Bool.and_eq_true_iff.mp h
  have := letters (of_decide_eq_true (List.all_eq_true.mp h2 c hc))
  omega
theorem words_low {N : Nat} {ms : List Nat} : ∀ p ∈ cWords N ms, ∀ c ∈ tl p, c < 128 := fun p hp c hc => by
  by_cases q : c < 128
  · exact q
  · exact absurd hc (cWords_free (by omega) p hp)
theorem cell_low {N : Nat} {ms : List Nat} : ∀ c ∈ tl (cellText N ms), c < 128 := join_low (by decide) words_low
theorem line_low {r : Row} (h : nameOk r.1 = true) : ∀ c ∈ tl (lineOf r), c < 128 := join_low (by decide) fun p hp => by
  rcases List.mem_cons.mp hp with rfl | hp
  · exact name_low h
  · exact words_low p hp
/-- the entries in the rows' order -/
theorem ents_sort {H : Hp} {d : Addr} {es : List Ent} {cs : List Row} (hE : EntsAt K H d es) (hp : (es.map Ent.row).Perm cs) : ∃ es' : List Ent, es'.Perm es ∧ es'.map Ent.row = cs := perm_lift Ent.row hp.symm es rfl
/-! ### format_catalogue -/
def spFc (K : PySem.W.Frag) : Sp := fun vs H Q _ => ∃ (d : Addr) (cs : List Row), vs = [.ref d] ∧ CatAt K H d cs ∧ OkRows cs ∧ ∀ H', Same H H' → Q (.str (catText cs)) H'
theorem scFc : FnScope ["cells", "lines", "name"] ["cells"] (defScope (tops 45)) := ⟨rfl, rfl, rfl, by decide +kernel, rfl, by decide +kernel, by decide +kernel⟩
theorem ok_fc (G : GDef K mg "format_catalogue" (tops 45)) (T : TxtA K mg) (C : CellA K) (Fcc : GOk P w K mg base CX0 2 "check_catalogue" (spCc K)) (Fst : MOk P w K mg base CX0 1 (aCell K) "__str__" (spCStr K)) :
    KOk P w K mg base CX0 4 "format_catalogue" (spKw 0 [] (spFc K)) := by
  refine G.kw scFc cxUp0 ⟨rfl, rfl, rfl, rfl, _, rfl, rfl⟩ fun f cdv A outer s H vs Q E hr h => ?_
  obtain ⟨d, cs, rfl, hcat, ok, k⟩ := h
  refine ⟨_, (pss_cons (ps_expr (pe_cg Fcc (hr.mono (by decide)) pass0 rfl (pa_cons (pv 0) pa_nil)))
      (pss_cons (ps_setLc (i := 1) (own := [("name", 2)]) (g := gName 2) rfl scFc.nd rfl rfl (sw_true rfl rfl rfl (by decide +kernel)) (pi_list (pe_callB (call_sortedD rfl) (by rfl) T.z_sorted (by decide +kernel) (pa_cons (pv 0) pa_nil))) (blkOk_by (N := ["cells", "lines", "name"]) (sc := (defScope (tops 45))) (by decide +kernel)) (fun _ _ _ _ _ => (pg_name (i := 2) scFc.nd rfl (Or.inl rfl))) (fun _ _ _ _ _ => pts_nil) (fun _ _ _ _ _ => (pe_op op_add_str (pe_op op_add_str (pv 2) pe_str) (pe_callTy (call_strOwn Fst (hr.mono (by decide)) pass0) (by rfl) T.z_str (by decide +kernel) (pa_cons (pe_dget (hu_of hr) (pv 0) (pv 2) (fun _ _ => rfl)) pa_nil)))))
      (pss_one (ps_ret (pe_ifExp (pt_cmpR (op_neD (hu64 hr)) (pv 1) (pe_lst pa_nil) (nomark _)) (pe_join pe_str (pv 1)) (pe_gc rfl T.c_EMPTY)))))), ?_⟩
  refine ⟨_, rfl, d, cs, rfl, hcat, ok, fun H1 s1 => ?_⟩
  obtain ⟨es, hE, hp⟩ := hcat.same s1
  have hl : es.length = cs.length := ents_len hp
  have l26 := ok.ln
  refine ⟨_, rfl, d, _, es.map (·.nm), rfl, .inl hE.1, ents_keys es, by rw [List.length_map]; omega, fun ys p py sy hpn => ?_⟩
  rw [names_sorted hp ok py sy]
  have s2 := s1.trans (Same.new (o := .lst ((cs.map (·.1)).map V.str)) hpn)
  have hE2 := hE.same (Same.new (o := .lst ((cs.map (·.1)).map V.str)) hpn)
  generalize hH2 : upd H1 p (.lst ((cs.map (·.1)).map V.str)) = H2 at s2 hE2
  have hp2 : H2 p = some (.lst ((cs.map (·.1)).map V.str)) := by rw [← hH2]; exact upd_same
  refine ⟨p, rfl, ⟨_, SqL.of hp2⟩, fun D hD => ?_⟩
  refine lc_map walk_list hD (cs.map fun r => V.str (lineOf r)) (by simp) (by simp; omega) (fun H3 s3 => SqL.of (s3 _ _ hp2)) (fun i x y H3 H4 hy s3 yy => ?_) (fun H3 s3 hD3 => ?_)
  · obtain ⟨rfl, hx⟩ := yy
    rw [List.getElem?_map, List.getElem?_map, Option.map_map, Option.map_eq_some_iff] at hx
    obtain ⟨r, hr', rfl⟩ := hx
    rw [List.getElem?_map, hr'] at hy
    cases hy
    have mem := List.mem_of_getElem? hr'
    obtain ⟨e, he, er, hv⟩ := cat_row hp ok mem
    have hE3 := hE2.same s3
    have hc := hE3.2 e he
    have g := ok.gd r mem
    obtain ⟨rfl⟩ := er
    refine ⟨Same.refl _, fun R hR => ?_⟩
    have h1 := name_len (ok.nm _ mem)
    have h4 : Str.length " " = 1 := by decide
    refine ⟨_, rfl, _, _, rfl, rfl, by rw [h4, sizeLine_eq]; show e.nm.length + 1 ≤ _; have : e.nm.length ≤ 8 := h1.2; omega, ?_⟩
    refine ⟨_, rfl, _, rfl, d, _, rfl, by rw [← hv]; exact DGet.k (k := .inr e.nm) hE3.1, ?_⟩
    obtain ⟨dx, tb, tp, kd, hc1, hc2⟩ := id hc
    refine ⟨e.c, dx, _, rfl, hc1, e.c, e.N, e.ms, rfl, hc, g.sh, fun H5 s5 => ⟨_, rfl, _, _, rfl, rfl, ?_, ?_⟩⟩
    · have := line_len (ok.nm _ mem) g.sh
      rw [show lineOf e.row = _ from line_eq e.row, len_tl, tl_append] at this
      rw [len_tl, len_tl, ← List.length_append, sizeLine_eq]
      exact Nat.le_trans this (by decide)
    · have : R (V.str (lineOf e.row)) H5 := hR H5 s5
      rw [show lineOf e.row = _ from line_eq e.row] at this
      exact this
  · refine ⟨_, rfl, z0, fun q8 hq8 => ?_⟩
    have s8 := (Same.new (o := .lst []) hq8)
    have eL : (cs.map fun r => V.str (lineOf r)) = (cs.map lineOf).map V.str := by rw [List.map_map]; rfl
    rw [eL] at hD3
    refine ⟨.list ((cs.map lineOf).map PyData.str), .list (([] : List Str).map PyData.str), .lst (SqL.of (s8 _ _ hD3)) (dpStrs _), .lst (SqL.of upd_same) .nil, sh_strs (fun z hz => ?_), by decide +kernel, _, rfl, ?_⟩
    · obtain ⟨r, hr1, rfl⟩ := List.mem_map.mp hz
      exact str_ok (line_low (ok.nm r hr1))
    rw [strs_eqv]
    have e8 := s2.trans (s3.trans s8)
    cases hcs : cs with
    | nil =>
      refine iteFr rfl ?_
      subst hcs
      exact k _ e8
    | cons r rs =>
      rw [← hcs]
      have ne : cs.map lineOf ≠ [] := by rw [hcs]; simp
      refine iteTr (by rw [decide_eq_false ne]; rfl) ?_
      refine ⟨⟨_, rfl⟩, _, rfl, "\n", D, cs.map lineOf, rfl, rfl, .inl (SqL.of (s8 _ _ hD3)), cat_len ok, ?_⟩
      have := k _ e8
      rw [catText, if_neg (by rw [hcs]; simp)] at this
      exact this
/-! ### Session.__init__ -/
/-- all but the objects in L is kept -/
def ButL (L : List Addr) (H H' : Hp) : Prop := ∀ b o, b ∉ L → H b = some o → H' b = some o
theorem ButL.of {L : List Addr} {H H' : Hp} (s : Same H H') : ButL L H H' := fun b o _ h => s b o h
theorem ButL.same {L : List Addr} {H H1 H2 : Hp} (e : ButL L H H1) (s : Same H1 H2) : ButL L H H2 := fun b o n h => s b o (e b o n h)
theorem ButL.trans {L : List Addr} {H H1 H2 : Hp} (e : ButL L H H1) (s : ButL L H1 H2) : ButL L H H2 := fun b o n h => s b o n (e b o n h)
theorem ButL.upd {L : List Addr} {H H1 : Hp} {c : Addr} {o : HO} (e : ButL L H H1) (hc : c ∈ L) : ButL L H (upd H1 c o) := fun b u n h => by
  rw [upd_ne (fun z => n (by rw [z]; exact hc))]
  exact e b u n h
theorem ButL.mono {L M : List Addr} {H H1 : Hp} (e : ButL L H H1) (h : ∀ a ∈ L, a ∈ M) : ButL M H H1 := fun b u n q => e b u (fun z => n (h b z)) q
/-- what may change: a list, or an instance that is no cell -/
def Stray (H : Hp) (L : List Addr) : Prop := ∀ a ∈ L, ∀ o, H a = some o → (∃ C dx fs, o = .ins C dx fs ∧ fs.lookup ("table" : Str) = none) ∨ ∃ xs, o = .lst xs
theorem CellAt.butL {H H' : Hp} {L : List Addr} {c : Addr} {N : Nat} {ms : List Nat} (h : CellAt K H c N ms) (b : ButL L H H') (st : Stray H L) : CellAt K H' c N ms := by
  obtain ⟨dx, tb, tp, kd, h1, h2⟩ := h
  refine ⟨dx, tb, tp, kd, b _ _ (fun m => ?_) h1, b _ _ (fun m => ?_) h2⟩
  · rcases st _ m _ h1 with ⟨C, dx', fs, e, n⟩ | ⟨xs, e⟩
    · cases e
      exact absurd n (fun z => nomatch z)
    · cases e
  · rcases st _ m _ h2 with ⟨C, dx', fs, e, n⟩ | ⟨xs, e⟩
    · cases e
    · cases e
theorem EntsAt.butL {H H' : Hp} {L : List Addr} {d : Addr} {es : List Ent} (h : EntsAt K H d es) (b : ButL L H H') (st : Stray H L) : EntsAt K H' d es := by
  refine ⟨b _ _ (fun m => ?_) h.1, fun e he => (h.2 e he).butL b st⟩
  rcases st _ m _ h.1 with ⟨C, dx', fs, e, n⟩ | ⟨xs, e⟩ <;> cases e
theorem CatAt.butL {H H' : Hp} {L : List Addr} {d : Addr} {cs : List Row} (h : CatAt K H d cs) (b : ButL L H H') (st : Stray H L) : CatAt K H' d cs := by
  obtain ⟨es, h1, h2⟩ := h
  exact ⟨es, h1.butL b st, h2⟩
/-- a class of sessions -/
structure SesC (K : PySem.W.Frag) (C : Addr) : Prop where
  cl : Cls K C
  n1 : NoAttr K C "held"
  n2 : NoAttr K C "history"
  ty : ∀ (H : Hp) (a dx : Addr) (fs : List (Str × V)), H a = some (.ins C dx fs) → TyOf K H (.ref a) (.ref C)
  is : PySem.W.kitOne K (.ref C) (.ref (aSes K)) = some true
/-- the promise of Session.__init__ -/
def spSi (K : PySem.W.Frag) : Sp := fun vs H Q _ => ∃ (x C dx d : Addr) (cs : List Row), vs = [.ref x, .ref d] ∧ SesC K C ∧ H x = some (.ins C dx []) ∧ CatAt K H d cs ∧ OkRows cs ∧
  ∀ H' d' h, ButL [x] H H' → H d' = none → H h = none → H' x = some (.ins C dx [("held", .ref d'), ("history", .ref h)]) → CatAt K H' d' cs → H' h = some (.lst []) → Q .non H'
theorem scSi : FnScope ["self", "cells", "name"] ["self", "cells"] (defScope (inClass (tops 71) 2)) := ⟨rfl, rfl, rfl, by decide +kernel, rfl, by decide +kernel, by decide +kernel⟩
theorem ok_si (G : MDef K (aSes K) "__init__" "Session.__init__" (inClass (tops 71) 2)) (M : ∃ f, Mk K (aSes K) f) (T : TxtA K mg) (Fcc : GOk P w K mg base CX0 2 "check_catalogue" (spCc K)) :
    ∃ f, Mk K (aSes K) f ∧ Meth K (aSes K) "__init__" f ∧ FnKw P w K mg base CX0 3 f (spKw 1 ["self"] (spSi K)) := by
  refine G.mkKw M scSi cxUp0 ⟨rfl, rfl, rfl, rfl, _, rfl, rfl⟩ fun f cdv A outer s H vs Q E hr h => ?_
  obtain ⟨x, C, dx, d, cs, rfl, SC, hx, hcat, ok, k⟩ := h
  refine ⟨_, (pss_cons (ps_expr (pe_cg Fcc (hr.mono (by decide)) pass0 rfl (pa_cons (pv 1) pa_nil)))
      (pss_cons (ps_fld (pv 0) (pe_dc (own := [("name", 2)]) (g := gName 2) rfl scSi.nd  (pi_list (pe_callB (call_sortedD rfl) (by rfl) T.z_sorted (by decide +kernel) (pa_cons (pv 1) pa_nil))) (blkOk_by (N := ["self", "cells", "name"]) (sc := (defScope (inClass (tops 71) 2))) (by decide +kernel)) (fun _ _ _ _ _ => (pg_name (i := 2) scSi.nd rfl (Or.inl rfl))) (fun _ _ _ _ _ => pts_nil) (fun _ _ _ _ _ => (pv 2)) (fun _ _ _ _ _ => (pe_dget (hu_of hr) (pv 1) (pv 2) (fun _ _ => rfl)))) rfl)
      (pss_one (ps_fld (pv 0) (pe_lst pa_nil) rfl)))), ?_⟩
  refine ⟨_, rfl, d, cs, rfl, hcat, ok, fun H1 s1 => ?_⟩
  obtain ⟨es, hE, hp⟩ := hcat.same s1
  have hl : es.length = cs.length := ents_len hp
  have l26 := ok.ln
  dsimp only
  refine seqI (fldI ?_)
  refine ⟨_, rfl, d, _, es.map (·.nm), rfl, .inl hE.1, ents_keys es, by rw [List.length_map]; omega, fun ys p py sy hpn => ?_⟩
  rw [names_sorted hp ok py sy]
  have s2 := s1.trans (Same.new (o := .lst ((cs.map (·.1)).map V.str)) hpn)
  have hE2 := hE.same (Same.new (o := .lst ((cs.map (·.1)).map V.str)) hpn)
  generalize hH2 : upd H1 p (.lst ((cs.map (·.1)).map V.str)) = H2 at s2 hE2
  have hp2 : H2 p = some (.lst ((cs.map (·.1)).map V.str)) := by rw [← hH2]; exact upd_same
  obtain ⟨es', pe, er'⟩ := ents_sort hE hp
  have len' : es'.length = cs.length := by rw [← er', List.length_map]
  refine ⟨p, rfl, ⟨_, SqL.of hp2⟩, fun D hD => ?_⟩
  have hDn : H D = none := s2.free hD
  have hx2 := s2 _ _ hx
  have nDx : D ≠ x := fun e => by rw [e, hx2] at hD; cases hD
  have nd' : (es'.map (·.nm)).Nodup := (pe.map (·.nm)).nodup_iff.mpr ((ents_names hp).nodup_iff.mpr ok.nd)
  refine dc_it walk_list (fun i H' => Same H2 H' ∧ H' D = some (.dK ((es'.take i).map Ent.kv))) ⟨Same.new hD, upd_same⟩ (fun i H' _ pv => SqL.of (pv.1 _ _ hp2)) (fun i y H' H'' hi pv yy => ?_) fun H' pv => ?_
  · obtain ⟨s3, hD3⟩ := pv
    obtain ⟨rfl, hy⟩ := yy
    rw [List.getElem?_map, List.getElem?_map, Option.map_map, Option.map_eq_some_iff] at hy
    obtain ⟨r, hr', rfl⟩ := hy
    rw [← er', List.getElem?_map, Option.map_eq_some_iff] at hr'
    obtain ⟨e, he, rfl⟩ := hr'
    have hE3 := hE2.same s3
    have mem := pe.mem_iff.mp (List.mem_of_getElem? he)
    have hv := ents_has mem ((ents_names hp).nodup_iff.mpr ok.nd)
    refine ⟨wipe_one, ?_⟩
    unfold tYes
    refine iteT ?_
    refine ⟨_, rfl, _, rfl, _, rfl, d, _, rfl, by rw [← hv]; exact DGet.k (k := .inr e.nm) hE3.1, _, .inr e.nm, rfl, hD3, by rw [List.length_map, List.length_take, sizeLine_eq]; omega, ?_, ?_⟩
    · exact fun b o h => by rw [upd_ne (ne_of_none h hD)]; exact s3 b o h
    · rw [upd_same, List.take_succ, he]
      have hil : i < es'.length := (List.getElem?_eq_some_iff.mp he).1
      have nw : valV ((es'.take i).map Ent.kv) (.inr e.nm) = none := ents_new fun e' he' q => by
        obtain ⟨j, hj, e2⟩ := List.mem_iff_getElem.mp he'
        rw [List.length_take] at hj
        rw [List.getElem_take] at e2
        have h1 : (es'.map (·.nm))[j]? = (es'.map (·.nm))[i]? := by
          rw [List.getElem?_map, List.getElem?_map, he, List.getElem?_eq_getElem (by omega), e2]
          show some e'.nm = some e.nm
          rw [q]
        have := (List.getElem?_inj (by rw [List.length_map]; omega) nd').mp h1
        omega
      rw [putK_new _ nw]
      simp [Ent.kv]
  · obtain ⟨s3, hD3⟩ := pv
    rw [List.length_map, List.length_map, ← len', List.take_length] at hD3
    have hx3 := s3 _ _ hx2
    refine ⟨_, rfl, x, C, dx, [], rfl, hx3, SC.cl, SC.n1, (show 0 < 1000 by decide), ?_⟩
    dsimp only
    refine fldI ?_
    refine ⟨z0, fun h hh => ?_⟩
    have b1 : ButL [x] H (upd H' x (.ins C dx (putF "held" (.ref D) []))) := (ButL.of (s2.trans s3)).upd (List.mem_singleton.mpr rfl)
    have nhx : h ≠ x := fun e => by rw [e, upd_same] at hh; cases hh
    have nhD : h ≠ D := fun e => by rw [e, upd_ne nDx, hD3] at hh; cases hh
    have hhn : H h = none := by
      cases q : H h with
      | none => rfl
      | some o => rw [b1 h o (fun m => nhx (List.mem_singleton.mp m)) q] at hh; cases hh
    refine ⟨_, rfl, x, C, dx, [("held", .ref D)], rfl, (upd_ne nhx.symm).trans upd_same, SC.cl, SC.n2, (show 1 < 1000 by decide), ?_⟩
    have b2 := (b1.same (Same.new (o := .lst []) hh)).upd (c := x) (o := .ins C dx (putF "history" (.ref h) [("held", .ref D)])) (List.mem_singleton.mpr rfl)
    refine k _ D h b2 hDn hhn upd_same ⟨es', ⟨?_, fun e he => ?_⟩, by rw [er']⟩ ?_
    · rw [upd_ne nDx, upd_ne nhD.symm, upd_ne nDx]
      exact hD3
    · have hE0 := hE2.2 e (pe.mem_iff.mp he)
      have b3 : ButL [x] H2 _ := (((ButL.of s3).upd (c := x) (o := .ins C dx (putF "held" (.ref D) [])) (List.mem_singleton.mpr rfl)).same (Same.new (o := .lst []) hh)).upd (c := x) (o := .ins C dx (putF "history" (.ref h) [("held", .ref D)])) (List.mem_singleton.mpr rfl)
      refine hE0.butL b3 fun a ha o ho => .inl ?_
      rw [List.mem_singleton.mp ha, hx2] at ho
      cases ho
      exact ⟨_, _, _, rfl, rfl⟩
    · rw [upd_ne nhx]
      exact upd_same
end
end TF
end
section
set_option maxHeartbeats 4000000
namespace TF
open PySem PySem.Spec PyProof.Rows L2 PySem.W PySem.Calls
section
variable {X : Cx} {e1 ek ev : Expr} {t1 tk tv : TE} {pos : Pos}
/-- {**e, k: v} -/
def tDMerge (t1 tk tv : TE) : TE := fun σ H Q => ∀ D, H D = none → t1 σ (upd H D (.dK [])) fun y H1 => ∃ (a : Addr) (kvs : List (Key × V)), y = .ref a ∧ D ≠ a ∧ H1 D = some (.dK []) ∧ H1 a = some (.dK kvs) ∧ kvs.length ≤ 1000 ∧
  ∀ S, upd H1 D (.dK (mergeK [] kvs)) S = none → tk σ (upd (upd H1 D (.dK (mergeK [] kvs))) S (.dK [])) fun x H2 => tv σ H2 fun z H3 => ∃ k : Key, x = kV k ∧ H3 S = some (.dK []) ∧ H3 D = some (.dK (mergeK [] kvs)) ∧
    Q (.ref D) (upd (upd H3 S (.dK [(k, z)])) D (.dK (putK (mergeK [] kvs) k z)))
theorem disp_eq {v1 k v : Sem Value} : dictDisplay [(none, v1), (some k, v)] = (do
    let d ← (alloc ({ cls := .type "dict", data := .dict #[] } : Obj) : Sem Addr)
    let m ← holding [.ref d] v1
    (((holding [.ref d, m] (mergeMapping d m false)).onRaise fun x => do let _ ← holding [.ref d, m, x] (runValue (.builtin "proto.let_go" {}))).tryCatch fun e => do
        if ← isInstance e (.type "AttributeError") then
          rule "dict.display.not-a-mapping"; raiseError "TypeError" s!"'{← PySem.typeNameOf m}' object is not a mapping"
        throw e).onRaise fun x => do let _ ← holding [.ref d, x] (runValue (.builtin "proto.let_go" {}))
    let sub ← holding [.ref d] (subDict [(k, v)])
    (holding [.ref d, .ref sub] (mergeMapping d (.ref sub) false)).onRaise fun x => do let _ ← holding [.ref d, x] (runValue (.builtin "proto.let_go" {}))
    pure (.ref d)) := by
  unfold dictDisplay
  simp only [List.forIn_cons, List.forIn_nil, List.isEmpty_nil, if_true, pure_bind, List.nil_append, bind_assoc, List.length_singleton, List.isEmpty_cons, Bool.false_eq_true, if_false, show ((1 : Nat) == 17) = false from rfl]
theorem pe_dmerge (h1 : PE X e1 t1) (hk : PE X ek tk) (hv : PE X ev tv) (hz : (evalEachOpt [none, some ek] X.env).zip ((evalEach [e1, ev] X.env).map fun v => do let x ← v; standAt pos; pure x) = [(none, do let x ← eval e1 X.env; standAt pos; pure x), (some (eval ek X.env), do let x ← eval ev X.env; standAt pos; pure x)] := by rfl) :
    PE X (.Dict [none, some ek] [e1, ev] pos) (tDMerge t1 tk tv) := by
  refine ⟨fun pins s σ H Q I q => ?_⟩
  rw [arm_eval_Dict, hz, disp_eq]
  refine wpAny_bind (wpAny_standAt (wpAny_bind (wpAny_alloc ?_)))
  have hn := I.hok.fresh (Nat.le_refl s.heap.objs.size)
  have I1 := I.laid (a := s.heap.objs.size) (o := .dK []) (h' := s.heap.push { cls := .type "dict", data := .dict #[] }) (t' := s.toks) (fun _ _ q => Heap.get?_push_of_some _ q) (Nat.le_refl _) (dk_empty s.heap I.big)
  refine wpAny_bind (wpAny_holding (wpAny_bind (thn (h1.run pins _ σ _ _ I1 (q _ hn)) fun u s2 ⟨y, H2, I2, ry, a, kvs, ey, ne, hD, ha, hl, q2⟩ => ?_)))
  subst ey
  obtain rfl : u = Value.ref a := ry
  refine wpAny_bind (wpAny_standAt (wpAny_pure ?_))
  obtain ⟨_, hdD, vs0, r0, dD⟩ := dk_of I2.hok hD
  cases r0
  obtain ⟨_, hda, vs, ra, da⟩ := dk_of I2.hok ha
  have lv : vs.length ≤ 1000 := by rw [← ra.length]; exact hl
  refine wpAny_bind (wpAny_onRaise (wpAny_tryCatch (wpAny_onRaise (wpAny_holding (merge_dict (unique := false) dD da ne hda (by rw [sizeLine_eq]; simp; omega) (fun z => nomatch z) fun h' dd' sb => ?_)))))
  have he : ∃ q, h'.get? s.heap.objs.size = some q := let ⟨q, _, _, hq, _⟩ := dd'; ⟨q, hq⟩
  have lm := length_mergeK kvs []
  have I3 := d_write (t' := s2.toks) (ob := .dK (mergeK [] kvs)) I2 (by rw [hD]; exact True.intro) sb he (dk_new (by rw [sizeLine_eq]; simp at lm; omega) hdD (ra.merge .nil) dd')
  have I4 := I3.laid (a := h'.objs.size) (o := .dK []) (h' := h'.push { cls := .type "dict", data := .dict #[] }) (t' := s2.toks) (fun _ _ q => Heap.get?_push_of_some _ q) (Nat.le_refl _) (dk_empty h' I3.big)
  refine wpAny_bind (wpAny_holding (wpAny_subDict (knd := mixKind X.prog X.w) (s := { s2 with heap := h' }) (show 1 ≤ 15 by decide) ?_))
  refine evalPairs_cons (thn (hk.run pins _ σ _ _ I4 (q2 _ (I3.hok.fresh (Nat.le_refl _)))) fun u1 s5 ⟨x, H5, I5, rx, q5⟩ => wpAny_bind (thn (hv.run pins _ σ _ _ I5 q5) fun u2 s6 ⟨z, H6, I6, rz, k, ex, hS, hD6, q6⟩ => wpAny_bind (wpAny_standAt (wpAny_pure (evalPairs_nil ?_)))))
  subst ex
  obtain ⟨_, hdS, vs1, r1, dS⟩ := dk_of I6.hok hS
  cases r1
  refine ⟨[(k, u2)], ⟨kV_is rx, rfl, True.intro⟩, dS, fun h7 d7 sb7 => ?_⟩
  have e7 : ∃ q, h7.get? h'.objs.size = some q := let ⟨q, _, _, hq, _⟩ := d7; ⟨q, hq⟩
  have I7 := d_write (t' := s6.toks + 1) (ob := .dK [(k, z)]) I6 (by rw [hS]; exact True.intro) sb7 e7 (dk_new z1 hdS (.cons ⟨rfl, rz⟩ .nil) d7)
  have neS : s.heap.objs.size ≠ h'.objs.size := by
    obtain ⟨q, hq⟩ := he
    exact Nat.ne_of_lt (Heap.lt_size hq)
  have hD7 : (upd H6 h'.objs.size (.dK [(k, z)])) s.heap.objs.size = some (.dK (mergeK [] kvs)) := by rw [upd_ne neS]; exact hD6
  obtain ⟨_, hdD7, vs7, r7, dD7⟩ := dk_of I7.hok hD7
  have l7 : vs7.length ≤ 1000 := by rw [← r7.length]; simp at lm; omega
  refine wpAny_bind (wpAny_onRaise (wpAny_holding (merge_dict (unique := false) dD7 d7 neS hdS ?_ (fun z => nomatch z) fun h8 d8 sb8 => wpAny_pure ?_)))
  · show vs7.length + 1 ≤ sizeLine
    rw [sizeLine_eq]; omega
  · have e8 : ∃ q, h8.get? s.heap.objs.size = some q := let ⟨q, _, _, hq, _⟩ := d8; ⟨q, hq⟩
    have lp := length_putK (mergeK [] kvs) k z
    have I8 := d_write (t' := s6.toks + 1) (ob := .dK (putK (mergeK [] kvs) k z)) I7 (by rw [hD7]; exact True.intro) sb8 e8 (dk_new (by rw [sizeLine_eq]; simp at lm; omega) hdD7 (r7.put k rz) d8)
    exact ⟨.ref s.heap.objs.size, _, I8, rfl, q6⟩
end
end TF
end
section
set_option maxHeartbeats 4000000
set_option pp.maxSteps 3000

namespace TF
open PySem PySem.Spec PyProof.Rows L2 TL
section
variable {P : Program} {w : World} {K : PySem.W.Frag} {mg : Str → Option Value} {base : Heap}
/-! ### sessions in the heap -/
def exOf : Option Addr → List (Str × V)
  | none => []
  | some e => [("entries", .ref e)]
abbrev sesF (d h : Addr) (o : Option Addr) : List (Str × V) := ("held", .ref d) :: ("history", .ref h) :: exOf o
structure Ses (K : PySem.W.Frag) (H : Hp) (C s dx d h : Addr) (o : Option Addr) (cs : List Row) (past : List (Addr × List Row)) : Prop where
  obj : H s = some (.ins C dx (sesF d h o))
  cat : CatAt K H d cs
  ok : OkRows cs
  hs : H h = some (.lst (past.map fun p => V.ref p.1))
  pc : ∀ p ∈ past, CatAt K H p.1 p.2 ∧ OkRows p.2
  en : ∀ e, o = some e → e ≠ h ∧ ∃ xs, H e = some (.lst xs)
theorem Ses.same {H H' : Hp} {C s dx d h : Addr} {o : Option Addr} {cs : List Row} {past : List (Addr × List Row)} (S : Ses K H C s dx d h o cs past) (e : Same H H') : Ses K H' C s dx d h o cs past :=
  ⟨e _ _ S.obj, S.cat.same e, S.ok, e _ _ S.hs, fun p hp => ⟨(S.pc p hp).1.same e, (S.pc p hp).2⟩, fun a ha => ⟨(S.en a ha).1, let ⟨xs, q⟩ := (S.en a ha).2; ⟨xs, e _ _ q⟩⟩⟩
theorem ses_tab (d h : Addr) (o : Option Addr) : (sesF d h o).lookup ("table" : Str) = none := by cases o <;> rfl
theorem Ses.stray {H : Hp} {C s dx d h : Addr} {o : Option Addr} {cs : List Row} {past : List (Addr × List Row)} (S : Ses K H C s dx d h o cs past) : Stray H [s, h] := fun a ha u hu => by
  rcases List.mem_cons.mp ha with rfl | ha
  · rw [S.obj] at hu
    cases hu
    exact .inl ⟨_, _, _, rfl, ses_tab d h o⟩
  · rw [List.mem_singleton.mp ha, S.hs] at hu
    cases hu
    exact .inr ⟨_, rfl⟩
theorem Ses.ne {H : Hp} {C s dx d h : Addr} {o : Option Addr} {cs : List Row} {past : List (Addr × List Row)} (S : Ses K H C s dx d h o cs past) : h ≠ s := fun e => by
  have := S.hs
  rw [e, S.obj] at this
  cases this
theorem ses_len (d h : Addr) (o : Option Addr) : (sesF d h o).length < 1000 := by
  cases o
  · show 2 < 1000
    decide
  · show 3 < 1000
    decide
theorem ses_max (d h : Addr) (o : Option Addr) : (sesF d h o).lookup ("MAX_NAMES" : Str) = none := by cases o <;> rfl
theorem put_held (d d' h : Addr) (o : Option Addr) : putF "held" (.ref d') (sesF d h o) = sesF d' h o := by cases o <;> rfl
/-! ### change -/
def spChg (K : PySem.W.Frag) (C : Addr) : Sp := fun vs H Q _ => ∃ (s dx d h d' : Addr) (o : Option Addr) (cs cs' : List Row) (past : List (Addr × List Row)), vs = [.ref s, .ref d'] ∧ Ses K H C s dx d h o cs past ∧ CatAt K H d' cs' ∧ OkRows cs' ∧ past.length ≤ 1000 ∧
  ∀ H', ButL [s, h] H H' → Ses K H' C s dx d' h o cs' (past ++ [(d, cs)]) → Q .non H'
theorem scChg : FnScope ["self", "cells"] ["self", "cells"] (defScope (inClass (tops 71) 8)) := ⟨rfl, rfl, rfl, by decide +kernel, rfl, by decide +kernel, by decide +kernel⟩
theorem ok_chg {C : Addr} (G : MDef K C "change" "Session.change" (inClass (tops 71) 8)) (SC : SesC K C) : MOk P w K mg base CX0 1 C "change" (spChg K C) := by
  refine G.ok scChg (fun vs H Q E h => ?_) (fun _ _ _ _ _ _ us hl => match us, hl with | [_, _], _ => rfl) (fun f cdv A outer s H vs Q E hr h => ?_)
  · obtain ⟨_, _, _, _, _, _, _, _, _, rfl, _⟩ := h
    rfl
  · obtain ⟨x, dx, d, h, d', o, cs, cs', past, rfl, S, hc, ok', pl, k⟩ := h
    refine ⟨_, (pss_cons (ps_expr (pe_bm PySem.F.plainAttrs_list PySem.F.slot_list_append PySem.F.type_list_append mt_append (pe_fld (pv 0) rfl) (pa_cons (pe_fld (pv 0) rfl) pa_nil)))
      (pss_one (ps_fld (pv 0) (pv 1) rfl))), ?_⟩
    refine ⟨_, rfl, x, _, _, _, _, rfl, S.obj, SC.cl, SC.n2, rfl, .inl ⟨rfl, _, SqL.of S.hs⟩, _, rfl, x, _, _, _, _, rfl, S.obj, SC.cl, SC.n1, rfl, h, _, _, rfl, rfl, S.hs, by rw [List.length_map, sizeLine_eq]; omega, ?_⟩
    have nhs := S.ne
    refine ⟨_, rfl, _, rfl, x, C, dx, sesF d h o, rfl, (upd_ne nhs.symm).trans S.obj, SC.cl, SC.n1, ses_len .., ?_⟩
    rw [put_held]
    have m1 : h ∈ [x, h] := List.mem_cons_of_mem _ (List.mem_singleton.mpr rfl)
    have m0 : x ∈ [x, h] := List.mem_cons_self ..
    have b1 : ButL [x, h] H (upd (upd H h (.lst (past.map (fun p => V.ref p.1) ++ [.ref d]))) x (.ins C dx (sesF d' h o))) := ((ButL.of (Same.refl H)).upd m1).upd m0
    refine k _ b1 ⟨upd_same, hc.butL b1 S.stray, ok', ?_, fun p hp => ?_, fun a ha => ⟨(S.en a ha).1, ?_⟩⟩
    · rw [upd_ne nhs, upd_same, List.map_append]
      rfl
    · rcases List.mem_append.mp hp with hp | hp
      · exact ⟨(S.pc p hp).1.butL b1 S.stray, (S.pc p hp).2⟩
      · rw [List.mem_singleton.mp hp]
        exact ⟨S.cat.butL b1 S.stray, S.ok⟩
    · obtain ⟨n, xs, q⟩ := S.en a ha
      refine ⟨xs, b1 _ _ (fun m => ?_) q⟩
      rcases List.mem_cons.mp m with e | m
      · rw [e, S.obj] at q
        cases q
      · exact n (List.mem_singleton.mp m)
/-! ### len -/
def spSlen (K : PySem.W.Frag) (C : Addr) : Sp := fun vs H Q _ => ∃ (s dx d h : Addr) (o : Option Addr) (cs : List Row) (past : List (Addr × List Row)), vs = [.ref s] ∧ Ses K H C s dx d h o cs past ∧ Q (.int cs.length) H
theorem scSlen : FnScope ["self"] ["self"] (defScope (inClass (tops 71) 26)) := ⟨rfl, rfl, rfl, by decide +kernel, rfl, by decide +kernel, by decide +kernel⟩
theorem ok_slen {C : Addr} (G : MDef K C "__len__" "Session.__len__" (inClass (tops 71) 26)) (SC : SesC K C) (T : TxtA K mg) : MOk P w K mg base CX0 1 C "__len__" (spSlen K C) := by
  refine G.ok scSlen (fun vs H Q E h => ?_) (fun _ _ _ _ _ _ us hl => match us, hl with | [_], _ => rfl) (fun f cdv A outer s H vs Q E hr h => ?_)
  · obtain ⟨_, _, _, _, _, _, _, rfl, _⟩ := h
    rfl
  · obtain ⟨x, dx, d, h, o, cs, past, rfl, S, k⟩ := h
    obtain ⟨es, hE, hp⟩ := S.cat
    refine ⟨_, (pss_one (ps_ret (pe_callB call_lenD (by rfl) T.z_len (by decide +kernel) (pa_cons (pe_fld (pv 0) rfl) pa_nil)))), ?_⟩
    refine ⟨_, rfl, x, _, _, _, _, rfl, S.obj, SC.cl, SC.n1, rfl, d, _, rfl, hE.1, ?_⟩
    rw [List.length_map, ents_len hp]
    exact k
/-! ### need_place -/
def spNp (K : PySem.W.Frag) (C : Addr) : Sp := fun vs H Q _ => ∃ (s dx d h : Addr) (o : Option Addr) (cs : List Row) (past : List (Addr × List Row)) (nm : Str), vs = [.ref s, .str nm] ∧ Ses K H C s dx d h o cs past ∧ cs.length < 26 ∧ Q .non H
theorem scNp : FnScope ["self", "name"] ["self", "name"] (defScope (inClass (tops 71) 20)) := ⟨rfl, rfl, rfl, by decide +kernel, rfl, by decide +kernel, by decide +kernel⟩
theorem ok_np {C : Addr} (G : MDef K C "need_place" "Session.need_place" (inClass (tops 71) 20)) (SC : SesC K C) (T : TxtA K mg) (mx : ∃ u, Con K C "MAX_NAMES" (.int 26) u) : MOk P w K mg base CX0 1 C "need_place" (spNp K C) := by
  refine G.ok scNp (fun vs H Q E h => ?_) (fun _ _ _ _ _ _ us hl => match us, hl with | [_, _], _ => rfl) (fun f cdv A outer s H vs Q E hr h => ?_)
  · obtain ⟨_, _, _, _, _, _, _, _, rfl, _⟩ := h
    rfl
  · obtain ⟨x, dx, d, h, o, cs, past, nm, rfl, S, hl, k⟩ := h
    obtain ⟨es, hE, hp⟩ := S.cat
    obtain ⟨u, mx⟩ := mx
    refine ⟨_, (pss_one (ps_if (PW.pt (pw_and (pt_cmp (pc_dnotin (hu_of hr) (pv 1) (pe_fld (pv 0) rfl))) (pw_and1 (pt_cmpR op_eq (pe_callB call_lenD (by rfl) T.z_len (by decide +kernel) (pa_cons (pe_fld (pv 0) rfl) pa_nil)) (pe_con (pv 0) rfl) (nomark _))))) (pss_one ps_never) pss_nil)), ?_⟩
    refine ⟨_, rfl, _, rfl, x, _, _, _, _, rfl, S.obj, SC.cl, SC.n1, rfl, d, _, rfl, DGet.k (k := .inr nm) hE.1, ?_⟩
    cases q : (valV (es.map Ent.kv) (.inr nm)).isSome with
    | true => exact ⟨_, rfl, iteF (iteF k)⟩
    | false =>
      refine ⟨_, rfl, iteT ⟨_, rfl, x, _, _, _, _, rfl, S.obj, SC.cl, SC.n1, rfl, d, _, rfl, hE.1, _, rfl, x, _, _, _, _, _, rfl, S.obj, SC.cl, mx, ses_max .., rfl, _, rfl, iteFr (decide_eq_false fun e => ?_) k⟩⟩
      rw [List.length_map, ents_len hp] at e
      have := V.int.inj e
      omega
/-! ### lookup -/
def spLk (K : PySem.W.Frag) (C : Addr) : Sp := fun vs H Q _ => ∃ (s dx d h : Addr) (o : Option Addr) (cs : List Row) (past : List (Addr × List Row)) (r : Row), vs = [.ref s, .str r.1] ∧ Ses K H C s dx d h o cs past ∧ r ∈ cs ∧ ∀ c, CellAt K H c r.2.1 r.2.2 → Q (.ref c) H
theorem scLk : FnScope ["self", "name"] ["self", "name"] (defScope (inClass (tops 71) 9)) := ⟨rfl, rfl, rfl, by decide +kernel, rfl, by decide +kernel, by decide +kernel⟩
theorem lk_fn {C f : Addr} {fd : FuncData} (G : FunD K "lookup" "Session.lookup" (defArgs (inClass (tops 71) 9)) (defBody (inClass (tops 71) 9)) (defScope (inClass (tops 71) 9)) [] [] f fd) (SC : SesC K C) (T : TxtA K mg) : FnOk P w K mg base CX0 1 f fd ["self", "name"] (spLk K C) := by
  refine G.ok scLk (fun vs H Q E h => ?_) (fun cdv A outer s H vs Q E hr h => ?_)
  · obtain ⟨_, _, _, _, _, _, _, _, rfl, _⟩ := h
    rfl
  · obtain ⟨x, dx, d, h, o, cs, past, r, rfl, S, hr', k⟩ := h
    obtain ⟨es, hE, hp⟩ := S.cat
    obtain ⟨e, he, er, hv⟩ := cat_row hp S.ok hr'
    suffices hh : ∃ t, PSs (cxOf CX0 P w K mg base ["self", "name"] "Session.lookup" (defScope (inClass (tops 71) 9)) f cdv A outer s H E).nox (defBody (inClass (tops 71) 9)) t ∧ t { nx := fun _ H' => Q .non H', rt := Q } (start ["self", "name"] [.ref x, .str r.1]) H by
      obtain ⟨t, h1, h2⟩ := hh
      exact ⟨t, h1.nox, h2⟩
    refine ⟨_, (pss_cons (ps_if (PW.pt (pw_or (pt_not (pt_val (pe_callB call_isi (by rfl) T.z_isinstance (by decide +kernel) (pa_cons (pv 1) (pa_cons (pe_bltn (v := .ty "str") (by rfl) T.z_str (by decide +kernel) rfl) pa_nil))))) (pw_or1 (pt_cmp (pc_dnotin (hu_of hr) (pv 1) (pe_fld (pv 0) rfl)))))) (pss_one ps_never) pss_nil)
      (pss_one (ps_ret (pe_dget (hu_of hr) (pe_fld (pv 0) rfl) (pv 1) (fun _ _ => rfl))))), ?_⟩
    obtain rfl := er
    refine ⟨_, rfl, _, _, _, _, true, rfl, .ty _, .base (.str _), kit_ty (by decide +kernel), _, rfl, iteF ⟨_, rfl, _, rfl, x, _, _, _, _, rfl, S.obj, SC.cl, SC.n1, rfl, d, _, rfl, DGet.k (k := .inr e.nm) hE.1, ?_⟩⟩
    rw [show valV (es.map Ent.kv) (Sum.inr e.nm) = _ from hv]
    refine ⟨_, rfl, iteF ?_⟩
    refine ⟨_, rfl, x, _, _, _, _, rfl, S.obj, SC.cl, SC.n1, rfl, _, rfl, d, _, rfl, by rw [← hv]; exact DGet.k (k := .inr e.nm) hE.1, k e.c (hE.2 e he)⟩
theorem ok_lk {C : Addr} (G : MDef K C "lookup" "Session.lookup" (inClass (tops 71) 9)) (SC : SesC K C) (T : TxtA K mg) : MOk P w K mg base CX0 1 C "lookup" (spLk K C) := by
  obtain ⟨f, fd, G, hm⟩ := G
  exact ⟨f, fd, _, lk_fn G SC T, G.bindsN (fun _ _ _ _ _ _ us hl => match us, hl with | [_, _], _ => rfl), hm⟩
end
end TF
end
section
set_option maxHeartbeats 4000000
set_option pp.maxSteps 3000

namespace TF
open PySem PySem.Spec PyProof.Rows L2 PySem.W PySem.Calls L2H
/-! ### a def that is called with the handled exception -/
section
variable {CX : CXT} {P : Program} {w : World} {K : Frag} {mg : Str → Option Value} {base : Heap} {k : Nat} {f : Addr} {name qual : Str} {params : Arguments} {body : List Stmt} {scope : Scope} {dV kV doc pm cdv ct oc : Value} {an od : Option Addr} {osl : Array (Option Value)} {N ps : List Str}
theorem run_hotP {A : Around} {outer : List Env} {s : Shared} {H : Hp} {args : Args} {us : List Value} {vs : List V} {Q : VK} {E : XK} {p : Addr × Obj} (lk : K.lookup f = some ⟨oc, od, .func (PySem.W.fnOf name qual params body scope dV kV doc pm an cdv ct), osl⟩) (hcd : codeIn K cdv qual = true)
    (S : FnScope N ps scope) (hr : RoomH (k + 1) A) (e0 : Env0 P w K mg base A outer s H) (hpin : PinOk outer H s p) (hb : BindsTo s (PySem.W.fnOf name qual params body scope dV kV doc pm an cdv ct) args (ps.zip us)) (r : Vals vs us) (hl : vs.length = ps.length)
    (hbody : RoomH k (A.deeper (envOfC qual scope s.heap.objs.size f cdv)) → ∃ t, PSs (cxH CX P w K mg base N qual scope f cdv A outer s H E p) body t ∧ t { nx := fun _ H' => Q .non H', rt := Q } (L2.start N vs) H) : codeAny (model P w) A (.call (.ref f) args) (CR CX outer P w H s Q E) s := by
  have KX : K.In s.heap := e0.mod.kin.keeps fun b o e => (e0.bs b o e).1
  refine codeAny_call_function hr.depth (KX _ _ lk) rfl S.co S.gen rfl (codeRec_of KX hcd) (hb _ _ _ _ (wpAny_newFunctionEnv_cells S.kind (fun q hq => ?_) fun env he s1 x => ?_))
  · rcases S.par q.1 (List.of_mem_zip hq).1 with c | c
    · exact .inl c
    · exact .inr ⟨c, cellsFrom_some _ _ _ (.inl c)⟩
  · subst he
    refine ⟨Heap.NoLimit.keeps (e0.mod.nolimit.keeps fun b o e => (e0.bs b o e).1) x.toInCall.keep, codeAny_func ?_⟩
    obtain ⟨t, ht, hq⟩ := hbody (hr.deeper _)
    refine wpAny_mono (ht.run [] s1 _ H _ (inv_startH S hpin e0 hl r x) hq) (fun fl s2 got => ?_) fun _ _ z => z
    cases fl with
    | ret u => obtain ⟨v, _, H2, J, rv, q⟩ := got; exact ⟨v, H2, J.os, J.bare, J.base, J.hok, rv, q⟩
    | next => obtain ⟨_, H2, J, q⟩ := got; exact ⟨.non, H2, J.os, J.bare, J.base, J.hok, rfl, q⟩
    | brk => obtain ⟨_, _, _, q⟩ := got; exact q.elim
    | cont => obtain ⟨_, _, _, q⟩ := got; exact q.elim
end
/-- isinstance of a pinned exception -/
theorem call_isP {X : Cx} {D : Addr} {p : Addr × Obj} (hp : p ∈ X.pn) (C : ExcC X.K D) (hz : Zc (.ref D) none p.2) (hf : ∃ vs, p.2.data = .fields vs) : CallR X (.builtin "isinstance") (rIsE X.K D p.1) := by
  intro pins s σ H xs us Q I r ⟨c, cv, b, ex, hcv, e, q⟩
  subst ex
  obtain ⟨u1, u2, rfl, r1, r2⟩ := vals2 r
  obtain rfl : u1 = Value.ref p.1 := r1
  obtain rfl := hcv _ r2
  obtain ⟨a, oc, od, oda, osl⟩ := p
  obtain ⟨h1, h2⟩ := hz
  obtain ⟨vs, hv⟩ := hf
  dsimp only at h1 h2 hv
  subst h1 h2 hv
  have J : InstAt s.heap a ⟨.ref D, none, .fields vs, osl⟩ D none := ⟨(I.pin _ (List.mem_append_left _ hp)).1, rfl, rfl, trivial⟩
  exact kia_one (handS_kitx_exc C.hg C.hk C.hs C.hd C.ha C.hn C.ht C.hm) I.kIn J e (fun z => nomatch z) fun tk => ⟨.bl b, H, I.tok tk, rfl, q⟩
theorem call_isH {CX : CXT} {P : Program} {w : World} {K : Frag} {mg : Str → Option Value} {base : Heap} {N : List Str} {qual : Str} {scope : Scope} {f D : Addr} {cd : Value} {A : Around} {outer : List Env} {s : Shared} {H : Hp} {E : XK} {p : Addr × Obj}
    (C : ExcC K D) (hz : Zc (.ref D) none p.2) (hf : ∃ vs, p.2.data = .fields vs) : CallR (cxH CX P w K mg base N qual scope f cd A outer s H E p) (.builtin "isinstance") (rIsE K D p.1) := call_isP (List.mem_singleton.mpr rfl) C hz hf
section
variable {P : Program} {w : World} {K : Frag} {mg : Str → Option Value} {base : Heap}
/-- the answer to «nothing to undo» -/
structure FaOk (P : Program) (w : World) (K : Frag) (mg : Str → Option Value) (base : Heap) (k : Nat) (D : Addr) (z : Str) : Prop where
  g : ∃ f : Addr, mg "failure_of" = some (.ref f) ∧ keepIn K (.ref f) = true ∧ ∀ (A : Around) (outer : List Env) (s : Shared) (H : Hp) (Q : VK) (E : XK) (p : Addr × Obj), RoomH k A → Env0 P w K mg base A outer s H → PinOk outer H s p → Zc (.ref D) none p.2 → (∃ vs, p.2.data = .fields vs) → Q (.str z) H →
    codeAny (model P w) A (.call (.ref f) ⟨[.ref p.1], []⟩) (CR CX0 outer P w H s Q E) s
theorem scFo : FnScope ["error"] ["error"] (defScope (tops 66)) := ⟨rfl, rfl, rfl, by decide +kernel, rfl, by decide +kernel, by decide +kernel⟩
abbrev aNU (K : Frag) : Addr := He.ga K "NothingToUndo"
/-- what isinstance says of it -/
structure NuA (K : Frag) : Prop where
  xc : ExcC K (aNU K)
  k1 : kitOne K (.ref (aNU K)) (.ref (aIT K)) = some false
  k2 : kitOne K (.ref (aNU K)) (.ref (He.ga K "InvalidCell")) = some false
  k3 : kitOne K (.ref (aNU K)) (.ref (He.ga K "InvalidNumber")) = some false
  k4 : kitOne K (.ref (aNU K)) (.ref (He.ga K "TooLarge")) = some false
theorem ok_fo (G : GDef K mg "failure_of" (tops 66)) (T : TxtA K mg) (EA : ErrA K mg) (N : NuA K) : FaOk P w K mg base 1 (aNU K) "nothing to undo" := by
  obtain ⟨f, fd, ⟨⟨oc, od, dV, kV, doc, pm, an, cdv, ct, osl, rfl, lk, hcd, hD, hK⟩, kp⟩, hm⟩ := G
  have hD : dV = .none := hD.elim (fun z => z.2) fun z => absurd rfl z.1
  subst hD
  refine ⟨f, hm, kp, fun A outer s H Q E p hr e0 hpin hz hf q => ?_⟩
  have XC := N.xc
  refine run_hotP (ps := ["error"]) (us := [.ref p.1]) (vs := [.ref p.1]) lk hcd scFo hr e0 hpin (.of_eq rfl) (.cons rfl .nil) rfl fun hr => ?_
  refine ⟨_, (pss_cons (ps_if (pt_val (pe_callB (call_isH XC hz hf) (by rfl) T.z_isinstance (by decide +kernel) (pa_cons (pv 0) (pa_cons (pe_gc (v := .ref (He.ga K "InvalidText")) rfl ⟨_, EA.m_IT, rfl⟩) pa_nil)))) (pss_one (ps_ret pe_str)) pss_nil)
      (pss_cons (ps_if (pt_val (pe_callB (call_isH XC hz hf) (by rfl) T.z_isinstance (by decide +kernel) (pa_cons (pv 0) (pa_cons (pe_gc (v := .ref (He.ga K "InvalidCell")) rfl ⟨_, EA.m_IC, rfl⟩) pa_nil)))) (pss_one ps_never) pss_nil)
      (pss_cons (ps_if (pt_val (pe_callB (call_isH XC hz hf) (by rfl) T.z_isinstance (by decide +kernel) (pa_cons (pv 0) (pa_cons (pe_gc (v := .ref (He.ga K "InvalidNumber")) rfl ⟨_, EA.m_IN, rfl⟩) pa_nil)))) (pss_one (ps_ret pe_str)) pss_nil)
      (pss_one (ps_ret (pe_ifExp (pt_val (pe_callB (call_isH XC hz hf) (by rfl) T.z_isinstance (by decide +kernel) (pa_cons (pv 0) (pa_cons (pe_gc (v := .ref (He.ga K "TooLarge")) rfl ⟨_, EA.m_TL, rfl⟩) pa_nil)))) pe_str pe_str)))))), ?_⟩
  have ref : ∀ (a : Addr) (u : Value), RelV (.ref a) u → u = .ref a := fun _ _ h => h
  refine ⟨_, rfl, _, _, _, rfl, ref _, N.k1, _, rfl, iteF ?_⟩
  refine ⟨_, rfl, _, _, _, rfl, ref _, N.k2, _, rfl, iteF ?_⟩
  refine ⟨_, rfl, _, _, _, rfl, ref _, N.k3, _, rfl, iteF ?_⟩
  exact ⟨_, rfl, _, _, _, rfl, ref _, N.k4, _, rfl, iteF q⟩
/-- failure_of(error) in the suite -/
theorem pe_fa {X : Cx} {CX : CXT} {k : Nat} {D : Addr} {z x : Str} {a : Addr} {oe : Obj} {pn : List (Addr × Obj)} {i : Nat} {p p2 pos : Pos} (F : FaOk X.prog X.w X.K X.mg X.base k D z) (hr : Room k X.A) (hz : Zc (.ref D) none oe) (hf : ∃ vs, oe.data = .fields vs) (hg : Gl (X.suite a ((a, oe) :: pn)) "failure_of")
    (hN : (X.suite a ((a, oe) :: pn)).N[i]? = some x) (hv : Vis (X.suite a ((a, oe) :: pn)).env.scope x) (hd : (x == ("__debug__" : Str)) = false := by decide) (hcd : (x == ("__classdict__" : Str)) = false := by decide)
    (he : starEach [.Name x p2] (X.suite a ((a, oe) :: pn)).env = (false, eval (.Name x p2) (X.suite a ((a, oe) :: pn)).env) :: starEach [] (X.suite a ((a, oe) :: pn)).env := by rfl) :
    PE (X.suite a ((a, oe) :: pn)) (.Call (.Name "failure_of" p) [.Name x p2] [] pos) (fun σ H Q => σ[i]? = some (some (.ref a)) ∧ Q (.str z) H) := by
  obtain ⟨f, h1, h2, h3⟩ := F.g
  refine ⟨fun pins s σ H Q I ⟨hσ, q⟩ => ?_⟩
  refine wpAny_Call_Name_kw (ld_glob I hg h1 ?_ (by decide))
  refine callWith_K (h₀ := X.base) I.ok.mod.kin h2 (thn ((pa_cons (pe_var hN hv hd hcd) pa_nil he).run pos pins s σ H (fun vs H1 => vs = [.ref a] ∧ H1 = H) I ⟨_, hσ, rfl, rfl⟩) fun us s1 ⟨vs, H1, I1, r, ev, eH⟩ => ⟨I1.kIn, ?_⟩) he rfl
  subst ev eH
  obtain ⟨u, rfl, ru⟩ := vals1 r
  obtain rfl : u = Value.ref a := ru
  have P1 := I1.pin (a, oe) (List.mem_append_left _ List.mem_cons_self)
  refine wpAny_call (codeAny_mono (h3 _ _ s1 _ Q (fun _ _ _ => False) (a, oe) ⟨hr.dp, hr.un⟩ I1.env0 ⟨P1.1, P1.2.1, fun hm => (List.mem_cons.mp (I1.stkSub a hm)).elim P1.2.2.1 P1.2.2.2.1, P1.2.2.2.2⟩ hz hf q) fun r s' got => ?_)
  cases r with
  | error e => exact got.elim
  | ok fl =>
    cases fl with
    | ret u => exact I1.after got
    | next => exact got.elim
    | brk => exact got.elim
    | cont => exact got.elim
end
end TF
end
section
set_option maxHeartbeats 4000000
namespace TF
open PySem PySem.Spec PyProof.Rows L2 PySem.W PySem.Calls
/-- a list == an empty list -/
theorem op_eq_mt {X : Cx} (hu : X.A.units < cLine) : OpR X (compareOp .Eq) (fun x y H Q => ∃ (a b : Addr) (xs : List V), x = .ref a ∧ y = .ref b ∧ H a = some (.lst xs) ∧ H b = some (.lst []) ∧ Q (.bl (decide (xs.length = 0))) H) := by
  intro pins s σ H x y v u Q I rx ry ⟨a, b, xs, ex, ey, ha, hb, q⟩
  subst ex ey
  obtain rfl : v = Value.ref a := rx
  obtain rfl : u = Value.ref b := ry
  obtain ⟨z1, its, n1, r1, h1⟩ := (show ObjOk X.prog X.w H s.heap a (.lst xs) from I.hok a _ ha)
  obtain ⟨z2, it2, n2, r2, h2⟩ := (show ObjOk X.prog X.w H s.heap b (.lst []) from I.hok b _ hb)
  cases r2
  have ta : s.TypeIs (.ref a) "list" := ⟨_, h1, rfl⟩
  show wpAny (model X.prog X.w) X.A (richCompare .Eq (.ref a) (.ref b)) (EP X pins σ Q) X.xe s
  cases its with
  | nil =>
    cases r1
    exact SeqAt.rcP_lists ⟨_, h1, rfl, _, rfl⟩ ⟨_, h2, rfl, _, rfl⟩ rfl hu (fun j h _ => absurd h (by simp)) X.xe _ ⟨.bl true, H, I, rfl, q⟩ (e := fun _ => true)
  | cons i is =>
    cases r1 with
    | cons _ _ =>
      exact wpAny_richCompare_same_room (op := .Eq) ta ⟨_, h2, rfl⟩ PySem.F.slot_list_eq (call_meetsIn PySem.F.slot_list_eq ta PySem.F.entry_list_eq (PySem.F.args_list_eq_2 _ _) ((SeqAt.list_eq_lengthsAt a b _ _ _ _ _ _ _ _ (by simp)).inModel X.prog X.w)
        ⟨h1, h2, (fun z => nomatch z), ⟨.bl false, H, I, rfl, q⟩⟩) hu
end TF
end
section
set_option maxHeartbeats 4000000
set_option pp.maxSteps 3000

namespace TF
open PySem PySem.Spec PyProof.Rows L2 TL StX
section
variable {P : Program} {w : World} {K : PySem.W.Frag} {mg : Str → Option Value} {base : Heap}
/-! ### need_form, find -/
def spNf : Sp := fun vs H Q _ => vs = [.bl true] ∧ Q .non H
theorem scNf : FnScope ["is_valid"] ["is_valid"] (defScope (tops 67)) := ⟨rfl, rfl, rfl, by decide +kernel, rfl, by decide +kernel, by decide +kernel⟩
theorem ok_nf (G : GDef K mg "need_form" (tops 67)) : GOk P w K mg base CX0 1 "need_form" spNf := by
  refine G.ok scNf (fun vs H Q E h => ?_) (fun _ _ _ _ _ _ us hl => match us, hl with | [_], _ => rfl) (fun f cdv A outer s H vs Q E hr h => ?_)
  · rw [h.1]
    rfl
  · obtain ⟨rfl, k⟩ := h
    exact ⟨_, (pss_one (ps_if (pt_not (pt_val (pv 0))) (pss_one ps_never) pss_nil)), _, rfl, _, rfl, iteF k⟩
theorem scFi : FnScope ["self", "name"] ["self", "name"] (defScope (inClass (tops 71) 10)) := ⟨rfl, rfl, rfl, by decide +kernel, rfl, by decide +kernel, by decide +kernel⟩
/-- a name that stands there: its cell -/
def spFi (K : PySem.W.Frag) (C : Addr) : Sp := fun vs H Q _ => ∃ (s dx d h : Addr) (o : Option Addr) (cs : List Row) (past : List (Addr × List Row)) (r : Row), vs = [.ref s, .str r.1] ∧ Ses K H C s dx d h o cs past ∧ r ∈ cs ∧ ∀ c H', Same H H' → CellAt K H' c r.2.1 r.2.2 → Q (.ref c) H'
theorem ok_fi {C : Addr} (G : MDef K C "find" "Session.find" (inClass (tops 71) 10)) (SC : SesC K C) (T : TxtA K mg) (Fnf : GOk P w K mg base CX0 1 "need_form" spNf) (Fcn : GOk P w K mg base CX0 1 "is_catalogue_name" spIcn) (Flk : MOk P w K mg base CX0 1 C "lookup" (spLk K C)) : MOk P w K mg base CX0 2 C "find" (spFi K C) := by
  refine G.ok scFi (fun vs H Q E h => ?_) (fun _ _ _ _ _ _ us hl => match us, hl with | [_, _], _ => rfl) (fun f cdv A outer s H vs Q E hr h => ?_)
  · obtain ⟨_, _, _, _, _, _, _, _, rfl, _⟩ := h
    rfl
  · obtain ⟨x, dx, d, h, o, cs, past, r, rfl, S, hr', k⟩ := h
    have nk := S.ok.nm r hr'
    refine ⟨_, (pss_cons (ps_expr (pe_cg Fnf (hr.mono (by decide)) pass0 rfl (pa_cons (pe_cg Fcn (hr.mono (by decide)) pass0 rfl (pa_cons (pv 1) pa_nil)) pa_nil)))
      (pss_one (ps_ret (pe_cm Flk SC.cl (hr.mono (by decide)) pass0 (pv 0) (pa_cons (pv 1) pa_nil))))), ?_⟩
    refine ⟨_, rfl, r.1, rfl, by have := name_len nk; omega, fun H1 s1 => ?_⟩
    rw [nk]
    refine ⟨rfl, ?_⟩
    have S1 := S.same s1
    exact ⟨_, rfl, x, _, _, rfl, S1.obj, by cases o <;> rfl, _, rfl, x, dx, d, h, o, cs, past, r, rfl, S1, hr', fun c hc => k c _ s1 hc⟩
/-! ### create -/
/-- the rows behind «set nm ..» -/
def RowsPut (cs : List Row) (r : Row) (cs' : List Row) : Prop := OkRows cs' ∧ cs'.Perm ((cs.filter fun x => decide (x.1 ≠ r.1)) ++ [r])
def spCr (K : PySem.W.Frag) (C : Addr) : Sp := fun vs H Q _ => ∃ (s dx d h c : Addr) (o : Option Addr) (cs cs' : List Row) (past : List (Addr × List Row)) (r : Row), vs = [.ref s, .str r.1, .ref c] ∧ Ses K H C s dx d h o cs past ∧ CellAt K H c r.2.1 r.2.2 ∧ cs.length < 26 ∧ past.length ≤ 1000 ∧ RowsPut cs r cs' ∧
  ∀ d' H', ButL [s, h] H H' → Ses K H' C s dx d' h o cs' (past ++ [(d, cs)]) → Q (.str "ok") H'
theorem mergeK_ents : ∀ (es acc : List Ent), ((acc ++ es).map (·.nm)).Nodup → mergeK (acc.map Ent.kv) (es.map Ent.kv) = (acc ++ es).map Ent.kv
  | [], acc, _ => by rw [List.append_nil]; rfl
  | e :: es, acc, nd => by
    have e1 : acc ++ e :: es = (acc ++ [e]) ++ es := by rw [List.append_assoc]; rfl
    have nw : valV (acc.map Ent.kv) (.inr e.nm) = none := ents_new fun e' he' q => by
      rw [List.map_append] at nd
      exact (List.nodup_append.mp nd).2.2 _ (List.mem_map_of_mem he') _ (List.mem_map_of_mem (List.mem_cons_self ..)) q
    show mergeK (putK (acc.map Ent.kv) (.inr e.nm) (.ref e.c)) (es.map Ent.kv) = _
    rw [putK_new _ nw, show acc.map Ent.kv ++ [((Sum.inr e.nm : Key), V.ref e.c)] = (acc ++ [e]).map Ent.kv by rw [List.map_append]; rfl, e1]
    exact mergeK_ents es (acc ++ [e]) (by rw [← e1]; exact nd)
/-- an entry put among others -/
def putE (es : List Ent) (e : Ent) : List Ent := if es.any (fun x => decide (x.nm = e.nm)) then es.map (fun x => if x.nm = e.nm then e else x) else es ++ [e]
theorem putE_kv (es : List Ent) (e : Ent) : putK (es.map Ent.kv) (.inr e.nm) (.ref e.c) = (putE es e).map Ent.kv := by
  unfold putK putE
  have h1 : ((es.map Ent.kv).any fun kv => decide (kv.1 = (Sum.inr e.nm : Key))) = es.any fun x => decide (x.nm = e.nm) := by
    rw [List.any_map]
    refine List.any_congr rfl fun x => ?_
    show decide ((Sum.inr x.nm : Key) = Sum.inr e.nm) = _
    exact decide_eq_decide.mpr ⟨fun h => Sum.inr.inj h, fun h => by rw [h]⟩
  rw [h1]
  by_cases q : (es.any fun x => decide (x.nm = e.nm)) = true
  · rw [if_pos q, if_pos q, List.map_map, List.map_map]
    refine List.map_congr_left fun x _ => ?_
    show (if (Sum.inr x.nm : Key) = Sum.inr e.nm then ((Sum.inr x.nm : Key), V.ref e.c) else x.kv) = Ent.kv (if x.nm = e.nm then e else x)
    by_cases h : x.nm = e.nm
    · rw [if_pos h, if_pos (by rw [h]), h]
      rfl
    · rw [if_neg h, if_neg (fun z => h (Sum.inr.inj z))]
  · rw [if_neg q, if_neg q, List.map_append]
    rfl
theorem putE_mem {es : List Ent} {e x : Ent} (h : x ∈ putE es e) : x ∈ es ∨ x = e := by
  unfold putE at h
  split at h
  · obtain ⟨y, hy, rfl⟩ := List.mem_map.mp h
    split
    · exact .inr rfl
    · exact .inl hy
  · rcases List.mem_append.mp h with h | h
    · exact .inl h
    · exact .inr (List.mem_singleton.mp h)
theorem putE_perm : ∀ {es : List Ent} (e : Ent), (es.map (·.nm)).Nodup → (putE es e).Perm (es.filter (fun x => decide (x.nm ≠ e.nm)) ++ [e])
  | es, e, nd => by
    unfold putE
    by_cases q : (es.any fun x => decide (x.nm = e.nm)) = true
    · rw [if_pos q]
      induction es with
      | nil => cases q
      | cons x r ih =>
        rw [List.map_cons] at nd
        obtain ⟨n1, n2⟩ := List.nodup_cons.mp nd
        by_cases h : x.nm = e.nm
        · have keep : ∀ y ∈ r, y.nm ≠ e.nm := fun y hy z => n1 (by rw [h, ← z]; exact List.mem_map_of_mem hy)
          rw [List.map_cons, if_pos h, List.filter_cons, if_neg (by simp [h])]
          have e1 : r.map (fun y => if y.nm = e.nm then e else y) = r := (List.map_congr_left (g := id) fun y hy => if_neg (keep y hy)).trans (List.map_id r)
          have e2 : r.filter (fun y => decide (y.nm ≠ e.nm)) = r := List.filter_eq_self.mpr fun y hy => decide_eq_true (keep y hy)
          rw [e1, e2]
          exact (List.perm_append_comm (l₁ := r) (l₂ := [e])).symm
        · rw [List.map_cons, if_neg h, List.filter_cons, if_pos (by simp [h])]
          exact List.Perm.cons _ (ih n2 (by simpa [h] using q))
    · rw [if_neg q]
      have e2 : es.filter (fun y => decide (y.nm ≠ e.nm)) = es := List.filter_eq_self.mpr fun y hy => decide_eq_true fun z => q (List.any_eq_true.mpr ⟨y, hy, decide_eq_true z⟩)
      rw [e2]
theorem putE_cat {es : List Ent} {cs cs' : List Row} {e : Ent} (hp : (es.map Ent.row).Perm cs) (ok : OkRows cs) (h : RowsPut cs e.row cs') : ((putE es e).map Ent.row).Perm cs' := by
  have nd : (es.map (·.nm)).Nodup := (ents_names hp).nodup_iff.mpr ok.nd
  refine ((putE_perm e nd).map Ent.row).trans (.trans ?_ h.2.symm)
  rw [List.map_append]
  refine List.Perm.append ?_ (.refl _)
  have : (es.filter fun x => decide (x.nm ≠ e.nm)).map Ent.row = (es.map Ent.row).filter fun x => decide (x.1 ≠ e.row.1) := by
    rw [List.filter_map]
    rfl
  rw [this]
  exact hp.filter _
theorem scCr : FnScope ["self", "name", "cell"] ["self", "name", "cell"] (defScope (inClass (tops 71) 21)) := ⟨rfl, rfl, rfl, by decide +kernel, rfl, by decide +kernel, by decide +kernel⟩
theorem ok_cr {C : Addr} (G : MDef K C "create" "Session.create" (inClass (tops 71) 21)) (SC : SesC K C) (T : TxtA K mg) (Fnp : MOk P w K mg base CX0 1 C "need_place" (spNp K C)) (Fch : MOk P w K mg base CX0 1 C "change" (spChg K C)) : MOk P w K mg base CX0 2 C "create" (spCr K C) := by
  refine G.ok scCr (fun vs H Q E h => ?_) (fun _ _ _ _ _ _ us hl => match us, hl with | [_, _, _], _ => rfl) (fun f cdv A outer s H vs Q E hr h => ?_)
  · obtain ⟨_, _, _, _, _, _, _, _, _, _, rfl, _⟩ := h
    rfl
  · obtain ⟨x, dx, d, h, c, o, cs, cs', past, r, rfl, S, hc, l26, pl, rp, k⟩ := h
    refine ⟨_, (pss_cons (ps_expr (pe_cm Fnp SC.cl (hr.mono (by decide)) pass0 (pv 0) (pa_cons (pv 1) pa_nil)))
      (pss_cons (ps_expr (pe_cm Fch SC.cl (hr.mono (by decide)) pass0 (pv 0) (pa_cons (pe_dmerge (pe_fld (pv 0) rfl) (pv 1) (pv 2)) pa_nil)))
      (pss_one (ps_ret (pe_gc rfl T.c_DONE))))), ?_⟩
    obtain ⟨es, hE, hp⟩ := S.cat
    have ndE : (es.map (·.nm)).Nodup := (ents_names hp).nodup_iff.mpr S.ok.nd
    have le := ents_len hp
    refine ⟨_, rfl, x, _, _, rfl, S.obj, by cases o <;> rfl, _, rfl, x, dx, d, h, o, cs, past, r.1, rfl, S, l26, ?_⟩
    refine ⟨_, rfl, x, _, _, rfl, S.obj, by cases o <;> rfl, fun D hD => ?_⟩
    have s1 : Same H (upd H D (.dK [])) := Same.new hD
    refine ⟨_, rfl, x, _, _, _, _, rfl, s1 _ _ S.obj, SC.cl, SC.n1, rfl, d, _, rfl, fun e => (by rw [e, hE.1] at hD; cases hD), upd_same, s1 _ _ hE.1, by rw [List.length_map]; omega, fun Sb hSb => ?_⟩
    have mk := mergeK_ents es [] ndE
    rw [List.map_nil, List.nil_append] at mk
    rw [mk] at hSb ⊢
    have nDS : D ≠ Sb := fun e => by rw [e, upd_same] at hSb; cases hSb
    refine ⟨_, rfl, _, rfl, .inr r.1, rfl, upd_same, (upd_ne nDS).trans upd_same, ?_⟩
    let e : Ent := ⟨r.1, c, r.2.1, r.2.2⟩
    have er : e.row = r := rfl
    have fin : Same H (upd (upd (upd (upd (upd H D (.dK [])) D (.dK (es.map Ent.kv))) Sb (.dK [])) Sb (.dK [(.inr r.1, .ref c)])) D (.dK (putK (es.map Ent.kv) (.inr r.1) (.ref c)))) := fun b u hb => by
      have n1 : b ≠ D := ne_of_none hb hD
      have n2 : b ≠ Sb := fun z => by rw [z] at hb; rw [upd_ne nDS.symm, upd_ne nDS.symm, hb] at hSb; cases hSb
      rw [upd_ne n1, upd_ne n2, upd_ne n2, upd_ne n1, upd_ne n1]
      exact hb
    generalize hH5 : upd (upd (upd (upd (upd H D (.dK [])) D (.dK (es.map Ent.kv))) Sb (.dK [])) Sb (.dK [(.inr r.1, .ref c)])) D (.dK (putK (es.map Ent.kv) (.inr r.1) (.ref c))) = H5 at fin ⊢
    have hD5 : H5 D = some (.dK (putK (es.map Ent.kv) (.inr r.1) (.ref c))) := by rw [← hH5]; exact upd_same
    have cat' : CatAt K H5 D cs' := ⟨putE es e, ⟨by rw [hD5, ← putE_kv es e], fun y hy => ?_⟩, putE_cat hp S.ok rp⟩
    · exact ⟨x, dx, d, h, D, o, cs, cs', past, rfl, S.same fin, cat', rp.1, pl, fun H6 b6 S6 => k D H6 (fun b u n hb => b6 b u n (fin b u hb)) S6⟩
    · rcases putE_mem hy with hy | rfl
      · exact (hE.2 y hy).same fin
      · exact hc.same fin
/-! ### undo -/
/-- the class of «nothing to undo» -/
structure NuE (K : PySem.W.Frag) : Prop where
  ex : PySem.W.excIn K (aNU K) [.type "RuntimeError", .type "Exception", .type "BaseException", .type "object"] "RuntimeError.__new__" = true
  kp : PySem.W.keepIn K (.ref (aNU K)) = true
  sb : PySem.W.subIn K (.ref (aNU K)) (.type "BaseException") = some true
  ty : PySem.W.typeIn K (.ref (aNU K)) = some (.type "type")
def spUn (K : PySem.W.Frag) (C : Addr) : Sp := fun vs H Q E => ∃ (s dx d h : Addr) (o : Option Addr) (cs : List Row) (past : List (Addr × List Row)), vs = [.ref s] ∧ Ses K H C s dx d h o cs past ∧
  (past = [] → ∀ H', Same H H' → E (.ref (aNU K)) none H') ∧ (∀ p0 d0 cs0, past = p0 ++ [(d0, cs0)] → ∀ H', ButL [s, h] H H' → Ses K H' C s dx d0 h o cs0 p0 → Q (.str "ok") H')
theorem scUn : FnScope ["self"] ["self"] (defScope (inClass (tops 71) 18)) := ⟨rfl, rfl, rfl, by decide +kernel, rfl, by decide +kernel, by decide +kernel⟩
theorem ok_un {C : Addr} (G : MDef K C "undo" "Session.undo" (inClass (tops 71) 18)) (SC : SesC K C) (T : TxtA K mg) (EA : ErrA K mg) (NU : NuE K) : MOk P w K mg base (L2.CX P w) 1 C "undo" (spUn K C) := by
  refine G.okX scUn (fun vs H Q E h => ?_) (fun _ _ _ _ _ _ us hl => match us, hl with | [_], _ => rfl) (fun f cdv A outer s H vs Q E hr h => ?_)
  · obtain ⟨_, _, _, _, _, _, _, rfl, _⟩ := h
    rfl
  · obtain ⟨x, dx, d, h, o, cs, past, rfl, S, k1, k2⟩ := h
    refine ⟨_, (pss_cons (ps_if (pt_cmpR (op_eq_mt hr.units0) (pe_fld (pv 0) rfl) (pe_lst pa_nil) (nomark _)) (pss_one (ps_raise rfl (takes_of rfl rfl rfl rfl) (pmk_own PySem.F.excBase_RuntimeError NU.ex EA.m_NU NU.kp (raises_own NU.sb NU.ty) rfl))) pss_nil)
      (pss_cons (ps_fld (pv 0) (pe_bm0 PySem.F.plainAttrs_list PySem.F.slot_list_pop PySem.F.type_list_pop mt_pop (pe_fld (pv 0) rfl)) rfl)
      (pss_one (ps_ret (pe_gc rfl T.c_DONE))))), ?_⟩
    refine ⟨_, rfl, x, _, _, _, _, rfl, S.obj, SC.cl, SC.n2, rfl, z0, fun q hq => ?_⟩
    have s1 : Same H (upd H q (.lst [])) := Same.new hq
    refine ⟨h, q, _, rfl, rfl, s1 _ _ S.hs, upd_same, _, rfl, ?_⟩
    rcases List.eq_nil_or_concat past with rfl | ⟨p0, ⟨d0, cs0⟩, e⟩
    · exact iteTr rfl (k1 rfl _ s1)
    · rw [List.concat_eq_append] at e
      subst e
      refine iteFr (decide_eq_false (by simp)) ?_
      have S1 := S.same s1
      generalize upd H q (.lst []) = H1 at s1 S1
      have nhs := S1.ne
      have m1 : h ∈ [x, h] := List.mem_cons_of_mem _ (List.mem_singleton.mpr rfl)
      have m0 : x ∈ [x, h] := List.mem_cons_self ..
      refine ⟨_, rfl, x, _, _, _, _, rfl, S1.obj, SC.cl, SC.n2, rfl, .inl ⟨rfl, _, SqL.of S1.hs⟩, h, _, .ref d0, rfl, rfl, S1.hs, by simp, ?_⟩
      refine ⟨_, rfl, x, C, dx, sesF d h o, rfl, (upd_ne nhs.symm).trans S1.obj, SC.cl, SC.n1, ses_len .., ?_⟩
      rw [put_held]
      have b1 : ButL [x, h] H1 (upd (upd H1 h (.lst ((p0 ++ [(d0, cs0)]).map fun p => V.ref p.1).dropLast)) x (.ins C dx (sesF d0 h o))) := ((ButL.of (Same.refl H1)).upd m1).upd m0
      have pe := S1.pc (d0, cs0) (List.mem_append_right _ (List.mem_singleton.mpr rfl))
      refine k2 p0 d0 cs0 rfl _ (fun b u n hb => b1 b u n (s1 b u hb)) ⟨upd_same, pe.1.butL b1 S1.stray, pe.2, ?_, fun p hp => ?_, fun a ha => ⟨(S1.en a ha).1, ?_⟩⟩
      · rw [upd_ne nhs, upd_same, List.map_append]
        simp
      · have := S1.pc p (List.mem_append_left _ hp)
        exact ⟨this.1.butL b1 S1.stray, this.2⟩
      · obtain ⟨n, xs, q⟩ := S1.en a ha
        refine ⟨xs, b1 _ _ (fun m => ?_) q⟩
        rcases List.mem_cons.mp m with e | m
        · rw [e, S1.obj] at q
          cases q
        · exact n (List.mem_singleton.mp m)
/-! ### names, text -/
def spNm (K : PySem.W.Frag) (C : Addr) : Sp := fun vs H Q _ => ∃ (s dx d h : Addr) (o : Option Addr) (cs : List Row) (past : List (Addr × List Row)), vs = [.ref s] ∧ Ses K H C s dx d h o cs past ∧ ∀ p H', Same H H' → H' p = some (.tup (cs.map fun r => V.str r.1)) → Q (.ref p) H'
theorem scNm : FnScope ["self"] ["self"] (defScope (inClass (tops 71) 5)) := ⟨rfl, rfl, rfl, by decide +kernel, rfl, by decide +kernel, by decide +kernel⟩
theorem ok_nm {C : Addr} (G : PDef K C "names" "Session.names" (inClass (tops 71) 5)) (SC : SesC K C) (T : TxtA K mg) : POk P w K mg base CX0 1 C "names" (spNm K C) := by
  refine G.ok scNm (fun vs H Q E h => ?_) (fun _ _ _ _ _ _ us hl => match us, hl with | [_], _ => rfl) (fun f cdv A outer s H vs Q E hr h => ?_)
  · obtain ⟨_, _, _, _, _, _, _, rfl, _⟩ := h
    rfl
  · obtain ⟨x, dx, d, h, o, cs, past, rfl, S, k⟩ := h
    obtain ⟨es, hE, hp⟩ := S.cat
    have l26 := S.ok.ln
    have le := ents_len hp
    refine ⟨_, (pss_one (ps_ret (pe_callTy call_tuple_of (by rfl) T.z_tuple (by decide +kernel) (pa_cons (pe_callB (call_sortedD rfl) (by rfl) T.z_sorted (by decide +kernel) (pa_cons (pe_fld (pv 0) rfl) pa_nil)) pa_nil)))), ?_⟩
    refine ⟨_, rfl, x, _, _, _, _, rfl, S.obj, SC.cl, SC.n1, rfl, d, _, es.map (·.nm), rfl, .inl hE.1, ents_keys es, by rw [List.length_map]; omega, fun ys p py sy hpn => ?_⟩
    rw [names_sorted hp S.ok py sy]
    have eL : (cs.map (·.1)).map V.str = cs.map fun r => V.str r.1 := by rw [List.map_map]; rfl
    rw [eL]
    exact ⟨p, _, rfl, .inl ⟨SqL.of upd_same, fun l hl => k l _ ((Same.new hpn).trans (Same.new hl)) upd_same⟩⟩
def spTx (K : PySem.W.Frag) (C : Addr) : Sp := fun vs H Q _ => ∃ (s dx d h : Addr) (o : Option Addr) (cs : List Row) (past : List (Addr × List Row)), vs = [.ref s] ∧ Ses K H C s dx d h o cs past ∧ ∀ H', Same H H' → Q (.str (catText cs)) H'
theorem scTx : FnScope ["self"] ["self"] (defScope (inClass (tops 71) 6)) := ⟨rfl, rfl, rfl, by decide +kernel, rfl, by decide +kernel, by decide +kernel⟩
theorem ok_tx {C : Addr} (G : PDef K C "text" "Session.text" (inClass (tops 71) 6)) (SC : SesC K C) (T : TxtA K mg) (Ffc : KOk P w K mg base CX0 4 "format_catalogue" (spKw 0 [] (spFc K))) : POk P w K mg base CX0 5 C "text" (spTx K C) := by
  refine G.ok scTx (fun vs H Q E h => ?_) (fun _ _ _ _ _ _ us hl => match us, hl with | [_], _ => rfl) (fun f cdv A outer s H vs Q E hr h => ?_)
  · obtain ⟨_, _, _, _, _, _, _, rfl, _⟩ := h
    rfl
  · obtain ⟨x, dx, d, h, o, cs, past, rfl, S, k⟩ := h
    obtain ⟨es, hE, hp⟩ := S.cat
    have l26 := S.ok.ln
    have le := ents_len hp
    have eK : es.map Ent.kv = (es.map fun e => (e.nm, V.ref e.c)).map fun q => ((Sum.inr q.1 : Key), q.2) := by rw [List.map_map]; rfl
    have eN : (es.map fun e => (e.nm, V.ref e.c)).map (·.1) = es.map (·.nm) := by rw [List.map_map]; rfl
    refine ⟨_, (pss_one (ps_ret (pe_kwstar Ffc (hr.mono (by decide)) pass0 rfl (pe_fld (pv 0) rfl)))), ?_⟩
    refine ⟨_, rfl, x, _, _, _, _, rfl, S.obj, SC.cl, SC.n1, rfl, d, _, rfl, by rw [← eK]; exact hE.1, by rw [List.length_map]; omega, ?_⟩
    refine ⟨rfl, by rw [List.length_map]; omega, ?_, fun _ _ => List.not_mem_nil, fun D hD => ?_⟩
    · rw [eN]
      exact (ents_names hp).nodup_iff.mpr S.ok.nd
    · rw [← eK]
      have s1 : Same H (upd H D (.dK (es.map Ent.kv))) := Same.new hD
      exact ⟨D, cs, rfl, ⟨es, ⟨upd_same, fun e he => (hE.2 e he).same s1⟩, hp⟩, S.ok, fun H' s2 => k H' (s1.trans s2)⟩
/-! ### load -/
theorem Reads3.mono {H : Hp} {Q Q' : VK} {E : XK} {wss : List (List Str)} (h : Reads3 K H Q E wss) (hq : ∀ v H', Q v H' → Q' v H') : Reads3 K H Q' E wss := by
  cases h with
  | none h k => exact .none h fun H' d s1 n e => hq _ _ (k H' d s1 n e)
  | dash x ws r h k => exact .dash x ws r h k
  | good cs h0 ok h k => exact .good cs h0 ok h fun H' d es s1 n e1 e2 => hq _ _ (k H' d es s1 n e1 e2)
  | bad cs ok b r c h l hb k => exact .bad cs ok b r c h l hb k
theorem spPca_mono {v : V} {H : Hp} {Q Q' : VK} {E : XK} (h : spPca K [v] H Q E) (hq : ∀ v H', Q v H' → Q' v H') : spPca K [v] H Q' E := by
  obtain ⟨v, e, h | ⟨z, ez, l, h⟩⟩ := h
  · exact ⟨v, e, .inl h⟩
  · exact ⟨v, e, .inr ⟨z, ez, l, h.mono hq⟩⟩
def spLd (K : PySem.W.Frag) (C : Addr) : Sp := fun vs H Q E => ∃ (s dx d h : Addr) (o : Option Addr) (cs : List Row) (past : List (Addr × List Row)) (v : V), vs = [.ref s, v] ∧ Ses K H C s dx d h o cs past ∧ past.length ≤ 1000 ∧
  spPca K [v] H (fun y H1 => ∃ (d' : Addr) (cs' : List Row), y = .ref d' ∧ Same H H1 ∧ CatAt K H1 d' cs' ∧ OkRows cs' ∧ ∀ H', ButL [s, h] H H' → Ses K H' C s dx d' h o cs' (past ++ [(d, cs)]) → Q .non H') E
theorem scLd : FnScope ["self", "text"] ["self", "text"] (defScope (inClass (tops 71) 7)) := ⟨rfl, rfl, rfl, by decide +kernel, rfl, by decide +kernel, by decide +kernel⟩
theorem ld_fn {C f : Addr} {fd : FuncData} (G : FunD K "load" "Session.load" (defArgs (inClass (tops 71) 7)) (defBody (inClass (tops 71) 7)) (defScope (inClass (tops 71) 7)) [] [] f fd) (SC : SesC K C) (T : TxtA K mg) (Fpc : GOk P w K mg base (L2.CX P w) 6 "parse_catalogue" (spPca K)) (Fch : MOk P w K mg base CX0 1 C "change" (spChg K C)) :
    FnOk P w K mg base (L2.CX P w) 7 f fd ["self", "text"] (spLd K C) := by
  refine G.ok scLd (fun vs H Q E h => ?_) (fun cdv A outer s H vs Q E hr h => ?_)
  · obtain ⟨_, _, _, _, _, _, _, _, rfl, _⟩ := h
    rfl
  · obtain ⟨x, dx, d, h, o, cs, past, v, rfl, S, pl, k⟩ := h
    refine ⟨_, (pss_one (ps_expr (pe_cm Fch SC.cl (hr.mono (by decide)) pass0 (pv 0) (pa_cons (pe_cg Fpc (hr.mono (by decide)) (passes_call (takes_of rfl rfl rfl rfl) fun _ _ _ _ h => h) rfl (pa_cons (pv 1) pa_nil)) pa_nil)))), ?_⟩
    refine ⟨_, rfl, x, _, _, rfl, S.obj, by cases o <;> rfl, _, rfl, ?_⟩
    refine spPca_mono k fun y H1 ⟨d', cs', ey, s1, hc, ok', kk⟩ => ?_
    subst ey
    exact ⟨x, dx, d, h, d', o, cs, cs', past, rfl, S.same s1, hc, ok', pl, fun H' b S' => kk H' (fun b' u n hb => b b' u n (s1 b' u hb)) S'⟩
theorem ok_ld {C : Addr} (G : MDef K C "load" "Session.load" (inClass (tops 71) 7)) (SC : SesC K C) (T : TxtA K mg) (Fpc : GOk P w K mg base (L2.CX P w) 6 "parse_catalogue" (spPca K)) (Fch : MOk P w K mg base CX0 1 C "change" (spChg K C)) :
    MOk P w K mg base (L2.CX P w) 7 C "load" (spLd K C) := by
  obtain ⟨f, fd, G, hm⟩ := G
  exact ⟨f, fd, _, ld_fn G SC T Fpc Fch, G.bindsN (fun _ _ _ _ _ _ us hl => match us, hl with | [_, _], _ => rfl), hm⟩
end
end TF
end
section
set_option maxHeartbeats 4000000
set_option pp.maxSteps 3000

namespace TF
open PySem PySem.Spec PyProof.Rows L2 TL StX
theorem pe_nev {X : Cx} {e : Expr} : PE X e (fun _ _ _ => False) := ⟨fun _ _ _ _ _ _ h => h.elim⟩
section
variable {P : Program} {w : World} {K : PySem.W.Frag} {mg : Str → Option Value} {base : Heap}
/-! ### commands -/
inductive Cmd
  | undo
  | sho (r : Row)
  | put (r : Row)
def Cmd.words : Cmd → List Str
  | .undo => ["undo"]
  | .sho r => ["show", r.1]
  | .put r => "set" :: r.1 :: cWords r.2.1 r.2.2
def Cmd.str (c : Cmd) : Str := Txt.join " " c.words
/-- what a command does: its answer, the rows, the states before -/
inductive Step (cs : List Row) (ps : List (List Row)) : Cmd → Str → List Row → List (List Row) → Prop
  | none (h : ps = []) : Step cs ps .undo "nothing to undo" cs ps
  | back {p0 : List (List Row)} {cs0 : List Row} (h : ps = p0 ++ [cs0]) : Step cs ps .undo "ok" cs0 p0
  | sho {r : Row} (h : r ∈ cs) : Step cs ps (.sho r) (cellText r.2.1 r.2.2) cs ps
  | put {r : Row} {cs' : List Row} (n : nameOk r.1 = true) (g : Good r.2.1 r.2.2) (l : cs.length < 26) (h : RowsPut cs r cs') : Step cs ps (.put r) "ok" cs' (ps ++ [cs])
def SesR (K : PySem.W.Frag) (H : Hp) (C s dx h : Addr) (o : Option Addr) (cs : List Row) (ps : List (List Row)) : Prop := ∃ d past, Ses K H C s dx d h o cs past ∧ past.map (·.2) = ps
theorem SesR.same {H H' : Hp} {C s dx h : Addr} {o : Option Addr} {cs : List Row} {ps : List (List Row)} (S : SesR K H C s dx h o cs ps) (e : Same H H') : SesR K H' C s dx h o cs ps := by
  obtain ⟨d, past, S, q⟩ := S
  exact ⟨d, past, S.same e, q⟩
theorem Cmd.ne (c : Cmd) : c.words ≠ [] := by cases c <;> simp [Cmd.words]
/-- the words of a command have no blanks, and few signs -/
def Cmd.ok : Cmd → Prop
  | .undo => True
  | .sho r => nameOk r.1 = true
  | .put r => nameOk r.1 = true ∧ Shape r.2.1 r.2.2
theorem Cmd.split {c : Cmd} (h : c.ok) : Txt.split c.str " " = c.words := by
  refine split_sp c.ne fun p hp => ?_
  cases c with
  | undo =>
    rw [List.mem_singleton.mp hp]
    decide
  | sho r =>
    rcases List.mem_cons.mp hp with rfl | hp
    · decide
    · rw [List.mem_singleton.mp hp]
      exact name_free h (by omega)
  | put r =>
    rcases List.mem_cons.mp hp with rfl | hp
    · decide
    · rcases List.mem_cons.mp hp with rfl | hp
      · exact name_free h.1 (by omega)
      · exact cWords_free (by omega) p hp
theorem Cmd.short {c : Cmd} (h : c.ok) : c.str.length ≤ 20000 := by
  have j2 : ∀ (a b : Str), Txt.join " " [a, b] = a ++ " " ++ b := fun a b => by rw [join_eq]; rfl
  have l1 : (tl " ").length = 1 := by decide
  cases c with
  | undo => decide +kernel
  | sho r =>
    have := name_len h
    show (Txt.join " " ["show", r.1]).length ≤ _
    rw [j2, len_tl, tl_append, tl_append, List.length_append, List.length_append, ← len_tl r.1, l1, show (tl "show").length = 4 by decide]
    omega
  | put r =>
    have h1 := line_len h.1 h.2
    have e : Cmd.str (.put r) = "set" ++ " " ++ lineOf r := by
      show Txt.join " " ("set" :: r.1 :: cWords r.2.1 r.2.2) = "set" ++ " " ++ Txt.join " " (r.1 :: cWords r.2.1 r.2.2)
      rw [join_eq, join_eq]
      rfl
    rw [e, len_tl, tl_append, tl_append, List.length_append, List.length_append, ← len_tl (lineOf r), l1, show (tl "set").length = 3 by decide]
    omega
theorem Step.ok {cs cs' : List Row} {ps ps' : List (List Row)} {c : Cmd} {ans : Str} (h : Step cs ps c ans cs' ps') (ok : OkRows cs) : c.ok := by
  cases h with
  | none h => exact True.intro
  | back h => exact True.intro
  | sho h => exact ok.nm _ h
  | put n g l h => exact ⟨n, g.sh⟩
/-! ### perform -/
def spPf (K : PySem.W.Frag) (C : Addr) : Sp := fun vs H Q E => ∃ (s dx h : Addr) (o : Option Addr) (cs cs' : List Row) (ps ps' : List (List Row)) (c : Cmd) (ans : Str), vs = [.ref s, .str c.str] ∧ SesR K H C s dx h o cs ps ∧ ps.length ≤ 1000 ∧ Step cs ps c ans cs' ps' ∧
  (ps = [] → c = .undo → ∀ H', Same H H' → E (.ref (aNU K)) none H') ∧ ((ps = [] → c ≠ .undo) → ∀ H', ButL [s, h] H H' → SesR K H' C s dx h o cs' ps' → Q (.str ans) H')
theorem scPf : FnScope ["self", "command", "words", "kind", "rest", "digits", "name"] ["self", "command"] (defScope (inClass (tops 71) 16)) := ⟨rfl, rfl, rfl, by decide +kernel, rfl, by decide +kernel, by decide +kernel⟩
theorem ok_pf {C : Addr} (G : MDef K C "perform" "Session.perform" (inClass (tops 71) 16)) (SC : SesC K C) (T : TxtA K mg) (Fnf : GOk P w K mg base CX0 1 "need_form" spNf) (Fcn : GOk P w K mg base CX0 1 "is_catalogue_name" spIcn) (Fun : MOk P w K mg base (L2.CX P w) 1 C "undo" (spUn K C))
    (Ffi : MOk P w K mg base CX0 2 C "find" (spFi K C)) (Fst : MOk P w K mg base CX0 1 (aCell K) "__str__" (spCStr K)) (Fcr : MOk P w K mg base CX0 2 C "create" (spCr K C)) (Fpc : GOk P w K mg base (L2.CX P w) 6 "parse_cell" (spPce K)) : MOk P w K mg base (L2.CX P w) 7 C "perform" (spPf K C) := by
  refine G.okX scPf (fun vs H Q E h => ?_) (fun _ _ _ _ _ _ us hl => match us, hl with | [_, _], _ => rfl) (fun f cdv A outer s H vs Q E hr h => ?_)
  · obtain ⟨_, _, _, _, _, _, _, _, _, _, rfl, _⟩ := h
    rfl
  · obtain ⟨x, dx, h, o, cs, cs', ps, ps', c, ans, rfl, S, pl, st, k1, k2⟩ := h
    refine ⟨_, (pss_cons (ps_expr (pe_cg Fnf (hr.mono (by decide)) pass0 rfl (pa_cons (pe_callB call_isi (by rfl) T.z_isinstance (by decide +kernel) (pa_cons (pv 1) (pa_cons (pe_bltn (v := .ty "str") (by rfl) T.z_str (by decide +kernel) rfl) pa_nil))) pa_nil)))
      (pss_cons (ps_set (i := 2) scPf.nd rfl (Or.inl rfl) (pe_split (pv 1) pe_str))
      (pss_cons (ps_par (i := 3) (j := 4) (by rfl) scPf.nd rfl rfl (by decide) rfl rfl (pa_cons (pe_ix ix_list (pv 2) pe_int (fun _ _ => rfl)) (pa_cons (pe_slice sl_list (pv 2) (po_some pe_int) po_none) pa_nil)) (by rfl))
      (pss_cons (ps_if (pt_cmpR op_in_seq (pv 3) (pe_tup (pa_cons pe_str (pa_cons pe_str pa_nil))) (by rfl)) (pss_cons (ps_expr (pe_cg Fnf (hr.mono (by decide)) pass0 rfl (pa_cons (pe_cmpR (op_eqD (hu64 hr)) (pv 4) (pe_lst pa_nil) (nomark _)) pa_nil)))
      (pss_one (ps_ret (pe_ifExp (pt_cmpR op_eq (pv 3) pe_str (nomark _)) (pe_cm0 Fun SC.cl (hr.mono (by decide)) (passes_call (takes_of rfl rfl rfl rfl) fun _ _ _ _ h => h) (pv 0)) pe_nev)))) pss_nil)
      (pss_cons (ps_expr (pe_cg Fnf (hr.mono (by decide)) pass0 rfl (pa_cons (pe_and (pe_cmpR op_gt (pe_callB call_len_seq (by rfl) T.z_len (by decide +kernel) (pa_cons (pv 4) pa_nil)) pe_int (nomark _)) (pe_one (pe_cg Fcn (hr.mono (by decide)) pass0 rfl (pa_cons (pe_ix ix_list (pv 4) pe_int (fun _ _ => rfl)) pa_nil)))) pa_nil)))
      (pss_cons (ps_if (pt_cmpR op_in_seq (pv 3) (pe_tup (pa_cons pe_str (pa_cons pe_str pa_nil))) (by rfl)) (pss_cons (ps_expr (pe_cg Fnf (hr.mono (by decide)) pass0 rfl (pa_cons (pe_cmpR op_eq (pe_callB call_len_seq (by rfl) T.z_len (by decide +kernel) (pa_cons (pv 4) pa_nil)) pe_int (nomark _)) pa_nil)))
      (pss_one (ps_ret (pe_ifExp (pt_cmpR op_eq (pv 3) pe_str (nomark _)) pe_nev (pe_callTy (call_strOwn Fst (hr.mono (by decide)) pass0) (by rfl) T.z_str (by decide +kernel) (pa_cons (pe_cm Ffi SC.cl (hr.mono (by decide)) pass0 (pv 0) (pa_cons (pe_ix ix_list (pv 4) pe_int (fun _ _ => rfl)) pa_nil)) pa_nil)))))) pss_nil)
      (pss_cons (ps_expr (pe_cg Fnf (hr.mono (by decide)) pass0 rfl (pa_cons (pe_cmpR op_gt (pe_callB call_len_seq (by rfl) T.z_len (by decide +kernel) (pa_cons (pv 4) pa_nil)) pe_int (nomark _)) pa_nil)))
      (pss_cons (ps_if (pt_cmpR op_eq (pv 3) pe_str (nomark _)) (pss_one (ps_ret (pe_cm Fcr SC.cl (hr.mono (by decide)) pass0 (pv 0) (pa_cons (pe_ix ix_list (pv 4) pe_int (fun _ _ => rfl)) (pa_cons (pe_cg Fpc (hr.mono (by decide)) (passes_call (takes_of rfl rfl rfl rfl) fun _ _ _ _ h => h) rfl (pa_cons (pe_join pe_str (pe_slice sl_list (pv 4) (po_some pe_int) po_none)) pa_nil)) pa_nil))))) pss_nil)
      pss_never)))))))), ?_⟩
    obtain ⟨d, past, S, ep⟩ := S
    have cok := st.ok S.ok
    refine ⟨_, rfl, _, _, _, _, true, rfl, .ty _, .base (.str _), kit_ty (by decide +kernel), rfl, ?_⟩
    refine ⟨_, rfl, ⟨_, rfl⟩, c.str, " ", rfl, rfl, by decide, by have := Cmd.short cok; rw [sizeLine_eq]; omega, fun p hp => ?_⟩
    rw [Cmd.split cok]
    have s1 : Same H (upd H p (.lst (c.words.map V.str))) := Same.new hp
    have hp1 : (upd H p (.lst (c.words.map V.str))) p = some (.lst (c.words.map V.str)) := upd_same
    generalize upd H p (.lst (c.words.map V.str)) = H1 at s1 hp1 ⊢
    have S1 := S.same s1
    have sL : past.length ≤ 1000 := by rw [← ep, List.length_map] at pl; exact pl
    have oE : (sesF d h o).lookup ("undo" : Str) = none ∧ (sesF d h o).lookup ("find" : Str) = none ∧ (sesF d h o).lookup ("create" : Str) = none := by cases o <;> exact ⟨rfl, rfl, rfl⟩
    cases c with
    | undo =>
      have hp1 : H1 p = some (.lst [.str "undo"]) := hp1
      refine ⟨_, rfl, p, _, 0, .str "undo", rfl, rfl, SqL.of hp1, at0, _, rfl, _, rfl, p, _, rfl, SqL.of hp1, fun p2 hp2 => ?_⟩
      rw [cut_1n]
      refine ⟨_, _, rfl, ?_⟩
      have s2 := s1.trans (Same.new (o := .lst []) hp2)
      have hp22 : (upd H1 p2 (.lst [])) p2 = some (.lst []) := upd_same
      generalize upd H1 p2 (.lst []) = H2 at s2 hp22 ⊢
      refine ⟨_, rfl, z2, fun q hq => ?_⟩
      refine ⟨q, _, rfl, .inr (SqT.of upd_same), rfl, rfl, _, rfl, iteTr (by decide +kernel) ?_⟩
      have s3 := s2.trans (Same.new (o := .tup [.str "undo", .str "names"]) hq)
      have hp23 := (Same.new (o := .tup [.str "undo", .str "names"]) hq) _ _ hp22
      generalize upd H2 q (.tup [.str "undo", .str "names"]) = H3 at s3 hp23 ⊢
      refine ⟨_, rfl, z0, fun q2 hq2 => ?_⟩
      have s4 := s3.trans (Same.new (o := .lst []) hq2)
      have hp24 := (Same.new (o := .lst []) hq2) _ _ hp23
      have hq4 : (upd H3 q2 (.lst [])) q2 = some (.lst []) := upd_same
      generalize upd H3 q2 (.lst []) = H4 at s4 hp24 hq4 ⊢
      refine ⟨.list (([] : List Str).map PyData.str), .list (([] : List Str).map PyData.str), .lst (SqL.of hp24) .nil, .lst (SqL.of hq4) .nil, by decide +kernel, by decide +kernel, rfl, ?_⟩
      refine ⟨_, rfl, rfl, _, rfl, iteTr (decide_eq_true rfl) ?_⟩
      refine ⟨_, rfl, x, dx, _, rfl, s4 _ _ S.obj, oE.1, ?_⟩
      refine ⟨x, dx, d, h, o, cs, past, rfl, S.same s4, fun e => ?_, fun p0 d0 cs0 e => ?_⟩
      · subst e
        cases st with
        | none hn =>
          exact fun H' s5 => k1 hn rfl H' (s4.trans s5)
        | back hb =>
          rw [← ep] at hb
          simp at hb
      · subst e
        rw [List.map_append] at ep
        cases st with
        | none hn =>
          rw [← ep] at hn
          simp at hn
        | @back p1 cs1 hb =>
          rw [← ep] at hb
          obtain ⟨e1, e2⟩ := List.append_inj' hb rfl
          cases e2
          subst e1
          exact fun H' b5 S5 => k2 (fun e => by rw [← ep] at e; simp at e) H' (fun b' u n hb => b5 b' u n (s4 b' u hb)) ⟨d0, p0, S5, rfl⟩
    | sho r =>
      cases st with
      | sho hr' =>
      have hp1 : H1 p = some (.lst [.str "show", .str r.1]) := hp1
      have nk := S.ok.nm r hr'
      refine ⟨_, rfl, p, _, 0, .str "show", rfl, rfl, SqL.of hp1, at0, _, rfl, _, rfl, p, _, rfl, SqL.of hp1, fun p2 hp2 => ?_⟩
      rw [cut_1n]
      refine ⟨_, _, rfl, ?_⟩
      have s2 := s1.trans (Same.new (o := .lst [.str r.1]) hp2)
      have hp22 : (upd H1 p2 (.lst [.str r.1])) p2 = some (.lst [.str r.1]) := upd_same
      generalize upd H1 p2 (.lst [.str r.1]) = H2 at s2 hp22 ⊢
      refine ⟨_, rfl, z2, fun q hq => ?_⟩
      refine ⟨q, _, rfl, .inr (SqT.of upd_same), rfl, rfl, _, rfl, iteFr (by decide +kernel) ?_⟩
      have s3 := s2.trans (Same.new (o := .tup [.str "undo", .str "names"]) hq)
      have hp23 := (Same.new (o := .tup [.str "undo", .str "names"]) hq) _ _ hp22
      generalize upd H2 q (.tup [.str "undo", .str "names"]) = H3 at s3 hp23 ⊢
      refine ⟨_, rfl, p2, _, rfl, .inl (SqL.of hp23), _, _, rfl, rfl, true, congrArg V.bl (decide_eq_true (show (0 : Int) < ((1 : Nat) : Int) by decide)), iteT ?_⟩
      refine ⟨_, rfl, p2, _, 0, .str r.1, rfl, rfl, SqL.of hp23, at0, r.1, rfl, by have := name_len nk; omega, fun H4 s4' => ?_⟩
      rw [nk]
      refine ⟨rfl, ?_⟩
      have s4 := s3.trans s4'
      have hp24 := s4' _ _ hp23
      refine ⟨_, rfl, z2, fun q2 hq2 => ?_⟩
      have s5 := s4.trans (Same.new (o := .tup [.str "drop", .str "show"]) hq2)
      have hp25 := (Same.new (o := .tup [.str "drop", .str "show"]) hq2) _ _ hp24
      refine ⟨q2, _, rfl, .inr (SqT.of upd_same), rfl, rfl, _, rfl, iteTr (by decide +kernel) ?_⟩
      generalize upd H4 q2 (.tup [.str "drop", .str "show"]) = H5 at s5 hp25 ⊢
      refine ⟨_, rfl, p2, _, rfl, .inl (SqL.of hp25), rfl, congrArg (fun b => [V.bl b]) (decide_eq_true rfl), ?_⟩
      refine ⟨_, rfl, rfl, _, rfl, iteFr (decide_eq_false fun e => absurd (V.str.inj e) (by decide +kernel)) ?_⟩
      refine ⟨_, rfl, x, dx, _, rfl, s5 _ _ S.obj, oE.2.1, _, rfl, p2, _, 0, .str r.1, rfl, rfl, SqL.of hp25, at0, x, dx, d, h, o, cs, past, r, rfl, S.same s5, hr', fun c6 H6 s6 hc => ?_⟩
      obtain ⟨cx, t1, t2, t3, hc1, hc2⟩ := id hc
      refine ⟨c6, cx, _, rfl, hc1, c6, r.2.1, r.2.2, rfl, hc, (S.ok.gd r hr').sh, fun H7 s7 => ⟨_, rfl, ?_⟩⟩
      exact k2 (fun _ e => nomatch e) H7 (ButL.of (s5.trans (s6.trans s7))) ⟨d, past, S.same (s5.trans (s6.trans s7)), ep⟩
    | put r =>
      cases st with
      | put nk g l26 rp =>
      have hp1 : H1 p = some (.lst (.str "set" :: .str r.1 :: (cWords r.2.1 r.2.2).map V.str)) := hp1
      have g2 := g.sh.l2
      refine ⟨_, rfl, p, _, 0, .str "set", rfl, rfl, SqL.of hp1, at0, _, rfl, _, rfl, p, _, rfl, SqL.of hp1, fun p2 hp2 => ?_⟩
      rw [cut_1n]
      refine ⟨_, _, rfl, ?_⟩
      have s2 := s1.trans (Same.new (o := .lst (.str r.1 :: (cWords r.2.1 r.2.2).map V.str)) hp2)
      have hp22 : (upd H1 p2 (.lst (.str r.1 :: (cWords r.2.1 r.2.2).map V.str))) p2 = some (.lst (.str r.1 :: (cWords r.2.1 r.2.2).map V.str)) := upd_same
      generalize upd H1 p2 (.lst (.str r.1 :: (cWords r.2.1 r.2.2).map V.str)) = H2 at s2 hp22 ⊢
      refine ⟨_, rfl, z2, fun q hq => ?_⟩
      refine ⟨q, _, rfl, .inr (SqT.of upd_same), rfl, rfl, _, rfl, iteFr (by decide +kernel) ?_⟩
      have s3 := s2.trans (Same.new (o := .tup [.str "undo", .str "names"]) hq)
      have hp23 := (Same.new (o := .tup [.str "undo", .str "names"]) hq) _ _ hp22
      generalize upd H2 q (.tup [.str "undo", .str "names"]) = H3 at s3 hp23 ⊢
      have len : (V.str r.1 :: (cWords r.2.1 r.2.2).map V.str).length = r.2.2.length + 3 := by
        rw [List.length_cons, List.length_map]
        show (r.2.2.map num).length + 1 + 1 + 1 = _
        rw [List.length_map]
      refine ⟨_, rfl, p2, _, rfl, .inl (SqL.of hp23), _, _, rfl, rfl, true, congrArg V.bl (decide_eq_true (by rw [len]; omega)), iteT ?_⟩
      refine ⟨_, rfl, p2, _, 0, .str r.1, rfl, rfl, SqL.of hp23, at0, r.1, rfl, by have := name_len nk; omega, fun H4 s4' => ?_⟩
      rw [nk]
      refine ⟨rfl, ?_⟩
      have s4 := s3.trans s4'
      have hp24 := s4' _ _ hp23
      refine ⟨_, rfl, z2, fun q2 hq2 => ?_⟩
      have s5 := s4.trans (Same.new (o := .tup [.str "drop", .str "show"]) hq2)
      have hp25 := (Same.new (o := .tup [.str "drop", .str "show"]) hq2) _ _ hp24
      refine ⟨q2, _, rfl, .inr (SqT.of upd_same), rfl, rfl, _, rfl, iteFr (by decide +kernel) ?_⟩
      generalize upd H4 q2 (.tup [.str "drop", .str "show"]) = H5 at s5 hp25 ⊢
      refine ⟨_, rfl, p2, _, rfl, .inl (SqL.of hp25), _, _, rfl, rfl, congrArg (fun b => [V.bl b]) (decide_eq_true (by rw [len]; omega)), ?_⟩
      refine ⟨_, rfl, rfl, _, rfl, iteTr (decide_eq_true rfl) ?_⟩
      refine ⟨_, rfl, x, dx, _, rfl, s5 _ _ S.obj, oE.2.2, _, rfl, p2, _, 0, .str r.1, rfl, rfl, SqL.of hp25, at0, ⟨_, rfl⟩, _, rfl, _, rfl, p2, _, rfl, SqL.of hp25, fun p6 hp6 => ?_⟩
      rw [cut_1n]
      have s6 := s5.trans (Same.new (o := .lst ((cWords r.2.1 r.2.2).map V.str)) hp6)
      refine ⟨" ", p6, cWords r.2.1 r.2.2, rfl, rfl, .inl (SqL.of upd_same), cWords_sum (by have := g.sh.n2; omega) (fun m hm => by have := g.sh.lt m hm; have := g.sh.n2; omega) g.sh.l2, r.2.1, r.2.2, rfl, g, fun H7 c7 s7 hc7 => ?_⟩
      have e7 := s6.trans s7
      exact ⟨x, dx, d, h, c7, o, cs, cs', past, r, rfl, S.same e7, hc7, l26, sL, rp, fun d' H8 b8 S8 => k2 (fun _ e => nomatch e) H8 (fun b' u n hb => b8 b' u n (e7 b' u hb)) ⟨d', _, S8, by rw [List.map_append, ep]; rfl⟩⟩
end
end TF
end
section
set_option maxHeartbeats 4000000
set_option pp.maxSteps 3000

namespace TF
open PySem PySem.Spec PyProof.Rows L2 TL StX
theorem pe_faZ {X : Cx} {k : Nat} {D : Addr} {z x : Str} {a : Addr} {oe : Obj} {pn : List (Addr × Obj)} {i : Nat} {p p2 pos : Pos} {cls : Value} {d : Option Addr} (F : FaOk X.prog X.w X.K X.mg X.base k D z) (hr : Room k X.A) (hz : Zc cls d oe) (hf : ∃ vs, oe.data = .fields vs) (hg : Gl (X.suite a ((a, oe) :: pn)) "failure_of")
    (hN : (X.suite a ((a, oe) :: pn)).N[i]? = some x) (hv : Vis (X.suite a ((a, oe) :: pn)).env.scope x) (hd : (x == ("__debug__" : Str)) = false := by decide) (hcd : (x == ("__classdict__" : Str)) = false := by decide)
    (he : starEach [.Name x p2] (X.suite a ((a, oe) :: pn)).env = (false, eval (.Name x p2) (X.suite a ((a, oe) :: pn)).env) :: starEach [] (X.suite a ((a, oe) :: pn)).env := by rfl) :
    PE (X.suite a ((a, oe) :: pn)) (.Call (.Name "failure_of" p) [.Name x p2] [] pos) (fun σ H Q => cls = .ref D ∧ d = none ∧ σ[i]? = some (some (.ref a)) ∧ Q (.str z) H) :=
  ⟨fun pins s σ H Q I ⟨e1, e2, q⟩ => by
    subst e1 e2
    exact (pe_fa (CX := CX0) F hr hz hf hg hN hv hd hcd he).run pins s σ H Q I q⟩
section
variable {P : Program} {w : World} {K : PySem.W.Frag} {mg : Str → Option Value} {base : Heap}
/-! ### outcome -/
def spOut (K : PySem.W.Frag) (C : Addr) : Sp := fun vs H Q _ => ∃ (s dx h : Addr) (o : Option Addr) (cs cs' : List Row) (ps ps' : List (List Row)) (c : Cmd) (ans : Str), vs = [.ref s, .str c.str] ∧ SesR K H C s dx h o cs ps ∧ ps.length ≤ 1000 ∧ Step cs ps c ans cs' ps' ∧
  ∀ p b H', H p = none → ButL [s, h] H H' → SesR K H' C s dx h o cs' ps' → H' p = some (.tup [.str ans, .bl b]) → Q (.ref p) H'
theorem scOut : FnScope ["self", "command", "error"] ["self", "command"] (defScope (inClass (tops 71) 12)) := ⟨rfl, rfl, rfl, by decide +kernel, rfl, by decide +kernel, by decide +kernel⟩
/-- Session.outcome, whichever class the session has -/
theorem out_fn {C f : Addr} {fd : FuncData} (G : FunD K "outcome" "Session.outcome" (defArgs (inClass (tops 71) 12)) (defBody (inClass (tops 71) 12)) (defScope (inClass (tops 71) 12)) [] [] f fd) (SC : SesC K C) (EA : ErrA K mg) (Ffa : FaOk P w K mg base 1 (aNU K) "nothing to undo") (Fpf : MOk P w K mg base (L2.CX P w) 7 C "perform" (spPf K C)) :
    FnOk P w K mg base CX0 8 f fd ["self", "command"] (spOut K C) := by
  refine G.ok scOut (fun vs H Q E h => ?_) (fun cdv A outer s H vs Q E hr h => ?_)
  · obtain ⟨_, _, _, _, _, _, _, _, _, _, rfl, _⟩ := h
    rfl
  · obtain ⟨x, dx, h, o, cs, cs', ps, ps', c, ans, rfl, S, pl, st, k⟩ := h
    suffices hh : ∃ t, PSs (cxOf CX0 P w K mg base ["self", "command", "error"] "Session.outcome" (defScope (inClass (tops 71) 12)) f cdv A outer s H E).nox (defBody (inClass (tops 71) 12)) t ∧ t { nx := fun _ H' => Q .non H', rt := Q } (start ["self", "command", "error"] [.ref x, .str c.str]) H by
      obtain ⟨t, h1, h2⟩ := hh
      exact ⟨t, h1.nox, h2⟩
    refine ⟨_, (pss_one (ps_tryTas (i := 2) rfl rfl scOut.nd rfl rfl (tst_five ⟨rfl, by decide, .inl EA.m_IT⟩ ⟨rfl, by decide, .inl EA.m_IC⟩ ⟨rfl, by decide, .inl EA.m_IN⟩ ⟨rfl, by decide, .inl EA.m_TL⟩ ⟨rfl, by decide, .inl EA.m_NU⟩) takes_none5 (fun W pn xe tk _ => (pss_one (ps_ret (pe_tup (pa_cons (pe_cmS Fpf SC.cl (hr.mono (by decide)) (fun σ => passAt tk σ) (pv 0) (pa_cons (pv 1) pa_nil)) (pa_cons pe_bl pa_nil)))))) (fun a oe cls d pn hz hf => (pss_one (ps_ret (pe_tup (pa_cons (pe_faZ (i := 2) Ffa (hr.mono (by decide)) hz hf rfl rfl (Or.inl rfl)) (pa_cons pe_bl pa_nil)))))))), ?_⟩
    have fr : ∀ {H1 : Hp} {q : Addr}, ButL [x, h] H H1 → SesR K H1 C x dx h o cs' ps' → H1 q = none → H q = none ∧ q ≠ x ∧ q ≠ h := fun {H1 q} b S1 hq => by
      obtain ⟨d1, past1, S1, _⟩ := S1
      have n1 : q ≠ x := fun e => by rw [e, S1.obj] at hq; cases hq
      have n2 : q ≠ h := fun e => by rw [e, S1.hs] at hq; cases hq
      refine ⟨?_, n1, n2⟩
      cases e : H q with
      | none => rfl
      | some u =>
        rw [b q u (fun m => by rcases List.mem_cons.mp m with e | m; exact n1 e; exact n2 (List.mem_singleton.mp m)) e] at hq
        cases hq
    have oE : (sesF 0 h o).lookup ("perform" : Str) = none := by cases o <;> rfl
    obtain ⟨d, past, S0, ep⟩ := id S
    refine ⟨_, rfl, x, dx, _, rfl, S0.obj, by cases o <;> rfl, _, rfl, x, dx, h, o, cs, cs', ps, ps', c, ans, rfl, S, pl, st, fun hn hc H1 s1 => ?_, fun _ H1 b1 S1 => ?_⟩
    · refine ⟨true, EA.five, fun _ a ha => ?_, fun z => nomatch z⟩
      refine ⟨rfl, rfl, rfl, z2, fun q hq => ?_⟩
      subst hc
      cases st with
      | none hn' => exact k q false _ (s1.free hq) (ButL.of (s1.trans (Same.new hq))) (S.same (s1.trans (Same.new hq))) upd_same
      | back hb => rw [hn] at hb; simp at hb
    · refine ⟨z2, fun q hq => ?_⟩
      have := fr b1 S1 hq
      exact k q true _ this.1 (b1.same (Same.new hq)) (S1.same (Same.new hq)) upd_same
/-- .. as a method -/
theorem ok_out {C : Addr} (G : MDef K C "outcome" "Session.outcome" (inClass (tops 71) 12)) (SC : SesC K C) (EA : ErrA K mg) (Ffa : FaOk P w K mg base 1 (aNU K) "nothing to undo") (Fpf : MOk P w K mg base (L2.CX P w) 7 C "perform" (spPf K C)) : MOk P w K mg base CX0 8 C "outcome" (spOut K C) := by
  obtain ⟨f, fd, G, hm⟩ := G
  exact ⟨f, fd, _, out_fn G SC EA Ffa Fpf, G.bindsN (fun _ _ _ _ _ _ us hl => match us, hl with | [_, _], _ => rfl), hm⟩
/-! ### execute -/
/-- what execute answers, R what it keeps of the log -/
def spExe (K : PySem.W.Frag) (C : Addr) (Ro : Sp) : Sp := fun vs H Q _ => Ro vs H (fun v H' => ∃ (p : Addr) (z : Str) (b : Bool), v = .ref p ∧ H' p = some (.tup [.str z, .bl b]) ∧ Q (.str z) H') E0 ∧ vs.length = 2 ∧ ∃ x dx fs, vs[0]? = some (.ref x) ∧ H x = some (.ins C dx fs) ∧ fs.lookup ("outcome" : Str) = none
theorem scExe : FnScope ["self", "command"] ["self", "command"] (defScope (inClass (tops 71) 13)) := ⟨rfl, rfl, rfl, by decide +kernel, rfl, by decide +kernel, by decide +kernel⟩
theorem ok_exe {C : Addr} {Ro : Sp} (G : MDef K C "execute" "Session.execute" (inClass (tops 71) 13)) (SC : SesC K C) (Fo : MOk P w K mg base CX0 10 C "outcome" Ro) (mo : ∀ vs H Q Q' E, (∀ v H', Q v H' → Q' v H') → Ro vs H Q E → Ro vs H Q' E) : MOk P w K mg base CX0 11 C "execute" (spExe K C Ro) := by
  refine G.ok scExe (fun vs H Q E h => h.2.1) (fun _ _ _ _ _ _ us hl => match us, hl with | [_, _], _ => rfl) (fun f cdv A outer s H vs Q E hr h => ?_)
  obtain ⟨h1, h2, x, dx, fs, h3, h4, h5⟩ := h
  match vs, h2 with
  | [v0, v1], _ =>
    cases h3
    refine ⟨_, (pss_one (ps_ret (pe_ix ix_tup (pe_cm Fo SC.cl (hr.mono (by decide)) pass0 (pv 0) (pa_cons (pv 1) pa_nil)) pe_int (fun _ _ => rfl)))), ?_⟩
    refine ⟨_, rfl, x, dx, fs, rfl, h4, h5, _, rfl, ?_⟩
    refine mo _ _ _ _ _ (fun v H' hv => ?_) h1
    obtain ⟨p, z, b, rfl, hp, q⟩ := hv
    exact ⟨p, _, 0, .str z, rfl, rfl, SqT.of hp, at0, q⟩
theorem spOut_mono {C : Addr} : ∀ vs H Q Q' E, (∀ v H', Q v H' → Q' v H') → spOut K C vs H Q E → spOut K C vs H Q' E := fun vs H Q Q' E hq ⟨s, dx, h, o, cs, cs', ps, ps', c, ans, e, S, pl, st, k⟩ => ⟨s, dx, h, o, cs, cs', ps, ps', c, ans, e, S, pl, st, fun p b H' n bb S' hp => hq _ _ (k p b H' n bb S' hp)⟩
end
end TF
end
section
set_option maxHeartbeats 4000000
set_option pp.maxSteps 3000

namespace TF
open PySem PySem.Spec PyProof.Rows L2 TL StX NdefX
section
variable {P : Program} {w : World} {K : PySem.W.Frag} {mg : Str → Option Value} {base : Heap}
/-! ### super(), as the text stands -/
structure SupG (P : Program) (K : PySem.W.Frag) (mg : Str → Option Value) (c : Addr) : Prop where
  co : ∃ (oc : Obj) (vs : Array Value) (file : Str) (tf : Tok), K.lookup c = some oc ∧ oc.data = .fields vs ∧ vs[2]? = some (.str file tf) ∧ ((P.main.file : Str) == file) = true
  top : (P.main.scope.names.lookup ("super" : Str)).isSome = false
  mg : mg "super" = none
  tp : PySem.W.nsIn K cStatics "thirdparty.any" = some none
/-- a method that says super(), found on C by its name; D the class that it stands in -/
def SDef (P : Program) (K : PySem.W.Frag) (mg : Str → Option Value) (C : Addr) (m qual : Str) (st : Stmt) (D : Addr) : Prop := ∃ (f cc c : Addr) (kV doc pm : Value) (an : Option Addr) (ct : Value), SupO K f m qual st D cc c kV doc pm an ct ∧ SupG P K mg c ∧ Meth K C m f
theorem supx {CX : CXT} {f D cc c : Addr} {name qual : Str} {st : Stmt} {kV doc pm ct : Value} {an : Option Addr} {N ps : List Str} {A : Around} {outer : List Env} {s : Shared} {H : Hp} {E : XK} (O : SupO K f name qual st D cc c kV doc pm an ct) (G : SupG P K mg c) (S : NScope N ps ["__class__"] (defScope st))
    (h0 : N[0]? = some ("self" : Str)) (hs : ("self" : Str) ∈ ps) (ha : ∃ ar : Arg, ((defArgs st).posonlyargs ++ (defArgs st).args).head? = some ar ∧ ar.arg = "self") (e1 : (defScope st).names.lookup ("super" : Str) = some .globalImplicit) : SupX (ncx CX P w K mg base N (supF name qual st cc c) f A outer s H E) "self" D := by
  obtain ⟨oc, od, osl, lk⟩ := O.lk
  obtain ⟨ar, a1, a2⟩ := ha
  obtain ⟨oo, vs, file, tf, c1, c2, c3, c4⟩ := G.co
  obtain ⟨o2, d1, d2⟩ := O.ce
  exact ⟨e1, S.frk _ (List.mem_singleton.mpr rfl), S.kind, ⟨f, _, _, ar, rfl, lk, rfl, a1, a2⟩, ⟨c, oo, vs, file, tf, rfl, c1, c2, c3, c4⟩, G.top, ⟨cc, o2, rfl, d1, d2⟩, h0, S.par _ hs, G.mg, O.cl, G.tp⟩
/-! ### Recorder.__init__ -/
structure RecC (K : PySem.W.Frag) : Prop extends SesC K (aRec K) where
  n3 : NoAttr K (aRec K) "entries"
def spRi (K : PySem.W.Frag) : Sp := fun vs H Q _ => ∃ (x dx d : Addr) (cs : List Row), vs = [.ref x, .ref d] ∧ H x = some (.ins (aRec K) dx []) ∧ CatAt K H d cs ∧ OkRows cs ∧ (∀ r ∈ cs, r.1 ≠ ("self" : Str)) ∧
  ∀ H' d' h e, ButL [x] H H' → H d' = none → H h = none → H e = none → e ≠ h → H' x = some (.ins (aRec K) dx [("held", .ref d'), ("history", .ref h), ("entries", .ref e)]) → CatAt K H' d' cs → H' h = some (.lst []) → H' e = some (.lst []) → Q .non H'
theorem scRi : NScope ["self", "cells", "__class__"] ["self", "cells"] ["__class__"] (defScope (inClass (tops 72) 0)) := nscope_by (by decide +kernel)
theorem ok_ri {g : Addr} (G : SDef P K mg (aRec K) "__init__" "Recorder.__init__" (inClass (tops 72) 0) (aRec K)) (M : ∃ f, Mk K (aRec K) f) (RC : RecC K) (SM : SupM K (aRec K) (aRec K) "__init__" g) (F : FnKw P w K mg base CX0 3 g (spKw 1 ["self"] (spSi K))) :
    CKOk P w K mg base CX0 4 (aRec K) (spKw 1 ["self"] (spRi K)) := by
  obtain ⟨f, cc, c, kV, doc, pm, an, ct, O, SG, hm⟩ := G
  obtain ⟨f', M⟩ := M
  have ef : f' = f := by
    have := M.init.symm.trans hm.at_
    cases this
    rfl
  subst ef
  refine ⟨f', M, fn_supkw O scRi cxUp0 ⟨rfl, rfl, rfl, rfl, _, rfl, rfl⟩ fun A outer s H vs Q E hr h => ?_⟩
  obtain ⟨x, dx, d, cs, rfl, hx, hcat, ok, ns, k⟩ := h
  have SX : SupX (ncx CX0 P w K mg base ["self", "cells", "__class__"] (supF "__init__" "Recorder.__init__" (inClass (tops 72) 0) cc c) f' A outer s H E) "self" (aRec K) := supx O SG scRi rfl (List.mem_cons_self ..) ⟨_, rfl, rfl⟩ (by decide +kernel)
  refine ⟨_, (pss_consAt (ps_exprAt (pe_superkw SX SM F (hr.mono (by decide)) pass0 (pv 1)))
      (PSs.at (pss_one (ps_fld (pv 0) (pe_lst pa_nil) rfl)))), ?_⟩
  obtain ⟨es, hE, hp⟩ := hcat
  have l26 := ok.ln
  have le := ents_len hp
  have eK : es.map Ent.kv = (es.map fun e => (e.nm, V.ref e.c)).map fun q => ((Sum.inr q.1 : Key), q.2) := by rw [List.map_map]; rfl
  have eN : (es.map fun e => (e.nm, V.ref e.c)).map (·.1) = es.map (·.nm) := by rw [List.map_map]; rfl
  have noSelf : ∀ r ∈ cs, r.1 ≠ ("self" : Str) := ns
  refine ⟨x, dx, [], rfl, hx, _, rfl, d, _, rfl, by rw [← eK]; exact hE.1, by rw [List.length_map]; omega, rfl, by rw [List.length_map]; omega, ?_, fun q hq => ?_, fun D hD => ?_⟩
  · rw [eN]
    exact (ents_names hp).nodup_iff.mpr ok.nd
  · obtain ⟨e, he, rfl⟩ := List.mem_map.mp hq
    exact fun m => noSelf e.row (hp.mem_iff.mp (List.mem_map_of_mem he)) (List.mem_singleton.mp m)
  · rw [← eK]
    have s1 : Same H (upd H D (.dK (es.map Ent.kv))) := Same.new hD
    refine ⟨x, aRec K, dx, D, cs, rfl, RC.toSesC, s1 _ _ hx, ⟨es, ⟨upd_same, fun e he => (hE.2 e he).same s1⟩, hp⟩, ok, fun H2 d' h b hd' hh hx2 cat' hh2 => ?_⟩
    refine ⟨z0, fun e he => ?_⟩
    have nxe : e ≠ x := fun z => by rw [z, hx2] at he; cases he
    have neh : e ≠ h := fun z => by rw [z, hh2] at he; cases he
    refine ⟨_, rfl, x, aRec K, dx, _, rfl, (Same.new (o := .lst []) he) _ _ hx2, RC.cl, RC.n3, (show 2 < 1000 by decide), ?_⟩
    have hEn : H e = none := by
      cases q : H e with
      | none => rfl
      | some u => rw [b e u (fun m => nxe (List.mem_singleton.mp m)) (s1 _ _ q)] at he; cases he
    have b2 : ButL [x] H2 (upd (upd H2 e (.lst [])) x (.ins (aRec K) dx (putF "entries" (.ref e) [("held", .ref d'), ("history", .ref h)]))) := (ButL.of (Same.new he)).upd (List.mem_singleton.mpr rfl)
    refine k _ d' h e (fun b' u n hb => b2 b' u n (b b' u n (s1 b' u hb))) (s1.free hd') (s1.free hh) hEn neh upd_same (cat'.butL b2 fun a ha u hu => .inl ?_) (b2 _ _ (fun m => ?_) hh2) ((upd_ne nxe).trans upd_same)
    · rw [List.mem_singleton.mp ha, hx2] at hu
      cases hu
      exact ⟨_, _, _, rfl, rfl⟩
    · have := List.mem_singleton.mp m
      rw [this, hx2] at hh2
      cases hh2
/-! ### Recorder.outcome -/
/-- the log -/
def RecAt (H : Hp) (e : Addr) (log : List (Str × Str)) : Prop := ∃ ts : List Addr, H e = some (.lst (ts.map V.ref)) ∧ Paired (fun t p => H t = some (.tup [.str p.1, .str p.2])) ts log
theorem paired_imp {α β : Type} {F G : α → β → Prop} (h : ∀ a b, F a b → G a b) : ∀ {l : List α} {m : List β}, Paired F l m → Paired G l m
  | _, _, .nil => .nil
  | _, _, .cons x t => .cons (h _ _ x) (paired_imp h t)
theorem paired_snoc {α β : Type} {F : α → β → Prop} {a : α} {b : β} (h : F a b) : ∀ {l : List α} {m : List β}, Paired F l m → Paired F (l ++ [a]) (m ++ [b])
  | _, _, .nil => .cons h .nil
  | _, _, .cons x t => .cons x (paired_snoc h t)
theorem RecAt.same {H H' : Hp} {e : Addr} {log : List (Str × Str)} (h : RecAt H e log) (s : Same H H') : RecAt H' e log := by
  obtain ⟨ts, h1, h2⟩ := h
  exact ⟨ts, s _ _ h1, paired_imp (fun t p q => s _ _ q) h2⟩
theorem RecAt.butL {H H' : Hp} {L : List Addr} {e : Addr} {log : List (Str × Str)} (h : RecAt H e log) (b : ButL L H H') (n : e ∉ L) (st : Stray H L) : RecAt H' e log := by
  obtain ⟨ts, h1, h2⟩ := h
  refine ⟨ts, b _ _ n h1, paired_imp (fun t p q => b _ _ (fun m => ?_) q) h2⟩
  rcases st _ m _ q with ⟨_, _, _, z, _⟩ | ⟨_, z⟩ <;> cases z
/-- the log grows -/
theorem Ses.log {H : Hp} {C s dx d h e : Addr} {cs : List Row} {past : List (Addr × List Row)} (S : Ses K H C s dx d h (some e) cs past) {ys : List V} : Ses K (upd H e (.lst ys)) C s dx d h (some e) cs past := by
  obtain ⟨n, xs, q⟩ := S.en e rfl
  have nes : e ≠ s := fun z => by rw [z, S.obj] at q; cases q
  have b : ButL [e] H (upd H e (.lst ys)) := (ButL.of (Same.refl H)).upd (List.mem_singleton.mpr rfl)
  have st : Stray H [e] := fun a ha u hu => .inr (by rw [List.mem_singleton.mp ha, q] at hu; cases hu; exact ⟨_, rfl⟩)
  exact ⟨(upd_ne nes.symm).trans S.obj, S.cat.butL b st, S.ok, (upd_ne n.symm).trans S.hs, fun p hp => ⟨(S.pc p hp).1.butL b st, (S.pc p hp).2⟩, fun a ha => by cases ha; exact ⟨n, ys, upd_same⟩⟩
def spRo (K : PySem.W.Frag) : Sp := fun vs H Q _ => ∃ (s dx h e : Addr) (cs cs' : List Row) (ps ps' : List (List Row)) (c : Cmd) (ans : Str) (log : List (Str × Str)), vs = [.ref s, .str c.str] ∧ SesR K H (aRec K) s dx h (some e) cs ps ∧ RecAt H e log ∧ log.length ≤ 100000 ∧ ps.length ≤ 1000 ∧ Step cs ps c ans cs' ps' ∧
  ∀ p b H', H p = none → ButL [s, h, e] H H' → SesR K H' (aRec K) s dx h (some e) cs' ps' → RecAt H' e (log ++ [(c.str, ans)]) → H' p = some (.tup [.str ans, .bl b]) → Q (.ref p) H'
theorem scRo : NScope ["self", "command", "__class__", "found"] ["self", "command"] ["__class__"] (defScope (inClass (tops 72) 1)) := nscope_by (by decide +kernel)
theorem ok_ro {g : Addr} {gd : FuncData} (G : SDef P K mg (aRec K) "outcome" "Recorder.outcome" (inClass (tops 72) 1) (aRec K)) (RC : RecC K) (T : TxtA K mg) (SM : SupM K (aRec K) (aRec K) "outcome" g) (F : FnR P w K mg base CX0 8 g (spOut K (aRec K))) :
    MOk P w K mg base CX0 9 (aRec K) "outcome" (spRo K) := by
  obtain ⟨f, cc, c, kV, doc, pm, an, ct, O, SG, hm⟩ := G
  refine ⟨f, _, ["self", "command"], fn_sup (N := ["self", "command", "__class__", "found"]) O scRo (fun vs H Q E h => ?_) (fun A outer s H vs Q E hr h => ?_), .all fun us hl => match us, hl with | [_, _], _ => rfl, hm⟩
  · obtain ⟨_, _, _, _, _, _, _, _, _, _, _, rfl, _⟩ := h
    rfl
  · obtain ⟨x, dx, h, e, cs, cs', ps, ps', cm, ans, log, rfl, S, R, ll, pl, st, k⟩ := h
    have SX : SupX (ncx CX0 P w K mg base ["self", "command", "__class__", "found"] (supF "outcome" "Recorder.outcome" (inClass (tops 72) 1) cc c) f A outer s H E) "self" (aRec K) := supx O SG scRo rfl (List.mem_cons_self ..) ⟨_, rfl, rfl⟩ (by decide +kernel)
    refine ⟨_, (pss_consAt (ps_setAt (i := 3) scRo.nd rfl (Or.inl rfl) (pe_super SX SM F (hr.mono (by decide)) pass0 (pa_cons (pv 1) pa_nil)))
      (PSs.at (pss_cons (ps_expr (pe_bm PySem.F.plainAttrs_list PySem.F.slot_list_append PySem.F.type_list_append mt_append (pe_fld (pv 0) rfl) (pa_cons (pe_tup (pa_cons (pe_ifExp (pt_val (pe_callB call_isi (by rfl) T.z_isinstance (by decide +kernel) (pa_cons (pv 1) (pa_cons (pe_bltn (v := .ty "str") (by rfl) T.z_str (by decide +kernel) rfl) pa_nil)))) (pv 1) pe_non) (pa_cons (pe_ix ix_tup (pv 3) pe_int (fun _ _ => rfl)) pa_nil))) pa_nil)))
      (pss_one (ps_ret (pv 3)))))), ?_⟩
    obtain ⟨d, past, S0, ep⟩ := id S
    obtain ⟨neh, xs, he⟩ := S0.en e rfl
    have nes : e ≠ x := fun z => by rw [z, S0.obj] at he; cases he
    have nin : e ∉ [x, h] := fun m => by
      rcases List.mem_cons.mp m with z | m
      · exact nes z
      · exact neh (List.mem_singleton.mp m)
    refine ⟨x, dx, _, rfl, S0.obj, _, rfl, x, dx, h, some e, cs, cs', ps, ps', cm, ans, rfl, S, pl, st, fun p b H1 pn b1 S1 hp1 => ?_⟩
    have R1 := R.butL b1 nin S0.stray
    obtain ⟨d1, past1, S1', ep1⟩ := id S1
    obtain ⟨ts, r1, r2⟩ := id R1
    have lts : ts.length = log.length := by
      have : ∀ {l : List Addr} {m : List (Str × Str)} {F : Addr → Str × Str → Prop}, Paired F l m → l.length = m.length := fun h => Paired.length h
      exact this r2
    refine ⟨_, rfl, x, _, _, _, _, rfl, S1'.obj, RC.cl, RC.n3, rfl, .inl ⟨rfl, _, SqL.of r1⟩, ?_⟩
    refine ⟨_, rfl, _, _, _, _, true, rfl, .ty _, .base (.str _), kit_ty (by decide +kernel), _, rfl, iteT ⟨_, rfl, _, rfl, p, _, 0, .str ans, rfl, rfl, SqT.of hp1, at0, ?_⟩⟩
    refine ⟨z2, fun t ht => ?_⟩
    have s2 : Same H1 (upd H1 t (.tup [.str cm.str, .str ans])) := Same.new ht
    have r12 := s2 _ _ r1
    refine ⟨e, _, _, rfl, rfl, r12, by rw [List.length_map, sizeLine_eq]; omega, ?_⟩
    have S2 : SesR K (upd H1 t (.tup [.str cm.str, .str ans])) (aRec K) x dx h (some e) cs' ps' := S1.same s2
    have nte : t ≠ e := fun z => by rw [z, r1] at ht; cases ht
    have st : Stray H1 [e] := fun a ha u hu => .inr (by rw [List.mem_singleton.mp ha, r1] at hu; cases hu; exact ⟨_, rfl⟩)
    have b2 : ButL [e] H1 (upd (upd H1 t (.tup [.str cm.str, .str ans])) e (.lst (ts.map V.ref ++ [.ref t]))) := (ButL.of s2).upd (List.mem_singleton.mpr rfl)
    refine ⟨_, rfl, k p b _ pn (fun b' u n hb => b2 b' u (fun m => n (List.mem_cons_of_mem _ (List.mem_cons_of_mem _ m))) (b1 b' u (fun m => n (by rcases List.mem_cons.mp m with z | m; exact z ▸ List.mem_cons_self ..; exact List.mem_cons_of_mem _ (List.mem_cons.mpr (.inl (List.mem_singleton.mp m))))) hb)) ?_ ?_ ?_⟩
    · obtain ⟨d2, past2, S2, ep2⟩ := S2
      exact ⟨d2, past2, S2.log, ep2⟩
    · refine ⟨ts ++ [t], by rw [upd_same, List.map_append]; rfl, paired_snoc ?_ (paired_imp (fun t' q hq => b2 _ _ (fun m => ?_) hq) r2)⟩
      · rw [upd_ne nte, upd_same]
      · rw [List.mem_singleton.mp m, r1] at hq
        cases hq
    · refine b2 _ _ (fun m => ?_) hp1
      rw [List.mem_singleton.mp m, r1] at hp1
      cases hp1
theorem spRo_mono : ∀ vs H Q Q' E, (∀ v H', Q v H' → Q' v H') → spRo K vs H Q E → spRo K vs H Q' E := fun vs H Q Q' E hq ⟨s, dx, h, e, cs, cs', ps, ps', c, ans, log, ev, S, R, ll, pl, st, k⟩ => ⟨s, dx, h, e, cs, cs', ps, ps', c, ans, log, ev, S, R, ll, pl, st, fun p b H' n bb S' R' hp => hq _ _ (k p b H' n bb S' R' hp)⟩
/-! ### transcript -/
def spTr (K : PySem.W.Frag) : Sp := fun vs H Q _ => ∃ (s dx h e : Addr) (cs : List Row) (ps : List (List Row)) (log : List (Str × Str)), vs = [.ref s] ∧ SesR K H (aRec K) s dx h (some e) cs ps ∧ RecAt H e log ∧
  ∀ p H', Same H H' → (∃ ts : List Addr, H' p = some (.lst (ts.map V.ref)) ∧ Paired (fun t q => H' t = some (.tup [.str q.1, .str q.2])) ts log) → Q (.ref p) H'
theorem scTr : FnScope ["self"] ["self"] (defScope (inClass (tops 72) 2)) := ⟨rfl, rfl, rfl, by decide +kernel, rfl, by decide +kernel, by decide +kernel⟩
theorem ok_tr (G : PDef K (aRec K) "transcript" "Recorder.transcript" (inClass (tops 72) 2)) (RC : RecC K) (T : TxtA K mg) : POk P w K mg base CX0 1 (aRec K) "transcript" (spTr K) := by
  refine G.ok scTr (fun vs H Q E h => ?_) (fun _ _ _ _ _ _ us hl => match us, hl with | [_], _ => rfl) (fun f cdv A outer s H vs Q E hr h => ?_)
  · obtain ⟨_, _, _, _, _, _, _, rfl, _⟩ := h
    rfl
  · obtain ⟨x, dx, h, e, cs, ps, log, rfl, S, R, k⟩ := h
    obtain ⟨d, past, S, ep⟩ := S
    obtain ⟨ts, r1, r2⟩ := R
    refine ⟨_, (pss_one (ps_ret (pe_callTy call_list_of (by rfl) T.z_list (by decide +kernel) (pa_cons (pe_fld (pv 0) rfl) pa_nil)))), ?_⟩
    refine ⟨_, rfl, x, _, _, _, _, rfl, S.obj, RC.cl, RC.n3, rfl, ?_⟩
    exact ⟨e, _, rfl, .inl (SqL.of r1), fun l hl => k l _ (Same.new hl) ⟨ts, upd_same, paired_imp (fun t q hq => Same.new hl _ _ hq) r2⟩⟩
end
end TF
end
section
set_option maxHeartbeats 4000000
namespace TF
open PySem PySem.Spec PyProof.Rows L2 PySem.W PySem.Calls
/-- a method that keeps its promise, called with n own values and the keywords ks -/
structure MKOk (P : Program) (w : World) (K : Frag) (mg : Str → Option Value) (base : Heap) (CX : CXT) (k : Nat) (C : Addr) (m : Str) (n : Nat) (ks : List Str) (gV : List V → List V → List V) (sp : Sp) : Prop where
  g : ∃ (f : Addr) (fd : FuncData) (ps : List Str) (gg : List Value → List Value → List Value), FnOk P w K mg base CX k f fd ps sp ∧ KBn K fd ps n ks gg gV ∧ Meth K C m f
/-- a classmethod, so called -/
structure CKmOk (P : Program) (w : World) (K : Frag) (mg : Str → Option Value) (base : Heap) (CX : CXT) (k : Nat) (C : Addr) (m : Str) (n : Nat) (ks : List Str) (gV : List V → List V → List V) (sp : Sp) : Prop where
  g : ∃ (p f : Addr) (fd : FuncData) (ps : List Str) (gg : List Value → List Value → List Value), FnOk P w K mg base CX k f fd ps sp ∧ KBn K fd ps n ks gg gV ∧ ClX.CMet K C (.type "type") m p f ∧ ClX.CRead K C (.type "type")
section
variable {X : Cx} {CX : CXT} {k n : Nat} {C : Addr} {m x : Str} {ks : List Str} {gV : List V → List V → List V} {sp : Sp} {E : XK} {o e : Expr} {es : List Expr} {kws : List Keyword} {ta : TE} {t tk : TA} {p pos apos : Pos} {pl : Sem Bool}
def tMethK (C : Addr) (m : Str) (n : Nat) (ks : List Str) (gV : List V → List V → List V) (sp : Sp) (E : XK) (ta : TE) (t tk : TA) : TE := fun σ H Q => ta σ H fun x H1 => ∃ a dx fs, x = .ref a ∧ H1 a = some (.ins C dx fs) ∧ fs.lookup m = none ∧
  t σ H1 fun vs H2 => tk σ H2 fun zs H3 => vs.length + 1 = n ∧ zs.length = ks.length ∧ sp (gV (.ref a :: vs) zs) H3 Q E
/-- o.m(k = v) -/
theorem pe_cmK0 (F : MKOk X.prog X.w X.K X.mg X.base CX k C m n ks gV sp) (c : Cls X.K C) (hr : Room k X.A) (hx : Passes CX X E) (ho : PE X o ta) (hkw : PK X kws tk)
    (hall : (backToKw pos (keywordEach kws X.env)).all (·.1.isSome) = true := by rfl) (hks : (backToKw pos (keywordEach kws X.env)).filterMap (·.1) = ks := by rfl) (hpl : ((backTo pos (starEach [] X.env)).any (·.1) || (backToKw pos (keywordEach kws X.env)).any (·.1.isNone)) = false := by rfl)
    (ht : eval (.Call (.Attribute o m apos) [] kws pos) X.env = (do
      let ov ← eval o X.env
      standAt apos.atName
      let (f, first) ← holding [ov] (getMethod ov m pl)
      callWith pos f first (backTo pos (starEach [] X.env)) (backToKw pos (keywordEach kws X.env))) := by rfl) :
    PE X (.Call (.Attribute o m apos) [] kws pos) (tMethK C m n ks gV sp E ta tNil tk) := by
  obtain ⟨f, fd, ps, gg, h1, h2, h3⟩ := F.g
  refine ⟨fun pins s σ H Q I h => ?_⟩
  refine methodCall_KW (pl := pl) (thn (ho.run pins s σ H _ I h) fun u s1 ⟨y, H1, I1, ry, a, dx, fs, ey, ea, l, q⟩ => ?_) ht
  subst ey
  obtain rfl : u = Value.ref a := ry
  refine getmeth_ok I1 ea c h3 l ?_
  refine callWith_KW0 (first := [.ref a]) (h₀ := X.base) I.ok.mod.kin h3.kp hall (thn (hkw.run pos pins s1 σ H1 _ I1 q) fun ws s2 ⟨zs, H2, I2, rz, l1, l2, q2⟩ => ⟨I2.kIn, ?_⟩) hpl
  rw [hks]
  exact run_fnN (us := [.ref a]) (vs := [.ref a]) h1 hr h2 hx I2 (.cons rfl .nil) rz (by simpa using l1) l2 q2
/-- o.m(e, .., k = v) -/
theorem pe_cmK (F : MKOk X.prog X.w X.K X.mg X.base CX k C m n ks gV sp) (c : Cls X.K C) (hr : Room k X.A) (hx : Passes CX X E) (ho : PE X o ta) (ha : PA X (e :: es) t) (hkw : PK X kws tk)
    (hall : (backToKw pos (keywordEach kws X.env)).all (·.1.isSome) = true := by rfl) (hks : (backToKw pos (keywordEach kws X.env)).filterMap (·.1) = ks := by rfl) (hst : starEach (e :: es) X.env = (false, eval e X.env) :: starEach es X.env := by rfl)
    (hpl : ((backTo pos (starEach (e :: es) X.env)).any (·.1) || (backToKw pos (keywordEach kws X.env)).any (·.1.isNone)) = false := by rfl)
    (ht : eval (.Call (.Attribute o m apos) (e :: es) kws pos) X.env = (do
      let ov ← eval o X.env
      standAt apos.atName
      let (f, first) ← holding [ov] (getMethod ov m pl)
      callWith pos f first (backTo pos (starEach (e :: es) X.env)) (backToKw pos (keywordEach kws X.env))) := by rfl) :
    PE X (.Call (.Attribute o m apos) (e :: es) kws pos) (tMethK C m n ks gV sp E ta t tk) := by
  obtain ⟨f, fd, ps, gg, h1, h2, h3⟩ := F.g
  refine ⟨fun pins s σ H Q I h => ?_⟩
  refine methodCall_KW (pl := pl) (thn (ho.run pins s σ H _ I h) fun u s1 ⟨y, H1, I1, ry, a, dx, fs, ey, ea, l, q⟩ => ?_) ht
  subst ey
  obtain rfl : u = Value.ref a := ry
  refine getmeth_ok I1 ea c h3 l ?_
  refine callWith_KW (first := [.ref a]) (h₀ := X.base) I.ok.mod.kin h3.kp hall (thn (ha.run pos pins s1 σ H1 _ I1 q) fun us s2 ⟨vs, H2, I2, r, q2⟩ => ?_) hpl hst
  refine thn (hkw.run pos pins s2 σ H2 _ I2 q2) fun ws s3 ⟨zs, H3, I3, rz, l1, l2, q3⟩ => ⟨I3.kIn, ?_⟩
  rw [hks]
  exact run_fnN (us := .ref a :: us) (vs := .ref a :: vs) h1 hr h2 hx I3 (.cons rfl r) rz (by simpa using l1) l2 q3
def tCMethK (C : Addr) (n : Nat) (ks : List Str) (gV : List V → List V → List V) (sp : Sp) (E : XK) (ta : TE) (tk : TA) : TE := fun σ H Q => ta σ H fun x H1 => x = .ref C ∧ tk σ H1 fun zs H3 => n = 1 ∧ zs.length = ks.length ∧ sp (gV [.ref C] zs) H3 Q E
/-- C.m(k = v), m a classmethod -/
theorem pe_clsK0 (F : CKmOk X.prog X.w X.K X.mg X.base CX k C m n ks gV sp) (hr : Room k X.A) (hx : Passes CX X E) (ho : PE X o ta) (hkw : PK X kws tk)
    (hall : (backToKw pos (keywordEach kws X.env)).all (·.1.isSome) = true := by rfl) (hks : (backToKw pos (keywordEach kws X.env)).filterMap (·.1) = ks := by rfl) (hpl : ((backTo pos (starEach [] X.env)).any (·.1) || (backToKw pos (keywordEach kws X.env)).any (·.1.isNone)) = false := by rfl)
    (ht : eval (.Call (.Attribute o m apos) [] kws pos) X.env = (do
      let ov ← eval o X.env
      standAt apos.atName
      let (f, first) ← holding [ov] (getMethod ov m pl)
      callWith pos f first (backTo pos (starEach [] X.env)) (backToKw pos (keywordEach kws X.env))) := by rfl) :
    PE X (.Call (.Attribute o m apos) [] kws pos) (tCMethK C n ks gV sp E ta tk) := by
  obtain ⟨p, f, fd, ps, gg, h1, h2, h3, h4⟩ := F.g
  refine ⟨fun pins s σ H Q I h => ?_⟩
  refine methodCall_KW (pl := pl) (thn (ho.run pins s σ H _ I h) fun u s1 ⟨y, H1, I1, ry, ey, q⟩ => ?_) ht
  subst ey
  obtain rfl : u = Value.ref C := ry
  refine ClX.getmethcm_ok I1 h4 h3 fun s2 I2 => ?_
  refine callWith_of hpl (keeps_M h3.fi) (evalArgs_kw2_nil hall (thn (hkw.run pos _ s2 σ H1 _ I2 q) fun ws s3 ⟨zs, H2, I3, rz, l1, l2, q2⟩ => ⟨⟨ClX.pin_at I3, I3.kIn⟩, ?_⟩))
  rw [hks]
  have rr : Vals (V.ref C :: []) (Value.ref C :: []) := .cons rfl .nil
  have r2 := h2.rel rr rz
  refine thn (wpAny_call (PySem.W.method_call (ClX.pin_at I3) (codeAny_mono (h1.run X.A X.stack _ H2 ⟨[.ref C], ks.zip ws⟩ _ _ Q E hr I3.env0 (h2.to _ [.ref C] ws I3.kIn (by simpa using l1.symm) (rz.length.symm.trans l2)) r2 q2) fun r s' got => ?_))) fun _ _ y => ClX.unpinE (p := (s1.heap.objs.size, methodObj (.ref f) (.ref C))) y
  cases r with
  | error e => exact hx _ σ H2 _ e s' I3 got
  | ok fl =>
    cases fl with
    | ret u => exact I3.after got
    | next => exact False.elim got
    | brk => exact False.elim got
    | cont => exact False.elim got
end
end TF
end
section
set_option maxHeartbeats 4000000
set_option pp.maxSteps 3000

namespace TF
open PySem PySem.Spec PyProof.Rows L2 TL StX
section
variable {P : Program} {w : World} {K : PySem.W.Frag} {mg : Str → Option Value} {base : Heap}
theorem cat_short {cs : List Row} (ok : OkRows cs) : (catText cs).length ≤ 300000 := by
  unfold catText
  split
  · decide
  · have h3 := StrLaws.join_length_le "\n" (cs.map lineOf)
    have h1 := sum_le (k := 10100) (l := cs.map lineOf) fun w hw => by
      obtain ⟨r, hr, rfl⟩ := List.mem_map.mp hw
      exact line_len (ok.nm r hr) (ok.gd r hr).sh
    have h2 := ok.ln
    have h4 : Str.length "\n" = 1 := by decide
    rw [join_eq]
    rw [h4] at h3
    rw [List.length_map] at h1 h3
    omega
/-- the text of a catalogue is read back -/
theorem reads_cat {cs : List Row} (ok : OkRows cs) {H : Hp} {Q : VK} {E : XK} (k : ∀ H' d, Same H H' → H d = none → CatAt K H' d cs → Q (.ref d) H') : spPca K [.str (catText cs)] H Q E := by
  refine ⟨_, rfl, .inr ⟨_, rfl, by have := cat_short ok; omega, ?_⟩⟩
  by_cases h0 : cs = []
  · subst h0
    exact .none (by decide +kernel) fun H' d s1 n e => k H' d s1 n ⟨[], e, .refl _⟩
  · exact .good cs h0 ok (lineWords_cat h0 ok.nm) fun H' d es s1 n e1 e2 => k H' d s1 n ⟨es, e1, by rw [e2]⟩
theorem okRows_nil : OkRows [] := ⟨fun _ h => (nomatch h), fun _ h => (nomatch h), .nil, Nat.zero_le _⟩
theorem scRe : FnScope ["cls", "text", "made"] ["cls", "text"] (defScope (inClass (tops 71) 3)) := ⟨rfl, rfl, rfl, by decide +kernel, rfl, by decide +kernel, by decide +kernel⟩
/-! ### restore -/
def spReS (K : PySem.W.Frag) : Sp := fun vs H Q _ => ∃ (cs : List Row), vs = [.ref (aSes K), .str (catText cs)] ∧ OkRows cs ∧ ∀ s dx d h H', Same H H' → H s = none → H d = none → H h = none → Ses K H' (aSes K) s dx d h none cs [] → Q (.ref s) H'
theorem re_fn {f : Addr} {fd : FuncData} (G : FunD K "restore" "Session.restore" (defArgs (inClass (tops 71) 3)) (defBody (inClass (tops 71) 3)) (defScope (inClass (tops 71) 3)) [] [] f fd) (SC : SesC K (aSes K)) (Fpc : GOk P w K mg base (L2.CX P w) 6 "parse_catalogue" (spPca K)) (Fmk : CKOk P w K mg base CX0 3 (aSes K) (spKw 1 ["self"] (spSi K))) :
    FnOk P w K mg base (L2.CX P w) 7 f fd ["cls", "text"] (spReS K) := by
  refine G.ok scRe (fun vs H Q E h => ?_) (fun cdv A outer s H vs Q E hr h => ?_)
  · obtain ⟨_, rfl, _⟩ := h
    rfl
  · obtain ⟨cs, rfl, ok, k⟩ := h
    let sp := spKw 1 ["self"] (spSi K)
    refine ⟨_, (pss_cons (ps_set (i := 2) scRe.nd rfl (Or.inl rfl) (pe_mkLoc0 (i := 0) (k := 3) (CX := CX0) (sp := sp) (hr.mono (by decide)) pass0 rfl (Or.inl rfl)))
      (pss_cons (ps_fld (pv 2) (pe_cg Fpc (hr.mono (by decide)) (passes_call (takes_of rfl rfl rfl rfl) fun _ _ _ _ h => h) rfl (pa_cons (pv 1) pa_nil)) rfl)
      (pss_one (ps_ret (pv 2))))), ?_⟩
    refine ⟨aSes K, rfl, Fmk, fun x dx hx hdx ne => ⟨rfl, Nat.zero_le _, List.nodup_nil, fun _ h => (nomatch h), fun D hD => ?_⟩⟩
    have eD : upd (upd H dx (.own x)) x (.ins (aSes K) dx []) x = some (.ins (aSes K) dx []) := upd_same
    have s0 : Same H (upd (upd (upd H dx (.own x)) x (.ins (aSes K) dx [])) D (.dK (([] : List (Str × V)).map fun q => ((Sum.inr q.1 : Key), q.2)))) := fun b o h => by
      rw [upd_ne (fun z => by rw [z] at h; rw [upd_ne (ne_of_none h hx), upd_ne (ne_of_none h hdx), h] at hD; cases hD), upd_ne (ne_of_none h hx), upd_ne (ne_of_none h hdx)]
      exact h
    have nDx : D ≠ x := fun z => by rw [z, upd_same] at hD; cases hD
    generalize hH1 : upd (upd (upd H dx (.own x)) x (.ins (aSes K) dx [])) D (.dK (([] : List (Str × V)).map fun q => ((Sum.inr q.1 : Key), q.2))) = H1 at s0
    have hx1 : H1 x = some (.ins (aSes K) dx []) := by rw [← hH1, upd_ne nDx.symm, upd_same]
    have hD1 : H1 D = some (.dK []) := by rw [← hH1, upd_same]; rfl
    refine ⟨x, aSes K, dx, D, [], rfl, SC, hx1, ⟨[], ⟨hD1, fun _ h => (nomatch h)⟩, .refl _⟩, okRows_nil, fun H2 d' h b hd' hh hx2 cat2 hh2 => ⟨rfl, ?_⟩⟩
    have s2 : Same H H2 := fun b' o hb => b b' o (fun m => by rw [List.mem_singleton.mp m, hx] at hb; cases hb) (s0 b' o hb)
    refine ⟨_, rfl, reads_cat ok fun H3 d3 s3 n3 cat3 => ?_⟩
    refine ⟨_, rfl, x, aSes K, dx, _, rfl, s3 _ _ hx2, SC.cl, SC.n1, (show 2 < 1000 by decide), _, rfl, ?_⟩
    have hhn : h ≠ x := fun z => by rw [z, hx2] at hh2; cases hh2
    have b4 : ButL [x] H3 (upd H3 x (.ins (aSes K) dx (putF "held" (.ref d3) [("held", .ref d'), ("history", .ref h)]))) := (ButL.of (Same.refl _)).upd (List.mem_singleton.mpr rfl)
    refine k x dx d3 h _ (fun b' o hb => b4 b' o (fun m => by rw [List.mem_singleton.mp m, hx] at hb; cases hb) (s3 _ _ (s2 b' o hb))) hx (s2.free n3) (s0.free hh) ⟨upd_same, cat3.butL b4 fun a ha u hu => .inl ?_, ok, (upd_ne hhn).trans (s3 _ _ hh2), fun _ h => (nomatch h), fun _ h => nomatch h⟩
    rw [List.mem_singleton.mp ha, s3 _ _ hx2] at hu
    cases hu
    exact ⟨_, _, _, rfl, rfl⟩
def spReR (K : PySem.W.Frag) : Sp := fun vs H Q _ => ∃ (cs : List Row), vs = [.ref (aRec K), .str (catText cs)] ∧ OkRows cs ∧ ∀ s dx d h e H', Same H H' → H s = none → H d = none → H h = none → H e = none → Ses K H' (aRec K) s dx d h (some e) cs [] → RecAt H' e [] → Q (.ref s) H'
theorem re_fnR {f : Addr} {fd : FuncData} (G : FunD K "restore" "Session.restore" (defArgs (inClass (tops 71) 3)) (defBody (inClass (tops 71) 3)) (defScope (inClass (tops 71) 3)) [] [] f fd) (SC : SesC K (aRec K)) (Fpc : GOk P w K mg base (L2.CX P w) 6 "parse_catalogue" (spPca K)) (Fmk : CKOk P w K mg base CX0 4 (aRec K) (spKw 1 ["self"] (spRi K))) :
    FnOk P w K mg base (L2.CX P w) 7 f fd ["cls", "text"] (spReR K) := by
  refine G.ok scRe (fun vs H Q E h => ?_) (fun cdv A outer s H vs Q E hr h => ?_)
  · obtain ⟨_, rfl, _⟩ := h
    rfl
  · obtain ⟨cs, rfl, ok, k⟩ := h
    let sp := spKw 1 ["self"] (spRi K)
    refine ⟨_, (pss_cons (ps_set (i := 2) scRe.nd rfl (Or.inl rfl) (pe_mkLoc0 (i := 0) (k := 4) (CX := CX0) (sp := sp) (hr.mono (by decide)) pass0 rfl (Or.inl rfl)))
      (pss_cons (ps_fld (pv 2) (pe_cg Fpc (hr.mono (by decide)) (passes_call (takes_of rfl rfl rfl rfl) fun _ _ _ _ h => h) rfl (pa_cons (pv 1) pa_nil)) rfl)
      (pss_one (ps_ret (pv 2))))), ?_⟩
    refine ⟨aRec K, rfl, Fmk, fun x dx hx hdx ne => ⟨rfl, Nat.zero_le _, List.nodup_nil, fun _ h => (nomatch h), fun D hD => ?_⟩⟩
    have s0 : Same H (upd (upd (upd H dx (.own x)) x (.ins (aRec K) dx [])) D (.dK (([] : List (Str × V)).map fun q => ((Sum.inr q.1 : Key), q.2)))) := fun b o h => by
      rw [upd_ne (fun z => by rw [z] at h; rw [upd_ne (ne_of_none h hx), upd_ne (ne_of_none h hdx), h] at hD; cases hD), upd_ne (ne_of_none h hx), upd_ne (ne_of_none h hdx)]
      exact h
    have nDx : D ≠ x := fun z => by rw [z, upd_same] at hD; cases hD
    generalize hH1 : upd (upd (upd H dx (.own x)) x (.ins (aRec K) dx [])) D (.dK (([] : List (Str × V)).map fun q => ((Sum.inr q.1 : Key), q.2))) = H1 at s0
    have hx1 : H1 x = some (.ins (aRec K) dx []) := by rw [← hH1, upd_ne nDx.symm, upd_same]
    have hD1 : H1 D = some (.dK []) := by rw [← hH1, upd_same]; rfl
    refine ⟨x, dx, D, [], rfl, hx1, ⟨[], ⟨hD1, fun _ h => (nomatch h)⟩, .refl _⟩, okRows_nil, fun _ h => (nomatch h), fun H2 d' h e b hd' hh he neh hx2 cat2 hh2 he2 => ⟨rfl, ?_⟩⟩
    have s2 : Same H H2 := fun b' o hb => b b' o (fun m => by rw [List.mem_singleton.mp m, hx] at hb; cases hb) (s0 b' o hb)
    refine ⟨_, rfl, reads_cat ok fun H3 d3 s3 n3 cat3 => ?_⟩
    refine ⟨_, rfl, x, aRec K, dx, _, rfl, s3 _ _ hx2, SC.cl, SC.n1, (show 3 < 1000 by decide), _, rfl, ?_⟩
    have hhn : h ≠ x := fun z => by rw [z, hx2] at hh2; cases hh2
    have hen : e ≠ x := fun z => by rw [z, hx2] at he2; cases he2
    have b4 : ButL [x] H3 (upd H3 x (.ins (aRec K) dx (putF "held" (.ref d3) [("held", .ref d'), ("history", .ref h), ("entries", .ref e)]))) := (ButL.of (Same.refl _)).upd (List.mem_singleton.mpr rfl)
    have he4 := (upd_ne (H := H3) (o := .ins (aRec K) dx (putF "held" (.ref d3) [("held", .ref d'), ("history", .ref h), ("entries", .ref e)])) hen).trans (s3 _ _ he2)
    refine k x dx d3 h e _ (fun b' o hb => b4 b' o (fun m => by rw [List.mem_singleton.mp m, hx] at hb; cases hb) (s3 _ _ (s2 b' o hb))) hx (s2.free n3) (s0.free hh) (s0.free he) ⟨upd_same, cat3.butL b4 fun a ha u hu => .inl ?_, ok, (upd_ne hhn).trans (s3 _ _ hh2), fun _ h => (nomatch h), fun a ha => ?_⟩ ⟨[], he4, .nil⟩
    · rw [List.mem_singleton.mp ha, s3 _ _ hx2] at hu
      cases hu
      exact ⟨_, _, _, rfl, rfl⟩
    · cases ha
      exact ⟨neh, [], he4⟩
/-! ### calls with keywords -/
theorem kbn_of {x qual : Str} {params : Arguments} {body : List Stmt} {scope : Scope} {f : Addr} {fd : FuncData} {ps ks : List Str} {n : Nat} (F : FunD K x qual params body scope [] [] f fd)
    (h : ∀ (kV doc pm : Value) (an : Option Addr) (cdv ct : Value) (us ws : List Value), us.length = n → ws.length = ks.length → bindArgs (PySem.W.fnOf x qual params body scope .none kV doc pm an cdv ct) ⟨us, ks.zip ws⟩ = pure (ps.zip (us ++ ws))) : KBn K fd ps n ks (· ++ ·) (· ++ ·) := by
  obtain ⟨oc, od, dV, kV, doc, pm, an, cdv, ct, osl, rfl, lk, hcd, hD, hK⟩ := F.ex
  have hD : dV = .none := hD.elim (fun z => z.2) fun z => absurd rfl z.1
  subst hD
  exact ⟨fun s us ws _ l1 l2 => .of_eq (h kV doc pm an cdv ct us ws l1 l2), fun r1 r2 => r1.append r2⟩
/-- a classmethod as it stands, found on C -/
def CDef (K : PySem.W.Frag) (C : Addr) (m qual : Str) (st : Stmt) : Prop := ∃ (p f : Addr) (fd : FuncData), FunD K m qual (defArgs st) (defBody st) (defScope st) [] [] f fd ∧ ClX.CMet K C (.type "type") m p f ∧ ClX.CRead K C (.type "type")
theorem ok_reR (G : CDef K (aRec K) "restore" "Session.restore" (inClass (tops 71) 3)) (SC : SesC K (aRec K)) (Fpc : GOk P w K mg base (L2.CX P w) 6 "parse_catalogue" (spPca K)) (Fmk : CKOk P w K mg base CX0 4 (aRec K) (spKw 1 ["self"] (spRi K))) : CKmOk P w K mg base (L2.CX P w) 7 (aRec K) "restore" 1 ["text"] (· ++ ·) (spReR K) := by
  obtain ⟨p, f, fd, G, h1, h2⟩ := G
  exact ⟨p, f, fd, _, _, re_fnR G SC Fpc Fmk, kbn_of G (fun _ _ _ _ _ _ us ws l1 l2 => match us, ws, l1, l2 with | [_], [_], _, _ => rfl), h1, h2⟩
/-- a classmethod, called with its own values -/
structure CMOk (P : Program) (w : World) (K : PySem.W.Frag) (mg : Str → Option Value) (base : Heap) (CX : CXT) (k : Nat) (C : Addr) (m : Str) (sp : Sp) : Prop where
  g : ∃ (p f : Addr), FnR P w K mg base CX k f sp ∧ ClX.CMet K C (.type "type") m p f ∧ ClX.CRead K C (.type "type")
theorem ok_reS (G : CDef K (aSes K) "restore" "Session.restore" (inClass (tops 71) 3)) (SC : SesC K (aSes K)) (Fpc : GOk P w K mg base (L2.CX P w) 6 "parse_catalogue" (spPca K)) (Fmk : CKOk P w K mg base CX0 3 (aSes K) (spKw 1 ["self"] (spSi K))) : CMOk P w K mg base (L2.CX P w) 7 (aSes K) "restore" (spReS K) := by
  obtain ⟨p, f, fd, G, h1, h2⟩ := G
  exact ⟨p, f, ((re_fn G SC Fpc Fmk).raw (G.bindsN fun _ _ _ _ _ _ us hl => match us, hl with | [_, _], _ => rfl) .nil).imp fun vs H Q E h => by rw [List.append_nil]; exact h, h1, h2⟩
theorem pe_cls {X : Cx} {CX : CXT} {k : Nat} {C : Addr} {m : Str} {sp : Sp} {E : XK} {o e : Expr} {es : List Expr} {ta : TE} {t : TA} {pos apos : Pos} {pl : Sem Bool} (F : CMOk X.prog X.w X.K X.mg X.base CX k C m sp) (hr : Room k X.A) (hx : Passes CX X E) (ho : PE X o ta) (ha : PA X (e :: es) t)
    (hst : starEach (e :: es) X.env = (false, eval e X.env) :: starEach es X.env := by rfl) (hpl : (backTo pos (starEach es X.env)).any (·.1) = false := by rfl)
    (ht : eval (.Call (.Attribute o m apos) (e :: es) [] pos) X.env = (do
      let ov ← eval o X.env
      standAt apos.atName
      let (f, first) ← holding [ov] (getMethod ov m pl)
      callWith pos f first (backTo pos (starEach (e :: es) X.env)) (backToKw pos (keywordEach [] X.env))) := by rfl) : PE X (.Call (.Attribute o m apos) (e :: es) [] pos) (ClX.tCMeth C sp E ta t) := by
  obtain ⟨p, f, h1, h2, h3⟩ := F.g
  exact ClX.pe_cmeth ho h3 h2 h1 hr hx ha hst hpl ht
theorem ok_ldK {C : Addr} (G : MDef K C "load" "Session.load" (inClass (tops 71) 7)) (SC : SesC K C) (T : TxtA K mg) (Fpc : GOk P w K mg base (L2.CX P w) 6 "parse_catalogue" (spPca K)) (Fch : MOk P w K mg base CX0 1 C "change" (spChg K C)) : MKOk P w K mg base (L2.CX P w) 7 C "load" 1 ["text"] (· ++ ·) (spLd K C) := by
  obtain ⟨f, fd, G, hm⟩ := G
  exact ⟨f, fd, _, _, ld_fn G SC T Fpc Fch, kbn_of G (fun _ _ _ _ _ _ us ws l1 l2 => match us, ws, l1, l2 with | [_], [_], _, _ => rfl), hm⟩
theorem ok_lkK {C : Addr} (G : MDef K C "lookup" "Session.lookup" (inClass (tops 71) 9)) (SC : SesC K C) (T : TxtA K mg) : MKOk P w K mg base CX0 1 C "lookup" 1 ["name"] (· ++ ·) (spLk K C) := by
  obtain ⟨f, fd, G, hm⟩ := G
  exact ⟨f, fd, _, _, lk_fn G SC T, kbn_of G (fun _ _ _ _ _ _ us ws l1 l2 => match us, ws, l1, l2 with | [_], [_], _, _ => rfl), hm⟩
end
end TF
end
section
set_option maxHeartbeats 4000000
namespace TF
open PySem PySem.Spec PyProof.Rows L2 PySem.W PySem.Calls
section
variable {X : Cx} {CX : CXT} {k : Nat} {C C' : Addr} {sp : Sp} {E : XK} {pins : List (Addr × Obj)} {σ : L2.St} {H : Hp} {s : Shared} {Q : VK}
/-- the answer of an own ==, a truth value -/
def tellB (Q : VK) : VK := fun v H' => ∃ b : Bool, v = .bl b ∧ Q (.bl b) H'
/-- x == y by the left one's class -/
theorem op_eqOwn (F : MOk X.prog X.w X.K X.mg X.base CX k C "__eq__" sp) (hr : Room k X.A) (hx : Passes CX X E) (hn : notFirst X.K C (.ref C') = true) :
    OpR X (compareOp .Eq) (fun x y H Q => ∃ (a b dx dy : Addr) (fs gs : List (Str × V)), x = .ref a ∧ y = .ref b ∧ H a = some (.ins C dx fs) ∧ H b = some (.ins C' dy gs) ∧ sp [.ref a, .ref b] H (tellB Q) E) := by
  intro pins s σ H x y v u Q I rx ry ⟨a, b, dx, dy, fs, gs, ex, ey, ha, hb, h⟩
  subst ex ey
  obtain rfl : v = Value.ref a := rx
  obtain rfl : u = Value.ref b := ry
  have rr : Vals [V.ref a, V.ref b] [Value.ref a, Value.ref b] := .cons rfl (.cons rfl .nil)
  obtain ⟨f, fd, ps, h1, h2, h3⟩ := F.g
  obtain ⟨mA, J, _⟩ := ins_get I.hok ha
  obtain ⟨mB, J', _⟩ := ins_get I.hok hb
  obtain ⟨od, J, _⟩ := J.look
  obtain ⟨od', J', _⟩ := J'.look
  obtain ⟨m, hF⟩ := I.fr
  show wpAny (model X.prog X.w) X.A (richCompare .Eq (.ref a) (.ref b)) (EP X pins σ Q) X.xe s
  refine cmp_K (op := .Eq) hr.units0 hF I.ok.mod.kin J J'.type hn h3.at_ h3.fn (thn (run_at h1 h2 hr I.env0 hx I rr h) fun w s' ⟨z, H', I', rz, bb, ez, q⟩ => ?_)
  subst ez
  obtain rfl : w = Value.bool bb := rz
  exact ⟨.bl bb, H', I', rfl, q⟩
/-- the right one's class goes first -/
theorem rc_right {op : CmpOp} {A : Around} {Ex : Value → Shared → Prop} {R : Value → Shared → Prop} {a b : Addr} {oa ob : Obj} {oda odb : Option Obj} (hu : A.units < cLine) (KI : X.K.In s.heap) (Ja : InstAt s.heap a oa C oda) (Jb : InstAt s.heap b ob C' odb) (ne : C' ≠ C) (hs : subIn X.K (.ref C') (.ref C) = some true)
    (h : wpAny (model X.prog X.w) A (tryCompare (.ref b) (cmpInfo op).2.2 (.ref a)) (fun r s' => ∃ v, r = some v ∧ R v s') Ex s) : wpAny (model X.prog X.w) A (richCompare op (.ref a) (.ref b)) R Ex s := by
  unfold richCompare
  simp only [oneThing_ref]
  refine wpAny_holding (wpAny_bind (wpAny_cRoomFor hu (wpAny_bind (Ja.type.here (wpAny_bind (Jb.type.here ?_))))))
  rw [if_pos (by simp [Ne.symm ne])]
  refine wpAny_bind ((looks_subIn KI hs).here ?_)
  rw [if_pos rfl]
  refine wpAny_bind (wpAny_mono h (fun r s' z => ?_) fun _ _ e => e)
  obtain ⟨v, rfl, q⟩ := z
  exact wpAny_bind (wpAny_rule (wpAny_pure q))
/-- x == y, y of a class below x's -/
theorem op_eqRight (F : MOk X.prog X.w X.K X.mg X.base CX k C' "__eq__" sp) (hr : Room k X.A) (hx : Passes CX X E) (ne : C' ≠ C) (hs : subIn X.K (.ref C') (.ref C) = some true) :
    OpR X (compareOp .Eq) (fun x y H Q => ∃ (a b dx dy : Addr) (fs gs : List (Str × V)), x = .ref a ∧ y = .ref b ∧ H a = some (.ins C dx fs) ∧ H b = some (.ins C' dy gs) ∧ sp [.ref b, .ref a] H (tellB Q) E) := by
  intro pins s σ H x y v u Q I rx ry ⟨a, b, dx, dy, fs, gs, ex, ey, ha, hb, h⟩
  subst ex ey
  obtain rfl : v = Value.ref a := rx
  obtain rfl : u = Value.ref b := ry
  have rr : Vals [V.ref b, V.ref a] [Value.ref b, Value.ref a] := .cons rfl (.cons rfl .nil)
  obtain ⟨f, fd, ps, h1, h2, h3⟩ := F.g
  obtain ⟨mA, J, _⟩ := ins_get I.hok ha
  obtain ⟨mB, J', _⟩ := ins_get I.hok hb
  obtain ⟨od, J, _⟩ := J.look
  obtain ⟨od', J', _⟩ := J'.look
  show wpAny (model X.prog X.w) X.A (richCompare .Eq (.ref a) (.ref b)) (EP X pins σ Q) X.xe s
  refine rc_right hr.units0 I.kIn J J' ne hs ?_
  unfold tryCompare
  refine wpAny_bind (ifBound_K I.kIn J' h3.at_ h3.fn (thn (run_at h1 h2 hr I.env0 hx I rr h) fun w s' ⟨z, H', I', rz, bb, ez, q⟩ => ?_))
  subst ez
  obtain rfl : w = Value.bool bb := rz
  exact wpAny_pure ⟨_, rfl, .bl bb, H', I', rfl, q⟩
/-- x != y, y of a class below x's with an own == -/
theorem op_neRight (F : MOk X.prog X.w X.K X.mg X.base CX k C' "__eq__" sp) (hr : Room (k + 2) X.A) (hx : Passes CX X E) (ne : C' ≠ C) (hs : subIn X.K (.ref C') (.ref C) = some true) (hne : findIn X.K (.ref C') "__ne__" = some (some (.builtin "object.__ne__"))) (hm : mroIn X.K C' (.type "object") = some true) :
    OpR X (compareOp .NotEq) (fun x y H Q => ∃ (a b dx dy : Addr) (fs gs : List (Str × V)), x = .ref a ∧ y = .ref b ∧ H a = some (.ins C dx fs) ∧ H b = some (.ins C' dy gs) ∧ sp [.ref b, .ref a] H (fun v H' => ∃ bb : Bool, v = .bl bb ∧ Q (.bl (!bb)) H') E) := by
  intro pins s σ H x y v u Q I rx ry ⟨a, b, dx, dy, fs, gs, ex, ey, ha, hb, h⟩
  subst ex ey
  obtain rfl : v = Value.ref a := rx
  obtain rfl : u = Value.ref b := ry
  have rr : Vals [V.ref b, V.ref a] [Value.ref b, Value.ref a] := .cons rfl (.cons rfl .nil)
  obtain ⟨f, fd, ps, h1, h2, h3⟩ := F.g
  obtain ⟨mA, J, _⟩ := ins_get I.hok ha
  obtain ⟨mB, J', _⟩ := ins_get I.hok hb
  obtain ⟨od, J, _⟩ := J.look
  obtain ⟨od', J', _⟩ := J'.look
  show wpAny (model X.prog X.w) X.A (richCompare .NotEq (.ref a) (.ref b)) (EP X pins σ Q) X.xe s
  refine rc_right hr.units0 I.kIn J J' ne hs ?_
  unfold tryCompare
  have call_ : wpAny (model X.prog X.w) X.A (call (.builtin "object.__ne__") [.ref b, .ref a]) (fun v s' => ∃ bb : Bool, v = .bool bb ∧ EP X pins σ Q (.bool bb) s') X.xe s := by
    refine wpAny_call (codeAny_call_builtin PySem.F.cmp_object.ne.plain PySem.F.cmpEntry_ne (check_slot PySem.F.cmpKind_ne PySem.F.cmpSplit_ne (J'.type.andThen (looks_mroIn I.kIn hm)) (PySem.F.cmpArgs_ne _ _) ?_))
    unfold Builtin.«object.__ne__»
    refine wpAny_bind (wpAny_of_eq (a := ((Value.ref b : Value), [Value.ref a])) (by first | rfl | (simp only [slotArgs]; rfl)) ?_)
    dsimp only
    refine wpAny_bind (wpAny_cRoomFor (show X.A.in1.units < cLine from hr.in1.units0) ?_)
    refine wpAny_bind (ifBound_K I.kIn J' h3.at_ h3.fn (thn (run_at h1 h2 (hr.in1.mono (Nat.le_succ k)) I.env0.in1 hx I rr h) fun w s' ⟨z, H', I', rz, bb, ez, q⟩ => ?_))
    subst ez
    obtain rfl : w = Value.bool bb := rz
    dsimp only
    refine wpAny_bind (wpAny_truthy_bool (wpAny_pure ?_))
    exact ⟨!bb, rfl, .bl (!bb), H', I', rfl, q⟩
  have fin : wpAny (model X.prog X.w) X.A (call (.builtin "object.__ne__") ([.ref b] ++ [.ref a]) >>= fun v => pure (some v)) (fun r s' => ∃ bb : Bool, r = some (.bool bb) ∧ EP X pins σ Q (.bool bb) s') X.xe s := wpAny_bind (thn call_ fun v s' ⟨bb, e, q⟩ => wpAny_pure ⟨bb, by rw [e], q⟩)
  have bound : wpAny (model X.prog X.w) X.A (callSpecialIfBound? (.ref b) "__ne__" [.ref a]) (fun r s' => ∃ bb : Bool, r = some (.bool bb) ∧ EP X pins σ Q (.bool bb) s') X.xe s := by
    simp only [callSpecialIfBound?, bindSpecialIfBound?]
    refine wpAny_holding (wpAny_bind (wpAny_bind (wpAny_bind (J'.type.here ((looks_findIn I.kIn hne).here (wpAny_bind (wpAny_askSetting (wpAny_ite ?_))))))))
    split
    · exact wpAny_bind (wpAny_of_eq (PySem.F.cmp_object.ne.bind _) (wpAny_pure (by exact fin)))
    · exact wpAny_tryCatch (wpAny_bind (wpAny_of_eq (PySem.F.cmp_object.ne.bind _) (wpAny_pure (by exact fin))))
  exact wpAny_bind (thn bound fun r s' ⟨bb, e, q⟩ => by
    subst e
    exact wpAny_pure ⟨_, rfl, q⟩)
end
end TF
end
section
set_option maxHeartbeats 4000000
namespace TF
open PySem PySem.Spec PyProof.Rows L2 PySem.W PySem.Calls
/-! ### == of dicts whose values are compared by an own == -/
section
variable {prog : Program} {w : World} {A : Around} {E : Value → Shared → Prop}
/-- the answer -/
def sameD (ka kb : List (Key × Value)) (ans : Key → Bool) : Bool := decide (ka.length = kb.length) && ka.all fun p => (valueAt kb p.1).isSome && ans p.1
theorem pairs_run {nm : String} {a b : Addr} {J : Shared → Prop} {oa ob : Obj} {ea eb : Array DictEntry} {pa pb : Nat} {ka kb : List (Key × Value)} {ans : Key → Bool} {s : Shared} {Q : Bool → Shared → Prop} (na : (a == sysModules) = false) (nb : (b == sysModules) = false)
    (ga : ∀ t, J t → t.heap.get? a = some oa) (gb : ∀ t, J t → t.heap.get? b = some ob) (da : oa.data = .dict ea pa) (db : ob.data = .dict eb pb)
    (kA : ∀ e ∈ ea, ∃ k, (mixKind prog w).is k e.key = true ∧ e.hash = (mixKind prog w).hash k) (kB : ∀ e ∈ eb, ∃ k, (mixKind prog w).is k e.key = true ∧ e.hash = (mixKind prog w).hash k) (PA : Pairs (mixKind prog w) ea.toList ka) (PB : Pairs (mixKind prog w) eb.toList kb)
    (cmp : ∀ t k v y, J t → (k, v) ∈ ka → valueAt kb k = some y → ∀ R : Bool → Shared → Prop, (∀ t', J t' → R (ans k) t') → wpAny (model prog w) A (eqBool v y) R E t) (j0 : J s) (h : ∀ t, J t → Q (sameD ka kb ans) t) :
    wpAny (model prog w) A (Builtin.Dict.samePairs nm a b) Q E s := by
  have la : ka.length = ea.size := by rw [← PA.length, Array.length_toList]
  have lb : kb.length = eb.size := by rw [← PB.length, Array.length_toList]
  have look : ∀ k, findBy (mixKind prog w).is eb k = valueAt kb k := fun k => by
    rw [← PB.find k]
    clear lb PB kB db gb
    obtain ⟨l⟩ := eb
    simp [findBy]
  unfold Builtin.Dict.samePairs Builtin.Dict.showsAll
  rw [na, nb]
  refine wpAny_bind (wpAny_pure (wpAny_bind (wpAny_pure (wpAny_bind (wpAny_dictEntries (ga _ j0) da ?_)))))
  dsimp only
  refine wpAny_bind (wpAny_dictEntries (gb _ j0) db ?_)
  by_cases hz : ea.size = eb.size
  case neg =>
    rw [if_pos (by simpa using hz)]
    have no : sameD ka kb ans = false := by
      unfold sameD
      rw [la, lb, decide_eq_false hz, Bool.false_and]
    have q := h _ j0
    rw [no] at q
    exact wpAny_bind (wpAny_rule (wpAny_pure q))
  case pos =>
    have all_ : sameD ka kb ans = ka.all fun p => (valueAt kb p.1).isSome && ans p.1 := by
      unfold sameD
      rw [la, lb, decide_eq_true hz, Bool.true_and]
    rw [if_neg (by rw [hz]; simp)]
    refine wpAny_bind (wpAny_dictEpoch (ga _ j0) da (wpAny_bind ?_))
    rw [Std.Legacy.Range.forIn_eq_forIn_range']
    simp only [Std.Legacy.Range.size, Nat.sub_zero, Nat.add_sub_cancel, Nat.div_one]
    refine wpAny_forIn_list _ (fun rest q t => J t ∧ q = (none, ()) ∧ ∃ i, rest = List.range' i (ea.size - i) ∧ i ≤ ea.size ∧ sameD ka kb ans = (ka.drop i).all fun p => (valueAt kb p.1).isSome && ans p.1) _ (fun x rest q t hI => ?_) (fun q t hI => ?_) _ _ ⟨j0, rfl, 0, by simp, Nat.zero_le _, all_⟩
    · obtain ⟨jt, rfl, i, er, hi, inv⟩ := hI
      have lt : i < ea.size := by
        by_cases z : i < ea.size
        · exact z
        · rw [Nat.sub_eq_zero_of_le (Nat.le_of_not_lt z)] at er
          cases er
      have er2 : x = i ∧ rest = List.range' (i + 1) (ea.size - (i + 1)) := by
        rw [show ea.size - i = (ea.size - (i + 1)) + 1 by omega, List.range'_succ] at er
        injection er with e1 e2
        exact ⟨e1, e2⟩
      obtain ⟨rfl, er2⟩ := er2
      refine wpAny_bind (wpAny_dictEntries (ga _ jt) da ?_)
      rw [Array.getElem?_eq_getElem lt]
      have ltk : x < ka.length := by omega
      obtain ⟨⟨k, v⟩, ekv⟩ : ∃ p, p = ka[x] := ⟨_, rfl⟩
      have cut : ka.drop x = (k, v) :: ka.drop (x + 1) := by rw [ekv]; exact List.drop_eq_getElem_cons ltk
      obtain ⟨hk, hv⟩ := PA.get? (i := x) (e := ea[x]) (k := k) (v := v) (by rw [Array.getElem?_toList]; exact Array.getElem?_eq_getElem lt) (by rw [List.getElem?_eq_getElem ltk, ekv])
      obtain ⟨k', hk', hh⟩ := kA ea[x] (Array.getElem_mem lt)
      obtain rfl := (mixKind prog w).inj _ _ _ hk' hk
      rw [cut, List.all_cons] at inv
      have memk : (k', v) ∈ ka := by rw [ekv]; exact List.getElem_mem ltk
      show wpAny _ _ (holding [ea[x].key, ea[x].val] _ >>= _) _ _ _
      rw [hh]
      refine wpAny_bind (wpAny_holding (wpAny_bind (wpAny_dictFind_of hk (gb _ jt) db kB ?_)))
      cases hj : eb.findIdx? fun e => (mixKind prog w).is k' e.key with
      | none =>
        have e0 : valueAt kb k' = none := by rw [← look k', findBy_of_findIdx?, hj]
        rw [e0] at inv
        have q := h _ jt
        rw [inv] at q
        refine wpAny_pure ?_
        show wpAny _ _ (if (!false) = true then _ else _) _ _ _
        rw [if_pos (by decide)]
        exact wpAny_pure (wpAny_pure q)
      | some j =>
        obtain ⟨ltj, _, _⟩ := Array.findIdx?_eq_some_iff_getElem.mp hj
        have e1 : valueAt kb k' = some eb[j].val := by
          rw [← look k', findBy_of_findIdx?, hj]
          simp [Array.getElem?_eq_getElem ltj]
        refine wpAny_bind (wpAny_dictEntries (gb _ jt) db ?_)
        rw [Array.getElem?_eq_getElem ltj]
        rw [e1] at inv
        refine wpAny_holding ?_
        rw [hv]
        refine cmp _ k' v _ jt memk e1 _ fun t' jt' => ?_
        cases ha : ans k' with
        | false =>
          rw [ha] at inv
          have q := h _ jt'
          rw [inv] at q
          show wpAny _ _ (if (!false) = true then _ else _) _ _ _
          rw [if_pos (by decide)]
          exact wpAny_pure (wpAny_pure q)
        | true =>
          rw [ha] at inv
          show wpAny _ _ (if (!true) = true then _ else _) _ _ _
          rw [if_neg (by decide)]
          refine wpAny_bind (wpAny_dictEpoch (ga _ jt') da ?_)
          rw [if_neg (by simp)]
          exact wpAny_pure ⟨jt', rfl, x + 1, er2, lt, by simpa using inv⟩
    · obtain ⟨jt, rfl, i, er, hi, inv⟩ := hI
      have ei : i = ea.size := by
        by_cases z : i < ea.size
        · rw [show ea.size - i = (ea.size - (i + 1)) + 1 by omega, List.range'_succ] at er
          cases er
        · omega
      rw [ei, ← la, List.drop_length] at inv
      have q := h _ jt
      rw [inv] at q
      exact wpAny_pure q
end
section
variable {X : Cx} {CX : CXT} {k : Nat} {E : XK}
theorem kv_refs : ∀ {es : List Ent} {vs : List (Key × Value)}, KV (es.map Ent.kv) vs → vs = es.map fun e => ((Sum.inr e.nm : Key), Value.ref e.c)
  | [], _, h => by
    cases h
    rfl
  | e :: r, _, h => by
    unfold KV at h
    rw [List.map_cons] at h
    cases h with
    | @cons _ b _ l h1 t =>
      obtain ⟨b1, b2⟩ := b
      obtain ⟨e1, e2⟩ := h1
      obtain rfl : Sum.inr e.nm = b1 := e1
      obtain rfl : b2 = Value.ref e.c := e2
      rw [kv_refs t]
      rfl
theorem val_refs : ∀ {es : List Ent} {nm : Str} {y : Value}, valueAt (es.map fun e => ((Sum.inr e.nm : Key), Value.ref e.c)) (.inr nm) = some y → ∃ e ∈ es, e.nm = nm ∧ y = .ref e.c
  | [], _, _, h => by cases h
  | e :: r, nm, y, h => by
    by_cases q : e.nm = nm
    · have : valueAt ((e :: r).map fun e => ((Sum.inr e.nm : Key), Value.ref e.c)) (.inr nm) = some (.ref e.c) := by
        simp [valueAt, List.find?_cons, q]
      rw [this] at h
      exact ⟨e, List.mem_cons_self .., q, (Option.some.inj h).symm⟩
    · have : valueAt ((e :: r).map fun e => ((Sum.inr e.nm : Key), Value.ref e.c)) (.inr nm) = valueAt (r.map fun e => ((Sum.inr e.nm : Key), Value.ref e.c)) (.inr nm) := by
        have n : ¬ (Sum.inr e.nm : Key) = Sum.inr nm := fun z => q (Sum.inr.inj z)
        simp [valueAt, List.find?_cons, n]
      rw [this] at h
      obtain ⟨e', h1, h2⟩ := val_refs h
      exact ⟨e', List.mem_cons_of_mem _ h1, h2⟩
theorem val_has : ∀ {es : List Ent} {e : Ent}, e ∈ es → (es.map (·.nm)).Nodup → valueAt (es.map fun e => ((Sum.inr e.nm : Key), Value.ref e.c)) (.inr e.nm) = some (.ref e.c)
  | x :: r, e, h, nd => by
    rw [List.map_cons] at nd
    obtain ⟨n1, n2⟩ := List.nodup_cons.mp nd
    rcases List.mem_cons.mp h with rfl | h
    · simp [valueAt, List.find?_cons]
    · have q : ¬ (Sum.inr x.nm : Key) = Sum.inr e.nm := fun z => n1 (by rw [show x.nm = e.nm from Sum.inr.inj z]; exact List.mem_map_of_mem h)
      have : valueAt ((x :: r).map fun e => ((Sum.inr e.nm : Key), Value.ref e.c)) (.inr e.nm) = valueAt (r.map fun e => ((Sum.inr e.nm : Key), Value.ref e.c)) (.inr e.nm) := by simp [valueAt, List.find?_cons, q]
      rw [this]
      exact val_has h n2
/-- rising rows with the same members are the same -/
theorem rows_ext : ∀ {cs cs' : List Row}, cs.Perm cs' → cs.Pairwise (fun a b => a.1.cps.toList < b.1.cps.toList) → cs'.Pairwise (fun a b => a.1.cps.toList < b.1.cps.toList) → cs = cs'
  | [], _, h, _, _ => (List.nil_perm.mp h).symm
  | c :: cs, [], h, _, _ => absurd h.length_eq (by simp)
  | c :: cs, d :: ds, h, h1, h2 => by
    obtain ⟨n1, n2⟩ := List.pairwise_cons.mp h1
    obtain ⟨m1, m2⟩ := List.pairwise_cons.mp h2
    have e : c = d := by
      rcases List.mem_cons.mp (h.mem_iff.mp (List.mem_cons_self ..)) with e | hy
      · exact e
      · rcases List.mem_cons.mp (h.mem_iff.mpr (List.mem_cons_self ..)) with e | hz
        · exact e.symm
        · exact absurd (n1 d hz) (List.lt_asymm (m1 c hy))
    subst e
    rw [rows_ext (List.Perm.cons_inv h) n2 m2]
end
end TF
end
section
set_option maxHeartbeats 4000000
namespace TF
open PySem PySem.Spec PyProof.Rows L2 PySem.W PySem.Calls
theorem perm_of_sub {α : Type} : ∀ {l m : List α}, l.Nodup → (∀ x ∈ l, x ∈ m) → l.length = m.length → l.Perm m
  | [], m, _, _, h => by rw [List.eq_nil_of_length_eq_zero h.symm]
  | x :: r, m, nd, sub, h => by
    obtain ⟨n1, n2⟩ := List.nodup_cons.mp nd
    obtain ⟨s, t, rfl⟩ := List.append_of_mem (sub x (List.mem_cons_self ..))
    have ih := perm_of_sub (l := r) (m := s ++ t) n2 (fun y hy => by
      have := sub y (List.mem_cons_of_mem _ hy)
      rcases List.mem_append.mp this with z | z
      · exact List.mem_append_left _ z
      · rcases List.mem_cons.mp z with z | z
        · exact absurd (z ▸ hy) n1
        · exact List.mem_append_right _ z) (by simp at h ⊢; omega)
    exact (List.Perm.cons x ih).trans List.perm_middle.symm
theorem CellAt.one {K : Frag} {H : Hp} {c : Addr} {N N' : Nat} {ms ms' : List Nat} (h : CellAt K H c N ms) (h' : CellAt K H c N' ms') : N = N' ∧ ms = ms' := by
  obtain ⟨dx, tb, tp, kd, h1, h2⟩ := h
  obtain ⟨dx', tb', tp', kd', h1', h2'⟩ := h'
  rw [h1] at h1'
  injection h1' with q
  injection q with q1 q2 q3
  simp at q3
  obtain ⟨_, e1, e2, _⟩ := q3
  subst e2
  rw [h2] at h2'
  injection h2' with z
  injection z with z
  refine ⟨by omega, ?_⟩
  exact (List.map_inj_right fun a b e => by have := V.int.inj e; omega).mp z
section
variable {K : Frag} {H : Hp}
open Classical in
/-- whether the two have the same cell under a name -/
noncomputable def ansD (es es' : List Ent) : Key → Bool
  | .inr nm => decide (∃ e ∈ es, ∃ e' ∈ es', e.nm = nm ∧ e'.nm = nm ∧ e.N = e'.N ∧ e.ms = e'.ms)
  | .inl _ => true
theorem same_iff {es es' : List Ent} {cs cs' : List Row} (p : (es.map Ent.row).Perm cs) (p' : (es'.map Ent.row).Perm cs') (ok : OkRows cs) (ok' : OkRows cs') :
    sameD (es.map fun e => ((Sum.inr e.nm : Key), Value.ref e.c)) (es'.map fun e => ((Sum.inr e.nm : Key), Value.ref e.c)) (ansD es es') = decide (cs = cs') := by
  have nd : (es.map (·.nm)).Nodup := (ents_names p).nodup_iff.mpr ok.nd
  have nd' : (es'.map (·.nm)).Nodup := (ents_names p').nodup_iff.mpr ok'.nd
  have ndr : (es.map Ent.row).Nodup := by
    have : ((es.map Ent.row).map (·.1)).Nodup := by rw [List.map_map]; exact nd
    exact (List.pairwise_map.mp this).imp fun h e => h (congrArg _ e)
  rw [Bool.eq_iff_iff, decide_eq_true_iff]
  unfold sameD
  rw [Bool.and_eq_true, decide_eq_true_iff, List.all_eq_true, List.length_map, List.length_map]
  constructor
  · rintro ⟨hl, hall⟩
    have sub : ∀ x ∈ es.map Ent.row, x ∈ es'.map Ent.row := fun x hx => by
      obtain ⟨e, he, rfl⟩ := List.mem_map.mp hx
      have q := hall _ (List.mem_map_of_mem he)
      rw [Bool.and_eq_true] at q
      obtain ⟨e1, m1, e2, m2, n1, n2, q1, q2⟩ := of_decide_eq_true (show decide _ = true from q.2)
      have : e1 = e := by
        obtain ⟨i, hi, ei⟩ := List.mem_iff_getElem.mp m1
        obtain ⟨j, hj, ej⟩ := List.mem_iff_getElem.mp he
        have z : (es.map (·.nm))[i]? = (es.map (·.nm))[j]? := by
          rw [List.getElem?_map, List.getElem?_map, List.getElem?_eq_getElem hi, List.getElem?_eq_getElem hj, ei, ej]
          show some e1.nm = some e.nm
          rw [n1]
        have := (List.getElem?_inj (by rw [List.length_map]; exact hi) nd).mp z
        subst this
        rw [← ei, ← ej]
      subst this
      refine List.mem_map.mpr ⟨e2, m2, ?_⟩
      show (e2.nm, e2.N, e2.ms) = (e1.nm, e1.N, e1.ms)
      rw [n2, q1, q2]
    have pp := perm_of_sub ndr sub (by rw [List.length_map, List.length_map]; exact hl)
    exact rows_ext ((p.symm.trans pp).trans p') ok.up ok'.up
  · rintro rfl
    refine ⟨(ents_len p).trans (ents_len p').symm, fun q hq => ?_⟩
    obtain ⟨e, he, rfl⟩ := List.mem_map.mp hq
    obtain ⟨e', he', er⟩ := List.mem_map.mp ((p.trans p'.symm).mem_iff.mp (List.mem_map_of_mem he))
    have e1 : e'.nm = e.nm := congrArg (·.1) er
    have e2 : e'.N = e.N := congrArg (fun r : Row => r.2.1) er
    have e3 : e'.ms = e.ms := congrArg (fun r : Row => r.2.2) er
    rw [Bool.and_eq_true]
    constructor
    · have := val_has he' nd'
      rw [e1] at this
      rw [this]
      rfl
    · exact decide_eq_true ⟨e, he, e', he', rfl, e1, e2.symm, e3.symm⟩
end
section
variable {X : Cx} {CX : CXT} {k : Nat} {C C' : Addr} {sp : Sp} {E : XK} {pins : List (Addr × Obj)} {σ : L2.St} {H : Hp} {s : Shared} {Q : VK}
theorem rc_own {A : Around} {a b dx dy : Addr} {fs gs : List (Str × V)} (F : MOk X.prog X.w X.K X.mg X.base CX k C "__eq__" sp) (hr : Room k A) (e0 : Env0 X.prog X.w X.K X.mg X.base A X.stack s H) (hx : Passes CX X E) (hn : notFirst X.K C (.ref C') = true) (I : Inv X pins σ H s)
    (ha : H a = some (.ins C dx fs)) (hb : H b = some (.ins C' dy gs)) (h : sp [.ref a, .ref b] H (tellB Q) E) : wpAny (model X.prog X.w) A (richCompare .Eq (.ref a) (.ref b)) (fun v s' => ∃ bb : Bool, v = .bool bb ∧ EP X pins σ Q v s') X.xe s := by
  obtain ⟨f, fd, ps, h1, h2, h3⟩ := F.g
  obtain ⟨mA, J, _⟩ := ins_get I.hok ha
  obtain ⟨mB, J', _⟩ := ins_get I.hok hb
  obtain ⟨od, J, _⟩ := J.look
  obtain ⟨od', J', _⟩ := J'.look
  obtain ⟨m, hF⟩ := I.fr
  have rr : Vals [V.ref a, V.ref b] [Value.ref a, Value.ref b] := .cons rfl (.cons rfl .nil)
  refine cmp_K (op := .Eq) hr.units0 hF I.ok.mod.kin J J'.type hn h3.at_ h3.fn (thn (run_at h1 h2 hr e0 hx I rr h) fun w s' ⟨z, H', I', rz, bb, ez, q⟩ => ?_)
  subst ez
  obtain rfl : w = Value.bool bb := rz
  exact ⟨bb, rfl, .bl bb, H', I', rfl, q⟩
/-- held == held -/
theorem op_eqCat (F : MOk X.prog X.w X.K X.mg X.base CX0 k (aCell X.K) "__eq__" (spCEq X.K)) (hr : Room (k + 1) X.A) : OpR X (compareOp .Eq) (fun x y H Q => ∃ (d d' : Addr) (cs cs' : List Row), x = .ref d ∧ y = .ref d' ∧ d ≠ d' ∧ CatAt X.K H d cs ∧ CatAt X.K H d' cs' ∧ OkRows cs ∧ OkRows cs' ∧ ∀ H', Same H H' → Q (.bl (decide (cs = cs'))) H') := by
  intro pins s σ H x y v u Q I rx ry ⟨d, d', cs, cs', ex, ey, ne, ⟨es, hE, p⟩, ⟨es', hE', p'⟩, ok, ok', q⟩
  subst ex ey
  obtain rfl : v = Value.ref d := rx
  obtain rfl : u = Value.ref d' := ry
  obtain ⟨oa, I1⟩ := I.lock hE.1 True.intro
  have hd1 : (upd H d (.frz oa (.dK (es.map Ent.kv)))) d' = some (.dK (es'.map Ent.kv)) := (upd_ne (Ne.symm ne)).trans hE'.1
  obtain ⟨ob, I2⟩ := I1.lock hd1 True.intro
  have n1 := I.nofrz hE.1 True.intro
  have n2 := I1.nofrz hd1 True.intro
  have cells : ∀ {c : Addr} {N : Nat} {ms : List Nat}, CellAt X.K H c N ms → CellAt X.K (upd (upd H d (.frz oa (.dK (es.map Ent.kv)))) d' (.frz ob (.dK (es'.map Ent.kv)))) c N ms := fun {c N ms} ⟨dx, tb, tp, kd, h1, h2⟩ => by
    refine ⟨dx, tb, tp, kd, ?_, ?_⟩
    · rw [upd_ne (fun z => by rw [z, hE'.1] at h1; cases h1), upd_ne (fun z => by rw [z, hE.1] at h1; cases h1)]
      exact h1
    · rw [upd_ne (fun z => by rw [z, hE'.1] at h2; cases h2), upd_ne (fun z => by rw [z, hE.1] at h2; cases h2)]
      exact h2
  have fin : ∀ t, Inv X pins σ (upd (upd H d (.frz oa (.dK (es.map Ent.kv)))) d' (.frz ob (.dK (es'.map Ent.kv)))) t → EP X pins σ Q (.bool (decide (cs = cs'))) t := fun t J => by
    have J1 := J.unlock upd_same n2
    have e1 : (upd (upd (upd H d (.frz oa (.dK (es.map Ent.kv)))) d' (.frz ob (.dK (es'.map Ent.kv)))) d' (.dK (es'.map Ent.kv))) d = some (.frz oa (.dK (es.map Ent.kv))) := by rw [upd_ne ne, upd_ne ne, upd_same]
    have J2 := J1.unlock e1 n1
    refine ⟨.bl _, _, J2, rfl, q _ fun b o hb => ?_⟩
    by_cases z : b = d
    · subst z
      rw [upd_same, ← hE.1]
      exact hb
    · rw [upd_ne z]
      by_cases z2 : b = d'
      · rw [z2, upd_same]
        rw [z2, hE'.1] at hb
        exact hb
      · rw [upd_ne z2, upd_ne z2, upd_ne z]
        exact hb
  obtain ⟨m1, g1, x1, ea, pa, va, da, _, ra, DA⟩ := I2.frzK (d := d) (o := oa) (kvs := es.map Ent.kv) (by rw [upd_ne ne, upd_same])
  obtain ⟨m2, g2, x2, eb, pb, vb, db, _, rb, DB⟩ := I2.frzK (d := d') (o := ob) (kvs := es'.map Ent.kv) upd_same
  have eva := kv_refs ra
  have evb := kv_refs rb
  subst eva evb
  obtain ⟨o1, ea', g1', _, da', kA, PA, _⟩ := id DA
  obtain ⟨o2, eb', g2', _, db', kB, PB, _⟩ := id DB
  rw [g1] at g1'
  cases g1'
  rw [g2] at g2'
  cases g2'
  rw [da] at da'
  cases da'
  rw [db] at db'
  cases db'
  have T1 : s.TypeIs (.ref d) "dict" := ⟨oa, g1, x1.1⟩
  have T2 : s.TypeIs (.ref d') "dict" := ⟨ob, g2, x2.1⟩
  show wpAny (model X.prog X.w) X.A (richCompare .Eq (.ref d) (.ref d')) (EP X pins σ Q) X.xe s
  refine wpAny_richCompare_same_room (op := .Eq) T1 T2 PySem.F.slot_dict_eq (wpAny_call_entry PySem.F.slot_dict_eq T1 PySem.F.entry_dict_eq ?_ (PySem.F.args_dict_eq_2 _ _)) hr.units0
  show wpAny _ _ (Builtin.Dict.dictSlotArgs "__eq__" ⟨[.ref d, .ref d'], []⟩ >>= _) _ _ s
  unfold Builtin.Dict.dictSlotArgs
  refine wpAny_bind (wpAny_bind (wpAny_notOrdered_dict T1 ?_))
  show wpAny _ _ (pure (Value.ref d, Value.ref d')) _ _ s
  refine wpAny_pure (wpAny_bind (wpAny_isInstance (T := "dict") T2 PySem.F.sub_dict_dict ?_))
  rw [if_neg (by decide)]
  refine wpAny_bind (wpAny_pure (wpAny_bind (wpAny_pure (wpAny_bind ?_))))
  have hr1 := hr.in1
  have KI := I2.kIn
  refine pairs_run (J := fun t => Inv X pins σ (upd (upd H d (.frz oa (.dK (es.map Ent.kv)))) d' (.frz ob (.dK (es'.map Ent.kv)))) t) (ans := ansD es es') m1 m2 (fun t J => ?_) (fun t J => ?_) da db kA kB PA PB (fun t kk v y J hm hv R hR => ?_) I2 (fun t J => ?_)
  · exact (J.frzK (d := d) (o := oa) (kvs := es.map Ent.kv) (by rw [upd_ne ne, upd_same])).2.1
  · exact (J.frzK (d := d') (o := ob) (kvs := es'.map Ent.kv) upd_same).2.1
  · obtain ⟨e, he, ek⟩ := List.mem_map.mp hm
    cases ek
    obtain ⟨e', he', en, rfl⟩ := val_refs hv
    have c1 := cells (hE.2 e he)
    have c2 := cells (hE'.2 e' he')
    have nd : (es.map (·.nm)).Nodup := (ents_names p).nodup_iff.mpr ok.nd
    have nd' : (es'.map (·.nm)).Nodup := (ents_names p').nodup_iff.mpr ok'.nd
    have same_ : ∀ {l : List Ent} {a b : Ent}, (l.map (·.nm)).Nodup → a ∈ l → b ∈ l → a.nm = b.nm → a = b := fun {l a b} n ha hb hab => by
      have h1 := val_has ha n
      have h2 := val_has hb n
      obtain ⟨i, hi, ei⟩ := List.mem_iff_getElem.mp ha
      obtain ⟨j, hj, ej⟩ := List.mem_iff_getElem.mp hb
      have z : (l.map (·.nm))[i]? = (l.map (·.nm))[j]? := by
        rw [List.getElem?_map, List.getElem?_map, List.getElem?_eq_getElem hi, List.getElem?_eq_getElem hj, ei, ej]
        show some a.nm = some b.nm
        rw [hab]
      have := (List.getElem?_inj (by rw [List.length_map]; exact hi) n).mp z
      subst this
      rw [← ei, ← ej]
    have an : ansD es es' (.inr e.nm) = decide (e.N = e'.N ∧ e.ms = e'.ms) := by
      unfold ansD
      refine decide_eq_decide.mpr ⟨fun ⟨a, ha, b, hb, h1, h2, h3, h4⟩ => ?_, fun h => ⟨e, he, e', he', rfl, en, h.1, h.2⟩⟩
      rw [same_ nd ha he h1, same_ nd' hb he' (h2.trans en.symm)] at *
      exact ⟨h3, h4⟩
    rw [an] at hR
    by_cases hc : e.c = e'.c
    · have one := CellAt.one c1 (hc ▸ c2)
      rw [decide_eq_true one] at hR
      rw [hc]
      exact SeqAt.EqAt.same (A := X.A.in1) (s := t) (.ref e'.c) X.prog X.w _ _ (hR t J)
    · refine GQ.eqBool_refG hc ?_
      obtain ⟨dx, tb, tp, kd, h1, h2⟩ := id c1
      obtain ⟨dx', tb', tp', kd', h1', h2'⟩ := id c2
      refine thn (rc_own (Q := fun v H' => v = .bl (decide (e.N = e'.N ∧ e.ms = e'.ms)) ∧ H' = _) F hr1 J.env0.in1 pass0 (by unfold notFirst; simp) J h1 h1' ⟨e.c, e'.c, e.N, e'.N, e.ms, e'.ms, rfl, c1, c2, _, rfl, rfl, rfl⟩) fun v t' ⟨bb, ev, z, H', J', rz, ez, eH⟩ => ?_
      subst ev ez eH
      obtain rfl : bb = _ := Value.bool.inj rz
      exact ⟨_, rfl, hR t' J'⟩
  · refine wpAny_pure ⟨_, rfl, fun z => (nomatch z), ?_⟩
    have := fin t J
    rw [← same_iff p p' ok ok'] at this
    simpa using this
end
end TF
end
section
set_option maxHeartbeats 4000000
set_option pp.maxSteps 3000

namespace TF
open PySem PySem.Spec PyProof.Rows L2 TL StX
section
variable {P : Program} {w : World} {K : PySem.W.Frag} {mg : Str → Option Value} {base : Heap}
/-! ### Session.__eq__ -/
def spSeq (K : PySem.W.Frag) (C : Addr) : Sp := fun vs H Q _ => ∃ (s dx d h : Addr) (o : Option Addr) (cs : List Row) (past : List (Addr × List Row)) (y : V), vs = [.ref s, y] ∧ Ses K H C s dx d h o cs past ∧
  ((∃ (s' C' dx' d' h' : Addr) (o' : Option Addr) (cs' : List Row) (past' : List (Addr × List Row)), y = .ref s' ∧ SesC K C' ∧ Ses K H C' s' dx' d' h' o' cs' past' ∧ d ≠ d' ∧ ∀ H', Same H H' → Q (.bl (decide (cs = cs'))) H') ∨
    ∃ t, TyX K H y t ∧ PySem.W.kitOne K t (.ref (aSes K)) = some false ∧ Q (.bl false) H)
theorem scSeq : FnScope ["self", "other"] ["self", "other"] (defScope (inClass (tops 71) 27)) := ⟨rfl, rfl, rfl, by decide +kernel, rfl, by decide +kernel, by decide +kernel⟩
theorem ok_seq {C : Addr} (G : MDef K C "__eq__" "Session.__eq__" (inClass (tops 71) 27)) (SC : SesC K C) (T : TxtA K mg) (Fce : MOk P w K mg base CX0 1 (aCell K) "__eq__" (spCEq K)) : MOk P w K mg base CX0 3 C "__eq__" (spSeq K C) := by
  refine G.ok scSeq (fun vs H Q E h => ?_) (fun _ _ _ _ _ _ us hl => match us, hl with | [_, _], _ => rfl) (fun f cdv A outer s H vs Q E hr h => ?_)
  · obtain ⟨_, _, _, _, _, _, _, _, rfl, _⟩ := h
    rfl
  · obtain ⟨x, dx, d, h, o, cs, past, y, rfl, S, k⟩ := h
    refine ⟨_, (pss_one (ps_ret (pe_and (pe_callB call_isi (by rfl) T.z_isinstance (by decide +kernel) (pa_cons (pv 1) (pa_cons (pe_gc rfl T.c_Session) pa_nil))) (pe_one (pe_cmpR (op_eqCat Fce (hr.mono (by decide))) (pe_fld (pv 0) rfl) (pe_fld (pv 1) rfl) (nomark _)))))), ?_⟩
    rcases k with ⟨s', C', dx', d', h', o', cs', past', rfl, SC', S', ne, k⟩ | ⟨t, ty, kt, k⟩
    · refine ⟨_, rfl, _, _, _, _, true, rfl, .own _, .base (SC'.ty _ _ _ _ S'.obj), SC'.is, true, rfl, iteT ?_⟩
      exact ⟨_, rfl, x, _, _, _, _, rfl, S.obj, SC.cl, SC.n1, rfl, _, rfl, s', _, _, _, _, rfl, S'.obj, SC'.cl, SC'.n1, rfl, d, d', cs, cs', rfl, rfl, ne, S.cat, S'.cat, S.ok, S'.ok, k⟩
    · exact ⟨_, rfl, _, _, _, _, false, rfl, .own _, ty, kt, false, rfl, iteF k⟩
end
end TF
end
section
set_option maxHeartbeats 4000000
set_option pp.maxSteps 3000

namespace TF
open PySem PySem.Spec PyProof.Rows L2 TL StX
section
variable {P : Program} {w : World} {K : PySem.W.Frag} {mg : Str → Option Value} {base : Heap}
/-! ### numbers, at 0 -/
def spIi : Sp := fun vs H Q _ => vs = [.int 0, .int 0, .non] ∧ Q (.bl true) H
theorem scIi : FnScope ["value", "low", "high"] ["value", "low", "high"] (defScope (tops 18)) := ⟨rfl, rfl, rfl, by decide +kernel, rfl, by decide +kernel, by decide +kernel⟩
theorem ii_fn {f : Addr} {fd : FuncData} (G : FunD K "is_integer" "is_integer" (defArgs (tops 18)) (defBody (tops 18)) (defScope (tops 18)) [] [("low", .non), ("high", .non)] f fd) (T : TxtA K mg) : FnOk P w K mg base CX0 1 f fd ["value", "low", "high"] spIi := by
  refine G.ok scIi (fun vs H Q E h => by rw [h.1]; rfl) (fun cdv A outer s H vs Q E hr h => ?_)
  obtain ⟨rfl, k⟩ := h
  suffices hh : ∃ t, PSs (cxOf CX0 P w K mg base ["value", "low", "high"] "is_integer" (defScope (tops 18)) f cdv A outer s H E).nox (defBody (tops 18)) t ∧ t { nx := fun _ H' => Q .non H', rt := Q } (start ["value", "low", "high"] [.int 0, .int 0, .non]) H by
    obtain ⟨t, h1, h2⟩ := hh
    exact ⟨t, h1.nox, h2⟩
  refine ⟨_, (pss_cons (ps_if (PW.pt (pw_or (pt_not (pt_val (pe_callB call_isi (by rfl) T.z_isinstance (by decide +kernel) (pa_cons (pv 0) (pa_cons (pe_bltn (v := .ty "int") (by rfl) T.z_int (by decide +kernel) rfl) pa_nil))))) (pw_or1 (pt_val (pe_callB call_isi (by rfl) T.z_isinstance (by decide +kernel) (pa_cons (pv 0) (pa_cons (pe_bltn (v := .ty "bool") (by rfl) T.z_bool (by decide +kernel) rfl) pa_nil))))))) (pss_one (ps_ret pe_bl)) pss_nil)
      (pss_one (ps_ret (pe_and (pe_or (pe_cmpR op_isN (pv 1) pe_non (nomark _)) (pe_one (pe_cmpR op_le (pv 1) (pv 0) (nomark _)))) (pe_one (pe_or (pe_cmpR op_isN (pv 2) pe_non (nomark _)) (pe_one (pe_cmpR op_le (pv 0) (pv 2) (nomark _))))))))), ?_⟩
  refine ⟨_, rfl, _, _, _, _, true, rfl, .ty _, .base (.int _), kit_ty (by decide +kernel), _, rfl, iteF ⟨_, rfl, _, _, _, _, false, rfl, .ty _, .base (.int _), kit_ty (by decide +kernel), _, rfl, iteF ?_⟩⟩
  refine ⟨_, rfl, rfl, false, congrArg V.bl (decide_eq_false fun e => nomatch e), iteF ⟨_, rfl, _, rfl, _, _, rfl, rfl, true, congrArg V.bl (decide_eq_true (by decide)), iteT ?_⟩⟩
  exact ⟨_, rfl, rfl, true, congrArg V.bl (decide_eq_true rfl), iteT k⟩
theorem ii_kb {f : Addr} {fd : FuncData} (G : FunD K "is_integer" "is_integer" (defArgs (tops 18)) (defBody (tops 18)) (defScope (tops 18)) [] [("low", .non), ("high", .non)] f fd) : ∃ gg, KBn K fd ["value", "low", "high"] 1 ["low", "high"] gg (· ++ ·) := by
  obtain ⟨mv, h⟩ := G.kbinds0 (ps := ["value", "low", "high"]) 1 ["low", "high"] [] (fun us _ ws => us ++ ws) (by simp) (fun _ h => nomatch h) (fun r1 _ r3 => r1.append r3) (fun D doc pm an cdv ct us mv ws l1 _ l2 => match us, ws, l1, l2 with | [_], [_, _], _, _ => rfl)
  exact ⟨_, h⟩
def spCn : Sp := fun vs H Q _ => vs = [.int 0, .int 0, .non] ∧ Q .non H
theorem scCn : FnScope ["value", "low", "high"] ["value", "low", "high"] (defScope (tops 19)) := ⟨rfl, rfl, rfl, by decide +kernel, rfl, by decide +kernel, by decide +kernel⟩
/-- check_number(0) -/
structure CnOk (P : Program) (w : World) (K : PySem.W.Frag) (mg : Str → Option Value) (base : Heap) (k : Nat) : Prop where
  g : ∃ (f : Addr) (fd : FuncData) (ds : List Value), FnOk P w K mg base CX0 k f fd ["value", "low", "high"] spCn ∧ Binds K fd ["value", "low", "high"] ds ∧ Vals [.int 0, .non] ds ∧ mg "check_number" = some (.ref f) ∧ PySem.W.keepIn K (.ref f) = true
/-- a def with defaults, as it stands -/
def G2Def (K : PySem.W.Frag) (mg : Str → Option Value) (x : Str) (st : Stmt) (dvs : List V) (kws : List (Str × V)) : Prop := ∃ (f : Addr) (fd : FuncData), FunD K x x (defArgs st) (defBody st) (defScope st) dvs kws f fd ∧ mg x = some (.ref f)
theorem ok_cn (G1 : G2Def K mg "is_integer" (tops 18) [] [("low", .non), ("high", .non)]) (G : G2Def K mg "check_number" (tops 19) [.int 0, .non] []) (T : TxtA K mg) : CnOk P w K mg base 2 := by
  obtain ⟨fi, fdi, Gi, hm⟩ := G1
  obtain ⟨f, fd, G, hm2⟩ := G
  obtain ⟨gg, KB⟩ := ii_kb Gi
  have kp := Gi.kp
  obtain ⟨ds, hds, bd⟩ := G.binds1 (ps := ["value", "low", "high"]) 1 0 (by simp) rfl (fun T kV doc pm an cdv ct us its l1 l2 => match us, its, l1, l2 with | [u], [a, b], _, _ => ⟨_, rfl, rfl⟩)
  refine ⟨f, fd, ds, G.ok scCn (fun vs H Q E h => by rw [h.1]; rfl) (fun cdv A outer s H vs Q E hr h => ?_), bd, hds, hm2, G.kp⟩
  obtain ⟨rfl, k⟩ := h
  suffices hh : ∃ t, PSs (cxOf CX0 P w K mg base ["value", "low", "high"] "check_number" (defScope (tops 19)) f cdv A outer s H E).nox (defBody (tops 19)) t ∧ t { nx := fun _ H' => Q .non H', rt := Q } (start ["value", "low", "high"] [.int 0, .int 0, .non]) H by
    obtain ⟨t, h1, h2⟩ := hh
    exact ⟨t, h1.nox, h2⟩
  have F : FnOk P w K mg base CX0 1 fi fdi ["value", "low", "high"] spIi := ii_fn Gi T
  refine ⟨_, (pss_one (ps_if (pt_not (pt_val (pe_callN F (hr.mono (by decide)) rfl hm kp KB pass0 (pa_cons (pv 0) pa_nil) (pk_cons (pv 1) (pk_cons (pv 2) pk_nil))))) (pss_one ps_never) pss_nil)), ?_⟩
  exact ⟨_, rfl, _, rfl, _, rfl, rfl, rfl, rfl, _, rfl, iteF k⟩
/-! ### digits -/
def spDi : Sp := fun vs H Q _ => vs = [.int 0, .int 3] ∧ ∀ p H', Same H H' → H' p = some (.lst []) → Q (.ref p) H'
theorem scDi : FnScope ["number", "radix", "found", "digit"] ["number", "radix"] (defScope (tops 20)) := ⟨rfl, rfl, rfl, by decide +kernel, rfl, by decide +kernel, by decide +kernel⟩
theorem ok_di (G : GDef K mg "digits_in" (tops 20)) : GOk P w K mg base CX0 1 "digits_in" spDi := by
  refine G.ok scDi (fun vs H Q E h => by rw [h.1]; rfl) (fun _ _ _ _ _ _ us hl => match us, hl with | [_, _], _ => rfl) (fun f cdv A outer s H vs Q E hr h => ?_)
  obtain ⟨rfl, k⟩ := h
  refine ⟨_, (pss_cons (ps_set (i := 2) scDi.nd rfl (Or.inl rfl) (pe_lst pa_nil))
      (pss_cons (ps_while PassesOwn.never (pt_cmpR op_gt (pv 0) pe_int (nomark _)) pss_never)
      (pss_one (ps_ret (pe_revL (pv 2)))))), ?_⟩
  refine ⟨z0, fun q hq => ?_⟩
  have s1 : Same H (upd H q (.lst [])) := Same.new hq
  refine ⟨fun _ σ H' => σ = [some (.int 0), some (.int 3), some (.ref q), none] ∧ H' = upd H q (.lst []), ⟨0, rfl, rfl⟩, fun n σ' H' ⟨e1, e2⟩ => ?_⟩
  subst e1 e2
  refine ⟨_, rfl, _, _, rfl, rfl, _, rfl, iteFr (decide_eq_false (by decide)) ?_⟩
  exact ⟨_, rfl, q, [], rfl, SqL.of upd_same, fun p hp => k p _ (s1.trans (Same.new hp)) upd_same⟩
def spNo : Sp := fun vs H Q _ => ∃ (a : Addr) (r : Int), vs = [.ref a, .int r] ∧ H a = some (.lst []) ∧ Q (.int 0) H
theorem scNo : FnScope ["digits", "radix", "found", "digit"] ["digits", "radix"] (defScope (tops 21)) := ⟨rfl, rfl, rfl, by decide +kernel, rfl, by decide +kernel, by decide +kernel⟩
theorem ok_no (G : GDef K mg "number_of" (tops 21)) : GOk P w K mg base CX0 1 "number_of" spNo := by
  refine G.ok scNo (fun vs H Q E h => by obtain ⟨_, _, rfl, _⟩ := h; rfl) (fun _ _ _ _ _ _ us hl => match us, hl with | [_, _], _ => rfl) (fun f cdv A outer s H vs Q E hr h => ?_)
  obtain ⟨a, r, rfl, ha, k⟩ := h
  refine ⟨_, (pss_cons (ps_set (i := 2) scNo.nd rfl (Or.inl rfl) pe_int)
      (pss_cons (ps_for PassesOwn.never rfl (pi_list (pv 0)) (pg_name (i := 3) scNo.nd rfl (Or.inl rfl)) (pss_one ps_never))
      (pss_one (ps_ret (pv 2))))), ?_⟩
  refine ⟨_, rfl, a, rfl, ⟨_, SqL.of ha⟩, for_it (walk_list (K := K) (a := a) (xs := [])) (fun _ σ' H' => σ' = [some (.ref a), some (.int r), some (.int 0), none] ∧ H' = H) ⟨rfl, rfl⟩ (fun i σ' H' _ pv => by rw [pv.2]; exact SqL.of ha) (fun i x σ' H' H'' hi pv y => absurd hi (Nat.not_lt_zero _)) (fun σ' H' pv => ?_)⟩
  obtain ⟨rfl, rfl⟩ := pv
  exact ⟨_, rfl, k⟩
def spAp : Sp := fun vs H Q _ => ∃ a : Addr, vs = [.ref a] ∧ H a = some (.lst []) ∧ Q (.bl true) H
theorem scAp : FnScope ["digits"] ["digits"] (defScope (tops 22)) := ⟨rfl, rfl, rfl, by decide +kernel, rfl, by decide +kernel, by decide +kernel⟩
theorem ok_ap (G : GDef K mg "are_plain" (tops 22)) : GOk P w K mg base CX0 1 "are_plain" spAp := by
  refine G.ok scAp (fun vs H Q E h => by obtain ⟨_, rfl, _⟩ := h; rfl) (fun _ _ _ _ _ _ us hl => match us, hl with | [_], _ => rfl) (fun f cdv A outer s H vs Q E hr h => ?_)
  obtain ⟨a, rfl, ha, k⟩ := h
  refine ⟨_, (pss_one (ps_ret (pe_cmpR op_notIn_seq pe_int (pv 0) (by rfl)))), ?_⟩
  exact ⟨_, rfl, a, [], rfl, .inl (SqL.of ha), rfl, rfl, k⟩
def spRof : Sp := fun vs H Q _ => vs = [.int 0] ∧ ∀ H', Same H H' → Q (.int 0) H'
theorem scRof : FnScope ["x", "digits", "place"] ["x"] (defScope (tops 25)) := ⟨rfl, rfl, rfl, by decide +kernel, rfl, by decide +kernel, by decide +kernel⟩
theorem ok_rof (G : GDef K mg "rank_of" (tops 25)) (Fdi : GOk P w K mg base CX0 1 "digits_in" spDi) (Fno : GOk P w K mg base CX0 1 "number_of" spNo) (Fap : GOk P w K mg base CX0 1 "are_plain" spAp) : GOk P w K mg base CX0 2 "rank_of" spRof := by
  refine G.ok scRof (fun vs H Q E h => by rw [h.1]; rfl) (fun _ _ _ _ _ _ us hl => match us, hl with | [_], _ => rfl) (fun f cdv A outer s H vs Q E hr h => ?_)
  obtain ⟨rfl, k⟩ := h
  refine ⟨_, (pss_cons (ps_set (i := 1) scRof.nd rfl (Or.inl rfl) (pe_cg Fdi (hr.mono (by decide)) pass0 rfl (pa_cons (pv 0) (pa_cons pe_int pa_nil))))
      (pss_cons (ps_if (pt_val (pe_cg Fap (hr.mono (by decide)) pass0 rfl (pa_cons (pv 1) pa_nil))) (pss_one (ps_ret (pe_cg Fno (hr.mono (by decide)) pass0 rfl (pa_cons (pv 1) (pa_cons pe_int pa_nil))))) pss_nil)
      pss_never)), ?_⟩
  refine ⟨_, rfl, rfl, fun p H1 s1 hp => ?_⟩
  exact ⟨_, rfl, p, rfl, hp, _, rfl, iteT ⟨_, rfl, p, 2, rfl, hp, k H1 s1⟩⟩
def spIb : Sp := fun vs H Q _ => vs = [.int 0] ∧ ∀ H', Same H H' → Q (.bl true) H'
theorem scIb : FnScope ["x"] ["x"] (defScope (tops 27)) := ⟨rfl, rfl, rfl, by decide +kernel, rfl, by decide +kernel, by decide +kernel⟩
theorem ok_ib (G : GDef K mg "in_base" (tops 27)) (Fcn : CnOk P w K mg base 2) (Fdi : GOk P w K mg base CX0 1 "digits_in" spDi) (Fap : GOk P w K mg base CX0 1 "are_plain" spAp) : GOk P w K mg base CX0 3 "in_base" spIb := by
  obtain ⟨f1, fd1, ds, h1, h4, hds, h2, h3⟩ := Fcn.g
  refine G.ok scIb (fun vs H Q E h => by rw [h.1]; rfl) (fun _ _ _ _ _ _ us hl => match us, hl with | [_], _ => rfl) (fun f cdv A outer s H vs Q E hr h => ?_)
  obtain ⟨rfl, k⟩ := h
  refine ⟨_, (pss_cons (ps_expr (pe_call h1 (hr.mono (by decide)) rfl h2 h3 h4 hds pass0 (pa_cons (pv 0) pa_nil)))
      (pss_one (ps_ret (pe_cg Fap (hr.mono (by decide)) pass0 rfl (pa_cons (pe_cg Fdi (hr.mono (by decide)) pass0 rfl (pa_cons (pv 0) (pa_cons pe_int pa_nil))) pa_nil))))), ?_⟩
  exact ⟨_, rfl, rfl, _, rfl, rfl, fun p H1 s1 hp => ⟨p, rfl, hp, k H1 s1⟩⟩
theorem scBr : FnScope ["x"] ["x"] (defScope (tops 28)) := ⟨rfl, rfl, rfl, by decide +kernel, rfl, by decide +kernel, by decide +kernel⟩
theorem ok_br (G : GDef K mg "base_rank" (tops 28)) (Fcn : CnOk P w K mg base 2) (Fro : GOk P w K mg base CX0 2 "rank_of" spRof) : GOk P w K mg base CX0 3 "base_rank" spRof := by
  obtain ⟨f1, fd1, ds, h1, h4, hds, h2, h3⟩ := Fcn.g
  refine G.ok scBr (fun vs H Q E h => by rw [h.1]; rfl) (fun _ _ _ _ _ _ us hl => match us, hl with | [_], _ => rfl) (fun f cdv A outer s H vs Q E hr h => ?_)
  obtain ⟨rfl, k⟩ := h
  refine ⟨_, (pss_cons (ps_expr (pe_call h1 (hr.mono (by decide)) rfl h2 h3 h4 hds pass0 (pa_cons (pv 0) pa_nil)))
      (pss_one (ps_ret (pe_cg Fro (hr.mono (by decide)) pass0 rfl (pa_cons (pv 0) pa_nil))))), ?_⟩
  exact ⟨_, rfl, rfl, _, rfl, rfl, k⟩
end
end TF
end
section
set_option maxHeartbeats 4000000
set_option pp.maxSteps 3000

namespace TF
open PySem PySem.Spec PyProof.Rows L2 TL StX NdefX
section
variable {P : Program} {w : World} {K : PySem.W.Frag} {mg : Str → Option Value} {base : Heap}
/-! ### sequences, at 0 -/
structure ShiC (K : PySem.W.Frag) : Prop where
  cl : Cls K (aShi K)
  n1 : NoAttr K (aShi K) "own_cell"
  n2 : NoAttr K (aShi K) "offset"
def spRui (K : PySem.W.Frag) : Sp := fun vs H Q _ => ∃ (x dx c : Addr) (N : Nat) (ms : List Nat), vs = [.ref x, .ref c] ∧ H x = some (.ins (aShi K) dx []) ∧ CellAt K H c N ms ∧ ∀ H', ButL [x] H H' → H' x = some (.ins (aShi K) dx [("own_cell", .ref c), ("offset", .int 0)]) → Q .non H'
theorem scRui : FnScope ["self", "cell"] ["self", "cell"] (defScope (inClass (tops 60) 1)) := ⟨rfl, rfl, rfl, by decide +kernel, rfl, by decide +kernel, by decide +kernel⟩
theorem rui_fn {f : Addr} {fd : FuncData} (G : FunD K "__init__" "RuledSequence.__init__" (defArgs (inClass (tops 60) 1)) (defBody (inClass (tops 60) 1)) (defScope (inClass (tops 60) 1)) [] [] f fd) (T : TxtA K mg) (C : CellA K) (SC : ShiC K) : FnR P w K mg base CX0 1 f (spRui K) := by
  have F : FnOk P w K mg base CX0 1 f fd ["self", "cell"] (spRui K) := by
    refine G.ok scRui (fun vs H Q E h => by obtain ⟨_, _, _, _, _, rfl, _⟩ := h; rfl) (fun cdv A outer s H vs Q E hr h => ?_)
    obtain ⟨x, dx, c, N, ms, rfl, hx, hc, k⟩ := h
    suffices hh : ∃ t, PSs (cxOf CX0 P w K mg base ["self", "cell"] "RuledSequence.__init__" (defScope (inClass (tops 60) 1)) f cdv A outer s H E).nox (defBody (inClass (tops 60) 1)) t ∧ t { nx := fun _ H' => Q .non H', rt := Q } (start ["self", "cell"] [.ref x, .ref c]) H by
      obtain ⟨t, h1, h2⟩ := hh
      exact ⟨t, h1.nox, h2⟩
    refine ⟨_, (pss_cons (ps_if (pt_not (pt_val (pe_callB call_isi (by rfl) T.z_isinstance (by decide +kernel) (pa_cons (pv 1) (pa_cons (pe_gc rfl T.c_Cell) pa_nil))))) (pss_one ps_never) pss_nil)
      (pss_cons (ps_fld (pv 0) (pv 1) rfl)
      (pss_one (ps_fld (pv 0) pe_int rfl)))), ?_⟩
    obtain ⟨cx, tb, tp, kd, h1, h2⟩ := hc
    refine ⟨_, rfl, _, _, _, _, true, rfl, .own _, .base (C.ty _ _ _ _ h1), C.is, _, rfl, iteF ?_⟩
    refine ⟨_, rfl, _, rfl, x, aShi K, dx, [], rfl, hx, SC.cl, SC.n1, (show 0 < 1000 by decide), ?_⟩
    refine ⟨_, rfl, x, aShi K, dx, _, rfl, upd_same, SC.cl, SC.n2, (show 1 < 1000 by decide), ?_⟩
    exact k _ (((ButL.of (Same.refl H)).upd (List.mem_singleton.mpr rfl)).upd (List.mem_singleton.mpr rfl)) upd_same
  exact (F.raw (G.bindsN fun _ _ _ _ _ _ us hl => match us, hl with | [_, _], _ => rfl) .nil).imp fun vs H Q E h => by rw [List.append_nil]; exact h
def spRur (K : PySem.W.Frag) : Sp := fun vs H Q _ => ∃ (x dx c : Addr) (N : Nat) (ms : List Nat), vs = [.ref x, .int 0] ∧ H x = some (.ins (aShi K) dx [("own_cell", .ref c), ("offset", .int 0)]) ∧ CellAt K H c N ms ∧ Shape N ms ∧ ∀ H', Same H H' → Q (.int 0) H'
theorem scRur : FnScope ["self", "x", "quotient", "rest", "found", "member"] ["self", "x"] (defScope (inClass (tops 60) 4)) := ⟨rfl, rfl, rfl, by decide +kernel, rfl, by decide +kernel, by decide +kernel⟩
theorem rur_fn {f : Addr} {fd : FuncData} (G : FunD K "rank" "RuledSequence.rank" (defArgs (inClass (tops 60) 4)) (defBody (inClass (tops 60) 4)) (defScope (inClass (tops 60) 4)) [] [] f fd) (T : TxtA K mg) (C : CellA K) (SC : ShiC K)
    (Fcal : GOk P w K mg base CX0 1 "check_at_least" spCal) (Fbr : GOk P w K mg base CX0 3 "base_rank" spRof) (Fib : GOk P w K mg base CX0 3 "in_base" spIb)
    (Fmo : POk P w K mg base CX0 1 (aCell K) "modulus" (spCProp K fun N _ _ => .int N)) (Fme : POk P w K mg base CX0 1 (aCell K) "members" (spCProp K fun _ _ tp => .ref tp)) (Fsz : POk P w K mg base CX0 1 (aCell K) "size" (spCProp K fun _ ms _ => .int ms.length)) : FnR P w K mg base CX0 4 f (spRur K) := by
  have F : FnOk P w K mg base CX0 4 f fd ["self", "x"] (spRur K) := by
    refine G.ok scRur (fun vs H Q E h => by obtain ⟨_, _, _, _, _, rfl, _⟩ := h; rfl) (fun cdv A outer s H vs Q E hr h => ?_)
    obtain ⟨x, dx, c, N, ms, rfl, hx, hc, S, k⟩ := h
    suffices hh : ∃ t, PSs (cxOf CX0 P w K mg base ["self", "x", "quotient", "rest", "found", "member"] "RuledSequence.rank" (defScope (inClass (tops 60) 4)) f cdv A outer s H E).nox (defBody (inClass (tops 60) 4)) t ∧ t { nx := fun _ H' => Q .non H', rt := Q } (start ["self", "x", "quotient", "rest", "found", "member"] [.ref x, .int 0]) H by
      obtain ⟨t, h1, h2⟩ := hh
      exact ⟨t, h1.nox, h2⟩
    refine ⟨_, (pss_cons (ps_expr (pe_cg Fcal (hr.mono (by decide)) pass0 rfl (pa_cons (pv 1) (pa_cons pe_int pa_nil))))
      (pss_cons (ps_asg (pe_tup (pa_cons (pe_op op_fdiv (pv 1) (pe_cp Fmo C.cl (hr.mono (by decide)) pass0 (pe_fld (pv 0) rfl))) (pa_cons (pe_op op_mod (pv 1) (pe_cp Fmo C.cl (hr.mono (by decide)) pass0 (pe_fld (pv 0) rfl))) pa_nil))) (pg_tup rfl (pgs_cons (pg_name (i := 2) scRur.nd rfl (Or.inl rfl)) (pgs_cons (pg_name (i := 3) scRur.nd rfl (Or.inr rfl)) pgs_nil))))
      (pss_cons (ps_set (i := 4) scRur.nd rfl (Or.inl rfl) (pe_op op_mul (pe_cg Fbr (hr.mono (by decide)) pass0 rfl (pa_cons (pv 2) pa_nil)) (pe_cp Fsz C.cl (hr.mono (by decide)) pass0 (pe_fld (pv 0) rfl))))
      (pss_cons (ps_if (pt_val (pe_cg Fib (hr.mono (by decide)) pass0 rfl (pa_cons (pv 2) pa_nil))) (pss_one (ps_aug (i := 4) scRur.nd rfl (Or.inl rfl) (pe_callB call_len_seq (by rfl) T.z_len (by decide +kernel) (pa_cons (pe_lc (own := [("member", 5)]) (g := gName 5) rfl scRur.nd  (pi_tup (pe_cp Fme C.cl (hr.mono (by decide)) pass0 (pe_fld (pv 0) rfl))) (blkOk_by (N := ["self", "x", "quotient", "rest", "found", "member"]) (sc := (defScope (inClass (tops 60) 4))) (by decide +kernel)) (fun _ _ _ _ _ => (pg_name (i := 5) scRur.nd rfl (Or.inl rfl))) (fun _ _ _ _ _ => (pts_one (pt_cmpR op_lt (pv 5) (pv 3) (nomark _)))) (fun _ _ _ _ _ => (pv 5))) pa_nil)) ip_add)) pss_nil)
      (pss_one (ps_ret (pv 4))))))), ?_⟩
    obtain ⟨cx, tb, tp, kd, h1, h2⟩ := hc
    have n1 := S.n1
    have n2 := S.n2
    have MO : ∀ {H1 : Hp} {Q1 : VK}, Same H H1 → Q1 (.int N) H1 → tProp (aCell K) (spCProp K fun N _ _ => V.int ((N : Nat) : Int)) [] E0 (tFld K (tVar 0) "own_cell") [some (.ref x), some (.int 0), none, none, none, none] H1 Q1 := fun {H1 Q1} s1 q =>
      ⟨_, rfl, x, _, _, _, _, rfl, s1 _ _ hx, SC.cl, SC.n1, rfl, c, _, _, rfl, s1 _ _ h1, c, cx, tb, tp, kd, N, ms, rfl, s1 _ _ h1, s1 _ _ h2, q⟩
    refine ⟨_, rfl, 0, rfl, by decide, ?_⟩
    refine ⟨_, rfl, MO (Same.refl H) ⟨_, _, rfl, rfl, ?_, _, rfl, MO (Same.refl H) ⟨_, _, rfl, rfl, ?_, ?_⟩⟩⟩
    · exact ⟨by omega, by omega⟩
    · show (0 : Int) < N
      omega
    refine ⟨z2, fun T hT => ?_⟩
    have s1 : Same H (upd H T (.tup [.int (0 / (N : Int)), .int (0 % (N : Int))])) := Same.new hT
    refine g_pair upd_same ?_
    generalize upd H T (.tup [.int (0 / (N : Int)), .int (0 % (N : Int))]) = H1 at s1
    have e0 : ([V.int (0 / (N : Int))] ++ [] : List V) = [.int 0] := congrArg (fun i => [V.int i]) (Int.zero_ediv _)
    refine ⟨_, rfl, e0, fun H2 s2' => ?_⟩
    have s2 := s1.trans s2'
    refine ⟨_, rfl, x, _, _, _, _, rfl, s2 _ _ hx, SC.cl, SC.n1, rfl, c, _, _, rfl, s2 _ _ h1, c, cx, tb, tp, kd, N, ms, rfl, s2 _ _ h1, s2 _ _ h2, 0, _, rfl, rfl, .inl (by decide), ?_⟩
    refine ⟨_, rfl, e0, fun H3 s3' => ⟨_, rfl, iteT ?_⟩⟩
    have s3 := s2.trans s3'
    refine ⟨_, rfl, ?_⟩
    refine ⟨_, rfl, x, _, _, _, _, rfl, s3 _ _ hx, SC.cl, SC.n1, rfl, c, _, _, rfl, s3 _ _ h1, c, cx, tb, tp, kd, N, ms, rfl, s3 _ _ h1, s3 _ _ h2, tp, rfl, ⟨_, SqT.of (s3 _ _ h2)⟩, fun D hD => ?_⟩
    have l2 := S.l2
    refine lc_filt walk_tup hD ((VI ms).map fun v => (v, false)) (by rw [List.length_map]) (by rw [VI_len]; omega) (fun H4 s4 => SqT.of (s4 _ _ (s3 _ _ h2))) (fun i y z b H4 H5 hz s4 yy => ?_) (fun H4 s4 hD4 => ?_)
    · obtain ⟨rfl, hy⟩ := yy
      obtain ⟨m, hm, rfl, mem⟩ := VI_at hy
      rw [List.getElem?_map, hy] at hz
      cases hz
      refine ⟨Same.refl _, fun R hR => ⟨_, rfl, _, rfl, _, _, rfl, rfl, false, congrArg V.bl (decide_eq_false (by rw [Int.zero_emod]; omega)), hR _ (Same.refl _)⟩, fun z => nomatch z⟩
    · have : (((VI ms).map fun v => (v, false)).filter (·.2)).map (·.1) = ([] : List V) := by
        induction (VI ms) with
        | nil => rfl
        | cons a r ih => simpa using ih
      rw [this] at hD4
      refine ⟨D, _, rfl, .inl (SqL.of hD4), _, _, rfl, rfl, ?_⟩
      refine ⟨_, rfl, ?_⟩
      show Q (.int ((0 : Int) * ((ms.length : Nat) : Int) + ((0 : Nat) : Int))) H4
      rw [Int.zero_mul]
      exact k _ (s3.trans s4)
  exact (F.raw (G.bindsN fun _ _ _ _ _ _ us hl => match us, hl with | [_, _], _ => rfl) .nil).imp fun vs H Q E h => by rw [List.append_nil]; exact h
/-! ### ShiftedSequence -/
structure ShiA (P : Program) (K : PySem.W.Frag) (mg : Str → Option Value) : Prop where
  ci : ∃ f cc c kV doc pm an ct, SupO K f "__init__" "ShiftedSequence.__init__" (inClass (tops 61) 1) (aShi K) cc c kV doc pm an ct ∧ SupG P K mg c ∧ Mk K (aShi K) f
  cr : SDef P K mg (aShi K) "rank" "ShiftedSequence.rank" (inClass (tops 61) 4) (aShi K)
theorem scShi : NScope ["self", "cell", "shift", "__class__"] ["self", "cell", "shift"] ["__class__"] (defScope (inClass (tops 61) 1)) := nscope_by (by decide +kernel)
theorem scShr : NScope ["self", "x", "__class__"] ["self", "x"] ["__class__"] (defScope (inClass (tops 61) 4)) := nscope_by (by decide +kernel)
def spShi (K : PySem.W.Frag) : Sp := fun vs H Q _ => ∃ (x dx c : Addr) (N : Nat) (ms : List Nat), vs = [.ref x, .ref c, .int 0] ∧ H x = some (.ins (aShi K) dx []) ∧ CellAt K H c N ms ∧ ∀ H', ButL [x] H H' → H' x = some (.ins (aShi K) dx [("own_cell", .ref c), ("offset", .int 0)]) → Q .non H'
/-- ShiftedSequence(cell, shift=0) -/
structure ShOk (P : Program) (w : World) (K : PySem.W.Frag) (mg : Str → Option Value) (base : Heap) (k : Nat) : Prop where
  g : ∃ (f : Addr) (fd : FuncData) (ps : List Str) (gg : List Value → List Value → List Value), Mk K (aShi K) f ∧ FnOk P w K mg base CX0 k f fd ps (spShi K) ∧ KBn K fd ps 2 ["shift"] gg (· ++ ·)
theorem ok_shi {g : Addr} (A0 : ShiA P K mg) (SM : SupM K (aShi K) (aShi K) "__init__" g) (F : FnR P w K mg base CX0 1 g (spRui K)) (SC : ShiC K) (Fcal : GOk P w K mg base CX0 1 "check_at_least" spCal) : ShOk P w K mg base 2 := by
  obtain ⟨f, cc, c, kV, doc, pm, an, ct, O, SG, M⟩ := A0.ci
  refine ⟨f, _, ["self", "cell", "shift"], (· ++ ·), M, fn_sup (N := ["self", "cell", "shift", "__class__"]) O scShi (fun vs H Q E h => by obtain ⟨_, _, _, _, _, rfl, _⟩ := h; rfl) (fun A outer s H vs Q E hr h => ?_), ⟨fun s us ws _ l1 l2 => .of_eq ?_, fun r1 r2 => r1.append r2⟩⟩
  · obtain ⟨x, dx, c0, N, ms, rfl, hx, hc, k⟩ := h
    have SX : SupX (ncx CX0 P w K mg base ["self", "cell", "shift", "__class__"] (supF "__init__" "ShiftedSequence.__init__" (inClass (tops 61) 1) cc c) f A outer s H E) "self" (aShi K) := supx O SG scShi rfl (List.mem_cons_self ..) ⟨_, rfl, rfl⟩ (by decide +kernel)
    refine ⟨_, (pss_consAt (ps_exprAt (pe_super SX SM F (hr.mono (by decide)) pass0 (pa_cons (pv 1) pa_nil)))
      (PSs.at (pss_cons (ps_expr (pe_cg Fcal (hr.mono (by decide)) pass0 rfl (pa_cons (pv 2) (pa_cons pe_int pa_nil))))
      (pss_one (ps_fld (pv 0) (pv 2) rfl))))), ?_⟩
    refine ⟨x, dx, [], rfl, hx, _, rfl, x, dx, c0, N, ms, rfl, hx, hc, fun H1 b1 hx1 => ?_⟩
    refine ⟨_, rfl, 0, rfl, by decide, ?_⟩
    refine ⟨_, rfl, _, rfl, x, aShi K, dx, _, rfl, hx1, SC.cl, SC.n2, (show 2 < 1000 by decide), ?_⟩
    exact k _ (fun b u n hb => ((ButL.of (L := [x]) (Same.refl H1)).upd (List.mem_singleton.mpr rfl)) b u n (b1 b u n hb)) upd_same
  · match us, ws, l1, l2 with
    | [_, _], [_], _, _ => rfl
def spShr (K : PySem.W.Frag) : Sp := spRur K
theorem ok_shr {g : Addr} (A0 : ShiA P K mg) (SM : SupM K (aShi K) (aShi K) "rank" g) (F : FnR P w K mg base CX0 4 g (spRur K)) (SC : ShiC K) (T : TxtA K mg) (Fcal : GOk P w K mg base CX0 1 "check_at_least" spCal) : MOk P w K mg base CX0 5 (aShi K) "rank" (spShr K) := by
  obtain ⟨f, cc, c, kV, doc, pm, an, ct, O, SG, hm⟩ := A0.cr
  refine ⟨f, _, ["self", "x"], fn_sup (N := ["self", "x", "__class__"]) O scShr (fun vs H Q E h => by obtain ⟨_, _, _, _, _, rfl, _⟩ := h; rfl) (fun A outer s H vs Q E hr h => ?_), .all fun us hl => match us, hl with | [_, _], _ => rfl, hm⟩
  obtain ⟨x, dx, c0, N, ms, rfl, hx, hc, S, k⟩ := h
  have SX : SupX (ncx CX0 P w K mg base ["self", "x", "__class__"] (supF "rank" "ShiftedSequence.rank" (inClass (tops 61) 4) cc c) f A outer s H E) "self" (aShi K) := supx O SG scShr rfl (List.mem_cons_self ..) ⟨_, rfl, rfl⟩ (by decide +kernel)
  refine ⟨_, (pss_consAt (PS.at (ps_expr (pe_cg Fcal (hr.mono (by decide)) pass0 rfl (pa_cons (pv 1) (pa_cons pe_int pa_nil)))))
      (pss_consAt (ps_retAt (pe_super SX SM F (hr.mono (by decide)) pass0 (pa_cons (pe_callB (call_max2 rfl) (by rfl) T.z_max (by decide +kernel) (pa_cons (pe_op op_sub (pv 1) (pe_fld (pv 0) rfl)) (pa_cons pe_int pa_nil))) pa_nil))) (PSs.at pss_nil))), ?_⟩
  refine ⟨_, rfl, 0, rfl, by decide, ?_⟩
  refine ⟨x, dx, _, rfl, hx, _, rfl, _, rfl, x, _, _, _, _, rfl, hx, SC.cl, SC.n2, rfl, _, _, rfl, rfl, _, _, rfl, ?_⟩
  exact ⟨x, dx, c0, N, ms, rfl, hx, hc, S, k⟩
/-! ### answer_of -/
def spAo (K : PySem.W.Frag) : Sp := fun vs H Q _ => ∃ (x dx c : Addr) (N : Nat) (ms : List Nat), vs = [.ref x, .str "rank", .int 0] ∧ H x = some (.ins (aShi K) dx [("own_cell", .ref c), ("offset", .int 0)]) ∧ CellAt K H c N ms ∧ Shape N ms ∧ ∀ H', Same H H' → Q (.int 0) H'
theorem scAo : FnScope ["sequence", "question", "value"] ["sequence", "question", "value"] (defScope (tops 70)) := ⟨rfl, rfl, rfl, by decide +kernel, rfl, by decide +kernel, by decide +kernel⟩
theorem ok_ao (G : GDef K mg "answer_of" (tops 70)) (SC : ShiC K) (Frk : MOk P w K mg base CX0 5 (aShi K) "rank" (spShr K)) : GOk P w K mg base CX0 6 "answer_of" (spAo K) := by
  have SHC := SC.cl
  refine G.ok scAo (fun vs H Q E h => by obtain ⟨_, _, _, _, _, rfl, _⟩ := h; rfl) (fun _ _ _ _ _ _ us hl => match us, hl with | [_, _, _], _ => rfl) (fun f cdv A outer s H vs Q E hr h => ?_)
  obtain ⟨x, dx, c0, N, ms, rfl, hx, hc, S, k⟩ := h
  refine ⟨_, (pss_cons (ps_if (pt_cmpR op_eq (pv 1) pe_str (nomark _)) (pss_one (ps_ret pe_nev)) pss_nil)
      (pss_cons (ps_if (pt_cmpR op_eq (pv 1) pe_str (nomark _)) (pss_one (ps_ret (pe_cm Frk SHC (hr.mono (by decide)) pass0 (pv 0) (pa_cons (pv 2) pa_nil)))) pss_nil)
      (pss_cons ps_never
      (pss_one ps_never)))), ?_⟩
  refine ⟨_, rfl, rfl, _, rfl, iteFr (decide_eq_false fun e => absurd (V.str.inj e) (by decide +kernel)) ?_⟩
  refine ⟨_, rfl, rfl, _, rfl, iteTr (decide_eq_true rfl) ?_⟩
  exact ⟨_, rfl, x, dx, _, rfl, hx, rfl, _, rfl, x, dx, c0, N, ms, rfl, hx, hc, S, k⟩
end
end TF
end
section
set_option maxHeartbeats 4000000
set_option pp.maxSteps 3000

namespace TF
open PySem PySem.Spec PyProof.Rows L2 TL StX
section
variable {P : Program} {w : World} {K : PySem.W.Frag} {mg : Str → Option Value} {base : Heap}
/-! ### ask('rank', 0, cell=name) -/
def spAk (K : PySem.W.Frag) (C : Addr) : Sp := fun vs H Q _ => ∃ (s dx d h T : Addr) (o : Option Addr) (cs : List Row) (past : List (Addr × List Row)) (r : Row), vs = [.ref s, .str "rank", .str r.1, .int 0, .ref T] ∧ Ses K H C s dx d h o cs past ∧ r ∈ cs ∧ H T = some (.tup [.int 0]) ∧ ∀ p H', Same H H' → H' p = some (.tup [.int 0]) → Q (.ref p) H'
structure QuA (K : PySem.W.Frag) (mg : Str → Option Value) (q : Addr) : Prop where
  g : GC mg "QUESTIONS" (.ref q)
  t : ∀ H, SqT K H q [.str "member", .str "rank", .str "next", .str "last", .str "cover"]
theorem scAk : FnScope ["self", "question", "cell", "shift", "numbers", "found", "value", "sequence"] ["self", "question", "cell", "shift", "numbers"] (defScope (inClass (tops 71) 11)) := ⟨rfl, rfl, rfl, by decide +kernel, rfl, by decide +kernel, by decide +kernel⟩
theorem ak_body {C f : Addr} {cdv : Value} {A : Around} {outer : List Env} {s : Shared} {H : Hp} {vs : List V} {Q : VK} {E : XK} {q : Addr} (T : TxtA K mg) (SC : SesC K C) (qu : QuA K mg q) (hm : mg "ShiftedSequence" = some (.ref (aShi K))) (Flk : MOk P w K mg base CX0 1 C "lookup" (spLk K C)) (Fcn : GOk P w K mg base CX0 1 "check_natural" spCnat)
    (Fao : GOk P w K mg base CX0 6 "answer_of" (spAo K)) (Fsh : ShOk P w K mg base 2) (hr : Room 6 (A.deeper (envOfC "Session.ask" (defScope (inClass (tops 71) 11)) s.heap.objs.size f cdv))) (h : spAk K C vs H Q E) :
    ∃ t, PSs (cxOf CX0 P w K mg base ["self", "question", "cell", "shift", "numbers", "found", "value", "sequence"] "Session.ask" (defScope (inClass (tops 71) 11)) f cdv A outer s H E) (defBody (inClass (tops 71) 11)) t ∧ t { nx := fun _ H' => Q .non H', rt := Q } (start ["self", "question", "cell", "shift", "numbers", "found", "value", "sequence"] vs) H := by
  obtain ⟨x, dx, d, h, T0, o, cs, past, r, rfl, S, hr', hT, k⟩ := h
  obtain ⟨fm, fdm, psm, ggm, hMk, hF, hKB⟩ := Fsh.g
  have hq := qu.g
  suffices hh : ∃ t, PSs (cxOf CX0 P w K mg base ["self", "question", "cell", "shift", "numbers", "found", "value", "sequence"] "Session.ask" (defScope (inClass (tops 71) 11)) f cdv A outer s H E).nox (defBody (inClass (tops 71) 11)) t ∧ t { nx := fun _ H' => Q .non H', rt := Q } (start ["self", "question", "cell", "shift", "numbers", "found", "value", "sequence"] [.ref x, .str "rank", .str r.1, .int 0, .ref T0]) H by
    obtain ⟨t, h1, h2⟩ := hh
    exact ⟨t, h1.nox, h2⟩
  refine ⟨_, (pss_cons (ps_set (i := 5) scAk.nd rfl (Or.inl rfl) (pe_cm Flk SC.cl (hr.mono (by decide)) pass0 (pv 0) (pa_cons (pv 2) pa_nil)))
      (pss_cons (ps_expr (pe_cg Fcn (hr.mono (by decide)) pass0 rfl (pa_cons (pv 3) pa_nil)))
      (pss_cons (ps_if (pt_cmpR op_notIn_seq (pv 1) (pe_gc rfl hq) (by rfl)) (pss_one ps_never) pss_nil)
      (pss_cons (ps_for PassesOwn.never rfl (pi_tup (pv 4)) (pg_name (i := 6) scAk.nd rfl (Or.inl rfl)) (pss_one (ps_expr (pe_cg Fcn (hr.mono (by decide)) pass0 rfl (pa_cons (pv 6) pa_nil)))))
      (pss_cons (ps_set (i := 7) scAk.nd rfl (Or.inr rfl) (pe_makeK hMk hF (hr.mono (by decide)) rfl hm hKB pass0 (pa_cons (pv 5) pa_nil) (pk_cons (pv 3) pk_nil)))
      (pss_one (ps_ret (pe_callTy call_tuple_of (by rfl) T.z_tuple (by decide +kernel) (pa_cons (pe_lc (own := [("value", 6)]) (g := gName 6) rfl scAk.nd  (pi_tup (pv 4)) (blkOk_by (N := ["self", "question", "cell", "shift", "numbers", "found", "value", "sequence"]) (sc := (defScope (inClass (tops 71) 11))) (by decide +kernel)) (fun _ _ _ _ _ => (pg_name (i := 6) scAk.nd rfl (Or.inl rfl))) (fun _ _ _ _ _ => pts_nil) (fun _ _ _ _ _ => (pe_cg Fao (hr.mono (by decide)) pass0 rfl (pa_cons (pv 7) (pa_cons (pv 1) (pa_cons (pv 6) pa_nil)))))) pa_nil))))))))), ?_⟩
  have oL : (sesF d h o).lookup ("lookup" : Str) = none := by cases o <;> rfl
  refine ⟨_, rfl, x, dx, _, rfl, S.obj, oL, _, rfl, x, dx, d, h, o, cs, past, r, rfl, S, hr', fun c hc => ?_⟩
  refine ⟨_, rfl, 0, rfl, by decide, ?_⟩
  refine ⟨_, rfl, q, _, rfl, .inr (qu.t H), rfl, rfl, _, rfl, iteFr (by decide +kernel) ?_⟩
  have g := S.ok.gd r hr'
  refine ⟨_, rfl, T0, rfl, ⟨_, SqT.of hT⟩, for_it (walk_tup (K := K) (a := T0) (xs := [.int 0])) (fun _ σ' H' => Same H H' ∧ ∃ y, σ' = [some (.ref x), some (.str "rank"), some (.str r.1), some (.int 0), some (.ref T0), some (.ref c), y, none]) ⟨Same.refl H, _, rfl⟩ (fun i σ' H' _ pv => SqT.of (pv.1 _ _ hT)) (fun i y σ' H' H'' hi pv yy => ?_) (fun σ' H1 pv => ?_)⟩
  · obtain ⟨s1, y0, rfl⟩ := pv
    obtain ⟨rfl, hy⟩ := yy
    have e0 : y = .int 0 := by
      cases i with
      | zero => simpa using hy.symm
      | succ n => simp at hi
    subst e0
    exact ⟨_, rfl, 0, rfl, by decide, s1, _, rfl⟩
  · obtain ⟨s1, y0, rfl⟩ := pv
    refine ⟨_, rfl, _, rfl, rfl, rfl, fun z dz hz hdz ne => ?_⟩
    have e1 : upd (upd H1 dz (.own z)) z (.ins (aShi K) dz []) z = some (.ins (aShi K) dz []) := upd_same
    have s2 : Same H1 (upd (upd H1 dz (.own z)) z (.ins (aShi K) dz [])) := fun b u hb => by
      rw [upd_ne (ne_of_none hb hz), upd_ne (ne_of_none hb hdz)]
      exact hb
    generalize upd (upd H1 dz (.own z)) z (.ins (aShi K) dz []) = H2 at e1 s2
    have c2 := hc.same (s1.trans s2)
    refine ⟨z, dz, c, r.2.1, r.2.2, rfl, e1, c2, fun H3 b3 hz3 => ⟨rfl, ?_⟩⟩
    have nz : ∀ b u, H1 b = some u → b ≠ z := fun b u hb e => by rw [e, hz] at hb; cases hb
    have s3 : Same H1 H3 := fun b u hb => b3 b u (fun m => nz b u hb (List.mem_singleton.mp m)) (s2 b u hb)
    have c3 : CellAt K H3 c r.2.1 r.2.2 := (hc.same s1).same s3
    have t3 := s3 _ _ (s1 _ _ hT)
    refine ⟨_, rfl, T0, rfl, ⟨_, SqT.of t3⟩, fun D hD => ?_⟩
    refine lc_map (walk_tup (K := K) (a := T0) (xs := [.int 0])) hD [.int 0] rfl (by decide) (fun H4 s4 => SqT.of (s4 _ _ t3)) (fun i y v H4 H5 hv s4 yy => ?_) (fun H4 s4 hD4 => ?_)
    · obtain ⟨rfl, hy⟩ := yy
      have e0 : y = .int 0 ∧ v = .int 0 := by
        cases i with
        | zero => exact ⟨by simpa using hy.symm, by simpa using hv.symm⟩
        | succ n => simp at hv
      obtain ⟨rfl, rfl⟩ := e0
      exact ⟨Same.refl _, fun R hR => ⟨_, rfl, _, rfl, _, rfl, z, dz, c, r.2.1, r.2.2, rfl, s4 _ _ hz3, c3.same s4, g.sh, fun H6 s6 => hR H6 s6⟩⟩
    · exact ⟨D, _, rfl, .inl ⟨SqL.of hD4, fun l hl => k l _ (((s1.trans s3).trans s4).trans (Same.new hl)) upd_same⟩⟩
/-- o.ask('rank', 0, cell=name) -/
structure AkOk (P : Program) (w : World) (K : PySem.W.Frag) (mg : Str → Option Value) (base : Heap) (k : Nat) (C : Addr) : Prop where
  g : ∃ f : Addr, Meth K C "ask" f ∧ ∀ (A : Around) (outer : List Env) (s : Shared) (H : Hp) (us ws : List Value) (Q : VK) (E : XK) (x : Addr) (nm : Str), Room k A → Env0 P w K mg base A outer s H → Vals [.ref x, .str "rank", .int 0] us → Vals [.str nm] ws →
    (∀ T, H T = none → spAk K C [.ref x, .str "rank", .str nm, .int 0, .ref T] (upd H T (.tup [.int 0])) Q E) → codeAny (model P w) A (.call (.ref f) ⟨us, (["cell"] : List Str).zip ws⟩) (CR CX0 outer P w H s Q E) s
/-- ask, as it stands -/
def AkDef (K : PySem.W.Frag) (C : Addr) : Prop := ∃ (f : Addr) (fd : FuncData), FunD K "ask" "Session.ask" (defArgs (inClass (tops 71) 11)) (defBody (inClass (tops 71) 11)) (defScope (inClass (tops 71) 11)) [] [("shift", .int 0)] f fd ∧ Meth K C "ask" f
theorem ok_ak {C : Addr} {q : Addr} (G : AkDef K C) (T : TxtA K mg) (SC : SesC K C) (qu : QuA K mg q) (hm : mg "ShiftedSequence" = some (.ref (aShi K))) (Flk : MOk P w K mg base CX0 1 C "lookup" (spLk K C)) (Fcn : GOk P w K mg base CX0 1 "check_natural" spCnat) (Fao : GOk P w K mg base CX0 6 "answer_of" (spAo K)) (Fsh : ShOk P w K mg base 2) :
    AkOk P w K mg base 7 C := by
  obtain ⟨f, fd, G, hmeth⟩ := G
  obtain ⟨oc, od, dV, kV, doc, pm, an, cdv, ct, osl, rfl, lk, hcd, hD, hK⟩ := G.ex
  have hD : dV = .none := hD.elim (fun z => z.2) fun z => absurd rfl z.1
  subst hD
  rcases hK with e | ⟨D, rfl, hq⟩
  · cases e
  · refine ⟨f, hmeth, fun A outer s H us ws Q E x nm hr e0 r rw hsp => ?_⟩
    obtain ⟨w0, rfl, rw0⟩ := vals1 rw
    obtain ⟨u0, u1, u2, rfl, r0, r1, r2⟩ : ∃ u0 u1 u2, us = [u0, u1, u2] ∧ RelV (.ref x) u0 ∧ RelV (.str "rank") u1 ∧ RelV (.int 0) u2 := by
      cases r with
      | cons r0 r => cases r with
        | cons r1 r => cases r with
          | cons r2 r => cases r with
            | nil => exact ⟨_, _, _, rfl, r0, r1, r2⟩
    obtain ⟨sv, hsv, rsv⟩ := hq ("shift", .int 0) (List.mem_singleton.mpr rfl)
    have hn : H s.heap.objs.size = Option.none := e0.hok.fresh (Nat.le_refl _)
    refine run_bnd (ps := ["self", "question", "cell", "shift", "numbers"]) lk hcd scAk hr e0 (G := fun xs H2 => ∃ T, H T = none ∧ xs = [.ref x, .str "rank", .str nm, .int 0, .ref T] ∧ H2 = upd H T (.tup [.int 0])) (fun A' Ex Q' h => ?_) fun s2 H2 xs ⟨T0, hT, ex, eH⟩ hr' => ?_
    · have KX : K.In s.heap := e0.mod.kin.keeps fun b o e => (e0.bs b o e).1
      have eqn : ∃ (β γ : Type) (k1 : Option Value → Sem β) (k2 : β → Sem γ) (k3 : γ → Sem (List (Str × Value))) (a : β), bindArgs (PySem.W.fnOf "ask" "Session.ask" (defArgs (inClass (tops 71) 11)) (defBody (inClass (tops 71) 11)) (defScope (inClass (tops 71) 11)) .none (.ref D) doc pm an cdv ct) ⟨[u0, u1, u2], (["cell"] : List Str).zip [w0]⟩ = ((nsGet D "shift" >>= k1) >>= k2) >>= k3 ∧ k1 (some sv) = pure a ∧
          (k2 a >>= k3) = (newTuple [u2] >>= fun t => pure [(("self" : Str), u0), ("question", u1), ("cell", w0), ("shift", sv), ("numbers", t)]) := ⟨_, _, _, _, _, _, rfl, rfl, rfl⟩
      obtain ⟨β, γ, k1, k2, k3, a, q1, q2, q3⟩ := eqn
      rw [q1, bind_assoc]
      refine wpAny_bind (((PySem.W.looks_nsIn KX hsv).andThen (PySem.W.Looks.of_pure q2)).here ?_)
      rw [q3]
      have rr : Vals [V.int 0] [u2] := .cons r2 .nil
      refine wpAny_bind (wpAny_newTuple (wpAny_pure ?_) z1)
      have new : ObjOk P w (upd H s.heap.objs.size (.tup [.int 0])) (s.heap.push ({ cls := .type "tuple", data := .seq [u2].toArray } : Obj)) s.heap.objs.size (.tup [.int 0]) := ⟨z1, [u2], rr, ⟨_, Heap.get?_push_size _ rfl, rfl, _, rfl⟩⟩
      have un := un_laid (fs := frs outer) (s := s) (o := ({ cls := .type "tuple", data := .seq [u2].toArray } : Obj)) (u := .tup [.int 0]) hn
      exact h _ _ [.ref x, .str "rank", .str nm, .int 0, .ref s.heap.objs.size] [u0, u1, w0, sv, .ref s.heap.objs.size] (env0_laid e0 new) un rfl (fun e s' => id) (.cons r0 (.cons r1 (.cons rw0 (.cons rsv (.cons rfl .nil))))) rfl ⟨_, hn, rfl, rfl⟩
    · subst ex eH
      exact ak_body T SC qu hm Flk Fcn Fao Fsh hr' (hsp T0 hT)
end
section
variable {X : Cx} {k : Nat} {C : Addr} {o e1 e2 e3 : Expr} {ta t1 t2 t3 : TE} {p pos apos kpos : Pos} {pl : Sem Bool}
theorem pe_ask (F : AkOk X.prog X.w X.K X.mg X.base k C) (c : Cls X.K C) (hr : Room k X.A) (ho : PE X o ta) (h1 : PE X e1 t1) (h2 : PE X e2 t2) (h3 : PE X e3 t3)
    (hall : (backToKw pos (keywordEach [⟨some "cell", e3, kpos⟩] X.env)).all (·.1.isSome) = true := by rfl) (hks : (backToKw pos (keywordEach [⟨some "cell", e3, kpos⟩] X.env)).filterMap (·.1) = ([("cell" : Str)] : List Str) := by rfl) (hst : starEach [e1, e2] X.env = (false, eval e1 X.env) :: starEach [e2] X.env := by rfl) (hst2 : starEach [e2] X.env = (false, eval e2 X.env) :: starEach [] X.env := by rfl)
    (hpl : ((backTo pos (starEach [e1, e2] X.env)).any (·.1) || (backToKw pos (keywordEach [⟨some "cell", e3, kpos⟩] X.env)).any (·.1.isNone)) = false := by rfl)
    (ht : eval (.Call (.Attribute o "ask" apos) [e1, e2] [⟨some "cell", e3, kpos⟩] pos) X.env = (do
      let ov ← eval o X.env
      standAt apos.atName
      let (f, first) ← holding [ov] (getMethod ov "ask" pl)
      callWith pos f first (backTo pos (starEach [e1, e2] X.env)) (backToKw pos (keywordEach [⟨some "cell", e3, kpos⟩] X.env))) := by rfl) :
    PE X (.Call (.Attribute o "ask" apos) [e1, e2] [⟨some "cell", e3, kpos⟩] pos) (fun σ H Q => ta σ H fun x H1 => ∃ a dx fs, x = .ref a ∧ H1 a = some (.ins C dx fs) ∧ fs.lookup ("ask" : Str) = none ∧ tCons t1 (tCons t2 tNil) σ H1 fun vs H3 => tCons t3 tNil σ H3 fun zs H4 => ∃ nm : Str, vs = [.str "rank", .int 0] ∧ zs = [.str nm] ∧
      ∀ T, H4 T = none → spAk X.K C [.ref a, .str "rank", .str nm, .int 0, .ref T] (upd H4 T (.tup [.int 0])) Q E0) := by
  obtain ⟨f, hm, run⟩ := F.g
  refine ⟨fun pins s σ H Q I h => ?_⟩
  refine PySem.W.methodCall_KW (pl := pl) (thn (ho.run pins s σ H _ I h) fun u s1 ⟨y, H1, I1, ry, a, dx, fs, ey, ea, l, q⟩ => ?_) ht
  subst ey
  obtain rfl : u = Value.ref a := ry
  refine getmeth_ok I1 ea c hm l ?_
  have pa : PA X [e1, e2] (tCons t1 (tCons t2 tNil)) := pa_cons h1 (pa_cons h2 pa_nil hst2) hst
  refine PySem.W.callWith_KW (first := [.ref a]) (h₀ := X.base) I.ok.mod.kin hm.kp hall (thn (pa.run pos pins s1 σ H1 _ I1 q) fun us s2 ⟨vs, H2, I2, r, q2⟩ => ?_) hpl hst
  have pk : PK X [⟨some "cell", e3, kpos⟩] (tCons t3 tNil) := pk_cons h3 pk_nil
  refine thn (pk.run pos pins s2 σ H2 _ I2 q2) fun ws s3 ⟨zs, H3, I3, rz, nm, ev, ez, q3⟩ => ⟨I3.kIn, ?_⟩
  subst ev ez
  rw [hks]
  refine wpAny_call (codeAny_mono (run X.A X.stack s3 H3 (.ref a :: us) ws Q E0 a nm hr I3.env0 (.cons rfl r) rz q3) fun r s' got => ?_)
  cases r with
  | error e => exact got.elim
  | ok fl =>
    cases fl with
    | ret u => exact I3.after got
    | next => exact got.elim
    | brk => exact got.elim
    | cont => exact got.elim
end
end TF
end
section
set_option maxHeartbeats 4000000
set_option pp.maxSteps 3000

namespace TF
open PySem PySem.Spec PyProof.Rows L2 TL StX
section
variable {P : Program} {w : World} {K : PySem.W.Frag} {mg : Str → Option Value} {base : Heap}
/-! ### the source of choices -/
def Wd (n : Nat) : Prop := n < 2 ^ 3000
def SrcAt (H : Hp) (a : Addr) : Prop := ∃ x y : Nat, H a = some (.lst [.int x, .int y]) ∧ Wd x ∧ Wd y
theorem SrcAt.same {H H' : Hp} {a : Addr} (h : SrcAt H a) (s : Same H H') : SrcAt H' a := by
  obtain ⟨x, y, h1, h2⟩ := h
  exact ⟨x, y, s _ _ h1, h2⟩
def spPi : Sp := fun vs H Q _ => ∃ (a : Addr) (n : Nat), vs = [.ref a, .int n] ∧ SrcAt H a ∧ 0 < n ∧ n ≤ 100 ∧ ∀ (j : Nat) H', j < n → ButL [a] H H' → SrcAt H' a → Q (.int j) H'
theorem scPi : FnScope ["_law_source_here", "_law_amount", "_law_place", "_law_choice"] ["_law_source_here", "_law_amount"] (defScope (tops 75)) := ⟨rfl, rfl, rfl, by decide +kernel, rfl, by decide +kernel, by decide +kernel⟩
theorem ok_pi (G : GDef K mg "_law_pick" (tops 75)) (T : TxtA K mg) : GOk P w K mg base CX0 1 "_law_pick" spPi := by
  refine G.ok scPi (fun vs H Q E h => by obtain ⟨_, _, rfl, _⟩ := h; rfl) (fun _ _ _ _ _ _ us hl => match us, hl with | [_, _], _ => rfl) (fun f cdv A outer s H vs Q E hr h => ?_)
  obtain ⟨a, n, rfl, ⟨x, y, ha, hx, hy⟩, n0, n1, k⟩ := h
  refine ⟨_, (pss_cons (ps_set (i := 2) scPi.nd rfl (Or.inl rfl) (pe_callTy call_int1 (by rfl) T.z_int (by decide +kernel) (pa_cons (pe_cmpR op_eq (pe_ix ix_list (pv 0) pe_int (fun _ _ => rfl)) pe_int (nomark _)) pa_nil)))
      (pss_cons (ps_set (i := 3) scPi.nd rfl (Or.inl rfl) (pe_op op_mod (pe_ix ix_list (pv 0) (pv 2) (fun _ _ => rfl)) (pv 1)))
      (pss_cons (ps_asg (pe_op op_fdiv (pe_ix ix_list (pv 0) (pv 2) (fun _ _ => rfl)) (pv 1)) (pg_sub (pv 0) (pv 2) set_list))
      (pss_one (ps_ret (pv 3)))))), ?_⟩
  have n0' : (0 : Int) < n := by omega
  have lt : ∀ z : Nat, Wd z → Wd (z / n) := fun z hz => Nat.lt_of_le_of_lt (Nat.div_le_self ..) hz
  have md : ∀ z : Nat, ((z : Int) % (n : Int)) = ((z % n : Nat) : Int) := fun z => (Int.natCast_emod z n).symm
  have dv : ∀ z : Nat, ((z : Int) / (n : Int)) = ((z / n : Nat) : Int) := fun z => (Int.natCast_ediv z n).symm
  refine ⟨_, rfl, a, _, 0, .int x, rfl, rfl, SqL.of ha, rfl, rfl, .inr ⟨_, rfl, ?_⟩⟩
  by_cases hx0 : x = 0
  · subst hx0
    rw [show (if decide (V.int ((0 : Nat) : Int) = V.int 0) = true then (1 : Int) else 0) = 1 by rw [decide_eq_true (show V.int ((0 : Nat) : Int) = V.int 0 from rfl)]; rfl]
    refine ⟨_, rfl, _, rfl, a, _, 1, .int y, rfl, rfl, SqL.of ha, rfl, _, rfl, _, _, rfl, rfl, n0', ?_⟩
    refine ⟨_, rfl, _, rfl, a, _, 1, .int y, rfl, rfl, SqL.of ha, rfl, _, rfl, _, _, rfl, rfl, ⟨n0', by omega⟩, ?_⟩
    refine ⟨_, rfl, _, rfl, a, _, _, _, rfl, rfl, ha, rfl, ?_⟩
    refine ⟨_, rfl, ?_⟩
    dsimp only
    rw [md, dv]
    exact k _ _ (Nat.mod_lt _ n0) ((ButL.of (Same.refl H)).upd (List.mem_singleton.mpr rfl)) ⟨0, y / n, upd_same, hx, lt y hy⟩
  · rw [show (if decide (V.int ((x : Nat) : Int) = V.int 0) = true then (1 : Int) else 0) = 0 by rw [decide_eq_false (show ¬ V.int ((x : Nat) : Int) = V.int 0 from fun e => hx0 (by have := V.int.inj e; omega))]; rfl]
    refine ⟨_, rfl, _, rfl, a, _, 0, .int x, rfl, rfl, SqL.of ha, rfl, _, rfl, _, _, rfl, rfl, n0', ?_⟩
    refine ⟨_, rfl, _, rfl, a, _, 0, .int x, rfl, rfl, SqL.of ha, rfl, _, rfl, _, _, rfl, rfl, ⟨n0', by omega⟩, ?_⟩
    refine ⟨_, rfl, _, rfl, a, _, _, _, rfl, rfl, ha, rfl, ?_⟩
    refine ⟨_, rfl, ?_⟩
    dsimp only
    rw [md, dv]
    exact k _ _ (Nat.mod_lt _ n0) ((ButL.of (Same.refl H)).upd (List.mem_singleton.mpr rfl)) ⟨x / n, y, upd_same, lt x hx, hy⟩
theorem ite_num {c : Bool} {te : TE} {σ : L2.St} {H : Hp} {Q' : VK} (h : ∀ z : Nat, z < 2 * 10 ^ 60 → Q' (.int z) H) (hA : c = true → (∀ z : Nat, z < 2 * 10 ^ 60 → Q' (.int z) H) → te σ H Q') : if c = true then te σ H Q' else tC (.int 0) σ H Q' := by
  cases c with
  | true => exact iteT (hA rfl h)
  | false => exact iteF (h 0 (by decide))
def spSo (K : PySem.W.Frag) : Sp := fun vs H Q _ => ∃ (a : Addr) (xs : List Int) (k : Nat), vs = [.ref a, .int k] ∧ SqL K H a (xs.map V.int) ∧ ∀ p H', Same H H' → H p = none → SrcAt H' p → Q (.ref p) H'
theorem scSo : FnScope ["_law_script", "_law_k", "_law_numeral", "_law_mixed", "_law_step", "_law_more"] ["_law_script", "_law_k"] (defScope (tops 74)) := ⟨rfl, rfl, rfl, by decide +kernel, rfl, by decide +kernel, by decide +kernel⟩
theorem ok_so (G : GDef K mg "_law_source" (tops 74)) (T : TxtA K mg) : GOk P w K mg base CX0 1 "_law_source" (spSo K) := by
  refine G.ok scSo (fun vs H Q E h => by obtain ⟨_, _, _, rfl, _⟩ := h; rfl) (fun _ _ _ _ _ _ us hl => match us, hl with | [_, _], _ => rfl) (fun f cdv A outer s H vs Q E hr h => ?_)
  obtain ⟨a, xs, k, rfl, ha, kk⟩ := h
  refine ⟨_, (pss_cons (ps_set (i := 2) scSo.nd rfl (Or.inl rfl) (pe_ifExp (pt_cmpR op_lt (pv 1) (pe_callB call_len_seq (by rfl) T.z_len (by decide +kernel) (pa_cons (pv 0) pa_nil)) (nomark _)) (pe_op op_mod (pe_ix ix_list (pv 0) (pv 1) (fun _ _ => rfl)) (pe_op op_mul pe_int (pe_op op_pow pe_int pe_int))) pe_int))
      (pss_cons (ps_set (i := 3) scSo.nd rfl (Or.inl rfl) pe_int)
      (pss_cons (ps_for PassesOwn.never rfl (pi_range1 rfl T.z_range (pa_cons pe_int pa_nil)) (pg_name (i := 4) scSo.nd rfl (Or.inl rfl)) (pss_cons (ps_set (i := 5) scSo.nd rfl (Or.inl rfl) (pe_op op_mod (pe_op op_add (pe_op op_add (pe_op op_mul (pv 2) pe_int) (pe_op op_mul pe_int (pe_op op_add (pv 1) (pe_op op_mul pe_int (pv 4))))) pe_int) pe_int))
      (pss_one (ps_set (i := 3) scSo.nd rfl (Or.inl rfl) (pe_op op_add (pe_op op_mul (pv 3) pe_int) (pe_op op_mod (pe_op op_add (pe_op op_pow (pv 5) pe_int) (pe_op op_mul (pv 4) (pv 5))) pe_int))))))
      (pss_one (ps_ret (pe_lst (pa_cons (pe_op op_mul (pv 2) (pe_callTy call_int1 (by rfl) T.z_int (by decide +kernel) (pa_cons (pe_cmpR op_ge (pv 2) (pe_op op_pow pe_int pe_int) (nomark _)) pa_nil))) (pa_cons (pv 3) pa_nil)))))))), ?_⟩
  refine ⟨_, rfl, _, rfl, a, _, rfl, .inl ha, _, _, rfl, rfl, _, rfl, ?_⟩
  refine ite_num (fun z hz => ?_) fun hc tail => ?_
  · let Pv : Nat → L2.St → Hp → Prop := fun i σ' H' => H' = H ∧ ∃ (m : Nat) (x y : Option V), m < 2147483629 ^ i ∧ σ' = [some (.ref a), some (.int k), some (.int z), some (.int m), x, y]
    refine ⟨70, rfl, by decide, by decide, for_it walk_range Pv ⟨rfl, 0, none, none, by decide, rfl⟩ (fun _ _ _ _ _ => trivial) (fun i x σ' H' H'' hi pv y => ?_) (fun σ' H' pv => ?_)⟩
    · obtain ⟨rfl, m, x0, y0, hm, rfl⟩ := pv
      obtain ⟨rfl, rfl⟩ := y
      have hi' : i < 70 := by simpa using hi
      refine ⟨_, rfl, _, _, rfl, rfl, .inr (by decide), _, rfl, _, rfl, _, _, rfl, rfl, .inl (by decide), _, _, rfl, rfl, _, _, rfl, rfl, .inl (by decide), _, _, rfl, rfl, _, _, rfl, rfl, _, _, rfl, rfl, (show (0 : Int) < 2147483647 by decide), ?_⟩
      dsimp only
      have b0 := Int.emod_nonneg ((z : Int) * 48271 + 7919 * (k + 64 * (0 + i)) + 12345) (show (2147483647 : Int) ≠ 0 by decide)
      have b1 := Int.emod_lt_of_pos ((z : Int) * 48271 + 7919 * (k + 64 * (0 + i)) + 12345) (show (0 : Int) < 2147483647 by decide)
      generalize ((z : Int) * 48271 + 7919 * (k + 64 * (0 + i)) + 12345) % 2147483647 = r at b0 b1
      refine ⟨_, rfl, _, _, rfl, rfl, .inr (by decide), _, rfl, _, _, rfl, rfl, ⟨by decide, by decide, by omega⟩, _, rfl, _, rfl, _, _, rfl, rfl, .inl (by omega), _, _, rfl, rfl, _, _, rfl, rfl, (show (0 : Int) < 2147483629 by decide), _, _, rfl, rfl, ?_⟩
      dsimp only
      have c0 := Int.emod_nonneg (r ^ (5 : Int).toNat + (0 + i) * r) (show (2147483629 : Int) ≠ 0 by decide)
      have c1 := Int.emod_lt_of_pos (r ^ (5 : Int).toNat + (0 + i) * r) (show (0 : Int) < 2147483629 by decide)
      generalize (r ^ (5 : Int).toNat + (0 + (i : Int)) * r) % 2147483629 = q at c0 c1
      rw [show (m : Int) * 2147483629 + q = ((m * 2147483629 + q.toNat : Nat) : Int) by omega]
      refine ⟨rfl, _, _, _, ?_, rfl⟩
      rw [Nat.pow_succ]
      have : (m + 1) * 2147483629 ≤ 2147483629 ^ i * 2147483629 := Nat.mul_le_mul_right _ hm
      omega
    · obtain ⟨rfl, m, x0, y0, hm, rfl⟩ := pv
      have h1 : ((70 : Int)).toNat = 70 := rfl
      have hm2 : m < 2 ^ 3000 := Nat.lt_of_lt_of_le hm (by decide +kernel)
      refine ⟨_, rfl, _, rfl, _, _, rfl, rfl, ⟨by decide, by decide, by decide⟩, _, _, rfl, rfl, .inr ⟨_, rfl, ?_⟩⟩
      generalize decide ((10 : Int) ^ (18 : Int).toNat ≤ (z : Int)) = b
      have hz2 : z < 2 ^ 3000 := Nat.lt_of_lt_of_le hz (by decide +kernel)
      refine ⟨_, _, rfl, rfl, .inr (by cases b <;> decide), _, rfl, z2, fun p hp => ?_⟩
      refine kk p _ (Same.new hp) hp ⟨if b = true then z else 0, m, ?_, ?_, hm2⟩
      · rw [upd_same]
        cases b
        · show some (HO.lst [.int ((z : Int) * 0), .int m]) = _
          rw [Int.mul_zero]
          rfl
        · show some (HO.lst [.int ((z : Int) * 1), .int m]) = _
          rw [Int.mul_one]
          rfl
      · cases b
        · exact Nat.pow_pos (by decide)
        · exact hz2
  · have hk : (k : Int) < xs.length := by
      have := of_decide_eq_true hc
      rwa [List.length_map] at this
    obtain ⟨v, hv⟩ : ∃ v, xs[k]? = some v := ⟨_, List.getElem?_eq_getElem (by omega)⟩
    refine ⟨_, rfl, _, rfl, a, _, k, .int v, rfl, rfl, ha, ?_, ?_⟩
    · exact atI_nat (by rw [List.getElem?_map, hv]; rfl)
    · have hB : (2 : Int) * 10 ^ (60 : Int).toNat = ((2 * 10 ^ 60 : Nat) : Int) := by decide +kernel
      refine ⟨_, _, rfl, rfl, ⟨by decide, by decide, by decide⟩, _, _, rfl, rfl, .inl (by decide), _, _, rfl, rfl, (show (0 : Int) < 2 * 10 ^ (60 : Int).toNat by rw [hB]; decide +kernel), ?_⟩
      dsimp only
      rw [hB]
      have b0 := Int.emod_nonneg v (show ((2 * 10 ^ 60 : Nat) : Int) ≠ 0 by decide +kernel)
      have b1 := Int.emod_lt_of_pos v (show (0 : Int) < ((2 * 10 ^ 60 : Nat) : Int) by decide +kernel)
      have e : v % ((2 * 10 ^ 60 : Nat) : Int) = ((v % ((2 * 10 ^ 60 : Nat) : Int)).toNat : Int) := (Int.toNat_of_nonneg b0).symm
      rw [e]
      refine tail _ ?_
      have : ((v % ((2 * 10 ^ 60 : Nat) : Int)).toNat : Int) < ((2 * 10 ^ 60 : Nat) : Int) := by rw [← e]; exact b1
      exact Int.ofNat_lt.mp this
end
end TF
end
section
set_option maxHeartbeats 4000000
set_option pp.maxSteps 3000

namespace TF
open PySem PySem.Spec PyProof.Rows L2 TL StX
section
variable {P : Program} {w : World} {K : PySem.W.Frag} {mg : Str → Option Value} {base : Heap}
/-! ### the law's cells -/
abbrev LC := Nat × List Nat
/-- the addresses in M stand there -/
def Old (M : List Addr) (H : Hp) : Prop := ∀ m ∈ M, H m ≠ none
theorem Old.same {M : List Addr} {H H' : Hp} (h : Old M H) (s : Same H H') : Old M H' := fun m hm e => h m hm (s.free e)
theorem Old.nin {M : List Addr} {H : Hp} (h : Old M H) {a : Addr} (e : H a = none) : a ∉ M := fun m => h a m e
/-- the law's cell at t; its list is none of those in M, that may change -/
def LcAt (M : List Addr) (H : Hp) (t : Addr) (c : LC) : Prop := ∃ l, l ∉ M ∧ t ∉ M ∧ H t = some (.tup [.int c.1, .ref l]) ∧ H l = some (.lst (VI c.2))
theorem LcAt.same {M : List Addr} {H H' : Hp} {t : Addr} {c : LC} (h : LcAt M H t c) (s : Same H H') : LcAt M H' t c := by
  obtain ⟨l, n, n2, h1, h2⟩ := h
  exact ⟨l, n, n2, s _ _ h1, s _ _ h2⟩
theorem LcAt.but {M L : List Addr} {H H' : Hp} {t : Addr} {c : LC} (h : LcAt M H t c) (s : ButL L H H') (hL : ∀ a ∈ L, a ∈ M) : LcAt M H' t c := by
  obtain ⟨l, n, n2, h1, h2⟩ := h
  exact ⟨l, n, n2, s _ _ (fun m => n2 (hL _ m)) h1, s _ _ (fun m => n (hL _ m)) h2⟩
def poolL : List LC := [(1, [0]), (3, [0, 1]), (3, [1, 2]), (9, [0, 2, 3, 5]), (10, [0, 1, 7, 8]), (10, [1, 2, 8, 9])]
def joinL2 (a b : LC) : LC := (a.1 * b.1, b.2.flatMap fun far => a.2.map fun near => near + a.1 * far)
/-- the cells that the law makes -/
inductive IsLc : Nat → LC → Prop
  | one {c : LC} (h : c ∈ poolL) : IsLc 0 c
  | join {k : Nat} {a b : LC} (ha : IsLc k a) (hb : b ∈ poolL) : IsLc (k + 1) (joinL2 a b)
theorem lit_cell {M : List Addr} {N : Nat} {ms : List Nat} {σ : L2.St} {H : Hp} {tms : TA} {Q : VK} (hM : Old M H) (hl : ms.length ≤ 100) (hm : ∀ R : List V → Hp → Prop, R (VI ms) H → tms σ H R) (k : ∀ t H', Same H H' → LcAt M H' t (N, ms) → Q (.ref t) H') : tTup (tCons (tC (.int N)) (tCons (tLst tms) tNil)) σ H Q := by
  refine hm _ ⟨by rw [VI_len, sizeLine_eq]; omega, fun l hl' => ⟨z2, fun t ht => ?_⟩⟩
  have s1 : Same H (upd H l (.lst (VI ms))) := Same.new hl'
  exact k t _ (s1.trans (Same.new ht)) ⟨l, hM.nin hl', (hM.same s1).nin ht, upd_same, (Same.new ht) _ _ upd_same⟩
theorem lstI {t : TA} {σ : L2.St} {H : Hp} {Q : VK} (h : t σ H fun xs H1 => xs.length ≤ sizeLine ∧ ∀ p, H1 p = none → Q (.ref p) (upd H1 p (.lst xs))) : tLst t σ H Q := h
theorem consI {ta : TE} {tr : TA} {σ : L2.St} {H : Hp} {Q : List V → Hp → Prop} (h : ta σ H fun x H1 => tr σ H1 fun xs H2 => Q (x :: xs) H2) : tCons ta tr σ H Q := h
def spPo : Sp := fun vs H Q _ => ∃ M, vs = [] ∧ Old M H ∧ ∀ p ts H', Same H H' → p ∉ M → H' p = some (.lst (ts.map V.ref)) → Paired (LcAt M H') ts poolL → Q (.ref p) H'
theorem scPo : FnScope ["_law_some"] [] (defScope (tops 76)) := ⟨rfl, rfl, rfl, by decide +kernel, rfl, by decide +kernel, by decide +kernel⟩
theorem ok_po (G : GDef K mg "_law_pool" (tops 76)) : GOk P w K mg base CX0 1 "_law_pool" spPo := by
  refine G.ok scPo (fun vs H Q E h => by obtain ⟨_, rfl, _⟩ := h; rfl) (fun _ _ _ _ _ _ us hl => match us, hl with | [], _ => rfl) (fun f cdv A outer s H vs Q E hr h => ?_)
  obtain ⟨M, rfl, hM, k⟩ := h
  refine ⟨_, (pss_cons (ps_set (i := 0) scPo.nd rfl (Or.inl rfl) (pe_lst (pa_cons (pe_tup (pa_cons pe_int (pa_cons (pe_lst (pa_cons pe_int pa_nil)) pa_nil))) (pa_cons (pe_tup (pa_cons pe_int (pa_cons (pe_lst (pa_cons pe_int (pa_cons pe_int pa_nil))) pa_nil))) (pa_cons (pe_tup (pa_cons pe_int (pa_cons (pe_lst (pa_cons pe_int (pa_cons pe_int pa_nil))) pa_nil))) (pa_cons (pe_tup (pa_cons pe_int (pa_cons (pe_lst (pa_cons pe_int (pa_cons pe_int (pa_cons pe_int (pa_cons pe_int pa_nil))))) pa_nil))) (pa_cons (pe_tup (pa_cons pe_int (pa_cons (pe_lst (pa_cons pe_int (pa_cons pe_int (pa_cons pe_int (pa_cons pe_int pa_nil))))) pa_nil))) (pa_cons (pe_tup (pa_cons pe_int (pa_cons (pe_lst (pa_cons pe_int (pa_cons pe_int (pa_cons pe_int (pa_cons pe_int pa_nil))))) pa_nil))) pa_nil))))))))
      (pss_one (ps_ret (pv 0)))), ?_⟩
  refine seqAsg (lstI ?_)
  refine consI ?_
  refine lit_cell (N := 1) (ms := [0]) hM (by decide) (by exact fun R h => h) fun t1 H1 s1 c1 => ?_
  refine consI ?_
  refine lit_cell (N := 3) (ms := [0, 1]) (hM.same (s1)) (by decide) (by exact fun R h => h) fun t2 H2 s2 c2 => ?_
  refine consI ?_
  refine lit_cell (N := 3) (ms := [1, 2]) (hM.same (s1.trans (s2))) (by decide) (by exact fun R h => h) fun t3 H3 s3 c3 => ?_
  refine consI ?_
  refine lit_cell (N := 9) (ms := [0, 2, 3, 5]) (hM.same (s1.trans (s2.trans (s3)))) (by decide) (by exact fun R h => h) fun t4 H4 s4 c4 => ?_
  refine consI ?_
  refine lit_cell (N := 10) (ms := [0, 1, 7, 8]) (hM.same (s1.trans (s2.trans (s3.trans (s4))))) (by decide) (by exact fun R h => h) fun t5 H5 s5 c5 => ?_
  refine consI ?_
  refine lit_cell (N := 10) (ms := [1, 2, 8, 9]) (hM.same (s1.trans (s2.trans (s3.trans (s4.trans (s5)))))) (by decide) (by exact fun R h => h) fun t6 H6 s6 c6 => ?_
  refine ⟨(show 6 ≤ sizeLine by decide), fun p hp => ⟨_, rfl, ?_⟩⟩
  have s7 : Same H6 (upd H6 p (.lst [.ref t1, .ref t2, .ref t3, .ref t4, .ref t5, .ref t6])) := Same.new hp
  refine k p [t1, t2, t3, t4, t5, t6] _ (s1.trans (s2.trans (s3.trans (s4.trans (s5.trans (s6.trans s7)))))) ((hM.same (s1.trans (s2.trans (s3.trans (s4.trans (s5.trans s6)))))).nin hp) upd_same ?_
  exact .cons (c1.same (s2.trans (s3.trans (s4.trans (s5.trans (s6.trans s7)))))) (.cons (c2.same (s3.trans (s4.trans (s5.trans (s6.trans s7))))) (.cons (c3.same (s4.trans (s5.trans (s6.trans s7)))) (.cons (c4.same (s5.trans (s6.trans s7))) (.cons (c5.same (s6.trans s7)) (.cons (c6.same s7) .nil)))))
def spJo : Sp := fun vs H Q _ => ∃ (M : List Addr) (a b : Addr) (ca cb : LC), vs = [.ref a, .ref b] ∧ Old M H ∧ LcAt M H a ca ∧ LcAt M H b cb ∧ ca.1 < 10000 ∧ ca.2.length ≤ 100 ∧ cb.2.length ≤ 10 ∧ (∀ m ∈ cb.2, m < 100) ∧ cb.1 < 100 ∧ (∀ m ∈ ca.2, m < 10000) ∧ ∀ t H', Same H H' → LcAt M H' t (joinL2 ca cb) → Q (.ref t) H'
theorem scJo : FnScope ["_law_one", "_law_other", "_law_members", "_law_far", "_law_near"] ["_law_one", "_law_other"] (defScope (tops 77)) := ⟨rfl, rfl, rfl, by decide +kernel, rfl, by decide +kernel, by decide +kernel⟩
theorem ok_jo (G : GDef K mg "_law_joined" (tops 77)) : GOk P w K mg base CX0 1 "_law_joined" spJo := by
  refine G.ok scJo (fun vs H Q E h => by obtain ⟨_, _, _, _, _, rfl, _⟩ := h; rfl) (fun _ _ _ _ _ _ us hl => match us, hl with | [_, _], _ => rfl) (fun f cdv A outer s H vs Q E hr h => ?_)
  obtain ⟨M, a, b, ca, cb, rfl, hM, ⟨la, na, na2, ha, hla⟩, ⟨lb, nb, nb2, hb, hlb⟩, n1, n2, n3, n4, n5, n6, k⟩ := h
  refine ⟨_, (pss_cons (ps_set (i := 2) scJo.nd rfl (Or.inl rfl) (pe_lst pa_nil))
      (pss_cons (ps_for PassesOwn.never rfl (pi_list (pe_ix ix_tup (pv 1) pe_int (fun _ _ => rfl))) (pg_name (i := 3) scJo.nd rfl (Or.inr rfl)) (pss_one (ps_set (i := 2) scJo.nd rfl (Or.inl rfl) (pe_op op_cat (pv 2) (pe_lc (own := [("_law_near", 4)]) (g := gName 4) rfl scJo.nd  (pi_list (pe_ix (show IxR _ (rIxT K) from ix_tup) (pv 0) pe_int (fun _ _ => rfl))) (blkOk_by (N := ["_law_one", "_law_other", "_law_members", "_law_far", "_law_near"]) (sc := (defScope (tops 77))) (by decide +kernel)) (fun _ _ _ _ _ => (pg_name (i := 4) scJo.nd rfl (Or.inl rfl))) (fun _ _ _ _ _ => pts_nil) (fun _ _ _ _ _ => (pe_op op_add (pv 4) (pe_op op_mul (pe_ix (show IxR _ (rIxT K) from ix_tup) (pv 0) pe_int (fun _ _ => rfl)) (pv 3)))))))))
      (pss_one (ps_ret (pe_tup (pa_cons (pe_op op_mul (pe_ix (show IxR _ (rIxT K) from ix_tup) (pv 0) pe_int (fun _ _ => rfl)) (pe_ix ix_tup (pv 1) pe_int (fun _ _ => rfl))) (pa_cons (pv 2) pa_nil))))))), ?_⟩
  let row : Nat → List Nat := fun far => ca.2.map fun near => near + ca.1 * far
  refine ⟨z0, fun q0 hq0 => ?_⟩
  have s0 : Same H (upd H q0 (.lst [])) := Same.new hq0
  have hq00 : (upd H q0 (.lst [])) q0 = some (.lst (VI [])) := upd_same
  generalize upd H q0 (.lst []) = H0 at s0 hq00 ⊢
  let Pv : Nat → L2.St → Hp → Prop := fun i σ' H' => Same H H' ∧ ∃ (q : Addr) (x y : Option V), q ∉ M ∧ H' q = some (.lst (VI ((cb.2.take i).flatMap row))) ∧ σ' = [some (.ref a), some (.ref b), some (.ref q), x, y]
  refine ⟨_, rfl, b, _, 1, .ref lb, rfl, rfl, SqT.of (s0 _ _ hb), rfl, lb, rfl, ⟨_, SqL.of (s0 _ _ hlb)⟩, for_it walk_list Pv ⟨s0, q0, none, none, hM.nin hq0, hq00, rfl⟩ (fun i σ' H' _ pv => SqL.of (pv.1 _ _ hlb)) (fun i x σ' H' H'' hi pv y => ?_) (fun σ' H' pv => ?_)⟩
  · obtain ⟨s1, q, x0, y0, nq, hq, rfl⟩ := pv
    obtain ⟨rfl, hx⟩ := y
    obtain ⟨far, hf, rfl, mem⟩ := VI_at hx
    have hil : i < cb.2.length := (List.getElem?_eq_some_iff.mp hf).1
    refine ⟨_, rfl, _, rfl, a, _, 1, .ref la, rfl, rfl, SqT.of (s1 _ _ ha), rfl, la, rfl, ⟨_, SqL.of (s1 _ _ hla)⟩, fun D hD => ?_⟩
    refine lc_map walk_list hD (VI (row far)) (by rw [VI_len, VI_len, List.length_map]) (by rw [VI_len]; omega) (fun H2 s2 => SqL.of (s2 _ _ (s1 _ _ hla))) (fun j x y H2 H3 hy s2 yy => ?_) (fun H2 s2 hD2 => ?_)
    · obtain ⟨rfl, hx2⟩ := yy
      obtain ⟨near, hn, rfl, mem2⟩ := VI_at hx2
      have ey : y = .int ((near : Int) + (ca.1 : Int) * (far : Int)) := by
        rw [List.getElem?_map, List.getElem?_map, hn] at hy
        have := (Option.some.inj hy).symm
        rw [this]
        show V.int ((near + ca.1 * far : Nat) : Int) = _
        rw [Int.natCast_add, Int.natCast_mul]
      subst ey
      refine ⟨Same.refl _, fun R hR => ⟨_, rfl, _, rfl, a, _, 0, .int ca.1, rfl, rfl, SqT.of (s2 _ _ (s1 _ _ ha)), rfl, _, rfl, _, _, rfl, rfl, .inl (by omega), _, _, rfl, rfl, hR _ (Same.refl _)⟩⟩
    · have lq : ((cb.2.take i).flatMap row).length ≤ 1000 := by
        have : ∀ l : List Nat, (l.flatMap row).length = l.length * ca.2.length := fun l => by
          induction l with
          | nil => simp
          | cons z r ih => rw [List.flatMap_cons, List.length_append, ih, List.length_map, List.length_cons, Nat.succ_mul]; omega
        rw [this]
        have h1 : (cb.2.take i).length ≤ 10 := Nat.le_trans (List.length_take_le' ..) n3
        exact Nat.mul_le_mul h1 n2
      refine ⟨q, D, _, _, rfl, rfl, s2 _ _ hq, hD2, ?_, fun q2 hq2 => ?_⟩
      · rw [VI_len, VI_len, List.length_map, sizeLine_eq]
        omega
      · refine ⟨(s1.trans s2).trans (Same.new hq2), q2, _, _, (hM.same (s1.trans s2)).nin hq2, ?_, rfl⟩
        rw [upd_same, List.take_succ, hf]
        show some (HO.lst (VI _ ++ VI (row far))) = some (HO.lst (VI ((cb.2.take i ++ [far]).flatMap row)))
        rw [List.flatMap_append, VI, VI, VI, List.map_append]
        simp
  · obtain ⟨s1, q, x0, y0, nq, hq, rfl⟩ := pv
    rw [VI_len, List.take_length] at hq
    refine ⟨_, rfl, a, _, 0, .int ca.1, rfl, rfl, SqT.of (s1 _ _ ha), rfl, _, rfl, b, _, 0, .int cb.1, rfl, rfl, SqT.of (s1 _ _ hb), rfl, _, _, rfl, rfl, .inl (by omega), _, rfl, z2, fun t ht => ?_⟩
    refine k t _ (s1.trans (Same.new ht)) ⟨q, nq, (hM.same s1).nin ht, ?_, (Same.new ht) _ _ hq⟩
    rw [upd_same]
    show some (HO.tup [.int ((ca.1 : Int) * (cb.1 : Int)), .ref q]) = some (HO.tup [.int ((ca.1 * cb.1 : Nat) : Int), .ref q])
    rw [Int.natCast_mul]
end
end TF
end
section
set_option maxHeartbeats 4000000
set_option pp.maxSteps 3000

namespace TF
open PySem PySem.Spec PyProof.Rows L2 TL StX
section
variable {P : Program} {w : World} {K : PySem.W.Frag} {mg : Str → Option Value} {base : Heap}
theorem pool_small : ∀ c ∈ poolL, 1 ≤ c.1 ∧ c.1 ≤ 10 ∧ c.2.length ≤ 4 ∧ ∀ m ∈ c.2, m < c.1 := by decide
theorem IsLc.small {k : Nat} {c : LC} (h : IsLc k c) : 1 ≤ c.1 ∧ c.1 ≤ 10 ^ (k + 1) ∧ c.2.length ≤ 4 ^ (k + 1) ∧ ∀ m ∈ c.2, m < c.1 := by
  induction h with
  | one h =>
    have := pool_small _ h
    exact ⟨this.1, by simpa using this.2.1, by simpa using this.2.2.1, this.2.2.2⟩
  | @join k a b ha hb ih =>
    obtain ⟨h1, h2, h3, h4⟩ := ih
    obtain ⟨p1, p2, p3, p4⟩ := pool_small _ hb
    refine ⟨Nat.mul_le_mul h1 p1, ?_, ?_, fun m hm => ?_⟩
    · show a.1 * b.1 ≤ _
      rw [Nat.pow_succ]
      exact Nat.mul_le_mul h2 p2
    · have : ∀ l : List Nat, (l.flatMap fun far => a.2.map fun near => near + a.1 * far).length = l.length * a.2.length := fun l => by
        induction l with
        | nil => simp
        | cons z r ih => rw [List.flatMap_cons, List.length_append, ih, List.length_map, List.length_cons, Nat.succ_mul]; omega
      show (b.2.flatMap fun far => a.2.map fun near => near + a.1 * far).length ≤ _
      rw [this, Nat.pow_succ, Nat.mul_comm]
      exact Nat.mul_le_mul h3 p3
    · obtain ⟨far, hf, hm⟩ := List.mem_flatMap.mp hm
      obtain ⟨near, hn, rfl⟩ := List.mem_map.mp hm
      have e1 := h4 near hn
      have e2 := p4 far hf
      show near + a.1 * far < a.1 * b.1
      have : a.1 * (far + 1) ≤ a.1 * b.1 := Nat.mul_le_mul_left _ e2
      rw [Nat.mul_succ] at this
      omega
theorem paired_at {α β : Type} {F : α → β → Prop} : ∀ {l : List α} {m : List β} {i : Nat} {b : β}, Paired F l m → m[i]? = some b → ∃ a, l[i]? = some a ∧ F a b
  | _, _, _, _, .nil, h => by simp at h
  | _, _, 0, _, .cons x _, h => by
    simp at h
    subst h
    exact ⟨_, rfl, x⟩
  | _, _, i + 1, _, .cons _ t, h => paired_at (i := i) t (by simpa using h)
def spCe : Sp := fun vs H Q _ => ∃ (M : List Addr) (a : Addr), vs = [.ref a] ∧ a ∈ M ∧ Old M H ∧ SrcAt H a ∧ ∀ t c k H', k ≤ 2 → IsLc k c → ButL [a] H H' → SrcAt H' a → LcAt M H' t c → Q (.ref t) H'
theorem scCe : FnScope ["_law_source_here", "_law_some", "_law_found", "_law_turn"] ["_law_source_here"] (defScope (tops 78)) := ⟨rfl, rfl, rfl, by decide +kernel, rfl, by decide +kernel, by decide +kernel⟩
theorem Old.but {M L : List Addr} {H H' : Hp} (h : Old M H) (b : ButL L H H') (hL : ∀ a ∈ L, H' a ≠ none) : Old M H' := fun m hm e => by
  by_cases q : m ∈ L
  · exact hL m q e
  · cases z : H m with
    | none => exact h m hm z
    | some u => rw [b m u q z] at e; cases e
theorem SrcAt.ne {H : Hp} {a : Addr} (h : SrcAt H a) : H a ≠ none := fun e => by
  obtain ⟨x, y, h1, _⟩ := h
  rw [e] at h1
  cases h1
theorem ok_ce (G : GDef K mg "_law_cell" (tops 78)) (T : TxtA K mg) (Fpo : GOk P w K mg base CX0 1 "_law_pool" spPo) (Fpi : GOk P w K mg base CX0 1 "_law_pick" spPi) (Fjo : GOk P w K mg base CX0 1 "_law_joined" spJo) : GOk P w K mg base CX0 2 "_law_cell" spCe := by
  refine G.ok scCe (fun vs H Q E h => by obtain ⟨_, _, rfl, _⟩ := h; rfl) (fun _ _ _ _ _ _ us hl => match us, hl with | [_], _ => rfl) (fun f cdv A outer s H vs Q E hr h => ?_)
  obtain ⟨M, a, rfl, am, hM, sa, k⟩ := h
  refine ⟨_, (pss_cons (ps_set (i := 1) scCe.nd rfl (Or.inl rfl) (pe_cg0 Fpo (hr.mono (by decide)) pass0 rfl))
      (pss_cons (ps_set (i := 2) scCe.nd rfl (Or.inl rfl) (pe_ix ix_list (pv 1) (pe_cg Fpi (hr.mono (by decide)) pass0 rfl (pa_cons (pv 0) (pa_cons pe_int pa_nil))) (fun _ _ => rfl)))
      (pss_cons (ps_for PassesOwn.never rfl (pi_range1 rfl T.z_range (pa_cons (pe_cg Fpi (hr.mono (by decide)) pass0 rfl (pa_cons (pv 0) (pa_cons pe_int pa_nil))) pa_nil)) (pg_name (i := 3) scCe.nd rfl (Or.inl rfl)) (pss_one (ps_set (i := 2) scCe.nd rfl (Or.inl rfl) (pe_cg Fjo (hr.mono (by decide)) pass0 rfl (pa_cons (pv 2) (pa_cons (pe_ix ix_list (pv 1) (pe_cg Fpi (hr.mono (by decide)) pass0 rfl (pa_cons (pv 0) (pa_cons pe_int pa_nil))) (fun _ _ => rfl)) pa_nil))))))
      (pss_one (ps_ret (pv 2)))))), ?_⟩
  refine ⟨M, rfl, hM, fun p ts H1 s1 np hp pr => ?_⟩
  have sub : ∀ x ∈ [a], x ∈ M := fun x hx => by rw [List.mem_singleton.mp hx]; exact am
  have sa1 := sa.same s1
  have pick : ∀ (H2 : Hp), ButL [a] H1 H2 → H2 p = some (.lst (ts.map V.ref)) ∧ Paired (LcAt M H2) ts poolL := fun H2 b => ⟨b _ _ (fun m => np (sub _ m)) hp, paired_imp (fun t c h => h.but b sub) pr⟩
  refine ⟨_, rfl, _, rfl, a, 6, rfl, sa1, by decide, by decide, fun j H2 lt b2 sa2 => ?_⟩
  obtain ⟨hp2, pr2⟩ := pick H2 b2
  obtain ⟨c, hc⟩ : ∃ c, poolL[j]? = some c := ⟨poolL[j]'lt, List.getElem?_eq_getElem lt⟩
  obtain ⟨t, ht, lc⟩ := paired_at pr2 hc
  refine ⟨p, _, j, .ref t, rfl, rfl, SqL.of hp2, atI_nat (by rw [List.getElem?_map, ht]; rfl), ?_⟩
  let Pv : Nat → L2.St → Hp → Prop := fun i σ' H' => ButL [a] H1 H' ∧ SrcAt H' a ∧ ∃ (t : Addr) (c : LC) (x : Option V), IsLc i c ∧ LcAt M H' t c ∧ σ' = [some (.ref a), some (.ref p), some (.ref t), x]
  refine ⟨_, rfl, a, 3, rfl, sa2, by decide, by decide, fun n H3 ltn b3 sa3 => ?_⟩
  have bb := b2.trans b3
  refine ⟨n, rfl, by omega, by omega, for_it walk_range Pv ⟨bb, sa3, t, c, none, .one (List.mem_of_getElem? hc), lc.but b3 sub, rfl⟩ (fun _ _ _ _ _ => trivial) (fun i x σ' H' H'' hi pv y => ?_) (fun σ' H' pv => ?_)⟩
  · obtain ⟨b4, sa4, t', c', x0, il, lc', rfl⟩ := pv
    obtain ⟨rfl, rfl⟩ := y
    have hi' : i < n := by simpa using hi
    refine ⟨_, rfl, _, rfl, _, rfl, a, 6, rfl, sa4, by decide, by decide, fun j' H5 lt' b5 sa5 => ?_⟩
    obtain ⟨hp5, pr5⟩ := pick H5 (b4.trans b5)
    obtain ⟨c2, hc2⟩ : ∃ c, poolL[j']? = some c := ⟨poolL[j']'lt', List.getElem?_eq_getElem lt'⟩
    obtain ⟨t2, ht2, lc2⟩ := paired_at pr5 hc2
    refine ⟨p, _, j', .ref t2, rfl, rfl, SqL.of hp5, atI_nat (by rw [List.getElem?_map, ht2]; rfl), ?_⟩
    have mem2 := List.mem_of_getElem? hc2
    obtain ⟨q1, q2, q3, q4⟩ := pool_small _ mem2
    obtain ⟨r1, r2, r3, r4⟩ := il.small
    have i1 : i ≤ 1 := by omega
    have w1 : (10 : Nat) ^ (i + 1) ≤ 10 ^ 2 := Nat.pow_le_pow_right (by decide) (by omega)
    have w2 : (4 : Nat) ^ (i + 1) ≤ 4 ^ 2 := Nat.pow_le_pow_right (by decide) (by omega)
    have o5 : Old M H5 := (hM.same s1).but (b4.trans b5) fun x hx => by rw [List.mem_singleton.mp hx]; exact sa5.ne
    refine ⟨M, t', t2, c', c2, rfl, o5, lc'.but b5 sub, lc2, by omega, by omega, by omega, fun m hm => by have := q4 m hm; omega, by omega, fun m hm => by have := r4 m hm; omega, fun t6 H6 s6 lc6 => ?_⟩
    exact ⟨(b4.trans b5).same s6, sa5.same s6, t6, _, _, .join il mem2, lc6, rfl⟩
  · obtain ⟨b4, sa4, t', c', x0, il, lc', rfl⟩ := pv
    have e : (((n : Nat) : Int)).toNat = n := Int.toNat_natCast n
    refine ⟨_, rfl, k t' c' _ H' (by omega) il (fun b u nn hb => b4 b u nn (s1 b u hb)) sa4 lc'⟩
def spShn : Sp := fun vs H Q _ => ∃ (M : List Addr) (t : Addr) (c : LC), vs = [.ref t] ∧ LcAt M H t c ∧ c.1 ≤ 10000 ∧ c.2.length ≤ 256 ∧ (∀ m ∈ c.2, m < 10000) ∧ ∀ H', Same H H' → Q (.str (cellText c.1 c.2)) H'
theorem scShn : FnScope ["_law_cell_here", "_law_one"] ["_law_cell_here"] (defScope (tops 79)) := ⟨rfl, rfl, rfl, by decide +kernel, rfl, by decide +kernel, by decide +kernel⟩
theorem ok_shn (G : GDef K mg "_law_shown" (tops 79)) (T : TxtA K mg) : GOk P w K mg base CX0 1 "_law_shown" spShn := by
  refine G.ok scShn (fun vs H Q E h => by obtain ⟨_, _, _, rfl, _⟩ := h; rfl) (fun _ _ _ _ _ _ us hl => match us, hl with | [_], _ => rfl) (fun f cdv A outer s H vs Q E hr h => ?_)
  obtain ⟨M, t, ⟨N, ms⟩, rfl, ⟨l, _, _, ht, hl⟩, n1, n2, n3, k⟩ := h
  dsimp only at ht hl n1 n2 n3 k
  refine ⟨_, (pss_one (ps_ret (pe_join pe_str (pe_op op_cat (pe_lst (pa_cons (pe_callTy call_str_int (by rfl) T.z_str (by decide +kernel) (pa_cons (pe_ix ix_tup (pv 0) pe_int (fun _ _ => rfl)) pa_nil)) (pa_cons pe_str pa_nil))) (pe_lc (own := [("_law_one", 1)]) (g := gName 1) rfl scShn.nd  (pi_list (pe_ix ix_tup (pv 0) pe_int (fun _ _ => rfl))) (blkOk_by (N := ["_law_cell_here", "_law_one"]) (sc := (defScope (tops 79))) (by decide +kernel)) (fun _ _ _ _ _ => (pg_name (i := 1) scShn.nd rfl (Or.inl rfl))) (fun _ _ _ _ _ => pts_nil) (fun _ _ _ _ _ => (pe_callTy call_str_int (by rfl) T.z_str (by decide +kernel) (pa_cons (pv 1) pa_nil)))))))), ?_⟩
  have nb' : ∀ n : Nat, n ≤ 20000 → ((n : Nat) : Int).natAbs.log2 < 1920 := fun n hn => nb (Nat.lt_of_le_of_lt hn (by decide))
  refine ⟨⟨_, rfl⟩, _, rfl, t, _, 0, .int N, rfl, rfl, SqT.of ht, rfl, _, rfl, nb' N (by omega), z2, fun p hp => ?_⟩
  have s1 : Same H (upd H p (.lst [.str (num N), .str ":"])) := Same.new hp
  refine ⟨_, rfl, t, _, 1, .ref l, rfl, rfl, SqT.of (s1 _ _ ht), rfl, l, rfl, ⟨_, SqL.of (s1 _ _ hl)⟩, fun D hD => ?_⟩
  refine lc_map walk_list hD (ms.map fun m => V.str (num m)) (by rw [List.length_map, VI_len]) (by rw [VI_len]; omega) (fun H2 s2 => SqL.of (s2 _ _ (s1 _ _ hl))) (fun i x y H2 H3 hy s2 yy => ?_) (fun H2 s2 hD2 => ?_)
  · obtain ⟨rfl, hx⟩ := yy
    obtain ⟨m, hm, rfl, mem⟩ := VI_at hx
    rw [List.getElem?_map, hm] at hy
    cases hy
    exact ⟨Same.refl _, fun R hR => ⟨_, rfl, m, rfl, nb' m (by have := n3 m mem; omega), hR _ (Same.refl _)⟩⟩
  · refine ⟨p, D, _, _, rfl, rfl, s2 _ _ upd_same, hD2, ?_, fun q hq => ?_⟩
    · rw [List.length_map, sizeLine_eq]
      show 2 + _ ≤ _
      omega
    · refine ⟨" ", q, cWords N ms, rfl, rfl, .inl (SqL.of ?_), ?_, k _ (s1.trans (s2.trans (Same.new hq)))⟩
      · rw [upd_same]
        show some (HO.lst ([V.str (num N), V.str ":"] ++ _)) = some (HO.lst (List.map V.str (num N :: ":" :: ms.map num)))
        rw [List.map_cons, List.map_cons, List.map_map]
        rfl
      · exact cWords_sum (by omega) (fun m hm => by have := n3 m hm; omega) n2
end
end TF
end
section
set_option maxHeartbeats 4000000
set_option pp.maxSteps 3000

namespace TF
open PySem PySem.Spec PyProof.Rows L2 TL StX
section
variable {P : Program} {w : World} {K : PySem.W.Frag} {mg : Str → Option Value} {base : Heap}
/-! ### the law's rows -/
def labels : List Str := ["a", "b", "names", "ok", "self"]
structure LawRows (cs : List Row) : Prop where
  sub : (cs.map (·.1)).Sublist labels
  lc : ∀ r ∈ cs, ∃ k, k ≤ 2 ∧ IsLc k r.2
/-- the lines of rows -/
def LnAt (H : Hp) (p : Addr) (cs : List Row) : Prop := H p = some (.lst (cs.map fun r => V.str (lineOf r)))
theorem label_ok : ∀ z ∈ labels, nameOk z = true := by decide +kernel
theorem label_up : labels.Pairwise fun a b => a.cps.toList < b.cps.toList := by decide +kernel
theorem LawRows.ok {cs : List Row} (h : LawRows cs) (good : ∀ k c, k ≤ 2 → IsLc k c → Good c.1 c.2) : OkRows cs := by
  refine ⟨fun r hr => label_ok _ (h.sub.subset (List.mem_map_of_mem hr)), fun r hr => ?_, (List.pairwise_map (f := fun r : Row => r.1) (R := fun a b : Str => a.cps.toList < b.cps.toList)).mp (List.Pairwise.sublist h.sub label_up), ?_⟩
  · obtain ⟨k, hk, il⟩ := h.lc r hr
    exact good k r.2 hk il
  · have := h.sub.length_le
    rw [List.length_map] at this
    have : labels.length = 5 := rfl
    omega
def spLi : Sp := fun vs H Q _ => ∃ (M : List Addr) (a : Addr), vs = [.ref a] ∧ a ∈ M ∧ Old M H ∧ SrcAt H a ∧ ∀ p cs H', LawRows cs → ButL [a] H H' → SrcAt H' a → p ∉ M → LnAt H' p cs → Q (.ref p) H'
theorem scLi : FnScope ["_law_source_here", "_law_lines_here", "_law_label"] ["_law_source_here"] (defScope (tops 80)) := ⟨rfl, rfl, rfl, by decide +kernel, rfl, by decide +kernel, by decide +kernel⟩
theorem ok_li (G : GDef K mg "_law_lines" (tops 80)) (T : TxtA K mg) (Fpi : GOk P w K mg base CX0 1 "_law_pick" spPi) (Fce : GOk P w K mg base CX0 2 "_law_cell" spCe) (Fsh : GOk P w K mg base CX0 1 "_law_shown" spShn) : GOk P w K mg base CX0 3 "_law_lines" spLi := by
  refine G.ok scLi (fun vs H Q E h => by obtain ⟨_, _, rfl, _⟩ := h; rfl) (fun _ _ _ _ _ _ us hl => match us, hl with | [_], _ => rfl) (fun f cdv A outer s H vs Q E hr h => ?_)
  obtain ⟨M, a, rfl, am, hM, sa, k⟩ := h
  refine ⟨_, (pss_cons (ps_set (i := 1) scLi.nd rfl (Or.inl rfl) (pe_lst pa_nil))
      (pss_cons (ps_for PassesOwn.never rfl (pi_tup (pe_tup (pa_cons pe_str (pa_cons pe_str (pa_cons pe_str (pa_cons pe_str (pa_cons pe_str pa_nil))))))) (pg_name (i := 2) scLi.nd rfl (Or.inl rfl)) (pss_one (ps_if (pt_cmpR op_eq (pe_cg Fpi (hr.mono (by decide)) pass0 rfl (pa_cons (pv 0) (pa_cons pe_int pa_nil))) pe_int (nomark _)) (pss_one (ps_expr (pe_bm PySem.F.plainAttrs_list PySem.F.slot_list_append PySem.F.type_list_append mt_append (pv 1) (pa_cons (pe_op op_add_str (pe_op op_add_str (pv 2) pe_str) (pe_cg Fsh (hr.mono (by decide)) pass0 rfl (pa_cons (pe_cg Fce (hr.mono (by decide)) pass0 rfl (pa_cons (pv 0) pa_nil)) pa_nil))) pa_nil)))) pss_nil)))
      (pss_one (ps_ret (pv 1))))), ?_⟩
  have sub : ∀ x ∈ [a], x ∈ M := fun x hx => by rw [List.mem_singleton.mp hx]; exact am
  refine ⟨z0, fun p hp => ?_⟩
  have np : p ∉ M := hM.nin hp
  have npa : p ≠ a := fun e => np (e ▸ am)
  have s0 : Same H (upd H p (.lst [])) := Same.new hp
  have hp0 : LnAt (upd H p (.lst [])) p [] := upd_same
  generalize upd H p (.lst []) = H0 at s0 hp0 ⊢
  refine ⟨(show 5 ≤ sizeLine by decide), fun T0 hT => ?_⟩
  have s1 := s0.trans (Same.new (o := .tup (labels.map V.str)) hT)
  have hp1 : LnAt (upd H0 T0 (.tup (labels.map V.str))) p [] := (Same.new hT) _ _ hp0
  have hT1 : (upd H0 T0 (.tup (labels.map V.str))) T0 = some (.tup (labels.map V.str)) := upd_same
  have nTa : T0 ≠ a := fun e => (hM.same s0).nin hT (e ▸ am)
  have nTp : T0 ≠ p := fun e => by rw [e, hp0] at hT; cases hT
  let Pv : Nat → L2.St → Hp → Prop := fun i σ' H' => (∀ b u, b ≠ a → b ≠ p → (upd H0 T0 (.tup (labels.map V.str))) b = some u → H' b = some u) ∧ SrcAt H' a ∧ ∃ (cs : List Row) (x : Option V), (cs.map (·.1)).Sublist (labels.take i) ∧ (∀ r ∈ cs, ∃ k, k ≤ 2 ∧ IsLc k r.2) ∧ LnAt H' p cs ∧ σ' = [some (.ref a), some (.ref p), x]
  refine ⟨T0, rfl, ⟨_, SqT.of hT1⟩, for_it (walk_tup (K := K) (a := T0) (xs := labels.map V.str)) Pv ⟨fun _ _ _ _ h => h, sa.same s1, [], none, List.Sublist.refl _, fun _ h => (nomatch h), hp1, rfl⟩ (fun i σ' H' _ pv => SqT.of (pv.1 _ _ nTa nTp hT1)) (fun i x σ' H' H'' hi pv y => ?_) (fun σ' H' pv => ?_)⟩
  · obtain ⟨b1, sa1, cs, x0, hs, hl, hp2, rfl⟩ := pv
    obtain ⟨rfl, hx⟩ := y
    rw [List.getElem?_map, Option.map_eq_some_iff] at hx
    obtain ⟨lab, hlab, rfl⟩ := hx
    have oldM : ∀ H9 : Hp, ButL [a] H'' H9 → SrcAt H9 a → Old M H9 := fun H9 b9 sa9 m hm e => by
      by_cases q : m = a
      · exact sa9.ne (q ▸ e)
      · cases z : (upd H0 T0 (.tup (labels.map V.str))) m with
        | none => exact (hM.same s1) m hm z
        | some u => rw [b9 m u (fun w => q (List.mem_singleton.mp w)) (b1 m u q (fun w => np (w ▸ hm)) z)] at e; cases e
    have tk : (labels.take (i + 1)) = labels.take i ++ [lab] := by rw [List.take_succ, hlab]; rfl
    have lk := label_ok lab (List.mem_of_getElem? hlab)
    have ll := name_len lk
    refine ⟨_, rfl, a, 2, rfl, sa1, by decide, by decide, fun j H2 lt b2 sa2 => ⟨rfl, _, rfl, ?_⟩⟩
    have hp3 : LnAt H2 p cs := b2 _ _ (fun m => npa (List.mem_singleton.mp m)) hp2
    have keep : ∀ H9 : Hp, ButL [a] H2 H9 → ∀ b u, b ≠ a → b ≠ p → (upd H0 T0 (.tup (labels.map V.str))) b = some u → H9 b = some u := fun H9 b9 b u n1 n2 h => b9 b u (fun m => n1 (List.mem_singleton.mp m)) (b2 b u (fun m => n1 (List.mem_singleton.mp m)) (b1 b u n1 n2 h))
    by_cases hj : j = 0
    · subst hj
      refine iteTr (decide_eq_true rfl) ?_
      refine ⟨_, rfl, .inl ⟨rfl, _, SqL.of hp3⟩, _, rfl, _, _, rfl, rfl, by rw [show Str.length " " = 1 by decide, sizeLine_eq]; omega, ?_⟩
      refine ⟨_, rfl, M, a, rfl, am, oldM _ b2 sa2, sa2, fun t c kk H3 hk il b3 sa3 lc => ?_⟩
      obtain ⟨c1, c2, c3, c4⟩ := il.small
      have w1 : (10 : Nat) ^ (kk + 1) ≤ 10 ^ 3 := Nat.pow_le_pow_right (by decide) (by omega)
      have w2 : (4 : Nat) ^ (kk + 1) ≤ 4 ^ 3 := Nat.pow_le_pow_right (by decide) (by omega)
      refine ⟨M, t, c, rfl, lc, by omega, by omega, fun m hm => by have := c4 m hm; omega, fun H4 s4 => ?_⟩
      have b4 : ButL [a] H2 H4 := b3.same s4
      have hp4 : LnAt H4 p cs := b4 _ _ (fun m => npa (List.mem_singleton.mp m)) hp3
      have le : (lab ++ " ").length + (cellText c.1 c.2).length ≤ sizeLine := by
        have e1 := StrLaws.join_length_le " " (cWords c.1 c.2)
        have e2 := sum_le (cWords_len (N := c.1) (ms := c.2) (by omega) (fun m hm => by have := c4 m hm; omega))
        have e3 : (cWords c.1 c.2).length = c.2.length + 2 := by show (c.2.map num).length + 1 + 1 = _; rw [List.length_map]
        have e4 : Str.length " " = 1 := by decide
        have e5 : (lab ++ " ").length = lab.length + 1 := by
          rw [len_tl, tl_append, List.length_append, ← len_tl lab]
          rfl
        rw [e4] at e1
        rw [e3] at e1 e2
        rw [cellText, join_eq, sizeLine_eq, e5]
        omega
      refine ⟨_, _, rfl, rfl, le, p, _, _, rfl, rfl, hp4, ?_, ?_⟩
      · have := hs.length_le
        rw [List.length_map, List.length_take] at this
        rw [List.length_map, sizeLine_eq]
        have : labels.length = 5 := rfl
        omega
      · refine ⟨fun b u n1 n2 h => ?_, ?_, cs ++ [(lab, c)], _, ?_, fun r hr => ?_, ?_, rfl⟩
        · rw [upd_ne n2]
          exact keep H4 b4 b u n1 n2 h
        · obtain ⟨xx, yy, h1, h2⟩ := sa3.same s4
          exact ⟨xx, yy, (upd_ne npa.symm).trans h1, h2⟩
        · rw [tk, List.map_append]
          exact hs.append (List.Sublist.refl _)
        · rcases List.mem_append.mp hr with hr | hr
          · exact hl r hr
          · rw [List.mem_singleton.mp hr]
            exact ⟨kk, hk, il⟩
        · show upd _ p _ p = _
          rw [upd_same, List.map_append, List.map_singleton, line_eq]
    · refine iteFr (decide_eq_false fun e => hj (by have := V.int.inj e; omega)) ?_
      refine ⟨keep H2 (ButL.of (Same.refl _)), sa2, cs, _, ?_, hl, hp3, rfl⟩
      rw [tk]
      exact hs.trans (List.sublist_append_left _ _)
  · obtain ⟨b1, sa1, cs, x0, hs, hl, hp2, rfl⟩ := pv
    refine ⟨_, rfl, k p cs H' ⟨by simpa using hs, hl⟩ (fun b u n hb => ?_) sa1 np hp2⟩
    have nb : b ≠ p := ne_of_none hb hp
    exact b1 b u (fun e => n (List.mem_singleton.mpr e)) nb (s1 b u hb)
def spTe : Sp := fun vs H Q _ => ∃ (p : Addr) (cs : List Row), vs = [.ref p] ∧ LnAt H p cs ∧ OkRows cs ∧ ∀ H', Same H H' → Q (.str (catText cs)) H'
theorem scTe : FnScope ["_law_lines_here"] ["_law_lines_here"] (defScope (tops 81)) := ⟨rfl, rfl, rfl, by decide +kernel, rfl, by decide +kernel, by decide +kernel⟩
theorem ok_te (G : GDef K mg "_law_text" (tops 81)) (T : TxtA K mg) : GOk P w K mg base CX0 1 "_law_text" spTe := by
  refine G.ok scTe (fun vs H Q E h => by obtain ⟨_, _, rfl, _⟩ := h; rfl) (fun _ _ _ _ _ _ us hl => match us, hl with | [_], _ => rfl) (fun f cdv A outer s H vs Q E hr h => ?_)
  obtain ⟨p, cs, rfl, hp, ok, k⟩ := h
  refine ⟨_, (pss_one (ps_ret (pe_ifExp (pt_cmpR (op_neD (hu64 hr)) (pv 0) (pe_lst pa_nil) (nomark _)) (pe_join pe_str (pv 0)) pe_str))), ?_⟩
  have eL : (cs.map fun r => V.str (lineOf r)) = (cs.map lineOf).map V.str := by rw [List.map_map]; rfl
  have hp : H p = some (.lst ((cs.map lineOf).map V.str)) := by rw [← eL]; exact hp
  refine ⟨_, rfl, z0, fun q8 hq8 => ?_⟩
  have s8 := (Same.new (o := .lst []) hq8)
  refine ⟨.list ((cs.map lineOf).map PyData.str), .list (([] : List Str).map PyData.str), .lst (SqL.of (s8 _ _ hp)) (dpStrs _), .lst (SqL.of upd_same) .nil, sh_strs (fun z hz => ?_), by decide +kernel, _, rfl, ?_⟩
  · obtain ⟨r, hr1, rfl⟩ := List.mem_map.mp hz
    exact str_ok (line_low (ok.nm r hr1))
  rw [strs_eqv]
  cases hcs : cs with
  | nil =>
    refine iteFr rfl ?_
    subst hcs
    exact k _ s8
  | cons r rs =>
    rw [← hcs]
    have ne : cs.map lineOf ≠ [] := by rw [hcs]; simp
    refine iteTr (by rw [decide_eq_false ne]; rfl) ?_
    refine ⟨⟨_, rfl⟩, _, rfl, "\n", p, cs.map lineOf, rfl, rfl, .inl (SqL.of (s8 _ _ hp)), cat_len ok, ?_⟩
    have := k _ s8
    rw [catText, if_neg (by rw [hcs]; simp)] at this
    exact this
end
end TF
end
section
set_option maxHeartbeats 4000000
set_option pp.maxSteps 3000

namespace TF
open PySem PySem.Spec PyProof.Rows L2 TL StX
section
/-- two readings of one expression: either may be taken -/
theorem pe_or {X : Cx} {e : Expr} {t1 t2 : TE} (h1 : PE X e t1) (h2 : PE X e t2) : PE X e (fun σ H Q => t1 σ H Q ∨ t2 σ H Q) :=
  ⟨fun pins s σ H Q I h => h.elim (h1.run pins s σ H Q I) (h2.run pins s σ H Q I)⟩
variable {P : Program} {w : World} {K : PySem.W.Frag} {mg : Str → Option Value} {base : Heap}
/-- the class of a session: a plain one, or one that records into e -/
def cOf (K : PySem.W.Frag) : Option Addr → Addr
  | none => aSes K
  | some _ => aRec K
/-- a session of either class -/
structure SesX (K : PySem.W.Frag) (H : Hp) (s dx h : Addr) (o : Option Addr) (cs : List Row) (ps : List (List Row)) (log : List (Str × Str)) : Prop where
  r : SesR K H (cOf K o) s dx h o cs ps
  l : ∀ e, o = some e → RecAt H e log
theorem SesX.same {H H' : Hp} {s dx h : Addr} {o : Option Addr} {cs : List Row} {ps : List (List Row)} {log : List (Str × Str)} (S : SesX K H s dx h o cs ps log) (e : Same H H') : SesX K H' s dx h o cs ps log :=
  ⟨S.r.same e, fun a ha => (S.l a ha).same e⟩
theorem SesX.ses {H : Hp} {s dx h : Addr} {cs : List Row} {ps : List (List Row)} (S : SesR K H (aSes K) s dx h none cs ps) : SesX K H s dx h none cs ps [] := ⟨S, fun _ e => nomatch e⟩
theorem SesX.recd {H : Hp} {s dx h e : Addr} {cs : List Row} {ps : List (List Row)} {log : List (Str × Str)} (S : SesR K H (aRec K) s dx h (some e) cs ps) (l : RecAt H e log) : SesX K H s dx h (some e) cs ps log := ⟨S, fun _ q => by cases q; exact l⟩
/-- the cells of a session that change -/
def mutd (s h : Addr) (o : Option Addr) : List Addr := [s, h] ++ o.toList
theorem ButL.wide {H H' : Hp} {as bs : List Addr} (sub : ∀ a ∈ as, a ∈ bs) (b : ButL as H H') : ButL bs H H' := fun a u n => b a u fun m => n (sub a m)
end
end TF
end
section
set_option maxHeartbeats 4000000
set_option pp.maxSteps 3000

namespace TF
open PySem PySem.Spec PyProof.Rows L2 TL StX
section
variable {P : Program} {w : World} {K : PySem.W.Frag} {mg : Str → Option Value} {base : Heap}
/-- all but L and the tables of code stays -/
def ButT (L : List Addr) (H H' : Hp) : Prop := ∀ b o, b ∉ L → (∀ ps, o ≠ .tbl ps) → H b = some o → H' b = some o
theorem ButT.of {L : List Addr} {H H' : Hp} (b : ButL L H H') : ButT L H H' := fun a o n _ h => b a o n h
theorem ButT.same {L : List Addr} {H H' : Hp} (s : Same H H') : ButT L H H' := fun a o _ _ h => s a o h
theorem ButT.ext {L : List Addr} {H H' : Hp} (s : LamX.ExtN H H') : ButT L H H' := fun a o _ n h => s a o h n
theorem ButT.trans {L : List Addr} {H H1 H2 : Hp} (e : ButT L H H1) (s : ButT L H1 H2) : ButT L H H2 := fun b o n t h => s b o n t (e b o n t h)
theorem ButT.wide {H H' : Hp} {as bs : List Addr} (sub : ∀ a ∈ as, a ∈ bs) (b : ButT as H H') : ButT bs H H' := fun a u n => b a u fun m => n (sub a m)
theorem CellAt.butT {H H' : Hp} {L : List Addr} {c : Addr} {N : Nat} {ms : List Nat} (h : CellAt K H c N ms) (b : ButT L H H') (st : Stray H L) : CellAt K H' c N ms := by
  obtain ⟨dx, tb, tp, kd, h1, h2⟩ := h
  refine ⟨dx, tb, tp, kd, b _ _ (fun m => ?_) (fun _ z => nomatch z) h1, b _ _ (fun m => ?_) (fun _ z => nomatch z) h2⟩
  · rcases st _ m _ h1 with ⟨C, dx', fs, e, n⟩ | ⟨xs, e⟩
    · cases e
      exact absurd n (fun z => nomatch z)
    · cases e
  · rcases st _ m _ h2 with ⟨_, _, _, e, _⟩ | ⟨_, e⟩ <;> cases e
theorem EntsAt.butT {H H' : Hp} {L : List Addr} {d : Addr} {es : List Ent} (h : EntsAt K H d es) (b : ButT L H H') (st : Stray H L) : EntsAt K H' d es := by
  refine ⟨b _ _ (fun m => ?_) (fun _ z => nomatch z) h.1, fun e he => (h.2 e he).butT b st⟩
  rcases st _ m _ h.1 with ⟨_, _, _, e, _⟩ | ⟨_, e⟩ <;> cases e
theorem CatAt.butT {H H' : Hp} {L : List Addr} {d : Addr} {cs : List Row} (h : CatAt K H d cs) (b : ButT L H H') (st : Stray H L) : CatAt K H' d cs := by
  obtain ⟨es, h1, h2⟩ := h
  exact ⟨es, h1.butT b st, h2⟩
theorem RecAt.butT {H H' : Hp} {e : Addr} {log : List (Str × Str)} {L : List Addr} (h : RecAt H e log) (b : ButT L H H') (n : e ∉ L) (st : Stray H L) : RecAt H' e log := by
  obtain ⟨ts, h1, h2⟩ := h
  refine ⟨ts, b _ _ n (fun _ z => by cases z) h1, paired_imp (fun t p q => b _ _ (fun m => ?_) (fun _ z => by cases z) q) h2⟩
  rcases st _ m _ q with ⟨_, _, _, z, _⟩ | ⟨_, z⟩ <;> cases z
theorem Ses.butT {H H' : Hp} {C s dx d h : Addr} {o : Option Addr} {cs : List Row} {past : List (Addr × List Row)} {L : List Addr} (S : Ses K H C s dx d h o cs past) (b : ButT L H H') (n : ∀ a ∈ mutd s h o, a ∉ L) (st : Stray H L) : Ses K H' C s dx d h o cs past :=
  ⟨b _ _ (n s (List.mem_cons_self ..)) (fun _ z => nomatch z) S.obj, S.cat.butT b st, S.ok, b _ _ (n h (List.mem_cons_of_mem _ (List.mem_cons_self ..))) (fun _ z => by cases z) S.hs, fun p hp => ⟨(S.pc p hp).1.butT b st, (S.pc p hp).2⟩, fun e he => by
    obtain ⟨q, xs, hx⟩ := S.en e he
    exact ⟨q, xs, b _ _ (n e (by subst he; simp [mutd])) (fun _ z => nomatch z) hx⟩⟩
theorem SesX.butT {H H' : Hp} {s dx h : Addr} {o : Option Addr} {cs : List Row} {ps : List (List Row)} {log : List (Str × Str)} {L : List Addr} (S : SesX K H s dx h o cs ps log) (b : ButT L H H') (n : ∀ a ∈ mutd s h o, a ∉ L) (st : Stray H L) : SesX K H' s dx h o cs ps log := by
  obtain ⟨⟨d, past, S1, e1⟩, l⟩ := S
  exact ⟨⟨d, past, S1.butT b n st, e1⟩, fun e he => (l e he).butT b (n e (by subst he; simp [mutd])) st⟩
/-- the own cells of a session are stray -/
theorem SesX.stray {H : Hp} {s dx h : Addr} {o : Option Addr} {cs : List Row} {ps : List (List Row)} {log : List (Str × Str)} (S : SesX K H s dx h o cs ps log) : Stray H (mutd s h o) := by
  obtain ⟨⟨d, past, S1, e1⟩, l⟩ := S
  intro a ha u hu
  rcases List.mem_append.mp ha with ha | ha
  · exact S1.stray a ha u hu
  · obtain ⟨_, xs, hx⟩ := S1.en a (Option.mem_toList.mp ha)
    rw [hx] at hu
    cases hu
    exact .inr ⟨_, rfl⟩
end
end TF
end
section
set_option maxHeartbeats 4000000
set_option pp.maxSteps 3000

namespace TF
open PySem PySem.Spec PyProof.Rows L2 TL StX
section
/-- e.n where e is an exception of an own class that the context pins -/
theorem pe_xfP {X : Cx} {a C : Addr} {oe : Obj} {cls : Value} {d : Option Addr} {e : Expr} {te : TE} {pos : Pos} {n : Str} (T : XfC X.K C) (hno : PySem.W.findIn X.K (.ref C) n = some none)
    (hz : Zc cls d oe) (hf : ∃ vs, oe.data = .fields vs) (hpn : (a, oe) ∈ X.pn) (he : PE X e te) (hb : attributeBase e n X.env (eval e X.env) = eval e X.env := by rfl) :
    PE X (.Attribute e n pos) (tXf a cls d C n te) := by
  refine ⟨fun pins s σ H Q I h => attr_of hb (thn (he.run pins s σ H _ I h) fun u s1 hh => ?_)⟩
  obtain ⟨x, H1, I1, rx, rfl, rfl, dd, fs, v, rfl, ea, l, q⟩ := hh
  obtain rfl : u = Value.ref a := rx
  have ha := (I1.pin (a, oe) (List.mem_append_left _ hpn)).1
  obtain ⟨vs, hd⟩ := hf
  obtain ⟨mA, hns, hr⟩ : ObjOk X.prog X.w H1 s1.heap dd (.xd fs) := I1.hok dd _ ea
  obtain ⟨od, ho, hl⟩ := lookIn_ns hns
  obtain ⟨u, hu, ru⟩ := RelO.some_of (v := v) (o := mA n) (by rw [← l]; exact hr n)
  have J : PySem.W.InstAt s1.heap a oe C (some od) := ⟨ha, hz.1, by unfold PySem.W.notCls; rw [hd] <;> rfl, by rw [hz.2]; exact ho⟩
  exact HandSPX.exc_get I1.kIn J T.ga T.gg T.exC (PySem.W.findObj_own T.hdC hno rfl (by rw [hl, hu])) (handed_of ru) ⟨v, H1, I1.tok _, ru, q⟩
end
end TF
end
section
set_option maxHeartbeats 4000000
namespace TF
open PySem PySem.Spec PyProof.Rows L2 PySem.W PySem.Calls
section
def wKeep (n : Nat) (sel : Value → Option Bool) (i : Nat) (ts tw : Addr → Value → Option Addr → TS) (Wout : WX) (D : Ends) : WX := fun cls d σ H =>
  σ.length = n → ∃ b, sel cls = some b ∧ (b = true → ∀ a, H a = none → ts a cls d { nx := fun σ' H' => tw a cls d D (σ'.set i none) H', rt := fun _ _ => False, bk := fun _ _ => False, ct := fun _ _ => False } (σ.set i (some (.ref a))) H) ∧ (b = false → Wout cls d σ H)
def KeepP (X : Cx) (tw : Addr → Value → Option Addr → TS) (pins : List (Addr × Obj)) (tr : TS) (D : Ends) (f : Flow) (s1 : Shared) : Prop :=
  SP X pins { D with nx := tr D } f s1 ∨ (f = .next ∧ ∃ a oe cls d σ6 H6, Zc cls d oe ∧ (∃ vs, oe.data = .fields vs) ∧ Inv (X.tr ((a, oe) :: (X.pn ++ pins)) X.xe) [] σ6 H6 s1 ∧ tw a cls d D σ6 H6)
theorem sp_unpin {X : Cx} {pins : List (Addr × Obj)} {q : Addr × Obj} {D : Ends} {f : Flow} {s : Shared} (ok : X.Ok) (h : SP (X.tr (q :: (X.pn ++ pins)) X.xe) [] D f s) : SP X pins D f s := by
  have un : ∀ {σ H}, Inv (X.tr (q :: (X.pn ++ pins)) X.xe) [] σ H s → Inv X pins σ H s := fun {σ H} I =>
    ⟨ok, I.os, I.bare, I.base, I.loc, I.cell, I.free, I.freeC, fun p hp => I.pin p (List.mem_append_left _ (List.mem_cons_of_mem _ hp)), I.hok, I.len⟩
  cases f with
  | next =>
    obtain ⟨a, b, c, d⟩ := h
    exact ⟨a, b, un c, d⟩
  | brk =>
    obtain ⟨a, b, c, d⟩ := h
    exact ⟨a, b, un c, d⟩
  | cont =>
    obtain ⟨a, b, c, d⟩ := h
    exact ⟨a, b, un c, d⟩
  | ret u =>
    obtain ⟨v, a, b, c, r, d⟩ := h
    exact ⟨v, a, b, un c, r, d⟩
variable {X : Cx} {t : Expr} {n : Str} {sel : Value → Option Bool} {i : Nat} {body suite rest : List Stmt} {b₀ : Stmt} {pos pos' : Pos} {tb : WX → TS} {ts tw : Addr → Value → Option Addr → TS} {tr : TS} {Wout : WX}
theorem _root_.L2.Inv.repin {X : Cx} {a : Addr} {pins : List (Addr × Obj)} {q : Addr × Obj} {σ : L2.St} {H : Hp} {s : Shared} (I : Inv (X.suite a (q :: (X.pn ++ pins))) [] σ H s) (ok : X.Ok) : Inv (X.tr (q :: (X.pn ++ pins)) X.xe) [] σ H s :=
  ⟨ok.toTry _ _, I.os, I.bare, I.base, I.loc, I.cell, I.free, I.freeC, fun p hp => I.pin p hp, I.hok, I.len⟩
/-- try .. except t as n: suite, the caught one known in what follows too -/
theorem pss_keep (hs : X.stack = X.env :: X.outer) (hf : X.env.frame = some X.env.locals) (hN : X.N.Nodup) (hi : X.N[i]? = some n) (hln : X.env.kindOf n = some .local) (ht : Tst X t sel) (tk : Takes X Wout)
    (hb : ∀ (W : WX) (pn : List (Addr × Obj)) (xe : Value → Shared → Prop), Takes (X.tr pn xe) W → PassesOwn (model X.prog X.w) X.A X.env xe → PSs (X.tr pn xe) body (tb W))
    (hsu : ∀ (a : Addr) (oe : Obj) (cls : Value) (d : Option Addr) (pn : List (Addr × Obj)), Zc cls d oe → (∃ vs, oe.data = .fields vs) → PSs (X.suite a ((a, oe) :: pn)) (b₀ :: suite) (ts a cls d))
    (hr : PSs X rest tr) (hk : ∀ (a : Addr) (oe : Obj) (cls : Value) (d : Option Addr) (pn : List (Addr × Obj)), Zc cls d oe → (∃ vs, oe.data = .fields vs) → PSs (X.tr ((a, oe) :: pn) X.xe) rest (tw a cls d)) :
    PSs X (.Try body [.ExceptHandler (some t) (some n) (b₀ :: suite) pos'] [] [] pos :: rest) (fun D σ H => tb (wKeep X.N.length sel i ts tw Wout D) { D with nx := tr D } σ H) := by
  refine ⟨fun pins s σ H D I h => wpAny_execs_cons (thn (Q := KeepP X tw pins tr D) ?_ fun f s1 q => ?_)⟩
  rotate_left
  · rcases q with q | ⟨rfl, a, oe, cls, d, σ6, H6, hz, hd, I6, q⟩
    · cases f with
      | next =>
        obtain ⟨σ', H', I', q⟩ := q
        exact hr.run pins s1 σ' H' D I' q
      | ret v => exact q
      | brk => exact q
      | cont => exact q
    · exact thn ((hk a oe cls d (X.pn ++ pins) hz hd).run [] s1 σ6 H6 D I6 q) fun f s2 q => sp_unpin I.ok q
  have ok := I.ok
  have hfr : X.A.frames = some (X.env :: X.outer) := by rw [ok.frames, hs]
  have loc : Loc X.env.scope n := .inl hln
  refine wpAny_Try_except ?_
  refine wpAny_mono ((hb (wKeep X.N.length sel i ts tw Wout D) (X.pn ++ pins) (fun e s₁ => wpAny (model X.prog X.w) X.A (noteFrame e X.env) (fun _ s₂ => wpAny (model X.prog X.w) X.A (setFlight e none) (fun _ s₃ =>
    wpAny (model X.prog X.w) X.A (handleBy e X.env [.ExceptHandler (some t) (some n) (b₀ :: suite) pos']) (KeepP X tw pins tr D) X.xe s₃) X.xe s₂) X.xe s₁) (fun u s' xx => ?_) PassesOwn.looking).run [] s σ H { D with nx := tr D } (I.toTry _) h) (fun f s1 hsp => ?_) (fun e s1 he => he)
  · obtain ⟨a, B, sI, pins', σ', H', cls, d, rfl, J', nb, up, sky, na, os, ag, gu⟩ := xx
    obtain ⟨b, hb1, yes, no⟩ := gu J'.len
    have J : Inv X pins σ' H' sI := J'.ofTry ok
    have skyE : Sky B (X.env :: X.outer) a (Zc cls d) X.env.locals s'.heap := by rw [← hs]; exact sky
    show wpAny (model X.prog X.w) X.A (noteFrame (.ref a) X.env) _ _ _
    refine Sky.land Zc.steady hfr hf skyE fun h3 fl3 up3 => ?_
    have J3 : Inv X pins σ' H' { s' with heap := h3 } := J.landed nb fl3.1 (up.trans up3) os ag
    obtain ⟨oe3, vs3, he3, hz3, hd3⟩ := fl3.there
    have off : ∀ {h : Heap} {o : Obj} {vs : Array Value}, h.FunFrames B (X.env :: X.outer) → h.get? a = some o → o.data = .fields vs → a ∉ frs (X.env :: X.outer) := fun {h o vs} ff e dd hm => by
      obtain ⟨_, o', e', nf⟩ := ff.mem hm
      rw [e] at e'; cases e'
      exact nf _ dd
    have offA := off fl3.2.2.1 he3 hd3
    have nL : a ≠ X.env.locals := fun z => offA (List.mem_filterMap.mpr ⟨X.env, List.mem_cons_self, by rw [hf, z]⟩)
    have nF : a ∉ X.fs := fun hm => by
      obtain ⟨e, he, q⟩ := List.mem_filterMap.mp hm
      exact offA (List.mem_filterMap.mpr ⟨e, List.mem_cons_of_mem _ he, q⟩)
    have S3 := J3.suite he3 hd3 na nL nF
    refine wpAny_handleBy_cons (codeAny_handlers_test ?_) (by intro q; cases q)
    have LT : PySem.W.Looks (model X.prog X.w) h3 (typeOf (.ref a)) cls := fun A Q E s k q => wpAny_typeOf_ref (k _ _ he3) (by rw [hz3.1]; exact q)
    refine ht.run a (a, oe3) (X.pn ++ pins) { s' with heap := h3 } σ' H' cls b _ _ S3 hb1 LT fun h5 k5 => ?_
    have fl5 := fly_keeps fl3 k5
    have up5 : sI.heap.UpToSlots h5 := (up.trans up3).trans (Heap.UpToSlots.of_keeps k5)
    cases b with
    | true =>
      refine codeAny_handlers_suite_as ?_
      refine HandSPX.lands_againZ fl5 fun h4 fl4 up4 => ?_
      have J4 : Inv X pins σ' H' { s' with heap := h4 } := J.landed nb fl4.1 (up5.trans up4) os ag
      obtain ⟨oe4, vs4, he4, hz4, hd4⟩ := fl4.there
      have S4 := J4.suite he4 hd4 na nL nF
      refine store_ok (X := X.suite a ((a, oe4) :: (X.pn ++ pins))) (v := .ref a) S4 hN hi loc rfl (fun s5 S5 => ?_) (.inr hln)
      refine wpAny_mono ((hsu a oe4 cls d (X.pn ++ pins) hz4 ⟨_, hd4⟩).run [] s5 _ H' _ S5 (yes rfl a na)) (fun f s6 hsp => ?_) (fun _ _ z => False.elim z)
      cases f with
      | next =>
        obtain ⟨σ6, H6, S6, q6⟩ := hsp
        exact gone_ok (X := X.tr ((a, oe4) :: (X.pn ++ pins)) X.xe) (S6.repin ok) hN hi hln fun s7 J7 => .inr ⟨rfl, a, oe4, cls, d, _, _, hz4, ⟨_, hd4⟩, J7, q6⟩
      | brk =>
        obtain ⟨_, _, _, z⟩ := hsp
        exact z.elim
      | cont =>
        obtain ⟨_, _, _, z⟩ := hsp
        exact z.elim
      | ret u =>
        obtain ⟨_, _, _, _, _, z⟩ := hsp
        exact z.elim
    | false => exact thn (goes_on (σ := σ) (D := { D with nx := tr D }) hs hf tk J nb up5 fl5 na os ag (no rfl)) fun _ _ q => .inl q
  · have := try_calm (s := s) (σ := σ) (H := H) (pins := pins) ok hsp
    cases f with
    | next => exact thn this fun _ _ q => .inl q
    | brk => exact .inl this
    | cont => exact .inl this
    | ret u => exact .inl this
end
end TF
end
section
set_option maxHeartbeats 4000000
set_option pp.maxSteps 3000

namespace TF
open PySem PySem.Spec PyProof.Rows L2 TL StX LamX
/-! ### _law_spot -/
/-- what _law_spot makes of what it calls: tl is that one's reading -/
def TSpot (K : PySem.W.Frag) : (XK → Hp → VK → Prop) → Hp → VK → Prop := fun tl H Q => ∀ Q' : VK, (∀ v H', Q .non H' → Q' v H') →
  tl (fun cls d H' => cls = .ref (aIT K) ∧ ∃ (dd : Addr) (r c : Int), d = some dd ∧ H' dd = some (.xd [("word", .int c), ("row", .int r)]) ∧ ∀ p, H' p = none → Q (.ref p) (upd H' p (.tup [.int r, .int c]))) H Q'
/-- what is to be known of InvalidText -/
structure ItX (K : PySem.W.Frag) : Prop where
  xf : XfC K (aIT K)
  nr : PySem.W.findIn K (.ref (aIT K)) "row" = some none
  nw : PySem.W.findIn K (.ref (aIT K)) "word" = some none
theorem scSpo : FnScope ["_law_action", "_law_caught", "error"] ["_law_action"] (defScope (tops 82)) := ⟨rfl, rfl, rfl, by decide +kernel, rfl, by decide +kernel, by decide +kernel⟩
theorem spot_gives {X : Cx} {q : Str} {g : Addr} {cdg : Value} (EA : ErrA X.K X.mg) (IX : ItX X.K) : GivesTo X ["_law_action", "_law_caught", "error"] "_law_spot" (defScope (tops 82)) g cdg (defBody (tops 82)) "_law_action" q (TSpot X.K) := by
  intro f c' s H Q tl act hc h
  refine ⟨_, pss_cons (ps_set (i := 1) scSpo.nd rfl (Or.inl rfl) pe_non) (pss_keep (X := (cxOf C8.CX0 X.prog X.w X.K X.mg X.base ["_law_action", "_law_caught", "error"] "_law_spot" (defScope (tops 82)) g cdg X.A X.stack s H C8.E0).nox) (i := 2)
      (tb := fun W D σ H => ∃ Ech : XK, (∀ cls d σ' H', Ech cls d H' → W cls d σ' H') ∧ σ[0]? = some (some (.ref f)) ∧ H c' = some (CodeO c' q) ∧ tl Ech H fun _ H' => D.nx σ H')
      rfl rfl scSpo.nd rfl rfl (tst_one ⟨rfl, by decide, .inl EA.m_IT⟩) takes0 (fun W pn xe tk _ => ?_) (fun a oe cls d pn hz hf => pss_one (ps_set (i := 1) scSpo.nd rfl (Or.inl rfl) (pv 2)))
      (pss_one (ps_ret (pe_ifExp (pt_cmpR op_notN (pv 1) pe_non (nomark _)) pe_nev pe_non)))
      (fun a oe cls d pn hz hf => pss_one (ps_ret (pe_ifExp (pt_cmpR op_notN (pv 1) pe_non (nomark _)) (pe_tup (pa_cons (pe_xfP IX.xf IX.nr hz hf (List.mem_cons_self ..) (pv 1)) (pa_cons (pe_xfP IX.xf IX.nw hz hf (List.mem_cons_self ..) (pv 1)) pa_nil))) pe_nev)))), ?_⟩
  · refine ⟨fun pins s' σ H' D I h' => ?_⟩
    obtain ⟨Ech, hW, h1, h2, h3⟩ := h'
    exact (pss_one (ps_expr (act W pn xe Ech _ _ tk hW))).run pins s' σ H' D I ⟨h1, h2, h3⟩
  · refine ⟨_, ?_, rfl, hc, h _ fun v H' q => ⟨_, rfl, rfl, _, rfl, iteF q⟩⟩
    rintro cls d σ' H' ⟨rfl, dd, r, c, rfl, hd, k⟩ hl
    refine ⟨true, EA.one, fun _ a ha => ?_, fun z => nomatch z⟩
    match σ', hl with
    | [x, y, z], _ =>
      refine ⟨_, rfl, ?_⟩
      refine ⟨_, rfl, rfl, _, rfl, iteT ?_⟩
      refine ⟨_, rfl, rfl, rfl, dd, _, _, rfl, hd, rfl, _, rfl, rfl, rfl, dd, _, _, rfl, hd, rfl, z2, fun p hp => k p hp⟩
end TF
end
section
set_option maxHeartbeats 4000000
set_option pp.maxSteps 3000

namespace TF
open PySem PySem.Spec PyProof.Rows L2 TL StX LamX
/-! ### _law_refused -/
/-- a def as it stands, its code object and that one's table -/
def TDef (K : PySem.W.Frag) (base : Heap) (mg : Str → Option Value) (x : Str) (st : Stmt) (P : Addr) : Prop :=
  ∃ (f c : Addr) (oc : Value) (od : Option Addr) (kV doc pm : Value) (an : Option Addr) (ct : Value) (osl : Array (Option Value)),
    K.lookup f = some ⟨oc, od, .func (PySem.W.fnOf x x (defArgs st) (defBody st) (defScope st) .none kV doc pm an (.ref c) ct), osl⟩ ∧ PySem.W.codeIn K (.ref c) x = true ∧ PySem.W.keepIn K (.ref f) = true ∧ mg x = some (.ref f) ∧ TabB base mg c P
/-- odd values: where InvalidText tells that they break off -/
inductive Odd (H : Hp) : V → Int → Int → Prop
  | no {v : V} (h : NoText H v) : Odd H v 0 0
  | txt {z : Str} {r c : Int} (l : z.length ≤ 1000000) (h : ∀ (K : PySem.W.Frag) (H : Hp) (Q : VK) (E : XK), RaisesIT K H E r c → Reads3 K H Q E (lineWords z)) : Odd H (.str z) r c
theorem Odd.reads {K : PySem.W.Frag} {H : Hp} {v : V} {r c : Int} {Q : VK} {E : XK} (h : Odd H v r c) (k : RaisesIT K H E r c) : spPca K [v] H Q E := by
  cases h with
  | no h => exact ⟨_, rfl, .inl ⟨h, k⟩⟩
  | txt l h => exact ⟨_, rfl, .inr ⟨_, rfl, l, h K H Q E k⟩⟩
theorem Odd.butT {H H' : Hp} {v : V} {r c : Int} (h : Odd H v r c) (b : ButT [] H H') : Odd H' v r c := by
  cases h with
  | no h =>
    refine .no ?_
    cases h with
    | non => exact .non
    | int i => exact .int i
    | lst h => exact .lst (b _ _ (fun m => nomatch m) (fun _ z => by cases z) h)
  | txt l h => exact .txt l h
/-- two ints in a tuple -/
theorem sh_int2 (r c : Int) : SeqAt.shaped (.tuple [.int r, .int c]) = true := by
  simp [SeqAt.shaped, PyData.canLay0, PyData.canLayAll0, PyData.depth, PyData.depthAll]
theorem int2_eqv (r c : Int) : PyData.eqv (.tuple [.int r, .int c]) (.tuple [.int r, .int c]) = true := by
  show PyData.eqvAll _ _ = _
  simp [PyData.eqvAll, PyData.eqv]
theorem SesX.same' {K : PySem.W.Frag} {H H' : Hp} {s dx h : Addr} {o : Option Addr} {cs : List Row} {ps : List (List Row)} {log : List (Str × Str)} (S : SesX K H s dx h o cs ps log) (b : ButT [] H H') : SesX K H' s dx h o cs ps log :=
  S.butT b (fun _ _ m => nomatch m) (fun _ m => nomatch m)
section
variable {P : Program} {w : World} {K : PySem.W.Frag} {mg : Str → Option Value} {base : Heap}
abbrev qLam : Str := "_law_refused.<locals>.<lambda>"
/-- load, asked of a session of either class, of an odd value -/
theorem load_odd {E : XK} {Q : VK} {H : Hp} {s dx h : Addr} {o : Option Addr} {cs : List Row} {ps : List (List Row)} {log : List (Str × Str)} {v : V} {r c : Int} {σ : L2.St} {i j : Nat} (S : SesX K H s dx h o cs ps log) (pl : ps.length ≤ 1000) (od : Odd H v r c) (hi : σ[i]? = some (some (.ref s))) (hj : σ[j]? = some (some v)) (k : RaisesIT K H E r c) :
    tMeth (aSes K) "load" (spLd K (aSes K)) [] E (tVar i) (tCons (tVar j) tNil) σ H Q ∨ tMeth (aRec K) "load" (spLd K (aRec K)) [] E (tVar i) (tCons (tVar j) tNil) σ H Q := by
  obtain ⟨⟨d, past, S0, ep⟩, l⟩ := S
  have pl' : past.length ≤ 1000 := by rw [← ep, List.length_map] at pl; exact pl
  cases o with
  | none => exact .inl ⟨_, hi, s, dx, _, rfl, S0.obj, rfl, v, hj, s, dx, d, h, none, cs, past, v, rfl, S0, pl', od.reads k⟩
  | some e => exact .inr ⟨_, hi, s, dx, _, rfl, S0.obj, rfl, v, hj, s, dx, d, h, some e, cs, past, v, rfl, S0, pl', od.reads k⟩
def spRf (K : PySem.W.Frag) (T : List (Addr × Str)) : Sp := fun vs H Q _ => ∃ (s dx h : Addr) (o : Option Addr) (cs : List Row) (ps : List (List Row)) (log : List (Str × Str)) (v : V) (r c : Int), vs = [.ref s, v] ∧ SesX K H s dx h o cs ps log ∧ ps.length ≤ 1000 ∧ Odd H v r c ∧ Tabs T H ∧ ∀ H', ButT [] H H' → Tabs T H' → Q (.bl true) H'
theorem scRf : FnScope ["_law_session", "_law_value", "_law_spot_here"] ["_law_session", "_law_value"] (defScope (tops 83)) := ⟨rfl, rfl, rfl, by decide +kernel, rfl, by decide +kernel, by decide +kernel⟩
theorem ok_rf {TP : Addr} (G : TDef K base mg "_law_refused" (tops 83) TP) (Gs : GDef K mg "_law_spot" (tops 82)) (SC : SesC K (aSes K)) (RC : SesC K (aRec K)) (EA : ErrA K mg) (IX : ItX K) (Fl1 : MOk P w K mg base (L2.CX P w) 7 (aSes K) "load" (spLd K (aSes K))) (Fl2 : MOk P w K mg base (L2.CX P w) 7 (aRec K) "load" (spLd K (aRec K)))
    (Fpc : GOk P w K mg base (L2.CX P w) 6 "parse_catalogue" (spPca K)) : GOk P w K mg base CX0 10 "_law_refused" (spRf K [(TP, qLam)]) := by
  obtain ⟨f, c, oc, od, kV, doc, pm, an, ct, osl, lk, hcd, kp, hm, TB⟩ := G
  obtain ⟨g, gd, ⟨⟨goc, god, gdV, gkV, gdoc, gpm, gan, gcdv, gct, gosl, rfl, glk, gcd, gD, _⟩, gk⟩, gm⟩ := Gs
  have gD : gdV = .none := gD.elim (fun z => z.2) fun z => absurd rfl z.1
  subst gD
  have gb : L2.Binds K (PySem.W.fnOf "_law_spot" "_law_spot" (defArgs (tops 82)) (defBody (tops 82)) (defScope (tops 82)) .none gkV gdoc gpm gan gcdv gct) ["_law_action"] [] := .all fun us hl => match us, hl with | [_], _ => rfl
  let T : List (Addr × Str) := [(TP, qLam)]
  have hT : (TP, qLam) ∈ T := List.mem_singleton.mpr rfl
  have uT : ∀ p ∈ T, p.1 = TP → p.2 = qLam := fun p hp _ => by rw [List.mem_singleton.mp hp]
  refine ⟨f, _, ["_law_session", "_law_value"], fn_of (N := ["_law_session", "_law_value", "_law_spot_here"]) lk hcd scRf (fun vs H Q E h => ?_) (fun A outer s H vs Q E hr h => ?_), .all fun us hl => match us, hl with | [_, _], _ => rfl, hm, kp⟩
  · obtain ⟨_, _, _, _, _, _, _, _, _, _, rfl, _⟩ := h
    rfl
  · obtain ⟨s0, dx, h, o, cs, ps, log, v, r, cc, rfl, S, pl, od, tb, k⟩ := h
    suffices hh : ∃ t, PSs (cxOf CX0 P w K mg base ["_law_session", "_law_value", "_law_spot_here"] "_law_refused" (defScope (tops 83)) f (.ref c) A outer s H E).nox (defBody (tops 83)) t ∧ t { nx := fun _ H' => Q .non H', rt := Q } (start ["_law_session", "_law_value", "_law_spot_here"] [.ref s0, v]) H by
      obtain ⟨t, h1, h2⟩ := hh
      exact ⟨t, h1.nox, h2⟩
    refine ⟨_, (pss_cons (ps_set (i := 2) scRf.nd rfl (Or.inl rfl) (pe_lamcall (T := T) (TT := TSpot K) (k := 7) rfl gm gk glk gcd gb scSpo rfl (Or.inl rfl) (spot_gives EA IX) TB rfl hT uT (hr.mono (by decide)) (lamS_by (sc := defScope (tops 83)) (by decide +kernel)) rfl (fun _ _ _ _ _ => rfl) (fun A2 outer2 s2 H2 E2 f2 c2 hr2 => (pe_or (pe_cm Fl1 SC.cl hr2 (passes_call (takes_of rfl rfl rfl rfl) fun _ _ _ _ h => h) (pv 0) (pa_cons (pv 1) pa_nil)) (pe_cm Fl2 RC.cl hr2 (passes_call (takes_of rfl rfl rfl rfl) fun _ _ _ _ h => h) (pv 0) (pa_cons (pv 1) pa_nil))))))
      (pss_one (ps_ret (pe_and (pe_cmpR op_notN (pv 2) pe_non (nomark _)) (pe_one (pe_cmpR (op_eqD (hu64 hr)) (pv 2) (pe_lamcall (T := T) (TT := TSpot K) (k := 7) rfl gm gk glk gcd gb scSpo rfl (Or.inl rfl) (spot_gives EA IX) TB rfl hT uT (hr.mono (by decide)) (lamS_by (sc := defScope (tops 83)) (by decide +kernel)) rfl (fun _ _ _ _ _ => rfl) (fun A2 outer2 s2 H2 E2 f2 c2 hr2 => (pe_cg Fpc (hr2.mono (by decide)) (passes_call (takes_of rfl rfl rfl rfl) fun _ _ _ _ h => h) rfl (pa_cons (pv 1) pa_nil)))) (nomark _))))))), ?_⟩
    refine ⟨tb, fun H1 e1 tb1 Q1 _ => ?_⟩
    have b1 : ButT [] H H1 := ButT.ext e1
    refine load_odd (S.same' b1) pl (od.butT b1) rfl rfl fun d H2 s2 hd => ⟨rfl, d, r, cc, rfl, hd, fun p hp => ?_⟩
    have s3 := s2.trans (Same.new (o := .tup [.int r, .int cc]) hp)
    have hp3 : (upd H2 p (.tup [.int r, .int cc])) p = some (.tup [.int r, .int cc]) := upd_same
    generalize upd H2 p (.tup [.int r, .int cc]) = H3 at s3 hp3 ⊢
    have tb3 := tb1.ext s3
    have b3 : ButT [] H H3 := b1.trans (ButT.same s3)
    refine ⟨_, rfl, rfl, _, rfl, iteT ?_⟩
    refine ⟨_, rfl, tb3, fun H4 e4 tb4 Q4 _ => ?_⟩
    have b4 : ButT [] H H4 := b3.trans (ButT.ext e4)
    refine ⟨_, rfl, (od.butT b4).reads fun d5 H5 s5 hd5 => ⟨rfl, d5, r, cc, rfl, hd5, fun p2 hp2 => ?_⟩⟩
    have s6 := s5.trans (Same.new (o := .tup [.int r, .int cc]) hp2)
    have hp6 := s6 _ _ (e4 _ _ hp3 (fun _ z => by cases z))
    refine ⟨.tuple [.int r, .int cc], .tuple [.int r, .int cc], .tup (SqT.of hp6) (.cons (.int _) (.cons (.int _) .nil)), .tup (SqT.of upd_same) (.cons (.int _) (.cons (.int _) .nil)), sh_int2 r cc, sh_int2 r cc, ?_⟩
    rw [int2_eqv]
    exact k _ (b4.trans (ButT.same s6)) (tb4.ext s6)
end
end TF
end
section
set_option maxHeartbeats 4000000
namespace TF
open PySem PySem.Spec PyProof.Rows L2 TL StX LamX
/-! ### a product of two good cells is good -/
theorem emod_of {x N c q : Int} (h : x = c + N * q) (c0 : 0 ≤ c) (c1 : c < N) : x % N = c := by
  rw [h, Int.add_mul_emod_self_left]
  exact Int.emod_eq_of_lt c0 c1
theorem ediv_of {x N c q : Int} (h : x = c + N * q) (c0 : 0 ≤ c) (c1 : c < N) : x / N = q := by
  rw [h, Int.add_mul_ediv_left _ _ (by omega), Int.ediv_eq_zero_of_lt c0 c1]
  omega
theorem servP_of {N most low mid r : Nat} {c : Int} (hl : low < mid) (h : 2 * (mid : Int) - low = (r : Int) + N * c) (hr : r < N) (hc : c = 0 ∨ r < most) : servP N most low mid r := by
  have e1 := emod_of h (by omega) (by omega)
  have e2 := ediv_of h (by omega) (by omega)
  refine ⟨hl, ?_, e1.symm⟩
  rw [e1, e2]
  rcases hc with hc | hc
  · exact .inl hc
  · exact .inr (by omega)
theorem servP_to {N most low mid r : Nat} (h : servP N most low mid r) : low < mid ∧ ∃ c : Int, 2 * (mid : Int) - low = (r : Int) + N * c ∧ (c = 0 ∨ r < most) := by
  obtain ⟨h1, h2, h3⟩ := h
  refine ⟨h1, (2 * (mid : Int) - low) / N, ?_, ?_⟩
  · rw [h3]
    have := Int.emod_add_mul_ediv (2 * (mid : Int) - low) N
    omega
  · rcases h2 with h2 | h2
    · exact .inl h2
    · rw [← h3] at h2
      exact .inr (by omega)
theorem mem_join {a b : LC} {x : Nat} : x ∈ (joinL2 a b).2 ↔ ∃ n ∈ a.2, ∃ f ∈ b.2, x = n + a.1 * f := by
  show x ∈ (b.2.flatMap fun far => a.2.map fun near => near + a.1 * far) ↔ _
  constructor
  · intro h
    obtain ⟨f, hf, h⟩ := List.mem_flatMap.mp h
    obtain ⟨n, hn, rfl⟩ := List.mem_map.mp h
    exact ⟨n, hn, f, hf, rfl⟩
  · rintro ⟨n, hn, f, hf, rfl⟩
    exact List.mem_flatMap.mpr ⟨f, hf, List.mem_map.mpr ⟨n, hn, rfl⟩⟩
theorem max_of : ∀ {l : List Nat}, l ≠ [] → ∃ m ∈ l, ∀ y ∈ l, y ≤ m
  | [x], _ => ⟨x, List.mem_cons_self .., fun y hy => by rw [List.mem_singleton.mp hy]; exact Nat.le_refl _⟩
  | x :: y :: r, _ => by
    obtain ⟨m, hm, k⟩ := max_of (l := y :: r) (by simp)
    by_cases h : x ≤ m
    · refine ⟨m, List.mem_cons_of_mem _ hm, fun z hz => ?_⟩
      rcases List.mem_cons.mp hz with rfl | hz
      · exact h
      · exact k z hz
    · refine ⟨x, List.mem_cons_self .., fun z hz => ?_⟩
      rcases List.mem_cons.mp hz with rfl | hz
      · exact Nat.le_refl _
      · have := k z hz
        omega
theorem free_join {a b : LC} (ha : Free a.1 a.2) (hb : Free b.1 b.2) (la : ∀ m ∈ a.2, m < a.1) (lb : ∀ m ∈ b.2, m < b.1) : Free (joinL2 a b).1 (joinL2 a b).2 := by
  obtain ⟨A, as⟩ := a
  obtain ⟨B, bs⟩ := b
  dsimp only at ha hb la lb
  intro low hlow mid hmid
  obtain ⟨n0, hn0, f0, hf0, rfl⟩ := mem_join.mp hlow
  obtain ⟨n1, hn1, f1, hf1, rfl⟩ := mem_join.mp hmid
  dsimp only at *
  by_cases h : ∃ m ∈ (joinL2 (A, as) (B, bs)).2, (m : Int) = (2 * ((n1 + A * f1 : Nat) : Int) - ((n0 + A * f0 : Nat) : Int)) % ((joinL2 (A, as) (B, bs)).1 : Nat)
  · refine .inl ?_
    obtain ⟨m, hm, e⟩ := h
    obtain ⟨n2, hn2, f2, hf2, rfl⟩ := mem_join.mp hm
    dsimp only at *
    have a0 := la n0 hn0
    have a1 := la n1 hn1
    have a2 := la n2 hn2
    have b0 := lb f0 hf0
    have b1 := lb f1 hf1
    have b2 := lb f2 hf2
    have key := Int.emod_add_mul_ediv (2 * ((n1 + A * f1 : Nat) : Int) - ((n0 + A * f0 : Nat) : Int)) ((joinL2 (A, as) (B, bs)).1 : Nat)
    rw [← e, show ((joinL2 (A, as) (B, bs)).1 : Nat) = A * B from rfl] at key
    generalize (2 * ((n1 + A * f1 : Nat) : Int) - ((n0 + A * f0 : Nat) : Int)) / ((A * B : Nat) : Int) = q at key
    have k1 : (2 * (n1 : Int) - n0) = n2 + A * (B * q + f2 + f0 - 2 * f1) := by
      have e1 : (A : Int) * (B * q + f2 + f0 - 2 * f1) = (A : Int) * B * q + A * f2 + A * f0 - 2 * (A * f1) := by
        rw [Int.mul_sub, Int.mul_add, Int.mul_add, ← Int.mul_assoc, Int.mul_left_comm]
      rw [e1]
      simp only [Int.natCast_add, Int.natCast_mul] at key
      omega
    have m1 := emod_of k1 (by omega) (by omega)
    have en : n0 = n1 := (ha n0 hn0 n1 hn1).elim id fun z => (z ⟨n2, hn2, m1.symm⟩).elim
    subst en
    have z : (B : Int) * q + f2 + f0 - 2 * f1 = 0 := by
      have l1 : (A : Int) * (B * q + f2 + f0 - 2 * f1) < A * 1 := by omega
      have l2 : (A : Int) * (-1) < A * (B * q + f2 + f0 - 2 * f1) := by omega
      have h1 := Int.lt_of_mul_lt_mul_left l1 (by omega)
      have h2 := Int.lt_of_mul_lt_mul_left l2 (by omega)
      omega
    have k2 : (2 * (f1 : Int) - f0) = f2 + B * q := by omega
    have m2 := emod_of k2 (by omega) (by omega)
    have ef : f0 = f1 := (hb f0 hf0 f1 hf1).elim id fun z => (z ⟨f2, hf2, m2.symm⟩).elim
    rw [ef]
  · exact .inr h
theorem served_join {a b : LC} (ha : Served a.1 a.2) (hb : Served b.1 b.2) (la : ∀ m ∈ a.2, m < a.1) (lb : ∀ m ∈ b.2, m < b.1) (na : a.2 ≠ []) (nb : b.2 ≠ []) : Served (joinL2 a b).1 (joinL2 a b).2 := by
  obtain ⟨A, as⟩ := a
  obtain ⟨B, bs⟩ := b
  dsimp only at ha hb la lb na nb
  obtain ⟨ma, hma, ka⟩ := max_of na
  obtain ⟨mb, hmb, kb⟩ := max_of nb
  intro most hmost kmost r hr
  have lm : ma + A * mb ≤ most := kmost _ (mem_join.mpr ⟨ma, hma, mb, hmb, rfl⟩)
  have A0 : 0 < A := Nat.lt_of_le_of_lt (Nat.zero_le _) (la ma hma)
  have B0 : 0 < B := Nat.lt_of_le_of_lt (Nat.zero_le _) (lb mb hmb)
  -- the two digits of r
  obtain ⟨r1, r2, l1, l2, er⟩ : ∃ r1 r2 : Nat, r1 < A ∧ r2 < B ∧ r = r1 + A * r2 := by
    refine ⟨r % A, r / A, Nat.mod_lt _ A0, ?_, (Nat.mod_add_div r A).symm⟩
    exact Nat.div_lt_of_lt_mul hr
  subst er
  have cast2 : ∀ x y : Nat, (((x + A * y : Nat)) : Int) = x + A * y := fun x y => by rw [Int.natCast_add, Int.natCast_mul]
  have lowmid : ∀ {x y u v : Nat}, x < A → (u < v) → x + A * u < y + A * v := fun {x y u v} hx huv => by
    have : A * (u + 1) ≤ A * v := Nat.mul_le_mul_left _ huv
    rw [Nat.mul_succ] at this
    omega
  -- a pair that serves
  have give : ∀ {x u y v : Nat} (c : Int), x ∈ as → y ∈ as → u ∈ bs → v ∈ bs → x + A * u < y + A * v → 2 * ((y : Int) + A * v) - (x + A * u) = (r1 : Int) + A * r2 + (A * B : Int) * c → (c = 0 ∨ r1 + A * r2 < most) →
      (∃ m ∈ (joinL2 (A, as) (B, bs)).2, m = r1 + A * r2) ∨ ∃ low ∈ (joinL2 (A, as) (B, bs)).2, ∃ mid ∈ (joinL2 (A, as) (B, bs)).2, servP (joinL2 (A, as) (B, bs)).1 most low mid ((r1 + A * r2 : Nat) : Int) := fun {x u y v} c hx hy hu hv hl e hc =>
    .inr ⟨x + A * u, mem_join.mpr ⟨x, hx, u, hu, rfl⟩, y + A * v, mem_join.mpr ⟨y, hy, v, hv, rfl⟩, servP_of (c := c) hl (by
      rw [cast2, cast2, cast2, show (((joinL2 (A, as) (B, bs)).1 : Nat) : Int) = (A * B : Int) from Int.natCast_mul A B]
      exact e) hr hc⟩
  have below : ∀ {t : Nat}, t < mb → r1 + A * t < most := fun {t} ht => by
    have : A * (t + 1) ≤ A * mb := Nat.mul_le_mul_left _ ht
    rw [Nat.mul_succ] at this
    omega
  rcases ha ma hma ka r1 l1 with ⟨m1, hm1, e1⟩ | ⟨x, hx, y, hy, sv⟩
  · subst e1
    rcases hb mb hmb kb r2 l2 with ⟨m2, hm2, e2⟩ | ⟨u, hu, v, hv, sv⟩
    · subst e2
      exact .inl ⟨_, mem_join.mpr ⟨_, hm1, _, hm2, rfl⟩, rfl⟩
    · obtain ⟨huv, c, e, hc⟩ := servP_to sv
      refine give c hm1 hm1 hu hv (lowmid l1 huv) ?_ (hc.imp id below)
      have : (A : Int) * (2 * v - u) = A * (r2 + B * c) := by rw [e]
      rw [Int.mul_sub, Int.mul_add, ← Int.mul_assoc (A : Int) B c, Int.mul_left_comm] at this
      omega
  · obtain ⟨hxy, c1, e1, hc1⟩ := servP_to sv
    have ax := la x hx
    have ay := la y hy
    have c01 : c1 = 0 ∨ c1 = 1 := by
      have g1 : (A : Int) * (-1) < A * c1 := by omega
      have g2 : (A : Int) * c1 < A * 2 := by omega
      have h1 := Int.lt_of_mul_lt_mul_left g1 (by omega)
      have h2 := Int.lt_of_mul_lt_mul_left g2 (by omega)
      omega
    rcases c01 with rfl | rfl
    · rcases hb mb hmb kb r2 l2 with ⟨m2, hm2, e2⟩ | ⟨u, hu, v, hv, sv2⟩
      · subst e2
        exact give 0 hx hy hm2 hm2 (by omega) (by omega) (.inl rfl)
      · obtain ⟨huv, c, e, hc⟩ := servP_to sv2
        refine give c hx hy hu hv (lowmid ax huv) ?_ (hc.imp id below)
        have : (A : Int) * (2 * v - u) = A * (r2 + B * c) := by rw [e]
        rw [Int.mul_sub, Int.mul_add, ← Int.mul_assoc (A : Int) B c, Int.mul_left_comm] at this
        omega
    · have r1m : r1 < ma := hc1.elim (fun z => by omega) id
      cases r2 with
      | zero =>
        -- the carry goes round
        have rl : r1 + A * 0 < most := by omega
        rcases hb mb hmb kb (B - 1) (by omega) with ⟨m2, hm2, e2⟩ | ⟨u, hu, v, hv, sv2⟩
        · refine give 1 hx hy hm2 hm2 (by omega) ?_ (.inr rl)
          have eB : (A : Int) * (m2 + 1) = A * B := by
            rw [show ((m2 : Int) + 1) = B by omega]
          rw [Int.mul_add] at eB
          omega
        · obtain ⟨huv, c, e, hc⟩ := servP_to sv2
          refine give (1 + c) hx hy hu hv (lowmid ax huv) ?_ (.inr rl)
          have e2 : (2 * (v : Int) - u) = B * (1 + c) - 1 := by
            rw [Int.mul_add]
            omega
          have : (A : Int) * (2 * v - u) = A * (B * (1 + c) - 1) := by rw [e2]
          rw [Int.mul_sub, Int.mul_sub, ← Int.mul_assoc (A : Int) B (1 + c), Int.mul_left_comm] at this
          omega
      | succ t =>
        have eS : (A : Int) * ((t + 1 : Nat) : Int) = A * t + A := by rw [Int.natCast_add, Int.mul_add]; omega
        rcases hb mb hmb kb t (by omega) with ⟨m2, hm2, e2⟩ | ⟨u, hu, v, hv, sv2⟩
        · subst e2
          exact give 0 hx hy hm2 hm2 (by omega) (by omega) (.inl rfl)
        · obtain ⟨huv, c, e, hc⟩ := servP_to sv2
          refine give c hx hy hu hv (lowmid ax huv) ?_ (hc.imp id fun ht => ?_)
          · have : (A : Int) * (2 * v - u) = A * (t + B * c) := by rw [e]
            rw [Int.mul_sub, Int.mul_add, ← Int.mul_assoc (A : Int) B c, Int.mul_left_comm] at this
            omega
          · have : A * (t + 1) ≤ A * mb := Nat.mul_le_mul_left _ ht
            omega
/-- the members rise -/
theorem up_pair {l : List Nat} : l.Pairwise (· < ·) → ∀ i x y, l[i]? = some x → l[i + 1]? = some y → x < y := fun h i x y h1 h2 => by
  obtain ⟨i1, e1⟩ := List.getElem?_eq_some_iff.mp h1
  obtain ⟨i2, e2⟩ := List.getElem?_eq_some_iff.mp h2
  rw [← e1, ← e2]
  exact List.pairwise_iff_getElem.mp h i (i + 1) i1 i2 (by omega)
theorem pair_join {A : Nat} {as : List Nat} (la : ∀ m ∈ as, m < A) (ra : as.Pairwise (· < ·)) : ∀ {bs : List Nat}, bs.Pairwise (· < ·) → (bs.flatMap fun far => as.map fun near => near + A * far).Pairwise (· < ·)
  | [], _ => .nil
  | f :: r, h => by
    obtain ⟨h1, h2⟩ := List.pairwise_cons.mp h
    rw [List.flatMap_cons]
    refine List.pairwise_append.mpr ⟨?_, pair_join la ra h2, fun x hx y hy => ?_⟩
    · exact List.pairwise_map.mpr (ra.imp fun {a b} z => by omega)
    · obtain ⟨n, hn, rfl⟩ := List.mem_map.mp hx
      obtain ⟨g, hg, hy⟩ := List.mem_flatMap.mp hy
      obtain ⟨n', _, rfl⟩ := List.mem_map.mp hy
      have := h1 g hg
      have l1 := la n hn
      have : A * (f + 1) ≤ A * g := Nat.mul_le_mul_left _ this
      rw [Nat.mul_succ] at this
      omega
/-- what a cell of the law is, whatever its size -/
structure GoodX (c : LC) : Prop where
  n1 : 1 ≤ c.1
  ne : c.2 ≠ []
  lt : ∀ m ∈ c.2, m < c.1
  up : c.2.Pairwise (· < ·)
  fr : Free c.1 c.2
  sv : Served c.1 c.2
theorem GoodX.join {a b : LC} (ha : GoodX a) (hb : GoodX b) : GoodX (joinL2 a b) := by
  refine ⟨Nat.mul_le_mul ha.n1 hb.n1, fun e => ?_, fun m hm => ?_, pair_join ha.lt ha.up hb.up, free_join ha.fr hb.fr ha.lt hb.lt, served_join ha.sv hb.sv ha.lt hb.lt ha.ne hb.ne⟩
  · obtain ⟨x, hx⟩ := List.exists_mem_of_ne_nil _ ha.ne
    obtain ⟨y, hy⟩ := List.exists_mem_of_ne_nil _ hb.ne
    have : x + a.1 * y ∈ (joinL2 a b).2 := mem_join.mpr ⟨x, hx, y, hy, rfl⟩
    rw [e] at this
    cases this
  · obtain ⟨n, hn, f, hf, rfl⟩ := mem_join.mp hm
    have h1 := ha.lt n hn
    have h2 := hb.lt f hf
    show n + a.1 * f < a.1 * b.1
    have : a.1 * (f + 1) ≤ a.1 * b.1 := Nat.mul_le_mul_left _ h2
    rw [Nat.mul_succ] at this
    omega
instance (N : Nat) (ms : List Nat) (low mid : Nat) : Decidable (okPair N ms low mid) := by unfold okPair; infer_instance
instance (N : Nat) (ms : List Nat) : Decidable (Free N ms) := by unfold Free; infer_instance
instance (N most low mid : Nat) (r : Int) : Decidable (servP N most low mid r) := by unfold servP; infer_instance
def servB (N : Nat) (ms : List Nat) : Bool := decide (∀ most ∈ ms, (∀ y ∈ ms, y ≤ most) → ∀ r ∈ List.range N, (∃ m ∈ ms, m = r) ∨ ∃ low ∈ ms, ∃ mid ∈ ms, servP N most low mid (r : Nat))
theorem servB_ok {N : Nat} {ms : List Nat} (h : servB N ms = true) : Served N ms := fun most h1 h2 r hr => of_decide_eq_true h most h1 h2 r (List.mem_range.mpr hr)
theorem pool_goodX : ∀ c ∈ poolL, GoodX c := by
  have h : ∀ c ∈ poolL, 1 ≤ c.1 ∧ c.2 ≠ [] ∧ (∀ m ∈ c.2, m < c.1) ∧ c.2.Pairwise (· < ·) ∧ Free c.1 c.2 ∧ servB c.1 c.2 = true := by decide +kernel
  intro c hc
  obtain ⟨h1, h2, h3, h4, h5, h6⟩ := h c hc
  exact ⟨h1, h2, h3, h4, h5, servB_ok h6⟩
theorem IsLc.goodX {k : Nat} {c : LC} (h : IsLc k c) : GoodX c := by
  induction h with
  | one h => exact pool_goodX _ h
  | join ha hb ih => exact ih.join (pool_goodX _ hb)
theorem IsLc.good {k : Nat} {c : LC} (h : IsLc k c) (hk : k ≤ 2) : Good c.1 c.2 := by
  obtain ⟨h1, h2, h3, h4⟩ := h.small
  have g := h.goodX
  have w1 : (10 : Nat) ^ (k + 1) ≤ 10 ^ 3 := Nat.pow_le_pow_right (by decide) (by omega)
  have w2 : (4 : Nat) ^ (k + 1) ≤ 4 ^ 3 := Nat.pow_le_pow_right (by decide) (by omega)
  have := List.length_pos_iff.mpr g.ne
  exact ⟨⟨h1, by omega, this, by omega, g.lt, up_pair g.up⟩, g.fr, g.sv⟩
theorem LawRows.okR {cs : List Row} (h : LawRows cs) : OkRows cs := h.ok fun k c hk hc => hc.good hk
/-! ### the odd values -/
theorem good01 : Good 3 [0, 1] := IsLc.good (k := 0) (c := (3, [0, 1])) (.one (by decide)) (by decide)
theorem notFree : ¬ Free 4 [0, 1, 2] := by decide +kernel
theorem shape4 : Shape 4 [0, 1, 2] := ⟨by decide, by decide, by decide, by decide, by decide, up_pair (by decide)⟩
theorem odd_empty {H : Hp} : Odd H (.str "") 1 1 := .txt (by decide) fun K H Q E k => .bad [] okRows_nil [""] [] 1 (by decide +kernel) (by decide) (.name (by decide +kernel) (by decide) (by decide)) (by exact k)
theorem odd_name {H : Hp} : Odd H (.str "a") 1 2 := .txt (by decide) fun K H Q E k => .bad [] okRows_nil ["a"] [] 2 (by decide +kernel) (by decide) (.empty (by decide +kernel) (by decide +kernel)) (by exact k)
theorem odd_cell {H : Hp} : Odd H (.str "a 4 : 0 1 2") 1 2 := .txt (by decide +kernel) fun K H Q E k => .bad [] okRows_nil ("a" :: cWords 4 [0, 1, 2]) [] 2 (by decide +kernel) (by decide) (.cell (by decide +kernel) (by decide +kernel) shape4 notFree) (by exact k)
theorem ok_b : OkRows [("b", 3, [0, 1])] := ⟨fun r hr => by rw [List.mem_singleton.mp hr]; decide +kernel, fun r hr => by rw [List.mem_singleton.mp hr]; exact good01, List.pairwise_singleton _ _, by decide⟩
theorem odd_order {H : Hp} : Odd H (.str "b 3 : 0 1\na 3 : 0 1") 2 1 := .txt (by decide +kernel) fun K H Q E k => .bad [("b", 3, [0, 1])] ok_b ("a" :: cWords 3 [0, 1]) [] 1 (by decide +kernel) (by decide) (.order (by decide +kernel) (by decide +kernel)) (by exact k)
theorem odd_dash {H : Hp} : Odd H (.str "- -") 1 2 := .txt (by decide) fun K H Q E k => .dash "-" [] [] (by decide +kernel) k
end TF
end
section
set_option maxHeartbeats 4000000
set_option pp.maxSteps 3000

namespace TF
open PySem PySem.Spec PyProof.Rows L2 TL StX LamX
section
variable {P : Program} {w : World} {K : PySem.W.Frag} {mg : Str → Option Value} {base : Heap}
/-! ### a session of either class, asked -/
section
variable {σ : L2.St} {H : Hp} {s dx h : Addr} {o : Option Addr} {cs cs' : List Row} {ps ps' : List (List Row)} {log : List (Str × Str)} {i : Nat} {Q : VK}
theorem x_text (S : SesX K H s dx h o cs ps log) (hi : σ[i]? = some (some (.ref s))) (k : ∀ H', Same H H' → Q (.str (catText cs)) H') :
    tProp (aSes K) (spTx K (aSes K)) [] E0 (tVar i) σ H Q ∨ tProp (aRec K) (spTx K (aRec K)) [] E0 (tVar i) σ H Q := by
  obtain ⟨⟨d, past, S0, ep⟩, l⟩ := S
  cases o with
  | none => exact .inl ⟨_, hi, s, dx, _, rfl, S0.obj, s, dx, d, h, none, cs, past, rfl, S0, k⟩
  | some e => exact .inr ⟨_, hi, s, dx, _, rfl, S0.obj, s, dx, d, h, some e, cs, past, rfl, S0, k⟩
theorem x_names (S : SesX K H s dx h o cs ps log) (hi : σ[i]? = some (some (.ref s))) (k : ∀ p H', Same H H' → H' p = some (.tup (cs.map fun r => V.str r.1)) → Q (.ref p) H') :
    tProp (aSes K) (spNm K (aSes K)) [] E0 (tVar i) σ H Q ∨ tProp (aRec K) (spNm K (aRec K)) [] E0 (tVar i) σ H Q := by
  obtain ⟨⟨d, past, S0, ep⟩, l⟩ := S
  cases o with
  | none => exact .inl ⟨_, hi, s, dx, _, rfl, S0.obj, s, dx, d, h, none, cs, past, rfl, S0, k⟩
  | some e => exact .inr ⟨_, hi, s, dx, _, rfl, S0.obj, s, dx, d, h, some e, cs, past, rfl, S0, k⟩
abbrev rLenX (C : Addr) (sp : Sp) : List V → Hp → VK → Prop := fun xs H Q => ∃ a dx fs, xs = [.ref a] ∧ H a = some (.ins C dx fs) ∧ sp [.ref a] H (fun v H' => ∃ n : Nat, v = .int n ∧ n < 2 ^ 63 ∧ Q (.int n) H') E0
theorem x_len (S : SesX K H s dx h o cs ps log) (hi : σ[i]? = some (some (.ref s))) (k : Q (.int cs.length) H) :
    tCB (rLenX (aSes K) (spSlen K (aSes K))) (tCons (tVar i) tNil) σ H Q ∨ tCB (rLenX (aRec K) (spSlen K (aRec K))) (tCons (tVar i) tNil) σ H Q := by
  obtain ⟨⟨d, past, S0, ep⟩, l⟩ := S
  have l26 := S0.ok.ln
  have lt : cs.length < 2 ^ 63 := by omega
  cases o with
  | none => exact .inl ⟨_, hi, s, dx, _, rfl, S0.obj, s, dx, d, h, none, cs, past, rfl, S0, _, rfl, lt, k⟩
  | some e => exact .inr ⟨_, hi, s, dx, _, rfl, S0.obj, s, dx, d, h, some e, cs, past, rfl, S0, _, rfl, lt, k⟩
theorem x_lookupK {j : Nat} {r : Row} (S : SesX K H s dx h o cs ps log) (hi : σ[i]? = some (some (.ref s))) (hj : σ[j]? = some (some (.str r.1))) (hr : r ∈ cs) (k : ∀ c, CellAt K H c r.2.1 r.2.2 → Q (.ref c) H) :
    tMethK (aSes K) "lookup" 1 ["name"] (· ++ ·) (spLk K (aSes K)) E0 (tVar i) tNil (tCons (tVar j) tNil) σ H Q ∨ tMethK (aRec K) "lookup" 1 ["name"] (· ++ ·) (spLk K (aRec K)) E0 (tVar i) tNil (tCons (tVar j) tNil) σ H Q := by
  obtain ⟨⟨d, past, S0, ep⟩, l⟩ := S
  cases o with
  | none => exact .inl ⟨_, hi, s, dx, _, rfl, S0.obj, rfl, _, hj, rfl, rfl, s, dx, d, h, none, cs, past, r, rfl, S0, hr, k⟩
  | some e => exact .inr ⟨_, hi, s, dx, _, rfl, S0.obj, rfl, _, hj, rfl, rfl, s, dx, d, h, some e, cs, past, r, rfl, S0, hr, k⟩
/-- a command is carried out -/
theorem x_exe {c : Cmd} {ans : Str} {t : TA} (S : SesX K H s dx h o cs ps log) (hi : σ[i]? = some (some (.ref s))) (ht : ∀ R : List V → Hp → Prop, R [.str c.str] H → t σ H R) (pl : ps.length ≤ 1000) (ll : log.length ≤ 100000) (st : Step cs ps c ans cs' ps')
    (k : ∀ H', ButL (mutd s h o) H H' → SesX K H' s dx h o cs' ps' (log ++ [(c.str, ans)]) → Q (.str ans) H') :
    tMeth (aSes K) "execute" (spExe K (aSes K) (spOut K (aSes K))) [] E0 (tVar i) t σ H Q ∨ tMeth (aRec K) "execute" (spExe K (aRec K) (spRo K)) [] E0 (tVar i) t σ H Q := by
  obtain ⟨SR, l⟩ := S
  obtain ⟨d, past, S0, ep⟩ := id SR
  cases o with
  | none =>
    refine .inl ⟨_, hi, s, dx, _, rfl, S0.obj, rfl, ht _ ⟨?_, rfl, s, dx, _, rfl, S0.obj, rfl⟩⟩
    exact ⟨s, dx, h, none, cs, cs', ps, ps', c, ans, rfl, SR, pl, st, fun p b H' n bb S' hp => ⟨p, ans, b, rfl, hp, k H' bb ⟨S', fun _ e => nomatch e⟩⟩⟩
  | some e =>
    refine .inr ⟨_, hi, s, dx, _, rfl, S0.obj, rfl, ht _ ⟨?_, rfl, s, dx, _, rfl, S0.obj, rfl⟩⟩
    exact ⟨s, dx, h, e, cs, cs', ps, ps', c, ans, log, rfl, SR, l e rfl, ll, pl, st, fun p b H' n bb S' R' hp => ⟨p, ans, b, rfl, hp, k H' bb ⟨S', fun a q => by cases q; exact R'⟩⟩⟩
end
/-! ### _law_is_so -/
theorem SesX.there (S : SesX K H s dx h o cs ps log) {a : Addr} (m : a ∈ mutd s h o) (e : H a = none) : False := by
  obtain ⟨⟨d, past, S0, _⟩, l⟩ := S
  rcases List.mem_append.mp m with m | m
  · rcases List.mem_cons.mp m with rfl | m
    · rw [S0.obj] at e
      cases e
    · rw [List.mem_singleton.mp m, S0.hs] at e
      cases e
  · obtain ⟨_, xs, hx⟩ := S0.en a (Option.mem_toList.mp m)
    rw [hx] at e
    cases e
theorem cut_from {a b : Str} {i : Int} (hi : i = a.length) : cutS (a ++ b) (some i) none = b := by
  subst hi
  unfold cutS
  rw [HT.sIx_nat, HT.sIx_none, len_tl a, len_tl (a ++ b), tl_append, List.length_append, Nat.min_eq_left (Nat.le_add_right _ _)]
  show (⟨((tl (a ++ b)).drop _ |>.take _).toArray⟩ : Str) = b
  rw [tl_append, List.drop_left, Nat.add_sub_cancel_left, List.take_length]
theorem cut_line {r : Row} : cutS (lineOf r) (some ((r.1.length : Nat) + 1)) none = cellText r.2.1 r.2.2 := by
  rw [line_eq]
  refine cut_from ?_
  rw [len_tl, len_tl, tl_append, List.length_append]
  show _ = (((tl r.1).length + 1 : Nat) : Int)
  omega
theorem sho_str {r : Row} : Cmd.str (.sho r) = "show " ++ r.1 := by
  show Txt.join " " ["show", r.1] = _
  rw [join_eq]
  show "show" ++ " " ++ r.1 = _
  congr 1
theorem line_split {r : Row} (h : nameOk r.1 = true) : Txt.split (lineOf r) " " = rowWords r := split_sp (List.cons_ne_nil _ _) (row_free h (by decide))
/-- what the asking leaves in a log -/
def shows (cs : List Row) : List (Str × Str) := cs.map fun r => (Cmd.str (.sho r), cellText r.2.1 r.2.2)
def spIs (K : PySem.W.Frag) : Sp := fun vs H Q _ => ∃ (s dx h p : Addr) (o : Option Addr) (cs : List Row) (ps : List (List Row)) (log : List (Str × Str)), vs = [.ref s, .ref p] ∧ SesX K H s dx h o cs ps log ∧ ps.length ≤ 1000 ∧ log.length ≤ 99000 ∧ LnAt H p cs ∧ p ∉ mutd s h o ∧
  ∀ H', ButL (mutd s h o) H H' → SesX K H' s dx h o cs ps (log ++ shows cs) → Q (.bl true) H'
theorem scIs : FnScope ["_law_session", "_law_lines_here", "_law_names", "_law_line", "_law_label", "_law_due"] ["_law_session", "_law_lines_here"] (defScope (tops 84)) := ⟨rfl, rfl, rfl, by decide +kernel, rfl, by decide +kernel, by decide +kernel⟩
theorem ok_is (G : GDef K mg "_law_is_so" (tops 84)) (T : TxtA K mg) (SC : SesC K (aSes K)) (RC : RecC K) (Fte : GOk P w K mg base CX0 1 "_law_text" spTe) (Ftx1 : POk P w K mg base CX0 5 (aSes K) "text" (spTx K (aSes K))) (Ftx2 : POk P w K mg base CX0 5 (aRec K) "text" (spTx K (aRec K)))
    (Fnm1 : POk P w K mg base CX0 1 (aSes K) "names" (spNm K (aSes K))) (Fnm2 : POk P w K mg base CX0 1 (aRec K) "names" (spNm K (aRec K))) (Fln1 : MOk P w K mg base CX0 1 (aSes K) "__len__" (spSlen K (aSes K))) (Fln2 : MOk P w K mg base CX0 1 (aRec K) "__len__" (spSlen K (aRec K)))
    (Flk1 : MKOk P w K mg base CX0 1 (aSes K) "lookup" 1 ["name"] (· ++ ·) (spLk K (aSes K))) (Flk2 : MKOk P w K mg base CX0 1 (aRec K) "lookup" 1 ["name"] (· ++ ·) (spLk K (aRec K))) (Fst : MOk P w K mg base CX0 1 (aCell K) "__str__" (spCStr K))
    (Fex1 : MOk P w K mg base CX0 11 (aSes K) "execute" (spExe K (aSes K) (spOut K (aSes K)))) (Fex2 : MOk P w K mg base CX0 11 (aRec K) "execute" (spExe K (aRec K) (spRo K))) : GOk P w K mg base CX0 12 "_law_is_so" (spIs K) := by
  refine G.ok scIs (fun vs H Q E h => ?_) (fun _ _ _ _ _ _ us hl => match us, hl with | [_, _], _ => rfl) (fun f cdv A outer s H vs Q E hr h => ?_)
  · obtain ⟨_, _, _, _, _, _, _, _, rfl, _⟩ := h
    rfl
  · obtain ⟨s0, dx, h, p, o, cs, ps, log, rfl, S, pl, ll, hp, np, k⟩ := h
    refine ⟨_, (pss_cons (ps_setLc (i := 2) (own := [("_law_line", 3)]) (g := gName 3) rfl scIs.nd rfl rfl (sw_true rfl rfl rfl (by decide +kernel)) (pi_list (pv 1)) (blkOk_by (N := ["_law_session", "_law_lines_here", "_law_names", "_law_line", "_law_label", "_law_due"]) (sc := (defScope (tops 84))) (by decide +kernel)) (fun _ _ _ _ _ => (pg_name (i := 3) scIs.nd rfl (Or.inl rfl))) (fun _ _ _ _ _ => pts_nil) (fun _ _ _ _ _ => (pe_ix (show IxR _ (rIxL K) from ix_list) (pe_split (pv 3) pe_str) pe_int (fun _ _ => rfl))))
      (pss_cons (ps_if (PW.pt (pw_or (pt_cmpR op_ne (pe_or (pe_cp Ftx1 SC.cl (hr.mono (by decide)) pass0 (pv 0)) (pe_cp Ftx2 RC.cl (hr.mono (by decide)) pass0 (pv 0))) (pe_cg Fte (hr.mono (by decide)) pass0 rfl (pa_cons (pv 1) pa_nil)) (nomark _)) (pw_or (pt_cmpR (op_neD (hu64 hr)) (pe_or (pe_cp Fnm1 SC.cl (hr.mono (by decide)) pass0 (pv 0)) (pe_cp Fnm2 RC.cl (hr.mono (by decide)) pass0 (pv 0))) (pe_callTy call_tuple_of (by rfl) T.z_tuple (by decide +kernel) (pa_cons (pv 2) pa_nil)) (nomark _)) (pw_or1 (pt_cmpR op_ne (pe_or (pe_callB (call_lenOwn Fln1 (hr.mono (by decide)) pass0) (by rfl) T.z_len (by decide +kernel) (pa_cons (pv 0) pa_nil)) (pe_callB (call_lenOwn Fln2 (hr.mono (by decide)) pass0) (by rfl) T.z_len (by decide +kernel) (pa_cons (pv 0) pa_nil))) (pe_callB call_len_seq (by rfl) T.z_len (by decide +kernel) (pa_cons (pv 2) pa_nil)) (nomark _)))))) (pss_one (ps_ret pe_bl)) pss_nil)
      (pss_cons (ps_for PassesOwn.never rfl (pi_zip (by rfl) T.z_zip (pa_cons (pv 1) (pa_cons (pv 2) pa_nil))) (pg_tup rfl (pgs_cons (pg_name (i := 3) scIs.nd rfl (Or.inl rfl)) (pgs_cons (pg_name (i := 4) scIs.nd rfl (Or.inl rfl)) pgs_nil))) (pss_cons (ps_set (i := 5) scIs.nd rfl (Or.inl rfl) (pe_slice sl_str (pv 3) (po_some (pe_op op_add (pe_callB call_len (by rfl) T.z_len (by decide +kernel) (pa_cons (pv 4) pa_nil)) pe_int)) po_none))
      (pss_one (ps_if (PW.pt (pw_or (pt_cmpR op_ne (pe_callTy (call_strOwn Fst (hr.mono (by decide)) pass0) (by rfl) T.z_str (by decide +kernel) (pa_cons (pe_or (pe_cmK0 Flk1 SC.cl (hr.mono (by decide)) pass0 (pv 0) (pk_cons (pv 4) pk_nil)) (pe_cmK0 Flk2 RC.cl (hr.mono (by decide)) pass0 (pv 0) (pk_cons (pv 4) pk_nil))) pa_nil)) (pv 5) (nomark _)) (pw_or1 (pt_cmpR op_ne (pe_or (pe_cm Fex1 SC.cl (hr.mono (by decide)) pass0 (pv 0) (pa_cons (pe_op op_add_str pe_str (pv 4)) pa_nil)) (pe_cm Fex2 RC.cl (hr.mono (by decide)) pass0 (pv 0) (pa_cons (pe_op op_add_str pe_str (pv 4)) pa_nil))) (pv 5) (nomark _))))) (pss_one (ps_ret pe_bl)) pss_nil))))
      (pss_one (ps_ret pe_bl))))), ?_⟩
    obtain ⟨⟨d0, past0, S00, _⟩, _⟩ := id S
    have ok := S00.ok
    refine ⟨_, rfl, p, rfl, ⟨_, SqL.of hp⟩, fun D hD => ?_⟩
    refine lc_map walk_list hD (cs.map fun r => V.str r.1) (by rw [List.length_map, List.length_map]) (by rw [List.length_map]; have := ok.ln; omega) (fun H2 s2 => SqL.of (s2 _ _ hp)) (fun i x y H2 H3 hy s2 yy => ?_) (fun H1 s1 hD1 => ?_)
    · obtain ⟨rfl, hx⟩ := yy
      rw [List.getElem?_map, Option.map_eq_some_iff] at hx hy
      obtain ⟨r, hr1, rfl⟩ := hx
      obtain ⟨r', hr2, rfl⟩ := hy
      rw [hr1] at hr2
      cases hr2
      have hm := List.mem_of_getElem? hr1
      refine ⟨Same.refl _, fun R hR => ⟨_, rfl, ⟨_, rfl⟩, lineOf r, " ", rfl, rfl, rfl, by have := line_len (ok.nm r hm) (ok.gd r hm).sh; rw [sizeLine_eq]; omega, fun q hq => ?_⟩⟩
      rw [line_split (ok.nm r hm)]
      exact ⟨q, _, 0, .str r.1, rfl, rfl, SqL.of upd_same, at0, hR _ (Same.new hq)⟩
    have S1 := S.same s1
    have nD : D ∉ mutd s0 h o := fun m => S.there m hD
    have hp1 : LnAt H1 p cs := s1 _ _ hp
    have eN : (cs.map fun r => V.str r.1) = (cs.map (·.1)).map V.str := by rw [List.map_map]; rfl
    have low : ∀ z ∈ cs.map (·.1), PyData.strOk z = true := fun z hz => by
      obtain ⟨r, hr1, rfl⟩ := List.mem_map.mp hz
      exact str_ok (name_low (ok.nm r hr1))
    refine x_text S1 rfl fun H2 s2 => ⟨_, rfl, p, cs, rfl, s2 _ _ hp1, ok, fun H3 s3 => ⟨rfl, _, rfl, iteFr (by rw [decide_eq_true rfl]; rfl) ?_⟩⟩
    have e3 := s2.trans s3
    refine x_names (S1.same e3) rfl fun q H4 s4 hq => ⟨_, rfl, D, _, rfl, .inl ⟨SqL.of (s4 _ _ (e3 _ _ hD1)), fun l hl => ?_⟩⟩
    have e5 := (e3.trans s4).trans (Same.new (o := .tup (cs.map fun r => V.str r.1)) hl)
    rw [eN] at hq ⊢
    refine ⟨.tuple ((cs.map (·.1)).map PyData.str), .tuple ((cs.map (·.1)).map PyData.str), .tup (SqT.of ((Same.new hl) _ _ hq)) (dpStrs _), .tup (SqT.of upd_same) (dpStrs _), sh_strsT low, sh_strsT low, _, rfl, iteFr (by rw [strs_eqvT, decide_eq_true rfl]; rfl) ?_⟩
    rw [← eN]
    generalize upd H4 l (.tup (cs.map fun r => V.str r.1)) = H5 at e5 ⊢
    refine x_len (S1.same e5) rfl ⟨_, rfl, D, _, rfl, .inl (SqL.of (e5 _ _ hD1)), rfl, _, rfl, iteFr (by rw [List.length_map, decide_eq_true rfl]; rfl) ?_⟩
    have e6 := s1.trans e5
    have hD6 := e5 _ _ hD1
    have hp6 : LnAt H5 p cs := e5 _ _ hp1
    let Pv : Nat → L2.St → Hp → Prop := fun i σ' H' => ButL (mutd s0 h o) H5 H' ∧ SesX K H' s0 dx h o cs ps (log ++ shows (cs.take i)) ∧ ∃ x y z, σ' = [some (.ref s0), some (.ref p), some (.ref D), x, y, z]
    refine ⟨_, rfl, _, rfl, p, D, _, _, rfl, SqL.of hp6, SqL.of hD6, for_it (walk_zip (n := cs.length) (by rw [List.length_map, List.length_map, Nat.min_self])) Pv ⟨ButL.of (Same.refl _), by rw [List.take_zero]; show SesX K H5 s0 dx h o cs ps (log ++ []); rw [List.append_nil]; exact S1.same e5, _, _, _, rfl⟩ (fun i σ' H' _ pv => ⟨SqL.of (pv.1 _ _ np hp6), SqL.of (pv.1 _ _ nD hD6)⟩) (fun i x σ' H' H'' hi pv y => ?_) (fun σ' H' pv => ?_)⟩
    · obtain ⟨b1, S6, y1, y2, y3, rfl⟩ := pv
      obtain ⟨T1, x1, x2, rfl, hT1, rfl, e1, e2⟩ := y
      dsimp only at e1 e2
      rw [List.getElem?_map, Option.map_eq_some_iff] at e1 e2
      obtain ⟨r, hr1, rfl⟩ := e1
      obtain ⟨r', hr2, rfl⟩ := e2
      rw [hr1] at hr2
      cases hr2
      have hm := List.mem_of_getElem? hr1
      have nk := ok.nm r hm
      have ln := line_len nk (ok.gd r hm).sh
      have l8 := name_len nk
      refine g_pair upd_same ?_
      have s7 := (Same.new (o := .tup [.str (lineOf r), .str r.1]) hT1)
      generalize upd H' T1 (.tup [.str (lineOf r), .str r.1]) = H7 at s7 ⊢
      have S7 := S6.same s7
      refine ⟨_, rfl, _, rfl, _, _, rfl, ⟨by rw [sizeLine_eq]; omega, rfl⟩, _, _, rfl, rfl, _, rfl, _, rfl, by rw [sizeLine_eq]; omega, ?_⟩
      rw [cut_line]
      refine x_lookupK S7 rfl rfl hm fun c hc => ?_
      obtain ⟨cx, t1, t2, t3, hc1, hc2⟩ := id hc
      refine ⟨c, cx, _, rfl, hc1, c, r.2.1, r.2.2, rfl, hc, (ok.gd r hm).sh, fun H8 s8 => ⟨_, rfl, _, rfl, rfl, _, rfl, iteFr (by rw [decide_eq_true rfl]; rfl) ?_⟩⟩
      refine x_exe (c := .sho r) (S7.same s8) rfl (fun R hR => ⟨_, rfl, _, _, rfl, rfl, by rw [sizeLine_eq, show Str.length "show " = 5 by decide]; omega, by rw [← sho_str]; exact hR⟩) pl ?_ (.sho hm) fun H9 b9 S9 => ?_
      · have := ok.ln
        rw [List.length_append, shows, List.length_map, List.length_take]
        omega
      · refine ⟨_, rfl, rfl, _, rfl, iteFr (by rw [decide_eq_true rfl]; rfl) ?_⟩
        refine ⟨fun b u n hb => b9 b u n (s8 b u (s7 b u (b1 b u n hb))), ?_, _, _, _, rfl⟩
        rw [List.take_succ, hr1]
        show SesX K H9 s0 dx h o cs ps (log ++ shows (cs.take i ++ [r]))
        rw [shows, List.map_append, ← List.append_assoc]
        exact S9
    · obtain ⟨b1, S6, y1, y2, y3, rfl⟩ := pv
      rw [List.take_length] at S6
      exact k H' (fun b u n hb => b1 b u n (e6 b u hb)) S6
end
end TF
end
section
set_option maxHeartbeats 4000000
namespace TF
open PySem PySem.Spec PyProof.Rows L2 TL StX LamX
/-! ### rows with one put among them -/
def isA (z : Str) : Bool := decide (z = "a")
def isB (z : Str) : Bool := decide (z = "b")
def isAB (z : Str) : Bool := !isA z && !isB z
def putB (cs : List Row) (r : Row) : List Row := cs.filter (fun x => isA x.1) ++ [r] ++ cs.filter (fun x => isAB x.1)
theorem filter_names (p : Str → Bool) (cs : List Row) : (cs.filter fun x => p x.1).map (·.1) = (cs.map (·.1)).filter p := by
  rw [List.filter_map]
  rfl
theorem putB_rows {cs : List Row} {r : Row} (h : LawRows cs) (hn : r.1 = "b") (hr : ∃ k, k ≤ 2 ∧ IsLc k r.2) : LawRows (putB cs r) := by
  refine ⟨?_, fun x hx => ?_⟩
  · have e1 : ((putB cs r).map (·.1)) = (cs.map (·.1)).filter isA ++ [("b" : Str)] ++ (cs.map (·.1)).filter isAB := by
      unfold putB
      rw [List.map_append, List.map_append, filter_names isA, filter_names isAB, List.map_singleton, hn]
    rw [e1]
    have s1 := h.sub.filter isA
    have s2 := h.sub.filter isAB
    have f1 : labels.filter isA = ([("a" : Str)] : List Str) := by decide +kernel
    have f2 : labels.filter isAB = ([("names" : Str), "ok", "self"] : List Str) := by decide +kernel
    rw [f1] at s1
    rw [f2] at s2
    exact (s1.append (.refl [("b" : Str)])).append s2
  · rcases List.mem_append.mp hx with hx | hx
    · rcases List.mem_append.mp hx with hx | hx
      · exact h.lc x (List.mem_filter.mp hx).1
      · rw [List.mem_singleton.mp hx]
        exact hr
    · exact h.lc x (List.mem_filter.mp hx).1
theorem putB_perm (cs : List Row) (r : Row) : (putB cs r).Perm ((cs.filter fun x => !isB x.1) ++ [r]) := by
  have h := List.filter_append_perm (fun x : Row => isA x.1) (cs.filter fun x => !isB x.1)
  rw [List.filter_filter, List.filter_filter] at h
  have ab : ∀ z : Str, isA z = true → isB z = false := fun z hz => by
    rw [of_decide_eq_true hz]
    decide +kernel
  have e1 : (cs.filter fun x => isA x.1 && !isB x.1) = cs.filter fun x => isA x.1 := List.filter_congr fun x _ => by
    cases q : isA x.1 with
    | true => rw [ab _ q]; rfl
    | false => rfl
  rw [e1] at h
  refine .trans ?_ (h.append_right [r])
  unfold putB
  rw [List.append_assoc, List.append_assoc]
  exact List.Perm.append_left _ List.perm_append_comm
theorem putB_put {cs : List Row} {r : Row} (h : LawRows cs) (hn : r.1 = "b") (hr : ∃ k, k ≤ 2 ∧ IsLc k r.2) : RowsPut cs r (putB cs r) := by
  refine ⟨(putB_rows h hn hr).okR, ?_⟩
  have e : (cs.filter fun x => decide (x.1 ≠ r.1)) = cs.filter fun x => !isB x.1 := List.filter_congr fun x _ => by
    rw [hn]
    exact decide_not
  rw [e]
  exact putB_perm cs r
/-! ### lines in their order -/
theorem heads_up : ∀ a ∈ labels, ∀ b ∈ labels, a.cps.toList < b.cps.toList → a.cps.toList.head? ≠ none ∧ ∀ x y, a.cps.toList.head? = some x → b.cps.toList.head? = some y → x < y := by
  have h : ∀ a ∈ labels, ∀ b ∈ labels, a.cps.toList < b.cps.toList → a.cps.toList ≠ [] ∧ b.cps.toList ≠ [] ∧ a.cps.toList.headD 0 < b.cps.toList.headD 0 := by decide +kernel
  intro a ha b hb lt
  obtain ⟨h1, h2, h3⟩ := h a ha b hb lt
  cases e1 : a.cps.toList with
  | nil => exact absurd e1 h1
  | cons x r =>
    cases e2 : b.cps.toList with
    | nil => exact absurd e2 h2
    | cons y t =>
      rw [e1, e2] at h3
      exact ⟨by simp, fun u v hu hv => by cases hu; cases hv; exact h3⟩
theorem line_tl (r : Row) : (lineOf r).cps.toList = r.1.cps.toList ++ (32 :: (cellText r.2.1 r.2.2).cps.toList) := by
  rw [line_eq]
  show tl _ = _
  rw [tl_append, tl_append, List.append_assoc]
  rfl
theorem lines_up {cs : List Row} (h : LawRows cs) : (cs.map lineOf).Pairwise fun a b => a.cps.toList < b.cps.toList := by
  have up := h.okR.up
  have mem : ∀ r ∈ cs, r.1 ∈ labels := fun r hr => h.sub.subset (List.mem_map_of_mem hr)
  refine List.pairwise_map.mpr (up.imp_of_mem fun {a b} ha hb lt => ?_)
  obtain ⟨h1, h2⟩ := heads_up a.1 (mem a ha) b.1 (mem b hb) lt
  rw [line_tl, line_tl]
  have nb := (heads_up b.1 (mem b hb) b.1 (mem b hb))
  cases e1 : a.1.cps.toList with
  | nil => rw [e1] at h1; exact absurd rfl h1
  | cons x r =>
    cases e2 : b.1.cps.toList with
    | nil => rw [e1, e2] at lt; exact absurd lt (List.not_lt_nil _)
    | cons y t =>
      have := h2 x y (by rw [e1]; rfl) (by rw [e2]; rfl)
      exact List.cons_lt_cons_iff.mpr (.inl this)
theorem lines_sorted {cs : List Row} {r : Row} (h : LawRows (putB cs r)) {ys : List Str} (hp : ys.Perm (((cs.filter fun x => !isB x.1).map lineOf) ++ [lineOf r])) (hs : sortedS ys = true) : ys = (putB cs r).map lineOf := by
  refine sorted_one (hp.trans ?_) (sorted_all hs) (lines_up h)
  have := ((putB_perm cs r).map lineOf).symm
  rw [List.map_append] at this
  exact this
/-- the first two signs of a line -/
theorem line_b {cs : List Row} (h : LawRows cs) {r : Row} (hr : r ∈ cs) : cutS (lineOf r) none (some 2) = "b " ↔ r.1 = "b" := by
  have hm := h.sub.subset (List.mem_map_of_mem (f := (·.1)) hr)
  have key : ∀ z ∈ labels, ((z.cps.toList ++ [32]).take 2 = [98, 32] ↔ z = "b") ∧ 2 ≤ (z.cps.toList ++ [32]).length := by decide +kernel
  obtain ⟨k1, k2⟩ := key _ hm
  refine Iff.trans ⟨fun e => ?_, fun e => ?_⟩ k1
  · have e2 : tl (cutS (lineOf r) none (some 2)) = [98, 32] := by rw [e]; rfl
    unfold cutS at e2
    rw [HT.sIx_none, show (some (2 : Int)) = some ((2 : Nat) : Int) from rfl, HT.sIx_nat, tl_mk, List.drop_zero, line_tl, len_tl, show tl (lineOf r) = _ from line_tl r] at e2
    rw [show r.1.cps.toList ++ 32 :: (cellText r.2.1 r.2.2).cps.toList = (r.1.cps.toList ++ [32]) ++ (cellText r.2.1 r.2.2).cps.toList by simp, Nat.min_eq_left (by rw [List.length_append]; omega), Nat.sub_zero, List.take_append_of_le_length k2] at e2
    exact e2
  · refine ext_tl ?_
    unfold cutS
    rw [HT.sIx_none, show (some (2 : Int)) = some ((2 : Nat) : Int) from rfl, HT.sIx_nat, tl_mk, List.drop_zero, line_tl, len_tl, show tl (lineOf r) = _ from line_tl r]
    rw [show r.1.cps.toList ++ 32 :: (cellText r.2.1 r.2.2).cps.toList = (r.1.cps.toList ++ [32]) ++ (cellText r.2.1 r.2.2).cps.toList by simp, Nat.min_eq_left (by rw [List.length_append]; omega), Nat.sub_zero, List.take_append_of_le_length k2]
    exact e
theorem put_str (r : Row) : Cmd.str (.put r) = "set" ++ " " ++ lineOf r := by
  show Txt.join " " ("set" :: r.1 :: cWords r.2.1 r.2.2) = "set" ++ " " ++ Txt.join " " (r.1 :: cWords r.2.1 r.2.2)
  rw [join_eq, join_eq]
  rfl
theorem set_str (N : Nat) (ms : List Nat) : Cmd.str (.put ("b", N, ms)) = "set b " ++ cellText N ms := by
  rw [put_str, line_eq]
  refine ext_tl ?_
  rw [tl_append, tl_append, tl_append, tl_append, tl_append]
  rfl
theorem undo_str : Cmd.str .undo = "undo" := by decide +kernel
/-! ### the commands in a log -/
def LogOk (log : List (Str × Str)) : Prop := ∀ p ∈ log, ∃ c : Cmd, c.ok ∧ p.1 = c.str
theorem LogOk.nil : LogOk [] := fun _ h => nomatch h
theorem LogOk.app {l m : List (Str × Str)} (h : LogOk l) (g : LogOk m) : LogOk (l ++ m) := fun p hp => (List.mem_append.mp hp).elim (h p) (g p)
theorem LogOk.one {c : Cmd} (h : c.ok) (z : Str) : LogOk [(c.str, z)] := fun p hp => by rw [List.mem_singleton.mp hp]; exact ⟨c, h, rfl⟩
theorem LogOk.shows {cs : List Row} (ok : OkRows cs) : LogOk (shows cs) := fun p hp => by
  obtain ⟨r, hr, rfl⟩ := List.mem_map.mp hp
  exact ⟨.sho r, ok.nm r hr, rfl⟩
theorem cut4_of {z : Str} {a b c d : Nat} {r : List Nat} (h : tl z = a :: b :: c :: d :: r) : tl (cutS z none (some 4)) = [a, b, c, d] := by
  unfold cutS
  rw [HT.sIx_none, show (some (4 : Int)) = some ((4 : Nat) : Int) from rfl, HT.sIx_nat, tl_mk, List.drop_zero, len_tl, show z.cps.toList = _ from h, show tl z = _ from h]
  rw [Nat.min_eq_left (by simp)]
  rfl
theorem cmd_cut (c : Cmd) : cutS c.str none (some 4) = "set " ∨ cutS c.str none (some 4) = "show" ∨ cutS c.str none (some 4) = "undo" := by
  cases c with
  | undo => exact .inr (.inr (by decide +kernel))
  | sho r =>
    refine .inr (.inl (ext_tl ?_))
    have : tl (Cmd.str (.sho r)) = 115 :: 104 :: 111 :: 119 :: 32 :: tl r.1 := by
      rw [sho_str, tl_append]
      rfl
    rw [cut4_of this]
    rfl
  | put r =>
    refine .inl (ext_tl ?_)
    have : tl (Cmd.str (.put r)) = 115 :: 101 :: 116 :: 32 :: tl (lineOf r) := by
      rw [put_str, tl_append, tl_append]
      rfl
    rw [cut4_of this]
    rfl
/-! ### tables and frames -/
theorem TabS.butL {H H' : Hp} {L : List Addr} {P : Addr} {q : Str} (t : TabS H P q) (b : ButL L H H') (st : Stray H L) : TabS H' P q := by
  obtain ⟨ps, h1, h2, h3⟩ := t
  have out : ∀ a o, H a = some o → (∀ C dx fs, o ≠ .ins C dx fs) → (∀ xs, o ≠ .lst xs) → a ∉ L := fun a o e n1 n2 m => by
    rcases st a m o e with ⟨C, dx, fs, z, _⟩ | ⟨xs, z⟩
    · exact n1 _ _ _ z
    · exact n2 _ z
  refine ⟨ps, b _ _ (out _ _ h1 (fun _ _ _ z => by cases z) (fun _ z => by cases z)) h1, h2, fun pos cv hc => ?_⟩
  obtain ⟨c, e1, e2⟩ := h3 pos cv hc
  exact ⟨c, e1, b _ _ (out _ _ e2 (fun _ _ _ z => by unfold CodeO at z; cases z) (fun _ z => by unfold CodeO at z; cases z)) e2⟩
theorem _root_.LamX.Tabs.butL {T : List (Addr × Str)} {H H' : Hp} {L : List Addr} (t : Tabs T H) (b : ButL L H H') (st : Stray H L) : Tabs T H' := fun p hp => TabS.butL (t p hp) b st
theorem SrcAt.stray {H : Hp} {a : Addr} (h : SrcAt H a) : Stray H [a] := fun b hb u hu => by
  obtain ⟨x, y, h1, _⟩ := h
  rw [List.mem_singleton.mp hb, h1] at hu
  cases hu
  exact .inr ⟨_, rfl⟩
theorem SrcAt.butT {H H' : Hp} {L : List Addr} {a : Addr} (h : SrcAt H a) (b : ButT L H H') (n : a ∉ L) : SrcAt H' a := by
  obtain ⟨x, y, h1, h2⟩ := h
  exact ⟨x, y, b _ _ n (fun _ z => by cases z) h1, h2⟩
theorem LnAt.butT {H H' : Hp} {L : List Addr} {a : Addr} {cs : List Row} (h : LnAt H a cs) (b : ButT L H H') (n : a ∉ L) : LnAt H' a cs := b _ _ n (fun _ z => by cases z) h
end TF
end
section
set_option maxHeartbeats 4000000
set_option pp.maxSteps 3000

namespace TF
open PySem PySem.Spec PyProof.Rows L2 TL StX LamX
/-- nothing is let out -/
theorem passN {P : Program} {w : World} {X : Cx} : Passes (L2.CX P w) X E0 := fun _ _ _ _ _ _ _ h => by
  obtain ⟨_, _, _, _, _, _, _, _, _, _, _, _, z⟩ := h
  exact z.elim
/-! ### the state of _law_right -/
structure RSt (K : PySem.W.Frag) (T : List (Addr × Str)) (a q s dx h : Addr) (o : Option Addr) (H : Hp) (cs : List Row) (ps css : List (List Row)) (log : List (Str × Str)) (ts : List Addr) : Prop where
  src : SrcAt H a
  ses : SesX K H s dx h o cs ps log
  tab : Tabs T H
  st : H q = some (.lst (ts.map V.ref))
  pr : Paired (LnAt H) ts css
  nt : ∀ t ∈ ts, t ∉ a :: q :: mutd s h o
abbrev rM (a q s h : Addr) (o : Option Addr) : List Addr := a :: q :: mutd s h o
/-- which of them are one -/
structure RNe (a q s h : Addr) (o : Option Addr) : Prop where
  na : a ∉ mutd s h o
  nq : q ∉ mutd s h o
  qa : q ≠ a
theorem paired_mem {α β : Type} {F G : α → β → Prop} : ∀ {l : List α} {m : List β}, (∀ a ∈ l, ∀ b, F a b → G a b) → Paired F l m → Paired G l m := pimp
section
variable {K : PySem.W.Frag} {T : List (Addr × Str)} {a q s dx h : Addr} {o : Option Addr} {H H' : Hp} {cs : List Row} {ps css : List (List Row)} {log : List (Str × Str)} {ts : List Addr}
/-- moved to another heap -/
theorem RSt.mv {L : List Addr} {cs' : List Row} {ps' : List (List Row)} {log' : List (Str × Str)} (R : RSt K T a q s dx h o H cs ps css log ts) (b : ButT L H H') (hL : ∀ x ∈ L, x ∈ rM a q s h o) (hq : q ∉ L) (src : SrcAt H' a) (ses : SesX K H' s dx h o cs' ps' log') (tab : Tabs T H') : RSt K T a q s dx h o H' cs' ps' css log' ts :=
  ⟨src, ses, tab, b _ _ hq (fun _ z => by cases z) R.st, paired_mem (fun t ht c hc => LnAt.butT hc b fun m => R.nt t ht (hL t m)) R.pr, R.nt⟩
theorem RSt.same (R : RSt K T a q s dx h o H cs ps css log ts) (e : Same H H') : RSt K T a q s dx h o H' cs ps css log ts :=
  R.mv (L := []) (ButT.same e) (fun _ m => nomatch m) (fun m => nomatch m) (R.src.same e) (R.ses.same e) (R.tab.ext e)
/-- choices were made -/
theorem RSt.pick (R : RSt K T a q s dx h o H cs ps css log ts) (n : RNe a q s h o) (b : ButL [a] H H') (src : SrcAt H' a) : RSt K T a q s dx h o H' cs ps css log ts :=
  R.mv (ButT.of b) (fun x m => by rw [List.mem_singleton.mp m]; exact List.mem_cons_self ..) (fun m => n.qa (List.mem_singleton.mp m)) src (R.ses.butT (ButT.of b) (fun x m w => n.na (by rw [← List.mem_singleton.mp w]; exact m)) R.src.stray) (R.tab.butL b R.src.stray)
/-- the session changed -/
theorem RSt.did {cs' : List Row} {ps' : List (List Row)} {log' : List (Str × Str)} (R : RSt K T a q s dx h o H cs ps css log ts) (n : RNe a q s h o) (b : ButL (mutd s h o) H H') (ses : SesX K H' s dx h o cs' ps' log') : RSt K T a q s dx h o H' cs' ps' css log' ts :=
  R.mv (ButT.of b) (fun x m => List.mem_cons_of_mem _ (List.mem_cons_of_mem _ m)) n.nq (R.src.butT (ButT.of b) n.na) ses (R.tab.butL b R.ses.stray)
/-- a state was noted -/
theorem RSt.note {p : Addr} {c : List Row} (R : RSt K T a q s dx h o H cs ps css log ts) (n : RNe a q s h o) (hp : LnAt H p c) (np : p ∉ rM a q s h o) : RSt K T a q s dx h o (upd H q (.lst (ts.map V.ref ++ [.ref p]))) cs ps (css ++ [c]) log (ts ++ [p]) := by
  have st : Stray H [q] := fun b hb u hu => by
    rw [List.mem_singleton.mp hb, R.st] at hu
    cases hu
    exact .inr ⟨_, rfl⟩
  have b : ButL [q] H (upd H q (.lst (ts.map V.ref ++ [.ref p]))) := (ButL.of (Same.refl H)).upd (List.mem_singleton.mpr rfl)
  have out : ∀ t, t ∉ rM a q s h o → t ∉ [q] := fun t nt m => nt (by rw [List.mem_singleton.mp m]; exact List.mem_cons_of_mem _ (List.mem_cons_self ..))
  refine ⟨R.src.butT (ButT.of b) (fun m => n.qa (List.mem_singleton.mp m).symm), R.ses.butT (ButT.of b) (fun x m w => n.nq (by rw [← List.mem_singleton.mp w]; exact m)) st, R.tab.butL b st, by rw [upd_same, List.map_append]; rfl, paired_snoc (LnAt.butT hp (ButT.of b) (out p np)) (paired_mem (fun t ht c hc => LnAt.butT hc (ButT.of b) (out t (R.nt t ht))) R.pr), fun t ht => ?_⟩
  rcases List.mem_append.mp ht with ht | ht
  · exact R.nt t ht
  · rw [List.mem_singleton.mp ht]
    exact np
/-- all that may change stands there -/
theorem RSt.old (R : RSt K T a q s dx h o H cs ps css log ts) : Old (rM a q s h o) H := fun m hm e => by
  rcases List.mem_cons.mp hm with rfl | hm
  · exact R.src.ne e
  · rcases List.mem_cons.mp hm with rfl | hm
    · rw [R.st] at e
      cases e
    · exact R.ses.there hm e
end
/-- behind an if: what is to be known there -/
theorem if_join {c : TT} {t u : TS} {D : Ends} {σ : L2.St} {H : Hp} (I : L2.St → Hp → Prop) (h : ∀ σ' H', I σ' H' → D.nx σ' H') (k : ∀ D' : Ends, (∀ σ' H', I σ' H' → D'.nx σ' H') → tIfS c t u D' σ H) : tIfS c t u D σ H := k D h
theorem paired_unsnoc {α β : Type} {F : α → β → Prop} {b : β} : ∀ {l : List α} {m : List β}, Paired F l (m ++ [b]) → ∃ l0 a, l = l0 ++ [a] ∧ Paired F l0 m ∧ F a b
  | _, [], .cons x .nil => ⟨[], _, rfl, .nil, x⟩
  | _, _ :: m, .cons x t => by
    obtain ⟨l0, a, e, h1, h2⟩ := paired_unsnoc (m := m) t
    subst e
    exact ⟨_ :: l0, a, rfl, .cons x h1, h2⟩
theorem paired_init {α β : Type} {F : α → β → Prop} {l : List α} {m : List β} {a : α} {b : β} (h : Paired F (l ++ [a]) (m ++ [b])) : Paired F l m := by
  obtain ⟨l0, a0, e, h1, _⟩ := paired_unsnoc h
  obtain ⟨e1, _⟩ := List.append_inj' e rfl
  rw [e1]
  exact h1
theorem paired_rev {α β : Type} {F : α → β → Prop} : ∀ {l : List α} {m : List β}, Paired F l m → Paired F l.reverse m.reverse
  | _, _, .nil => .nil
  | _, _, .cons x t => by
    rw [List.reverse_cons, List.reverse_cons]
    exact paired_snoc x (paired_rev t)
section
variable {P : Program} {w : World} {K : PySem.W.Frag} {mg : Str → Option Value} {base : Heap}
theorem x_loadK {σ : L2.St} {H : Hp} {s dx h : Addr} {o : Option Addr} {cs cs' : List Row} {ps : List (List Row)} {log : List (Str × Str)} {i : Nat} {Q : VK} {t : TA} (S : SesX K H s dx h o cs ps log) (hi : σ[i]? = some (some (.ref s))) (ok' : OkRows cs') (pl : ps.length ≤ 1000)
    (ht : ∀ R : List V → Hp → Prop, (∀ H', Same H H' → R [.str (catText cs')] H') → t σ H R) (k : ∀ H', ButL (mutd s h o) H H' → SesX K H' s dx h o cs' (ps ++ [cs]) log → Q .non H') :
    tMethK (aSes K) "load" 1 ["text"] (· ++ ·) (spLd K (aSes K)) E0 (tVar i) tNil t σ H Q ∨ tMethK (aRec K) "load" 1 ["text"] (· ++ ·) (spLd K (aRec K)) E0 (tVar i) tNil t σ H Q := by
  obtain ⟨⟨d, past, S0, ep⟩, l⟩ := S
  have pl' : past.length ≤ 1000 := by rw [← ep, List.length_map] at pl; exact pl
  have e2 : ∀ d0 : Addr, (past ++ [(d0, cs)]).map (·.2) = ps ++ [cs] := fun d0 => by rw [List.map_append, ep]; rfl
  have wide : ∀ {H' H2 : Hp}, Same H H' → ButL [s, h] H' H2 → ButL (mutd s h o) H H2 := fun {H' H2} e b b' u n hb => b b' u (fun m => n (List.mem_append_left _ m)) (e b' u hb)
  cases o with
  | none =>
    refine .inl ⟨_, hi, s, dx, _, rfl, S0.obj, rfl, ht _ fun H' e => ⟨rfl, rfl, s, dx, d, h, none, cs, past, _, rfl, S0.same e, pl', reads_cat ok' fun H1 d' s1 _ cat => ⟨d', cs', rfl, s1, cat, ok', fun H2 b S2 => ?_⟩⟩⟩
    exact k H2 (wide e b) ⟨⟨d', _, S2, e2 d⟩, fun _ z => nomatch z⟩
  | some e0 =>
    refine .inr ⟨_, hi, s, dx, _, rfl, S0.obj, rfl, ht _ fun H' e => ⟨rfl, rfl, s, dx, d, h, some e0, cs, past, _, rfl, S0.same e, pl', reads_cat ok' fun H1 d' s1 _ cat => ⟨d', cs', rfl, s1, cat, ok', fun H2 b S2 => ?_⟩⟩⟩
    refine k H2 (wide e b) ⟨⟨d', _, S2, e2 d⟩, fun a ha => ?_⟩
    cases ha
    obtain ⟨neh, xs, he⟩ := S0.en e0 rfl
    refine ((l e0 rfl).same e).butL b (fun m => ?_) (S0.same e).stray
    rcases List.mem_cons.mp m with z | m
    · rw [z, S0.obj] at he
      cases he
    · exact neh (List.mem_singleton.mp m)
/-- the odd values -/
abbrev oddL (pl : Addr) : List V := [.non, .int 5, .str "", .str "a", .str "a 4 : 0 1 2", .str "b 3 : 0 1\na 3 : 0 1", .str "- -", .ref pl]
theorem odd_at {H : Hp} {pl : Addr} (h : H pl = some (.lst [.str "-"])) : ∀ {j : Nat}, j < 8 → ∃ (v : V) (r c : Int), (oddL pl)[j]? = some v ∧ Odd H v r c
  | 0, _ => ⟨_, _, _, rfl, .no .non⟩
  | 1, _ => ⟨_, _, _, rfl, .no (.int 5)⟩
  | 2, _ => ⟨_, _, _, rfl, odd_empty⟩
  | 3, _ => ⟨_, _, _, rfl, odd_name⟩
  | 4, _ => ⟨_, _, _, rfl, odd_cell⟩
  | 5, _ => ⟨_, _, _, rfl, odd_order⟩
  | 6, _ => ⟨_, _, _, rfl, odd_dash⟩
  | 7, _ => ⟨_, _, _, rfl, .no (.lst h)⟩
  | n + 8, h => by omega
theorem line_bz (N : Nat) (ms : List Nat) : lineOf ("b", N, ms) = "b " ++ cellText N ms := by
  rw [line_eq]
  refine ext_tl ?_
  rw [tl_append, tl_append, tl_append]
  rfl
/-- what isinstance(.., Recorder) says -/
structure IsR (K : PySem.W.Frag) : Prop where
  no : PySem.W.kitOne K (.ref (aSes K)) (.ref (aRec K)) = some false
  yes : PySem.W.kitOne K (.ref (aRec K)) (.ref (aRec K)) = some true
def spRgt (K : PySem.W.Frag) (T : List (Addr × Str)) : Sp := fun vs H Q _ => ∃ (a s dx h : Addr) (o : Option Addr), vs = [.ref a, .ref s] ∧ SrcAt H a ∧ SesX K H s dx h o [] [] [] ∧ Tabs T H ∧ a ∉ mutd s h o ∧
  ∀ H', ButT (a :: mutd s h o) H H' → SrcAt H' a → Tabs T H' → Q (.bl true) H'
theorem scRgt : FnScope ["_law_source_here", "_law_session", "_law_states", "_law_turn", "_law_way", "_law_lines_here", "_law_shown_here", "_law_line", "_law_odd", "_law_answer"] ["_law_source_here", "_law_session"] (defScope (tops 85)) := ⟨rfl, rfl, rfl, by decide +kernel, rfl, by decide +kernel, by decide +kernel⟩
theorem ok_rgt {TP : Addr} (G : GDef K mg "_law_right" (tops 85)) (T : TxtA K mg) (SC : SesC K (aSes K)) (RC : RecC K) (IR : IsR K) (Fpi : GOk P w K mg base CX0 1 "_law_pick" spPi) (Fli : GOk P w K mg base CX0 3 "_law_lines" spLi) (Fte : GOk P w K mg base CX0 1 "_law_text" spTe) (Fsh : GOk P w K mg base CX0 1 "_law_shown" spShn) (Fce : GOk P w K mg base CX0 2 "_law_cell" spCe)
    (Frf : GOk P w K mg base CX0 10 "_law_refused" (spRf K [(TP, qLam)])) (Fis : GOk P w K mg base CX0 12 "_law_is_so" (spIs K)) (Fld1 : MKOk P w K mg base (L2.CX P w) 7 (aSes K) "load" 1 ["text"] (· ++ ·) (spLd K (aSes K))) (Fld2 : MKOk P w K mg base (L2.CX P w) 7 (aRec K) "load" 1 ["text"] (· ++ ·) (spLd K (aRec K)))
    (Fex1 : MOk P w K mg base CX0 11 (aSes K) "execute" (spExe K (aSes K) (spOut K (aSes K)))) (Fex2 : MOk P w K mg base CX0 11 (aRec K) "execute" (spExe K (aRec K) (spRo K))) (Ftr : POk P w K mg base CX0 1 (aRec K) "transcript" (spTr K)) : GOk P w K mg base CX0 13 "_law_right" (spRgt K [(TP, qLam)]) := by
  refine G.ok scRgt (fun vs H Q E h => ?_) (fun _ _ _ _ _ _ us hl => match us, hl with | [_, _], _ => rfl) (fun f cdv A outer s H vs Q E hr h => ?_)
  · obtain ⟨_, _, _, _, _, rfl, _⟩ := h
    rfl
  · obtain ⟨a, s0, dx, h, o, rfl, sa, S, tb, na, k⟩ := h
    refine ⟨_, (pss_cons (ps_set (i := 2) scRgt.nd rfl (Or.inl rfl) (pe_lst (pa_cons (pe_lst pa_nil) pa_nil)))
      (pss_cons (ps_for PassesOwn.never rfl (pi_range1 rfl T.z_range (pa_cons pe_int pa_nil)) (pg_name (i := 3) scRgt.nd rfl (Or.inl rfl)) (pss_cons (ps_par (i := 4) (j := 5) (by rfl) scRgt.nd rfl rfl (by decide) rfl rfl (pa_cons (pe_cg Fpi (hr.mono (by decide)) pass0 rfl (pa_cons (pv 0) (pa_cons pe_int pa_nil))) (pa_cons (pe_cg Fli (hr.mono (by decide)) pass0 rfl (pa_cons (pv 0) pa_nil)) pa_nil)) (by rfl))
      (pss_cons (ps_if (pt_cmpR op_eq (pv 4) pe_int (nomark _)) (pss_one (ps_if (pt_cmpR op_notN (pe_or (pe_cmK0 Fld1 SC.cl (hr.mono (by decide)) passN (pv 1) (pk_cons (pe_cg Fte (hr.mono (by decide)) pass0 rfl (pa_cons (pv 5) pa_nil)) pk_nil)) (pe_cmK0 Fld2 RC.cl (hr.mono (by decide)) passN (pv 1) (pk_cons (pe_cg Fte (hr.mono (by decide)) pass0 rfl (pa_cons (pv 5) pa_nil)) pk_nil))) pe_non (nomark _)) (pss_one (ps_ret pe_bl)) pss_nil)) (pss_cons (ps_set (i := 6) scRgt.nd rfl (Or.inl rfl) (pe_cg Fsh (hr.mono (by decide)) pass0 rfl (pa_cons (pe_cg Fce (hr.mono (by decide)) pass0 rfl (pa_cons (pv 0) pa_nil)) pa_nil)))
      (pss_cons (ps_set (i := 5) scRgt.nd rfl (Or.inl rfl) (pe_callB cr_sortedS (by rfl) T.z_sorted (by decide +kernel) (pa_cons (pe_op op_cat (pe_lc (own := [("_law_line", 7)]) (g := gName 7) rfl scRgt.nd  (pi_list (pe_ix ix_list (pv 2) (pe_un un_neg pe_int) (fun _ _ => rfl))) (blkOk_by (N := ["_law_source_here", "_law_session", "_law_states", "_law_turn", "_law_way", "_law_lines_here", "_law_shown_here", "_law_line", "_law_odd", "_law_answer"]) (sc := (defScope (tops 85))) (by decide +kernel)) (fun _ _ _ _ _ => (pg_name (i := 7) scRgt.nd rfl (Or.inl rfl))) (fun _ _ _ _ _ => (pts_one (pt_cmpR op_ne (pe_slice (show SlR _ rSlS from sl_str) (pv 7) po_none (po_some pe_int)) pe_str (nomark _)))) (fun _ _ _ _ _ => (pv 7))) (pe_lst (pa_cons (pe_op op_add_str pe_str (pv 6)) pa_nil))) pa_nil)))
      (pss_one (ps_if (pt_cmpR op_ne (pe_or (pe_cm Fex1 SC.cl (hr.mono (by decide)) pass0 (pv 1) (pa_cons (pe_op op_add_str pe_str (pv 6)) pa_nil)) (pe_cm Fex2 RC.cl (hr.mono (by decide)) pass0 (pv 1) (pa_cons (pe_op op_add_str pe_str (pv 6)) pa_nil))) pe_str (nomark _)) (pss_one (ps_ret pe_bl)) pss_nil)))))
      (pss_cons (ps_expr (pe_bm PySem.F.plainAttrs_list PySem.F.slot_list_append PySem.F.type_list_append mt_append (pv 2) (pa_cons (pv 5) pa_nil)))
      (pss_cons (ps_set (i := 8) scRgt.nd rfl (Or.inl rfl) (pe_ix ix_list (pe_lst (pa_cons pe_non (pa_cons pe_int (pa_cons pe_str (pa_cons pe_str (pa_cons pe_str (pa_cons pe_str (pa_cons pe_str (pa_cons (pe_lst (pa_cons pe_str pa_nil)) pa_nil))))))))) (pe_cg Fpi (hr.mono (by decide)) pass0 rfl (pa_cons (pv 0) (pa_cons pe_int pa_nil))) (fun _ _ => rfl)))
      (pss_one (ps_if (PW.pt (pw_or (pt_not (pt_val (pe_cg Frf (hr.mono (by decide)) pass0 rfl (pa_cons (pv 1) (pa_cons (pv 8) pa_nil))))) (pw_or1 (pt_not (pt_val (pe_cg Fis (hr.mono (by decide)) pass0 rfl (pa_cons (pv 1) (pa_cons (pv 5) pa_nil)))))))) (pss_one (ps_ret pe_bl)) pss_nil)))))))
      (pss_cons (ps_for PassesOwn.never rfl (pi_list (pe_slice sl_list (pe_revL (pv 2)) (po_some pe_int) po_none)) (pg_name (i := 5) scRgt.nd rfl (Or.inl rfl)) (pss_one (ps_if (PW.pt (pw_or (pt_cmpR op_ne (pe_or (pe_cm Fex1 SC.cl (hr.mono (by decide)) pass0 (pv 1) (pa_cons pe_str pa_nil)) (pe_cm Fex2 RC.cl (hr.mono (by decide)) pass0 (pv 1) (pa_cons pe_str pa_nil))) pe_str (nomark _)) (pw_or1 (pt_not (pt_val (pe_cg Fis (hr.mono (by decide)) pass0 rfl (pa_cons (pv 1) (pa_cons (pv 5) pa_nil)))))))) (pss_one (ps_ret pe_bl)) pss_nil)))
      (pss_cons (ps_if (pt_val (pe_callB call_isi (by rfl) T.z_isinstance (by decide +kernel) (pa_cons (pv 1) (pa_cons (pe_gc rfl T.c_Recorder) pa_nil)))) (pss_one (ps_if (pt_cmpR (op_neD (hu64 hr)) (pe_lc (own := [("_law_line", 7), ("_law_answer", 9)]) (g := (gTup K 2 (gCons (gName 7) (gCons (gName 9) gNil)))) rfl scRgt.nd  (pi_list (pe_cp Ftr RC.cl (hr.mono (by decide)) pass0 (pv 1))) (blkOk_by (N := ["_law_source_here", "_law_session", "_law_states", "_law_turn", "_law_way", "_law_lines_here", "_law_shown_here", "_law_line", "_law_odd", "_law_answer"]) (sc := (defScope (tops 85))) (by decide +kernel)) (fun _ _ _ _ _ => (pg_tup rfl (pgs_cons (pg_name (i := 7) scRgt.nd rfl (Or.inl rfl)) (pgs_cons (pg_name (i := 9) scRgt.nd rfl (Or.inl rfl)) pgs_nil)))) (fun _ _ _ _ _ => (pts_one (pt_cmpR (show OpR _ (compareOp .NotIn) (rIn K true) from op_notIn_seq) (pe_slice (show SlR _ rSlS from sl_str) (pv 7) po_none (po_some pe_int)) (pe_tup (pa_cons pe_str (pa_cons pe_str (pa_cons pe_str pa_nil)))) (by rfl)))) (fun _ _ _ _ _ => (pv 7))) (pe_lst pa_nil) (nomark _)) (pss_one (ps_ret pe_bl)) pss_nil)) pss_nil)
      (pss_one (ps_ret (pe_cmpR op_eq (pe_or (pe_cm Fex1 SC.cl (hr.mono (by decide)) pass0 (pv 1) (pa_cons pe_str pa_nil)) (pe_cm Fex2 RC.cl (hr.mono (by decide)) pass0 (pv 1) (pa_cons pe_str pa_nil))) pe_str (nomark _)))))))), ?_⟩
    let TT : List (Addr × Str) := [(TP, qLam)]
    refine ⟨z0, fun p0 hp0 => ⟨z1, fun q hq => ?_⟩⟩
    have e0 : Same H (upd H p0 (.lst [])) := Same.new hp0
    have e1 := e0.trans (Same.new (o := .lst [.ref p0]) hq)
    have hqn : H q = none := e0.free hq
    have nq : q ∉ mutd s0 h o := fun m => S.there m hqn
    have qa : q ≠ a := fun e => sa.ne (e ▸ hqn)
    have NE : RNe a q s0 h o := ⟨na, nq, qa⟩
    have p0q : p0 ≠ q := fun e => by rw [← e, upd_same] at hq; cases hq
    have np0 : p0 ∉ rM a q s0 h o := fun m => by
      rcases List.mem_cons.mp m with e | m
      · exact sa.ne (e ▸ hp0)
      · rcases List.mem_cons.mp m with e | m
        · exact p0q e
        · exact S.there m hp0
    have R0 : RSt K TT a q s0 dx h o (upd (upd H p0 (.lst [])) q (.lst [.ref p0])) [] [] [[]] [] [p0] := ⟨sa.same e1, S.same e1, tb.ext e1, upd_same, .cons ((upd_ne p0q).trans upd_same) .nil, fun t ht => by rw [List.mem_singleton.mp ht]; exact np0⟩
    generalize upd (upd H p0 (.lst [])) q (.lst [.ref p0]) = H1 at e1 R0 ⊢
    let Pv : Nat → L2.St → Hp → Prop := fun i σ' H' => ButT (rM a q s0 h o) H1 H' ∧ ∃ (cs : List Row) (ps : List (List Row)) (log : List (Str × Str)) (ts : List Addr) (y3 y4 y5 y6 y7 y8 y9 : Option V), RSt K TT a q s0 dx h o H' cs ps (ps ++ [cs]) log ts ∧ ps.length = i ∧ log.length ≤ 10 * i ∧ LogOk log ∧ (∀ c ∈ ps ++ [cs], LawRows c) ∧
      σ' = [some (.ref a), some (.ref s0), some (.ref q), y3, y4, y5, y6, y7, y8, y9]
    have rowsNil : LawRows [] := ⟨List.nil_sublist _, fun _ h => nomatch h⟩
    refine ⟨5, rfl, by decide, by decide, for_it walk_range Pv ⟨ButT.same (Same.refl _), [], [], [], [p0], _, _, _, _, _, _, _, R0, rfl, Nat.zero_le _, LogOk.nil, fun c hc => by rw [List.mem_singleton.mp hc]; exact rowsNil, rfl⟩ (fun _ _ _ _ _ => trivial) (fun i x σ' H' H'' hi pv y => ?_) (fun σ' H' pv => ?_)⟩
    · obtain ⟨b1, cs, ps, log, ts, y3, y4, y5, y6, y7, y8, y9, R, lp, ll, lok, rows, rfl⟩ := pv
      obtain ⟨rfl, rfl⟩ := y
      have hi' : i < 5 := by simpa using hi
      have csr := rows cs (List.mem_append_right _ (List.mem_singleton.mpr rfl))
      refine ⟨_, rfl, a, 3, rfl, R.src, by decide, by decide, fun j H2 lt b2 sa2 => ?_⟩
      have R2 := R.pick NE b2 sa2
      refine ⟨_, rfl, rM a q s0 h o, a, rfl, List.mem_cons_self .., R2.old, sa2, fun p1 cs1 H3 lw b3 sa3 np hp => ⟨_, _, rfl, ?_⟩⟩
      have R3 := R2.pick NE b3 sa3
      have subA : ∀ x ∈ [a], x ∈ rM a q s0 h o := fun x hx => by rw [List.mem_singleton.mp hx]; exact List.mem_cons_self ..
      have subS : ∀ x ∈ mutd s0 h o, x ∈ rM a q s0 h o := fun x hx => List.mem_cons_of_mem _ (List.mem_cons_of_mem _ hx)
      have bt3 : ButT (rM a q s0 h o) H1 H3 := (b1.trans (ButT.wide subA (ButT.of b2))).trans (ButT.wide subA (ButT.of b3))
      dsimp only
      refine seqI ?_
      refine if_join (fun σ' H' => ∃ (cs1 : List Row) (log1 : List (Str × Str)) (p1 : Addr) (y3 y4 y6 y7 y8 y9 : Option V), RSt K TT a q s0 dx h o H' cs1 (ps ++ [cs]) (ps ++ [cs]) log1 ts ∧ LnAt H' p1 cs1 ∧ p1 ∉ rM a q s0 h o ∧ LawRows cs1 ∧ ButT (rM a q s0 h o) H1 H' ∧ LogOk log1 ∧ log1.length ≤ 10 * i + 1 ∧
        σ' = [some (.ref a), some (.ref s0), some (.ref q), y3, y4, some (.ref p1), y6, y7, y8, y9]) (fun σ5 H5 inv => ?_) (fun D' hJ => ?_)
      · obtain ⟨cs1, log1, p1, y3, y4, y6, y7, y8, y9, R5, hp5, np5, lw5, bt5, lok5, ll5, rfl⟩ := inv
        have lts : ts.length = i + 1 := by
          have e := R5.pr.length
          rw [List.length_append, lp, List.length_singleton] at e
          exact e
        have pq : p1 ≠ q := fun e => np5 (by rw [e]; exact List.mem_cons_of_mem _ (List.mem_cons_self ..))
        refine ⟨_, rfl, .inl ⟨rfl, _, SqL.of R5.st⟩, _, rfl, q, _, _, rfl, rfl, R5.st, by rw [List.length_map, sizeLine_eq]; omega, ?_⟩
        have R6 := R5.note NE hp5 np5
        have b6 : ButT (rM a q s0 h o) H5 (upd H5 q (.lst (ts.map V.ref ++ [.ref p1]))) := ButT.of ((ButL.of (Same.refl _)).upd (List.mem_cons_of_mem _ (List.mem_cons_self ..)))
        have hp6 : LnAt (upd H5 q (.lst (ts.map V.ref ++ [.ref p1]))) p1 cs1 := (upd_ne pq).trans hp5
        generalize upd H5 q (.lst (ts.map V.ref ++ [.ref p1])) = H6 at R6 b6 hp6 ⊢
        refine ⟨z1, fun pl hpl => ⟨(show 8 ≤ sizeLine by decide), fun L hL => ?_⟩⟩
        have s8 := (Same.new (o := .lst [.str "-"]) hpl).trans (Same.new (o := .lst (oddL pl)) hL)
        have hpl8 : (upd (upd H6 pl (.lst [.str "-"])) L (.lst (oddL pl))) pl = some (.lst [.str "-"]) := (Same.new hL) _ _ upd_same
        have hL8 : (upd (upd H6 pl (.lst [.str "-"])) L (.lst (oddL pl))) L = some (.lst (oddL pl)) := upd_same
        have nLa : L ∉ [a] := fun m => (R6.same (Same.new (o := .lst [.str "-"]) hpl)).src.ne (by rw [← List.mem_singleton.mp m]; exact hL)
        have npla : pl ∉ [a] := fun m => R6.src.ne (by rw [← List.mem_singleton.mp m]; exact hpl)
        have R8 := R6.same s8
        generalize upd (upd H6 pl (.lst [.str "-"])) L (.lst (oddL pl)) = H8 at s8 hpl8 hL8 R8 ⊢
        refine ⟨_, rfl, a, 8, rfl, R8.src, by decide, by decide, fun j8 H9 lt8 b9 sa9 => ?_⟩
        have R9 := R8.pick NE b9 sa9
        have hp9 : LnAt H9 p1 cs1 := LnAt.butT (s8 _ _ hp6) (ButT.of b9) (fun m => np5 (subA _ m))
        obtain ⟨v, r, c, hv, od⟩ := odd_at (b9 _ _ npla hpl8) lt8
        refine ⟨L, _, j8, v, rfl, rfl, SqL.of (b9 _ _ nLa hL8), atI_nat hv, ?_⟩
        have lps : (ps ++ [cs]).length ≤ 1000 := by rw [List.length_append, lp, List.length_singleton]; omega
        refine ⟨_, rfl, _, rfl, s0, dx, h, o, cs1, ps ++ [cs], log1, v, r, c, rfl, R9.ses, lps, od, R9.tab, fun H10 b10 tb10 => ⟨_, rfl, iteFr rfl ?_⟩⟩
        have R10 := R9.mv (L := []) b10 (fun _ m => nomatch m) (fun m => nomatch m) (R9.src.butT b10 (fun m => nomatch m)) (R9.ses.same' b10) tb10
        refine ⟨_, rfl, _, rfl, s0, dx, h, p1, o, cs1, ps ++ [cs], log1, rfl, R10.ses, lps, by omega, LnAt.butT hp9 b10 (fun m => nomatch m), fun m => np5 (subS _ m), fun H11 b11 S11 => ⟨_, rfl, iteFr rfl ?_⟩⟩
        have l5 := lw5.okR.ln
        have l6 : cs1.length ≤ 5 := by
          have := lw5.sub.length_le
          rw [List.length_map] at this
          exact this
        refine ⟨(((bt5.trans b6).trans (ButT.same s8)).trans (ButT.wide subA (ButT.of b9))).trans ((ButT.wide (as := []) (fun _ m => nomatch m) b10).trans (ButT.wide subS (ButT.of b11))), cs1, ps ++ [cs], log1 ++ shows cs1, ts ++ [p1], _, _, _, _, _, _, _, R10.did NE b11 S11, by rw [List.length_append, lp]; rfl, ?_, lok5.app (.shows lw5.okR), fun c hc => ?_, rfl⟩
        · rw [List.length_append, shows, List.length_map]
          omega
        · rcases List.mem_append.mp hc with hc | hc
          · exact rows c hc
          · rw [List.mem_singleton.mp hc]
            exact lw5
      · refine ⟨_, rfl, rfl, _, rfl, ?_⟩
        by_cases hj : j = 0
        · subst hj
          refine iteTr (decide_eq_true rfl) ?_
          refine x_loadK R3.ses rfl lw.okR (by omega) (fun X hX => ⟨_, rfl, p1, cs1, rfl, hp, lw.okR, fun H4 s4 => hX H4 s4⟩) fun H4 b4 S4 => ⟨rfl, _, rfl, iteFr (by rw [decide_eq_true rfl]; rfl) ?_⟩
          exact hJ _ _ ⟨cs1, log, p1, _, _, _, _, _, _, R3.did NE b4 S4, LnAt.butT hp (ButT.of b4) (fun m => np (subS _ m)), np, lw, bt3.trans (ButT.wide subS (ButT.of b4)), lok, by omega, rfl⟩
        · refine iteFr (decide_eq_false fun e => hj (by have := V.int.inj e; omega)) ?_
          refine ⟨_, rfl, rM a q s0 h o, a, rfl, List.mem_cons_self .., R3.old, R3.src, fun t c kk H4 hk il b4 sa4 lc => ?_⟩
          have R4 := R3.pick NE b4 sa4
          obtain ⟨g1, g2, g3, g4⟩ := il.small
          have w1 : (10 : Nat) ^ (kk + 1) ≤ 10 ^ 3 := Nat.pow_le_pow_right (by decide) (by omega)
          have w2 : (4 : Nat) ^ (kk + 1) ≤ 4 ^ 3 := Nat.pow_le_pow_right (by decide) (by omega)
          refine ⟨rM a q s0 h o, t, c, rfl, lc, by omega, by omega, fun m hm => by have := g4 m hm; omega, fun H5 s5 => ?_⟩
          have R5 := R4.same s5
          obtain ⟨ts0, tl0, ets, pr0, hl0⟩ := paired_unsnoc R5.pr
          have st5 := R5.st
          rw [ets, List.map_append] at st5
          have good := il.good hk
          have nb : nameOk "b" = true := by decide +kernel
          have lnb : (cellText c.1 c.2).length ≤ 10100 := by
            have h1 := line_len (r := ("b", c.1, c.2)) nb good.sh
            rw [line_bz, len_tl, tl_append, List.length_append, ← len_tl, ← len_tl] at h1
            omega
          let rb : Row := ("b", c.1, c.2)
          have ok := csr.okR
          have l5 : cs.length ≤ 5 := by
            have := csr.sub.length_le
            rw [List.length_map] at this
            exact this
          refine ⟨_, rfl, _, rfl, q, _, -1, .ref tl0, rfl, rfl, SqL.of st5, atlast, tl0, rfl, ⟨_, SqL.of hl0⟩, fun D hD => ?_⟩
          have slen : ∀ i, ((cs.take i).filter fun x => !isB x.1).length ≤ 5 := fun i => by
            have h1 := List.length_filter_le (fun x : Row => !isB x.1) (cs.take i)
            have h2 := List.length_take_le' i cs
            omega
          refine lc_it walk_list (fun i H' => Same H5 H' ∧ H' D = some (.lst (((cs.take i).filter fun x => !isB x.1).map fun r => V.str (lineOf r)))) ⟨Same.new hD, upd_same⟩ (fun i H' _ p => SqL.of (p.1 _ _ hl0)) (fun i x H6 H7 hi6 p y => ?_) (fun H6 p => ?_)
          · obtain ⟨s6, hD6⟩ := p
            obtain ⟨rfl, hx⟩ := y
            rw [List.getElem?_map, Option.map_eq_some_iff] at hx
            obtain ⟨r, hr1, rfl⟩ := hx
            have hm := List.mem_of_getElem? hr1
            have ln := line_len (ok.nm r hm) (ok.gd r hm).sh
            have tk : cs.take (i + 1) = cs.take i ++ [r] := by rw [List.take_succ, hr1]; rfl
            refine ⟨rfl, _, rfl, 2, rfl, lineOf r, rfl, by rw [sizeLine_eq]; omega, rfl, _, rfl, ?_⟩
            by_cases hb : r.1 = "b"
            · refine iteFr (by rw [(line_b csr hm).mpr hb, decide_eq_true rfl]; rfl) ⟨s6, ?_⟩
              rw [tk, List.filter_append, hD6]
              have eb : isB r.1 = true := decide_eq_true hb
              have e : ([r].filter fun x => !isB x.1) = [] := List.filter_cons_of_neg (by rw [eb]; decide)
              rw [e, List.append_nil]
            · refine iteTr (by rw [decide_eq_false fun e => hb ((line_b csr hm).mp (V.str.inj e))]; rfl) ⟨_, rfl, _, hD6, by rw [List.length_map, sizeLine_eq]; have := slen i; omega, same_upd_new s6 hD, ?_⟩
              have eb : isB r.1 = false := decide_eq_false hb
              have e : ([r].filter fun x => !isB x.1) = [r] := List.filter_cons_of_pos (by rw [eb]; rfl)
              rw [upd_same, tk, List.filter_append, e, List.map_append]
              rfl
          · obtain ⟨s6, hD6⟩ := p
            rw [List.length_map, List.take_length] at hD6
            refine ⟨_, rfl, _, _, rfl, rfl, by rw [sizeLine_eq, show Str.length "b " = 2 by decide]; omega, z1, fun l2 hl2 => ?_⟩
            have s7 := s6.trans (Same.new (o := .lst [.str ("b " ++ cellText c.1 c.2)]) hl2)
            have sl := slen cs.length
            rw [List.take_length] at sl
            refine ⟨D, l2, _, _, rfl, rfl, (Same.new hl2) _ _ hD6, upd_same, ?_, fun p hp => ?_⟩
            · rw [List.length_map, sizeLine_eq]
              show _ + 1 ≤ _
              omega
            have s8 := s7.trans (Same.new (o := .lst (((cs.filter fun x => !isB x.1).map fun r => V.str (lineOf r)) ++ [.str ("b " ++ cellText c.1 c.2)])) hp)
            refine ⟨p, ((cs.filter fun x => !isB x.1).map lineOf) ++ [lineOf rb], rfl, SqL.of ?_, ?_, fun ys pn perm srt hpn => ?_⟩
            · rw [upd_same, List.map_append, List.map_map, line_bz]
              rfl
            · rw [List.length_append, List.length_map]
              show _ + 1 < _
              omega
            have lw' : LawRows (putB cs rb) := putB_rows csr rfl ⟨kk, hk, il⟩
            have ey := lines_sorted lw' perm srt
            subst ey
            have s9 := s8.trans (Same.new (o := .lst (((putB cs rb).map lineOf).map V.str)) hpn)
            have npn : pn ∉ rM a q s0 h o := (R5.same s8).old.nin hpn
            have R9 := R5.same s9
            have hl9 : LnAt (upd (upd (upd H6 l2 (.lst [.str ("b " ++ cellText c.1 c.2)])) p (.lst (((cs.filter fun x => !isB x.1).map fun r => V.str (lineOf r)) ++ [.str ("b " ++ cellText c.1 c.2)]))) pn (.lst (((putB cs rb).map lineOf).map V.str))) pn (putB cs rb) := by
              show _ = _
              rw [upd_same, List.map_map]
              rfl
            generalize upd (upd (upd H6 l2 (.lst [.str ("b " ++ cellText c.1 c.2)])) p (.lst (((cs.filter fun x => !isB x.1).map fun r => V.str (lineOf r)) ++ [.str ("b " ++ cellText c.1 c.2)]))) pn (.lst (((putB cs rb).map lineOf).map V.str)) = H9 at s9 R9 hl9 ⊢
            refine x_exe (c := .put rb) R9.ses rfl (fun X hX => ⟨_, rfl, _, _, rfl, rfl, by rw [sizeLine_eq, show Str.length "set b " = 6 by decide]; omega, by rw [← set_str]; exact hX⟩) (by omega) (by omega) (.put nb good (by omega) (putB_put csr rfl ⟨kk, hk, il⟩)) fun H10 b10 S10 => ⟨rfl, _, rfl, iteFr (by rw [decide_eq_true rfl]; rfl) ?_⟩
            refine hJ _ _ ⟨putB cs rb, _, pn, _, _, _, _, _, _, R9.did NE b10 S10, LnAt.butT hl9 (ButT.of b10) (fun m => npn (subS _ m)), npn, lw', ((bt3.trans (ButT.wide subA (ButT.of b4))).trans (ButT.same (s5.trans s9))).trans (ButT.wide subS (ButT.of b10)), lok.app (LogOk.one (c := .put rb) ⟨nb, good.sh⟩ _), ?_, rfl⟩
            rw [List.length_append, List.length_singleton]
            omega
    · obtain ⟨b1, cs, ps, log, ts, y3, y4, y5, y6, y7, y8, y9, R, lp, ll, lok, rows, rfl⟩ := pv
      have lp5 : ps.length = 5 := lp
      have ll5 : log.length ≤ 50 := ll
      obtain ⟨ts0, tl0, ets, pr0, hl0⟩ := paired_unsnoc R.pr
      subst ets
      have subS : ∀ x ∈ mutd s0 h o, x ∈ rM a q s0 h o := fun x hx => List.mem_cons_of_mem _ (List.mem_cons_of_mem _ hx)
      have csr := rows cs (List.mem_append_right _ (List.mem_singleton.mpr rfl))
      have eL : cutV ((ts0 ++ [tl0]).map V.ref).reverse (some 1) none = ts0.reverse.map V.ref := by
        rw [List.map_append, List.reverse_append]
        show cutV (V.ref tl0 :: _) _ _ = _
        rw [cut_1n, List.map_reverse]
        rfl
      refine ⟨_, rfl, q, _, rfl, SqL.of R.st, fun r1 hr1 => ⟨1, rfl, r1, _, rfl, SqL.of upd_same, fun r2 hr2 => ?_⟩⟩
      rw [eL]
      have s1 := Same.new (o := .lst ((ts0 ++ [tl0]).map V.ref).reverse) hr1
      have s2 := s1.trans (Same.new (o := .lst (ts0.reverse.map V.ref)) hr2)
      have nr2 : r2 ∉ rM a q s0 h o := (R.same s1).old.nin hr2
      have R2 := R.same s2
      have hr22 : (upd (upd H' r1 (.lst ((ts0 ++ [tl0]).map V.ref).reverse)) r2 (.lst (ts0.reverse.map V.ref))) r2 = some (.lst (ts0.reverse.map V.ref)) := upd_same
      generalize upd (upd H' r1 (.lst ((ts0 ++ [tl0]).map V.ref).reverse)) r2 (.lst (ts0.reverse.map V.ref)) = H2 at s2 R2 hr22 ⊢
      let Pv2 : Nat → L2.St → Hp → Prop := fun i σ' H' => ButT (rM a q s0 h o) H2 H' ∧ ∃ (c : List Row) (log : List (Str × Str)) (y3 y4 y5 y6 y7 y8 y9 : Option V), RSt K TT a q s0 dx h o H' c (ps.reverse.drop i).reverse (ps ++ [cs]) log (ts0 ++ [tl0]) ∧ LogOk log ∧ log.length ≤ 50 + 10 * i ∧ LawRows c ∧
        σ' = [some (.ref a), some (.ref s0), some (.ref q), y3, y4, y5, y6, y7, y8, y9]
      have lpr := pr0.length
      have lR : (ts0.reverse.map V.ref).length = 5 := by rw [List.length_map, List.length_reverse, lpr, lp5]
      refine ⟨r2, rfl, ⟨_, SqL.of hr22⟩, for_it walk_list Pv2 ⟨ButT.same (Same.refl _), cs, log, _, _, _, _, _, _, _, by rw [List.drop_zero, List.reverse_reverse]; exact R2, lok, by omega, csr, rfl⟩ (fun i σ' H' _ pv => SqL.of (pv.1 _ _ nr2 (fun _ z => by cases z) hr22)) (fun i x σ' H' H'' hi pv y => ?_) (fun σ' H' pv => ?_)⟩
      · obtain ⟨bt, c, log, y3, y4, y5, y6, y7, y8, y9, R3, lok3, ll3, lc3, rfl⟩ := pv
        obtain ⟨rfl, hx⟩ := y
        rw [List.getElem?_map, Option.map_eq_some_iff] at hx
        obtain ⟨t, ht, rfl⟩ := hx
        have hi5 : i < 5 := by rw [lR] at hi; exact hi
        have hip : i < ps.reverse.length := by rw [List.length_reverse]; omega
        obtain ⟨c', hc'⟩ : ∃ c', ps.reverse[i]? = some c' := ⟨_, List.getElem?_eq_getElem hip⟩
        have eD : ps.reverse.drop i = c' :: ps.reverse.drop (i + 1) := by
          rw [List.drop_eq_getElem_cons hip]
          rw [List.getElem?_eq_getElem hip] at hc'
          rw [Option.some.inj hc']
        have tm : t ∈ ts0 ++ [tl0] := List.mem_append_left _ (List.mem_reverse.mp (List.mem_of_getElem? ht))
        have lc' : LawRows c' := rows c' (List.mem_append_left _ (List.mem_reverse.mp (List.mem_of_getElem? hc')))
        have lps : ∀ j, (ps.reverse.drop j).reverse.length ≤ 1000 := fun j => by
          rw [List.length_reverse, List.length_drop, List.length_reverse]
          omega
        refine x_exe (c := .undo) R3.ses rfl (fun X hX => by rw [undo_str] at hX; exact hX) (lps i) (by omega) (.back (cs0 := c') (p0 := (ps.reverse.drop (i + 1)).reverse) (by rw [eD, List.reverse_cons])) fun H5 b5 S5 => ⟨rfl, _, rfl, iteFr (by rw [decide_eq_true rfl]; rfl) ?_⟩
        have R5 := R3.did NE b5 S5
        have hp5 : LnAt H5 t c' := pget (paired_rev (paired_init R5.pr)) ht hc'
        refine ⟨_, rfl, _, rfl, s0, dx, h, t, o, c', _, _, rfl, R5.ses, lps (i + 1), by rw [List.length_append, List.length_singleton]; omega, hp5, fun m => R5.nt t tm (subS _ m), fun H6 b6 S6 => ⟨_, rfl, iteFr rfl ?_⟩⟩
        refine ⟨(bt.trans (ButT.wide subS (ButT.of b5))).trans (ButT.wide subS (ButT.of b6)), c', _, _, _, _, _, _, _, _, R5.did NE b6 S6, (lok3.app (LogOk.one (c := .undo) True.intro _)).app (.shows lc'.okR), ?_, lc', rfl⟩
        have := lc'.sub.length_le
        rw [List.length_map] at this
        rw [List.length_append, List.length_append, List.length_singleton, shows, List.length_map]
        have : labels.length = 5 := rfl
        omega
      · obtain ⟨bt, c, log, y3, y4, y5, y6, y7, y8, y9, R3, lok3, ll3, lc3, rfl⟩ := pv
        rw [lR, List.drop_eq_nil_of_le (by rw [List.length_reverse]; omega), List.reverse_nil] at R3
        rw [lR] at ll3
        have all : ∀ {Hx : Hp}, ButT (rM a q s0 h o) H2 Hx → ButT (a :: mutd s0 h o) H Hx := fun {Hx} b b' u n1 n2 hb => by
          have n3 : b' ∉ rM a q s0 h o := fun m => by
            rcases List.mem_cons.mp m with e | m
            · exact n1 (e ▸ List.mem_cons_self ..)
            · rcases List.mem_cons.mp m with e | m
              · rw [e, hqn] at hb
                cases hb
              · exact n1 (List.mem_cons_of_mem _ m)
          exact b b' u n3 n2 (s2 _ _ (b1 b' u n3 n2 (e1 _ _ hb)))
        dsimp only
        refine seqI ?_
        refine if_join (fun σ' H' => ButT (rM a q s0 h o) H2 H' ∧ ∃ (y3 y4 y5 y6 y7 y8 y9 : Option V), RSt K TT a q s0 dx h o H' c [] (ps ++ [cs]) log (ts0 ++ [tl0]) ∧ σ' = [some (.ref a), some (.ref s0), some (.ref q), y3, y4, y5, y6, y7, y8, y9]) (fun σ5 H5 inv => ?_) (fun D' hJ => ?_)
        · obtain ⟨bt5, y3, y4, y5, y6, y7, y8, y9, R5, rfl⟩ := inv
          refine x_exe (c := .undo) R5.ses rfl (fun X hX => by rw [undo_str] at hX; exact hX) (Nat.zero_le _) (by omega) (.none rfl) fun H6 b6 S6 => ⟨rfl, ?_⟩
          rw [decide_eq_true (rfl : V.str "nothing to undo" = V.str "nothing to undo")]
          have R6 := R5.did NE b6 S6
          exact k H6 (all (bt5.trans (ButT.wide subS (ButT.of b6)))) R6.src R6.tab
        · obtain ⟨⟨d0, past0, S0, ep0⟩, lr⟩ := id R3.ses
          cases o with
          | none => exact ⟨_, rfl, _, _, _, _, false, rfl, .own _, .base (SC.ty _ _ _ _ S0.obj), IR.no, _, rfl, iteF (hJ _ _ ⟨bt, _, _, _, _, _, _, _, R3, rfl⟩)⟩
          | some e =>
            refine ⟨_, rfl, _, _, _, _, true, rfl, .own _, .base (RC.ty _ _ _ _ S0.obj), IR.yes, _, rfl, iteT ?_⟩
            refine ⟨_, rfl, s0, dx, _, rfl, S0.obj, s0, dx, h, e, c, [], log, rfl, R3.ses.r, lr e rfl, fun pt H5 s5 hpt => ?_⟩
            obtain ⟨ts', hts, prr⟩ := hpt
            refine ⟨pt, rfl, ⟨_, SqL.of hts⟩, fun D hD => lc_it walk_list (fun i H' => Same H5 H' ∧ H' D = some (.lst [])) ⟨Same.new hD, upd_same⟩ (fun i H' _ p => SqL.of (p.1 _ _ hts)) (fun i x H6 H7 hi p y => ?_) (fun H6 p => ?_)⟩
            · obtain ⟨rfl, hx⟩ := y
              rw [List.getElem?_map, Option.map_eq_some_iff] at hx
              obtain ⟨t, ht, rfl⟩ := hx
              have hil : i < log.length := by
                rw [← prr.length]
                exact (List.getElem?_eq_some_iff.mp ht).1
              obtain ⟨z, hz⟩ : ∃ z, log[i]? = some z := ⟨_, List.getElem?_eq_getElem hil⟩
              have h5 := p.1 _ _ (pget (F := fun (t : Addr) (q : Str × Str) => H5 t = some (HO.tup [.str q.1, .str q.2])) prr ht hz)
              obtain ⟨cm, cok, ec⟩ := lok3 z (List.mem_of_getElem? hz)
              have sh := Cmd.short cok
              refine g_pair h5 ⟨rfl, _, rfl, 4, rfl, z.1, rfl, by rw [ec, sizeLine_eq]; omega, (show 3 ≤ sizeLine by decide), fun tt htt => ⟨tt, _, rfl, .inr (SqT.of upd_same), rfl, rfl, _, rfl, iteFr ?_ ⟨p.1.trans (Same.new htt), (Same.new htt) _ _ p.2⟩⟩⟩
              rw [ec]
              rcases cmd_cut cm with e | e | e <;> rw [e] <;> decide +kernel
            · refine ⟨z0, fun e2 he2 => ⟨.list (([] : List Str).map PyData.str), .list (([] : List Str).map PyData.str), .lst (SqL.of ((Same.new he2) _ _ p.2)) .nil, .lst (SqL.of upd_same) .nil, by decide +kernel, by decide +kernel, _, rfl, iteFr (by rw [strs_eqv]; rfl) ?_⟩⟩
              have s6 := (s5.trans p.1).trans (Same.new (o := .lst []) he2)
              exact hJ _ _ ⟨bt.trans (ButT.same s6), _, _, _, _, _, _, _, R3.same s6, rfl⟩
end
end TF
end
section
set_option maxHeartbeats 4000000
namespace TF
open PySem PySem.Spec PyProof.Rows L2 PySem.W PySem.Calls
open PySem.SeqAt PySem.MeetsSeq PySem.MeetsSeq2 PySem.MeetsSeq3 PySem.SeqRoads2
open PySem.AutoSeq1 (wpAny_loadPart')
/-! ### x in a tuple, x of an own class, the items of other kinds -/
section
variable {prog : Program} {w : World} {A : Around} {R : Result → Shared → Prop}
theorem tup_noneG (l : Addr) (items : Array Value) (n : Nat) (dd : Option Addr) (sl : Array (Option Value)) (x : Value) (I : Shared → Prop)
    (turn : ∀ y ∈ items, ∀ s, I s → wpAny (model prog w) A.in1 (eqBool y x) (fun r s' => r = false ∧ I s') (fun e s' => R (.error e) s') s)
    (fin : ∀ s, I s → R (.ok (.ret (.bool false))) s) {s : Shared} (hl : s.heap.get? l = some { cls := .type "tuple", dict := dd, data := .seq items n, slots := sl }) (h : I s) :
    wpAny (model prog w) A.in1 (Builtin.«tuple.__contains__» ⟨[.ref l, x], []⟩) (GQ.FinOf prog w A R) (fun e s' => R (.error e) s') s := by
  have h0 := h
  obtain ⟨hp, g, d, tk, os⟩ := s
  wp_walk using wpAny_loadPart' hl, wpAny_forIn_array _ (fun rest b s' => b.1 = none ∧ (∀ y, y ∈ rest → y ∈ items) ∧ I s') _
  case turn =>
    rintro y rest b s' ⟨hb, hmem, hI⟩
    refine wpAny_bind (wpAny_mono (turn y (hmem y (List.mem_cons_self ..)) s' hI) (fun r s2 q2 => ?_) fun _ _ x => x)
    obtain ⟨hr, q2⟩ := q2
    subst hr
    wp_walk
    exact ⟨rfl, fun z hz => hmem z (List.mem_cons_of_mem _ hz), q2⟩
  case fin =>
    rintro ⟨b1, b2⟩ s' ⟨hb, -, hI⟩
    simp only at hb
    subst hb
    have hR := fin s' hI
    wp_walk
    exact hR
  case h => exact ⟨rfl, fun y hy => by simpa using hy, h0⟩
end
section
variable {prog : Program} {w : World} {A : Around} {E : Value → Shared → Prop} {s : Shared} {K : W.Frag} {a C : Addr} {ox : Obj} {od : Option Obj}
/-- u == v, u of a built-in type that declines, v of an own class: its own == answers -/
theorem rc_foreign {u : Value} {T id : String} {Q : Value → Shared → Prop} (hu : A.units < cLine) (ha : s.TypeIs u T) (h1 : Slot T (cmpInfo .Eq).2.1 id) (KI : K.In s.heap) (J : InstAt s.heap a ox C od) (hs : subIn K (.ref C) (.type T) = some false)
    (hc : ∀ Q' : Value → Shared → Prop, Q' .notImplemented s → wpAny (model prog w) A (call (.builtin id) [u, .ref a]) Q' E s)
    (h : wpAny (model prog w) A (tryCompare (.ref a) "__eq__" u) (fun r s' => ∃ v, r = some v ∧ Q v s') E s) : wpAny (model prog w) A (richCompare .Eq u (.ref a)) Q E s := by
  simp only [richCompare, ha.oneThing_none]
  refine wpAny_holding ?_
  refine wpAny_bind (wpAny_cRoomFor hu ?_)
  refine wpAny_bind (wpAny_typeOf ha (wpAny_bind (J.type.here ?_)))
  rw [if_pos (show (Value.type T != Value.ref C) = true from rfl)]
  refine wpAny_bind ((looks_subIn KI hs).here ?_)
  simp only [Bool.false_eq_true, if_false, Bool.not_false, if_true]
  refine wpAny_bind (m := tryCompare u _ (.ref a)) (wpAny_tryCompare_declines ha h1 (hc _ ⟨rfl, ?_⟩))
  refine wpAny_bind (m := tryCompare (.ref a) _ u) (wpAny_mono h (fun r s' z => ?_) fun _ _ e => e)
  obtain ⟨v, rfl, q⟩ := z
  exact wpAny_pure q
theorem int_decl_ins (b : Int) (u : Tok) (l C dx : Addr) : Meets (Builtin.«int.__eq__» ⟨[.int b u, .ref l], []⟩) (fun _ R s => s.heap.get? l = some (instObj C dx) ∧ R (.ok (.ret .notImplemented)) s) :=
  .of_wp fun prog w A R s h => by obtain ⟨hp, g, d, tk, os⟩ := s; obtain ⟨hl, h⟩ := h; wp_walk using wpAny_loadPart' hl, wpAny_load hl; exact ⟨_, rfl, h⟩
theorem str_decl_ins (b : Str) (u : Tok) (l C dx : Addr) : Meets (Builtin.«str.__eq__» ⟨[.str b u, .ref l], []⟩) (fun _ R s => s.heap.get? l = some (instObj C dx) ∧ R (.ok (.ret .notImplemented)) s) :=
  .of_wp fun prog w A R s h => by obtain ⟨hp, g, d, tk, os⟩ := s; obtain ⟨hl, h⟩ := h; wp_walk using wpAny_loadPart' hl, wpAny_load hl; exact ⟨_, rfl, h⟩
theorem dict_decl {knd : KeyKind prog w Key} {d : Addr} {kvs : List (Key × Value)} (da : s.heap.DictOf knd d kvs) (LI : Looks (model prog w) s.heap (isInstance (.ref a) (.type "dict")) false) (Q' : Value → Shared → Prop) (h : Q' .notImplemented s) :
    wpAny (model prog w) A (call (.builtin "dict.__eq__") [.ref d, .ref a]) Q' E s := by
  refine wpAny_call_entry PySem.F.slot_dict_eq da.typeIs PySem.F.entry_dict_eq ?_ (PySem.F.args_dict_eq_2 _ _)
  show wpAny _ _ (Builtin.Dict.dictSlotArgs "__eq__" ⟨[.ref d, .ref a], []⟩ >>= _) _ _ s
  refine wpAny_bind ?_
  unfold Builtin.Dict.dictSlotArgs
  refine wpAny_bind (wpAny_notOrdered_dict da.typeIs ?_)
  show wpAny _ _ (pure (Value.ref d, Value.ref a)) _ _ s
  refine wpAny_pure ?_
  refine wpAny_bind (LI.here ?_)
  simp only [Bool.not_false, if_true]
  exact wpAny_bind (wpAny_rule (wpAny_bind (wpAny_pure (wpAny_pure ⟨_, rfl, h⟩))))
end
/-- what is of another kind than any own class -/
inductive Frn (H : Hp) : V → Prop
  | non : Frn H .non
  | int (i : Int) : Frn H (.int i)
  | str (z : Str) : Frn H (.str z)
  | dK {d : Addr} {kvs : List (Key × V)} (h : H d = some (.dK kvs)) : Frn H (.ref d)
theorem Frn.same {H H' : Hp} {v : V} (h : Frn H v) (e : Same H H') : Frn H' v := by
  cases h with
  | non => exact .non
  | int i => exact .int i
  | str z => exact .str z
  | dK h => exact .dK (e _ _ h)
/-- a class that is none of the built-in ones -/
structure FrnC (K : W.Frag) (C : Addr) : Prop where
  non : subIn K (.ref C) (.type "NoneType") = some false
  int : subIn K (.ref C) (.type "int") = some false
  str : subIn K (.ref C) (.type "str") = some false
  dict : subIn K (.ref C) (.type "dict") = some false
section
variable {X : Cx} {CX : CXT} {k : Nat} {C : Addr} {sp : Sp} {E : XK} {pins : List (Addr × Obj)} {σ : L2.St} {H : Hp} {s : Shared}
theorem eq_foreign (F : MOk X.prog X.w X.K X.mg X.base CX k C "__eq__" sp) {A : Around} (hr : Room k A) (e0 : Env0 X.prog X.w X.K X.mg X.base A X.stack s H) (hx : Passes CX X E) (FC : FrnC X.K C) (I : Inv X pins σ H s) {a dx : Addr} {fs : List (Str × V)} (ha : H a = some (.ins C dx fs)) {v : V} {u : Value} (rv : RelV v u) (fv : Frn H v)
    (h : sp [.ref a, v] H (fun w H' => w = .bl false ∧ Same H H') E) : wpAny (model X.prog X.w) A (eqBool u (.ref a)) (fun r s' => r = false ∧ ∃ H', Inv X pins σ H' s' ∧ Same H H') X.xe s := by
  obtain ⟨f, fd, ps, h1, h2, h3⟩ := F.g
  have hins := I.hok a _ ha
  obtain ⟨_, _, _, hget, _⟩ := (show ObjOk X.prog X.w H s.heap a (.ins C dx fs) from hins)
  obtain ⟨mA, J, _⟩ := ins_get I.hok ha
  obtain ⟨od, J, _⟩ := J.look
  have own : wpAny (model X.prog X.w) A (tryCompare (.ref a) "__eq__" u) (fun r s' => ∃ v, r = some v ∧ v = .bool false ∧ ∃ H', Inv X pins σ H' s' ∧ Same H H') X.xe s := by
    unfold tryCompare
    refine wpAny_bind (ifBound_K I.kIn J h3.at_ h3.fn (thn (run_at h1 h2 hr e0 hx I (us := [.ref a, u]) (vs := [.ref a, v]) (.cons rfl (.cons rv .nil)) h) fun w s' ⟨z, H', I', rz, ez, sm⟩ => ?_))
    subst ez
    obtain rfl : w = Value.bool false := rz
    exact wpAny_pure ⟨_, rfl, rfl, H', I', sm⟩
  have rc : wpAny (model X.prog X.w) A (richCompare .Eq u (.ref a)) (fun v s' => v = .bool false ∧ ∃ H', Inv X pins σ H' s' ∧ Same H H') X.xe s := by
    have KI := I.kIn
    cases fv with
    | non =>
      cases rv
      exact rc_foreign hr.units0 (typeIs_none s) PySem.F.slot_NoneType_eq KI J FC.non (fun _ hq => call_gives PySem.F.slot_NoneType_eq rfl PySem.F.entry_NoneType_eq (PySem.F.args_NoneType_eq_2 _ _) (NoneType___eq___none_ref_0 a) hq) own
    | int i =>
      obtain ⟨t, rfl⟩ := rv
      exact rc_foreign hr.units0 (typeIs_int s i t) PySem.F.slot_int_eq KI J FC.int (fun _ hq => call_meets PySem.F.slot_int_eq (typeIs_int s i t) PySem.F.entry_int_eq (PySem.F.args_int_eq_2 _ _) (int_decl_ins i t a C dx) ⟨hget, hq⟩) own
    | str z =>
      obtain ⟨t, rfl⟩ := rv
      exact rc_foreign hr.units0 (typeIs_str s z t) PySem.F.slot_str_eq KI J FC.str (fun _ hq => call_meets PySem.F.slot_str_eq (typeIs_str s z t) PySem.F.entry_str_eq (PySem.F.args_str_eq_2 _ _) (str_decl_ins z t a C dx) ⟨hget, hq⟩) own
    | dK hd =>
      cases rv
      obtain ⟨_, _, vs, _, da⟩ := (show ObjOk X.prog X.w H s.heap _ (.dK _) from I.hok _ _ hd)
      exact rc_foreign hr.units0 da.typeIs PySem.F.slot_dict_eq KI J FC.dict (fun Q' hq => dict_decl da (J.type.andThen (looks_subIn KI FC.dict)) Q' hq) own
  have fin : ∀ v s', (v = Value.bool false ∧ ∃ H', Inv X pins σ H' s' ∧ Same H H') → wpAny (model X.prog X.w) A (truthOfDropped v) (fun r s' => r = false ∧ ∃ H', Inv X pins σ H' s' ∧ Same H H') X.xe s' := fun v s' ⟨e, q⟩ => by
    subst e
    exact wpAny_truthy_bool ⟨rfl, q⟩
  unfold eqBool
  refine wpAny_holding ?_
  cases fv with
  | non =>
    cases rv
    exact wpAny_bind (wpAny_mono rc fin fun _ _ x => x)
  | int i =>
    obtain ⟨t, rfl⟩ := rv
    exact wpAny_bind (wpAny_mono rc fin fun _ _ x => x)
  | str z =>
    obtain ⟨t, rfl⟩ := rv
    exact wpAny_bind (wpAny_mono rc fin fun _ _ x => x)
  | @dK d kvs hd =>
    cases rv
    refine wpAny_ite_split (fun hab => absurd (eq_of_beq hab) fun e => ?_) (fun _ => ?_)
    · cases e
      rw [hd] at ha
      cases ha
    · exact wpAny_bind (wpAny_mono rc fin fun _ _ x => x)
/-- x in (..), x of an own class, nothing there of its kind -/
theorem op_inOwn (F : MOk X.prog X.w X.K X.mg X.base CX k C "__eq__" sp) (hr : Room (k + 1) X.A) (hx : Passes CX X E) (FC : FrnC X.K C) :
    OpR X (compareOp .In) (fun x y H Q => ∃ (a dx p : Addr) (fs : List (Str × V)) (ys : List V), x = .ref a ∧ y = .ref p ∧ SqT X.K H p ys ∧ H a = some (.ins C dx fs) ∧ (∀ v ∈ ys, Frn H v) ∧ (∀ v ∈ ys, ∀ H1, Same H H1 → sp [.ref a, v] H1 (fun w H2 => w = .bl false ∧ Same H1 H2) E) ∧ ∀ H', Same H H' → Q (.bl false) H') := by
  intro pins s σ H x y v u Q I rx ry ⟨a, dx, p, fs, ys, ex, ey, hT, ha, hf, hs, q⟩
  subst ex ey
  obtain rfl : v = Value.ref a := rx
  obtain rfl : u = Value.ref p := ry
  obtain ⟨its, r, ⟨⟨cls, dd, data, sl⟩, ho, hc, n, hd⟩, _⟩ := I.tuple hT
  simp only at hc hd
  subst hc hd
  show wpAny _ X.A (do return .bool (← contains (.ref p) (.ref a))) (EP X pins σ Q) X.xe s
  refine wpAny_bind (wpAny_contains_slot ⟨_, ho, rfl⟩ PySem.F.slot_tuple_contains (wpAny_mono (GQ.call_here (Q := fun v s' => v = .bool false ∧ ∃ H', Inv X pins σ H' s' ∧ Same H H') PySem.F.slot_tuple_contains ⟨_, ho, rfl⟩ PySem.F.entry_tuple_contains (PySem.F.args_tuple_contains_2 _ _)
    (tup_noneG (R := wants (fun v s' => v = .bool false ∧ ∃ H', Inv X pins σ H' s' ∧ Same H H') X.xe) p its.toArray n dd sl (.ref a) (fun s' => ∃ H', Inv X pins σ H' s' ∧ Same H H') (fun y hy s' ⟨H1, I1, e1⟩ => ?_) (fun s' h => ⟨rfl, h⟩) ho ⟨H, I, Same.refl _⟩)) (fun v s' hv => ?_) fun _ _ e => e))
  · obtain ⟨i, hi, ey⟩ := List.mem_iff_getElem.mp (show y ∈ its by simpa using hy)
    have hk : i < ys.length := by rw [r.length]; exact hi
    obtain ⟨u', hu', ru⟩ := r.get (List.getElem?_eq_getElem hk)
    rw [List.getElem?_eq_getElem hi, ey] at hu'
    cases hu'
    have hm : ys[i] ∈ ys := List.getElem_mem hk
    refine wpAny_mono (eq_foreign F (hr.in1) I1.env0.in1 hx FC I1 (e1 _ _ ha) ru ((hf _ hm).same e1) (hs _ hm H1 e1)) (fun r s2 q2 => ?_) fun _ _ e => e
    obtain ⟨e, H2, I2, e2⟩ := q2
    exact ⟨e, H2, I2, e1.trans e2⟩
  · obtain ⟨rfl, H', I', e'⟩ := hv
    exact wpAny_truthy_bool (wpAny_pure ⟨.bl false, H', I', rfl, q H' e'⟩)
end
end TF
end
section
set_option maxHeartbeats 4000000
namespace TF
open PySem PySem.Spec PyProof.Rows L2 TL StX LamX
/-! ### the first blank -/
theorem first_sp {a b : Str} (h : 32 ∉ tl a) : ∃ rest, Builtin.Str.occurrences (a ++ " " ++ b) " " 0 (a ++ " " ++ b).length 1 = a.length :: rest := by
  have e1 : (" " : Str) = ⟨#[32]⟩ := by decide +kernel
  have ex : (a ++ " " ++ b).cps.toList = tl a ++ 32 :: tl b := by
    show tl _ = _
    rw [tl_append, tl_append, List.append_assoc]
    rfl
  have here : (a ++ " " ++ b).cps.toList[a.length]? = some 32 := by
    rw [ex, len_tl, List.getElem?_append_right (Nat.le_refl _), Nat.sub_self]
    rfl
  rw [StrLaws.occ_eq]
  rcases StrLaws.occ_first (a ++ " " ++ b) " " (a ++ " " ++ b).length 1 (Nat.le_refl _) (List.range' 0 ((a ++ " " ++ b).length + 1 - 0)) 0 (fun _ _ => Nat.zero_le _) with ⟨h0, hn⟩ | ⟨pre, k, post, e, h0, hat, hn⟩
  · have lt : a.length < (a ++ " " ++ b).length := by
      have := (List.getElem?_eq_some_iff.mp here).1
      rwa [← len_tl] at this
    refine absurd ?_ (hn a.length (by simp [List.mem_range']; omega))
    have := (StrLaws.subAt_one (a ++ " " ++ b) 32 a.length).mpr here
    rw [← e1] at this
    exact this
  · have hk : (a ++ " " ++ b).cps.toList[k]? = some 32 := by
      refine (StrLaws.subAt_one (a ++ " " ++ b) 32 k).mp ?_
      rw [← e1]
      exact hat
    have ek : k = a.length := by
      rcases Nat.lt_trichotomy k a.length with q | q | q
      · rw [ex, List.getElem?_append_left (by rw [← len_tl]; exact q)] at hk
        exact absurd (List.mem_of_getElem? hk) h
      · exact q
      · refine absurd ?_ (hn a.length (StrLaws.range'_split e a.length q))
        have := (StrLaws.subAt_one (a ++ " " ++ b) 32 a.length).mpr here
        rw [← e1] at this
        exact this
    subst ek
    generalize ((forIn (List.range' 0 ((a ++ " " ++ b).length + 1 - 0)) ((#[] : Array Nat), 0) (StrLaws.occBody (a ++ " " ++ b) " " (a ++ " " ++ b).length 1)).run.fst) = arr at h0
    cases q : arr.toList with
    | nil =>
      rw [← Array.getElem?_toList, q] at h0
      cases h0
    | cons x r =>
      rw [← Array.getElem?_toList, q] at h0
      cases h0
      exact ⟨r, rfl⟩
theorem line_first {r : Row} (h : nameOk r.1 = true) : ∃ rest, Builtin.Str.occurrences (lineOf r) " " 0 (lineOf r).length 1 = r.1.length :: rest := by
  rw [line_eq]
  exact first_sp (name_free h (by decide))
/-! ### sessions that are made with keywords -/
section
variable {K : PySem.W.Frag} {H : Hp} {Q : VK} {es : List Ent} {cs : List Row}
theorem made_same {C x dx : Addr} (hx : H x = none) (hdx : H dx = none) : Same H (upd (upd H dx (.own x)) x (.ins C dx [])) := fun b o hb => by
  rw [upd_ne (ne_of_none hb hx), upd_ne (ne_of_none hb hdx)]
  exact hb
theorem es_kv (es : List Ent) : (es.map fun e => (e.nm, V.ref e.c)).map (fun q => ((Sum.inr q.1 : Key), q.2)) = es.map Ent.kv := by rw [List.map_map]; rfl
theorem mkS_core (SC : SesC K (aSes K)) (hc : ∀ e ∈ es, CellAt K H e.c e.N e.ms) (hp : (es.map Ent.row).Perm cs) (ok : OkRows cs) (ns : ∀ e ∈ es, e.nm ≠ ("self" : Str)) {x dx : Addr} (hx : H x = none) (hdx : H dx = none) (ne : dx ≠ x)
    (k : ∀ s dx d h H', Same H H' → H s = none → H d = none → H h = none → Ses K H' (aSes K) s dx d h none cs [] → Q (.ref s) H') :
    spKw 1 ["self"] (spSi K) [.ref x] (es.map fun e => (e.nm, V.ref e.c)) (upd (upd H dx (.own x)) x (.ins (aSes K) dx [])) (fun v H2 => v = .non ∧ Q (.ref x) H2) E0 := by
  have l26 := ok.ln
  have le := ents_len hp
  have s0 : Same H (upd (upd H dx (.own x)) x (.ins (aSes K) dx [])) := made_same hx hdx
  have ex : (upd (upd H dx (.own x)) x (.ins (aSes K) dx [])) x = some (.ins (aSes K) dx []) := upd_same
  generalize upd (upd H dx (.own x)) x (.ins (aSes K) dx []) = H0 at s0 ex
  refine ⟨rfl, by rw [List.length_map]; omega, ?_, fun q hq => ?_, fun D hD => ?_⟩
  · rw [List.map_map]
    exact (ents_names hp).nodup_iff.mpr ok.nd
  · obtain ⟨e, he, rfl⟩ := List.mem_map.mp hq
    exact fun m => ns e he (List.mem_singleton.mp m)
  · rw [es_kv]
    have s1 : Same H0 (upd H0 D (.dK (es.map Ent.kv))) := Same.new hD
    have e1 := s0.trans s1
    refine ⟨x, aSes K, dx, D, cs, rfl, SC, s1 _ _ ex, ⟨es, ⟨upd_same, fun e he => (hc e he).same e1⟩, hp⟩, ok, fun H2 d' h b hd' hh hx2 cat2 hh2 => ⟨rfl, ?_⟩⟩
    refine k x dx d' h H2 (fun b' o hb => b b' o (fun m => by rw [List.mem_singleton.mp m, hx] at hb; cases hb) (e1 b' o hb)) hx (e1.free hd') (e1.free hh) ⟨hx2, cat2, ok, hh2, fun _ h => (nomatch h), fun _ h => nomatch h⟩
theorem mkR_core (hc : ∀ e ∈ es, CellAt K H e.c e.N e.ms) (hp : (es.map Ent.row).Perm cs) (ok : OkRows cs) (ns : ∀ e ∈ es, e.nm ≠ ("self" : Str)) {x dx : Addr} (hx : H x = none) (hdx : H dx = none) (ne : dx ≠ x)
    (k : ∀ s dx d h e H', Same H H' → H s = none → H d = none → H h = none → H e = none → Ses K H' (aRec K) s dx d h (some e) cs [] → RecAt H' e [] → Q (.ref s) H') :
    spKw 1 ["self"] (spRi K) [.ref x] (es.map fun e => (e.nm, V.ref e.c)) (upd (upd H dx (.own x)) x (.ins (aRec K) dx [])) (fun v H2 => v = .non ∧ Q (.ref x) H2) E0 := by
  have l26 := ok.ln
  have le := ents_len hp
  have s0 : Same H (upd (upd H dx (.own x)) x (.ins (aRec K) dx [])) := made_same hx hdx
  have ex : (upd (upd H dx (.own x)) x (.ins (aRec K) dx [])) x = some (.ins (aRec K) dx []) := upd_same
  generalize upd (upd H dx (.own x)) x (.ins (aRec K) dx []) = H0 at s0 ex
  refine ⟨rfl, by rw [List.length_map]; omega, ?_, fun q hq => ?_, fun D hD => ?_⟩
  · rw [List.map_map]
    exact (ents_names hp).nodup_iff.mpr ok.nd
  · obtain ⟨e, he, rfl⟩ := List.mem_map.mp hq
    exact fun m => ns e he (List.mem_singleton.mp m)
  · rw [es_kv]
    have s1 : Same H0 (upd H0 D (.dK (es.map Ent.kv))) := Same.new hD
    have e1 := s0.trans s1
    have nsR : ∀ r ∈ cs, r.1 ≠ ("self" : Str) := fun r hr => by
      obtain ⟨e, he, rfl⟩ := List.mem_map.mp (hp.mem_iff.mpr hr)
      exact ns e he
    refine ⟨x, dx, D, cs, rfl, s1 _ _ ex, ⟨es, ⟨upd_same, fun e he => (hc e he).same e1⟩, hp⟩, ok, nsR, fun H2 d' h e b hd' hh he neh hx2 cat2 hh2 he2 => ⟨rfl, ?_⟩⟩
    refine k x dx d' h e H2 (fun b' o hb => b b' o (fun m => by rw [List.mem_singleton.mp m, hx] at hb; cases hb) (e1 b' o hb)) hx (e1.free hd') (e1.free hh) (e1.free he) ⟨hx2, cat2, ok, hh2, fun _ h => (nomatch h), fun a ha => ?_⟩ ⟨[], he2, .nil⟩
    cases ha
    exact ⟨neh, [], he2⟩
theorem zip_es (es : List Ent) : (es.map (·.nm)).zip (es.map fun e => V.ref e.c) = es.map fun e => (e.nm, V.ref e.c) := by
  induction es with
  | nil => rfl
  | cons e r ih =>
    rw [List.map_cons, List.map_cons, List.map_cons, List.zip_cons_cons, ih]
variable {σ : L2.St} {ks : List Str} {tk : TA}
/-- Session(k = e, ..) -/
theorem x_mkS (hks : ks = es.map (·.nm)) (ht : ∀ R : List V → Hp → Prop, R (es.map fun e => V.ref e.c) H → tk σ H R) (SC : SesC K (aSes K)) (hc : ∀ e ∈ es, CellAt K H e.c e.N e.ms) (hp : (es.map Ent.row).Perm cs) (ok : OkRows cs) (ns : ∀ e ∈ es, e.nm ≠ ("self" : Str))
    (k : ∀ s dx d h H', Same H H' → H s = none → H d = none → H h = none → Ses K H' (aSes K) s dx d h none cs [] → Q (.ref s) H') : tMkKw (aSes K) ks (spKw 1 ["self"] (spSi K)) E0 tk σ H Q := by
  subst hks
  refine ht _ ⟨by rw [List.length_map, List.length_map], fun x dx hx hdx ne => ?_⟩
  rw [zip_es]
  exact mkS_core SC hc hp ok ns hx hdx ne k
/-- Recorder(k = e, ..) -/
theorem x_mkR (hks : ks = es.map (·.nm)) (ht : ∀ R : List V → Hp → Prop, R (es.map fun e => V.ref e.c) H → tk σ H R) (hc : ∀ e ∈ es, CellAt K H e.c e.N e.ms) (hp : (es.map Ent.row).Perm cs) (ok : OkRows cs) (ns : ∀ e ∈ es, e.nm ≠ ("self" : Str))
    (k : ∀ s dx d h e H', Same H H' → H s = none → H d = none → H h = none → H e = none → Ses K H' (aRec K) s dx d h (some e) cs [] → RecAt H' e [] → Q (.ref s) H') : tMkKw (aRec K) ks (spKw 1 ["self"] (spRi K)) E0 tk σ H Q := by
  subst hks
  refine ht _ ⟨by rw [List.length_map, List.length_map], fun x dx hx hdx ne => ?_⟩
  rw [zip_es]
  exact mkR_core hc hp ok ns hx hdx ne k
/-- Session() -/
theorem x_mkS0 (SC : SesC K (aSes K)) (k : ∀ s dx d h H', Same H H' → H s = none → H d = none → H h = none → Ses K H' (aSes K) s dx d h none [] [] → Q (.ref s) H') : tMkKw0 (aSes K) (spKw 1 ["self"] (spSi K)) E0 σ H Q :=
  fun x dx hx hdx ne => mkS_core (es := []) SC (fun _ h => nomatch h) (.refl _) okRows_nil (fun _ h => nomatch h) hx hdx ne k
/-- Recorder() -/
theorem x_mkR0 (k : ∀ s dx d h e H', Same H H' → H s = none → H d = none → H h = none → H e = none → Ses K H' (aRec K) s dx d h (some e) [] [] → RecAt H' e [] → Q (.ref s) H') : tMkKw0 (aRec K) (spKw 1 ["self"] (spRi K)) E0 σ H Q :=
  fun x dx hx hdx ne => mkR_core (es := []) (fun _ h => nomatch h) (.refl _) okRows_nil (fun _ h => nomatch h) hx hdx ne k
end
end TF
end
section
set_option maxHeartbeats 4000000
set_option pp.maxSteps 3000

namespace TF
open PySem PySem.Spec PyProof.Rows L2 TL StX LamX
section
variable {P : Program} {w : World} {K : PySem.W.Frag} {mg : Str → Option Value} {base : Heap}
/-- what the two classes of sessions are to each other -/
structure SesE (K : PySem.W.Frag) (mg : Str → Option Value) : Prop where
  mS : mg "Session" = some (.ref (aSes K))
  mR : mg "Recorder" = some (.ref (aRec K))
  ne : aRec K ≠ aSes K
  sub : PySem.W.subIn K (.ref (aRec K)) (.ref (aSes K)) = some true
  fne : PySem.W.findIn K (.ref (aRec K)) "__ne__" = some (some (.builtin "object.__ne__"))
  mro : PySem.W.mroIn K (aRec K) (.type "object") = some true
  nf : PySem.W.notFirst K (aSes K) (.ref (aSes K)) = true
  nc : PySem.W.notFirst K (aCell K) (.ref (aCell K)) = true
  fr : FrnC K (aSes K)
  kN : PySem.W.kitOne K (.type "NoneType") (.ref (aSes K)) = some false
  kI : PySem.W.kitOne K (.type "int") (.ref (aSes K)) = some false
  kS : PySem.W.kitOne K (.type "str") (.ref (aSes K)) = some false
  kD : PySem.W.kitOne K (.type "dict") (.ref (aSes K)) = some false
/-! ### what lives while the law makes sessions -/
theorem dict_there {H : Hp} {d : Addr} {cs : List Row} (h : CatAt K H d cs) (e : H d = none) : False := by
  obtain ⟨es, h1, _⟩ := h
  rw [h1.1] at e
  cases e
structure Live (K : PySem.W.Frag) (H0 : Hp) (a p : Addr) (cs : List Row) (s dx h s' dx' h' e' : Addr) (log : List (Str × Str)) (H : Hp) : Prop where
  old : ButL [a] H0 H
  sa : SrcAt H a
  hp : LnAt H p cs
  X1 : SesX K H s dx h none cs [] []
  X2 : SesX K H s' dx' h' (some e') cs [] log
theorem Live.same {H0 : Hp} {a p : Addr} {cs : List Row} {s dx h s' dx' h' e' : Addr} {log : List (Str × Str)} {H H' : Hp} (L : Live K H0 a p cs s dx h s' dx' h' e' log H) (e : Same H H') : Live K H0 a p cs s dx h s' dx' h' e' log H' := ⟨L.old.same e, L.sa.same e, e _ _ L.hp, L.X1.same e, L.X2.same e⟩
abbrev cs2 (c : LC) : List Row := [("a", c.1, c.2), ("b", 3, [1, 2])]
structure Live2 (K : PySem.W.Frag) (H0 : Hp) (a p : Addr) (cs : List Row) (s dx h s' dx' h' e' : Addr) (log : List (Str × Str)) (o1 o2 s3 dx3 d3 h3 s4 dx4 d4 h4 e4 : Addr) (c : LC) (H : Hp) : Prop where
  L : Live K H0 a p cs s dx h s' dx' h' e' log H
  c1 : CellAt K H o1 c.1 c.2
  c2 : CellAt K H o2 3 [1, 2]
  S3 : Ses K H (aSes K) s3 dx3 d3 h3 none (cs2 c) []
  S4 : Ses K H (aRec K) s4 dx4 d4 h4 (some e4) (cs2 c) []
  R4 : RecAt H e4 []
theorem Live2.same {H0 : Hp} {a p : Addr} {cs : List Row} {s dx h s' dx' h' e' : Addr} {log : List (Str × Str)} {o1 o2 s3 dx3 d3 h3 s4 dx4 d4 h4 e4 : Addr} {c : LC} {H H' : Hp} (L : Live2 K H0 a p cs s dx h s' dx' h' e' log o1 o2 s3 dx3 d3 h3 s4 dx4 d4 h4 e4 c H) (e : Same H H') : Live2 K H0 a p cs s dx h s' dx' h' e' log o1 o2 s3 dx3 d3 h3 s4 dx4 d4 h4 e4 c H' :=
  ⟨L.L.same e, L.c1.same e, L.c2.same e, L.S3.same e, L.S4.same e, L.R4.same e⟩
theorem SesX.off {H H' : Hp} {s dx h : Addr} {o : Option Addr} {cs : List Row} {ps : List (List Row)} {log : List (Str × Str)} {L : List Addr} (S : SesX K H s dx h o cs ps log) (b : ButL L H H') (st : Stray H L) (n : ∀ x ∈ mutd s h o, x ∉ L) : SesX K H' s dx h o cs ps log := S.butT (ButT.of b) n st
theorem good12 : Good 3 [1, 2] := IsLc.good (k := 0) (c := (3, [1, 2])) (.one (by decide)) (by decide)
theorem ok_one {nm : Str} {c : LC} (n : nameOk nm = true) (g : Good c.1 c.2) : OkRows [(nm, c.1, c.2)] := ⟨fun r hr => by rw [List.mem_singleton.mp hr]; exact n, fun r hr => by rw [List.mem_singleton.mp hr]; exact g, List.pairwise_singleton _ _, by show 1 ≤ 26; decide⟩
theorem ok_two {c : LC} (g : Good c.1 c.2) : OkRows (cs2 c) := by
  refine ⟨fun r hr => ?_, fun r hr => ?_, ?_, by show 2 ≤ 26; decide⟩
  · rcases List.mem_cons.mp hr with rfl | hr
    · exact (by decide +kernel : nameOk "a" = true)
    · rw [List.mem_singleton.mp hr]
      exact (by decide +kernel : nameOk "b" = true)
  · rcases List.mem_cons.mp hr with rfl | hr
    · exact g
    · rw [List.mem_singleton.mp hr]
      exact good12
  · refine List.pairwise_cons.mpr ⟨fun r hr => ?_, List.pairwise_singleton _ _⟩
    rw [List.mem_singleton.mp hr]
    exact (by decide +kernel : Array.toList (Str.cps "a") < Array.toList (Str.cps "b"))
theorem parI {i j : Nat} {ta : TA} {D : Ends} {σ : L2.St} {H : Hp} (h : ta σ H fun vs H1 => ∃ v w, vs = [v, w] ∧ D.nx ((σ.set i (some v)).set j (some w)) H1) : tPar i j ta D σ H := h
theorem nextI {D : Ends} {σ : L2.St} {H : Hp} (h : D.nx σ H) : tNext D σ H := h
theorem andI {ta tb : TE} {σ : L2.St} {H : Hp} {Q : VK} (h : ta σ H fun x H1 => ∃ c, x = .bl c ∧ if c = true then tb σ H1 Q else Q (.bl false) H1) : tAndV ta tb σ H Q := h
theorem ifI {c : TT} {t u : TS} {D : Ends} {σ : L2.St} {H : Hp} (h : c σ H fun b H1 => if b = true then t D σ H1 else u D σ H1) : tIfS c t u D σ H := h
theorem orI {t u : TT} {σ : L2.St} {H : Hp} {Q : Bool → Hp → Prop} (h : t σ H fun c H1 => if c = true then Q true H1 else u σ H1 Q) : tOr t u σ H Q := h
theorem testI {t : TE} {σ : L2.St} {H : Hp} {Q : Bool → Hp → Prop} (h : t σ H fun x H' => ∃ k, x = .bl k ∧ Q k H') : tTest t σ H Q := h
theorem opI {r : R2} {ta tb : TE} {σ : L2.St} {H : Hp} {Q : VK} (h : ta σ H fun x H1 => tb σ H1 fun y H2 => r x y H2 Q) : tOp r ta tb σ H Q := h
theorem dp_pairs {H : Hp} : ∀ {ts : List Addr} {log : List (Str × Str)}, Paired (fun t (q : Str × Str) => H t = some (.tup [.str q.1, .str q.2])) ts log → DpAll K H (ts.map V.ref) (log.map pairD)
  | _, _, .nil => .nil
  | _, _, .cons x t => .cons (.tup (SqT.of x) (.cons (.str _) (.cons (.str _) .nil))) (dp_pairs t)
def spMa : Sp := fun vs H Q _ => ∃ a : Addr, vs = [.ref a] ∧ SrcAt H a ∧ ∀ H', ButL [a] H H' → SrcAt H' a → Q (.bl true) H'
theorem scMa : FnScope ["_law_source_here", "_law_lines_here", "_law_written", "_law_session", "_law_recorder", "_law_line", "_law_one", "_law_two", "_law_first", "_law_second", "_law_thing"] ["_law_source_here"] (defScope (tops 86)) := ⟨rfl, rfl, rfl, by decide +kernel, rfl, by decide +kernel, by decide +kernel⟩
theorem ok_ma (G : GDef K mg "_law_made_right" (tops 86)) (T : TxtA K mg) (SC : SesC K (aSes K)) (RC : RecC K) (IR : IsR K) (IE : SesE K mg) (EA : ErrA K mg) (Fli : GOk P w K mg base CX0 3 "_law_lines" spLi) (Fte : GOk P w K mg base CX0 1 "_law_text" spTe) (Fsh : GOk P w K mg base CX0 1 "_law_shown" spShn) (Fce2 : GOk P w K mg base CX0 2 "_law_cell" spCe)
    (Fis : GOk P w K mg base CX0 12 "_law_is_so" (spIs K)) (Fre1 : CMOk P w K mg base (L2.CX P w) 7 (aSes K) "restore" (spReS K)) (Fre2 : CKmOk P w K mg base (L2.CX P w) 7 (aRec K) "restore" 1 ["text"] (· ++ ·) (spReR K)) (Fmk1 : CKOk P w K mg base CX0 3 (aSes K) (spKw 1 ["self"] (spSi K))) (Fmk2 : CKOk P w K mg base CX0 4 (aRec K) (spKw 1 ["self"] (spRi K)))
    (Fpc : GOk P w K mg base (L2.CX P w) 6 "parse_cell" (spPce K)) (Fcl : COk P w K mg base (L2.CX P w) 3 (aCell K) (spCell K)) (Fse1 : MOk P w K mg base CX0 3 (aSes K) "__eq__" (spSeq K (aSes K))) (Fse2 : MOk P w K mg base CX0 3 (aRec K) "__eq__" (spSeq K (aRec K))) (Fce : MOk P w K mg base CX0 1 (aCell K) "__eq__" (spCEq K))
    (Fex1 : MOk P w K mg base CX0 11 (aSes K) "execute" (spExe K (aSes K) (spOut K (aSes K)))) (Fex2 : MOk P w K mg base CX0 11 (aRec K) "execute" (spExe K (aRec K) (spRo K))) (Ftr : POk P w K mg base CX0 1 (aRec K) "transcript" (spTr K)) (Fnm : POk P w K mg base CX0 1 (aSes K) "names" (spNm K (aSes K)))
    (Ftx1 : POk P w K mg base CX0 5 (aSes K) "text" (spTx K (aSes K))) (Ftx2 : POk P w K mg base CX0 5 (aRec K) "text" (spTx K (aRec K))) (Fak : AkOk P w K mg base 7 (aRec K)) (Flk : MOk P w K mg base CX0 1 (aSes K) "lookup" (spLk K (aSes K))) : GOk P w K mg base CX0 13 "_law_made_right" spMa := by
  refine G.ok scMa (fun vs H Q E h => ?_) (fun _ _ _ _ _ _ us hl => match us, hl with | [_], _ => rfl) (fun f cdv A outer s H vs Q E hr h => ?_)
  · obtain ⟨_, rfl, _⟩ := h
    rfl
  · obtain ⟨a, rfl, sa, k⟩ := h
    refine ⟨_, (pss_cons (ps_set (i := 1) scMa.nd rfl (Or.inl rfl) (pe_cg Fli (hr.mono (by decide)) pass0 rfl (pa_cons (pv 0) pa_nil)))
      (pss_cons (ps_set (i := 2) scMa.nd rfl (Or.inl rfl) (pe_cg Fte (hr.mono (by decide)) pass0 rfl (pa_cons (pv 1) pa_nil)))
      (pss_cons (ps_par (i := 3) (j := 4) (by rfl) scMa.nd rfl rfl (by decide) rfl rfl (pa_cons (pe_cls Fre1 (hr.mono (by decide)) passN (pe_gc rfl T.c_Session) (pa_cons (pv 2) pa_nil)) (pa_cons (pe_clsK0 Fre2 (hr.mono (by decide)) passN (pe_gc rfl T.c_Recorder) (pk_cons (pv 2) pk_nil)) pa_nil)) (by rfl))
      (pss_cons (ps_if (PW.pt (pw_or (pt_cmpR (op_neRight Fse2 (hr.mono (by decide)) pass0 IE.ne IE.sub IE.fne IE.mro) (pv 3) (pv 4) (nomark _)) (pw_or (pt_not (pt_val (pe_cg Fis (hr.mono (by decide)) pass0 rfl (pa_cons (pv 3) (pa_cons (pv 1) pa_nil))))) (pw_or1 (pt_val (pe_callB call_isi (by rfl) T.z_isinstance (by decide +kernel) (pa_cons (pv 3) (pa_cons (pe_gc rfl T.c_Recorder) pa_nil)))))))) (pss_one (ps_ret pe_bl)) pss_nil)
      (pss_cons (ps_if (PW.pt (pw_or (pt_not (pt_val (pe_callB call_isi (by rfl) T.z_isinstance (by decide +kernel) (pa_cons (pv 4) (pa_cons (pe_gc rfl T.c_Recorder) pa_nil))))) (pw_or (pt_cmpR (op_neD (hu64 hr)) (pe_cp Ftr RC.cl (hr.mono (by decide)) pass0 (pv 4)) (pe_lst pa_nil) (nomark _)) (pw_or1 (pt_not (pt_val (pe_cg Fis (hr.mono (by decide)) pass0 rfl (pa_cons (pv 4) (pa_cons (pv 1) pa_nil))))))))) (pss_one (ps_ret pe_bl)) pss_nil)
      (pss_cons (ps_if (pt_cmpR (op_neD (hu64 hr)) (pe_cp Ftr RC.cl (hr.mono (by decide)) pass0 (pv 4)) (pe_lc (own := [("_law_line", 5)]) (g := gName 5) rfl scMa.nd  (pi_list (pv 1)) (blkOk_by (N := ["_law_source_here", "_law_lines_here", "_law_written", "_law_session", "_law_recorder", "_law_line", "_law_one", "_law_two", "_law_first", "_law_second", "_law_thing"]) (sc := (defScope (tops 86))) (by decide +kernel)) (fun _ _ _ _ _ => (pg_name (i := 5) scMa.nd rfl (Or.inl rfl))) (fun _ _ _ _ _ => pts_nil) (fun _ _ _ _ _ => (pe_tup (pa_cons (pe_op op_add_str pe_str (pe_ix (show IxR _ (rIxL K) from ix_list) (pe_split (pv 5) pe_str) pe_int (fun _ _ => rfl))) (pa_cons (pe_slice (show SlR _ rSlS from sl_str) (pv 5) (po_some (pe_op op_add (pe_m1 PySem.F.slot_str_index PySem.F.type_str_index mt_sindex (pv 5) pe_str) pe_int)) po_none) pa_nil))))) (nomark _)) (pss_one (ps_ret pe_bl)) pss_nil)
      (pss_cons (ps_par (i := 6) (j := 7) (by rfl) scMa.nd rfl rfl (by decide) rfl rfl (pa_cons (pe_cg Fpc (hr.mono (by decide)) passN rfl (pa_cons (pe_cg Fsh (hr.mono (by decide)) pass0 rfl (pa_cons (pe_cg Fce2 (hr.mono (by decide)) pass0 rfl (pa_cons (pv 0) pa_nil)) pa_nil)) pa_nil)) (pa_cons (pe_cC Fcl (hr.mono (by decide)) passN rfl EA.m_Cell (pa_cons pe_int (pa_cons (pe_tup (pa_cons pe_int (pa_cons pe_int pa_nil))) pa_nil))) pa_nil)) (by rfl))
      (pss_cons (ps_par (i := 8) (j := 9) (by rfl) scMa.nd rfl rfl (by decide) rfl rfl (pa_cons (pe_mkKw (ks := [("b" : Str), ("a" : Str)]) Fmk1 (hr.mono (by decide)) pass0 rfl IE.mS (pk_cons (pv 7) (pk_cons (pv 6) pk_nil))) (pa_cons (pe_mkKw (ks := [("a" : Str), ("b" : Str)]) Fmk2 (hr.mono (by decide)) pass0 rfl IE.mR (pk_cons (pv 6) (pk_cons (pv 7) pk_nil))) pa_nil)) (by rfl))
      (pss_cons (ps_if (PW.pt (pw_or (pt_cmpR (op_neRight Fse2 (hr.mono (by decide)) pass0 IE.ne IE.sub IE.fne IE.mro) (pv 8) (pv 9) (nomark _)) (pw_or (pt_cmpR (op_neD (hu64 hr)) (pe_cp Fnm SC.cl (hr.mono (by decide)) pass0 (pv 8)) (pe_tup (pa_cons pe_str (pa_cons pe_str pa_nil))) (nomark _)) (pw_or (pt_cmpR (op_eqOwn Fse1 (hr.mono (by decide)) pass0 IE.nf) (pv 8) (pe_mkKw (ks := [("a" : Str)]) Fmk1 (hr.mono (by decide)) pass0 rfl IE.mS (pk_cons (pv 6) pk_nil)) (nomark _)) (pw_or1 (pt_cmpR (op_inOwn Fse1 (hr.mono (by decide)) pass0 IE.fr) (pv 8) (pe_tup (pa_cons pe_non (pa_cons pe_int (pa_cons pe_str (pa_cons pe_dnewK pa_nil))))) (by rfl))))))) (pss_one (ps_ret pe_bl)) pss_nil)
      (pss_cons (ps_if (PW.pt (pw_or (pt_cmpR (op_neD (hu64 hr)) (pe_ask Fak RC.cl (hr.mono (by decide)) (pv 9) pe_str pe_int pe_str) (pe_tup (pa_cons pe_int pa_nil)) (nomark _)) (pw_or1 (pt_cmpR (op_neD (hu64 hr)) (pe_cp Ftr RC.cl (hr.mono (by decide)) pass0 (pv 9)) (pe_lst pa_nil) (nomark _))))) (pss_one (ps_ret pe_bl)) pss_nil)
      (pss_cons (ps_if (PW.pt (pw_or (pt_cmpR op_ne (pe_cmpR (op_eqOwn Fse1 (hr.mono (by decide)) pass0 IE.nf) (pe_mkKw (ks := [("a" : Str)]) Fmk1 (hr.mono (by decide)) pass0 rfl IE.mS (pk_cons (pv 6) pk_nil)) (pe_mkKw (ks := [("a" : Str)]) Fmk1 (hr.mono (by decide)) pass0 rfl IE.mS (pk_cons (pv 7) pk_nil)) (nomark _)) (pe_cmpR (op_eqOwn Fce (hr.mono (by decide)) pass0 IE.nc) (pv 6) (pv 7) (nomark _)) (nomark _)) (pw_or1 (pt_cmpR (op_eqOwn Fse1 (hr.mono (by decide)) pass0 IE.nf) (pe_mkKw (ks := [("a" : Str)]) Fmk1 (hr.mono (by decide)) pass0 rfl IE.mS (pk_cons (pv 6) pk_nil)) (pe_mkKw (ks := [("b" : Str)]) Fmk1 (hr.mono (by decide)) pass0 rfl IE.mS (pk_cons (pv 6) pk_nil)) (nomark _))))) (pss_one (ps_ret pe_bl)) pss_nil)
      (pss_cons (ps_if (pt_cmpR (op_neD (hu64 hr)) (pe_lc (own := [("_law_thing", 10)]) (g := gName 10) rfl scMa.nd  (pi_tup (pe_tup (pa_cons (pv 3) (pa_cons (pv 4) (pa_cons (pv 8) pa_nil))))) (blkOk_by (N := ["_law_source_here", "_law_lines_here", "_law_written", "_law_session", "_law_recorder", "_law_line", "_law_one", "_law_two", "_law_first", "_law_second", "_law_thing"]) (sc := (defScope (tops 86))) (by decide +kernel)) (fun _ _ _ _ _ => (pg_name (i := 10) scMa.nd rfl (Or.inl rfl))) (fun _ _ _ _ _ => pts_nil) (fun _ _ _ _ _ => (pe_or (pe_cm Fex1 SC.cl (hr.mono (by decide)) pass0 (pv 10) (pa_cons pe_str pa_nil)) (pe_cm Fex2 RC.cl (hr.mono (by decide)) pass0 (pv 10) (pa_cons pe_str pa_nil))))) (pe_op op_rep (pe_lst (pa_cons pe_str pa_nil)) pe_int) (nomark _)) (pss_one (ps_ret pe_bl)) pss_nil)
      (pss_cons (ps_if (PW.pt (pw_or (pt_cmpR op_ne (pe_cp Ftx1 SC.cl (hr.mono (by decide)) pass0 (pv 3)) (pv 2) (nomark _)) (pw_or (pt_cmpR op_ne (pe_cp Ftx2 RC.cl (hr.mono (by decide)) pass0 (pv 4)) (pv 2) (nomark _)) (pw_or1 (pt_cmpR (op_neD (hu64 hr)) (pe_cp Fnm SC.cl (hr.mono (by decide)) pass0 (pv 8)) (pe_tup (pa_cons pe_str (pa_cons pe_str pa_nil))) (nomark _)))))) (pss_one (ps_ret pe_bl)) pss_nil)
      (pss_one (ps_ret (pe_and (pe_cmpR (op_eqOwn Fse1 (hr.mono (by decide)) pass0 IE.nf) (pe_mkKw0 Fmk1 (hr.mono (by decide)) pass0 rfl IE.mS) (pe_cls Fre1 (hr.mono (by decide)) passN (pe_gc rfl T.c_Session) (pa_cons pe_str pa_nil)) (nomark _)) (pe_one (pe_cmpR (op_eqOwn Fce (hr.mono (by decide)) pass0 IE.nc) (pe_cm Flk SC.cl (hr.mono (by decide)) pass0 (pv 8) (pa_cons pe_str pa_nil)) (pv 6) (nomark _))))))))))))))))))), ?_⟩
    refine ⟨_, rfl, [a], a, rfl, List.mem_singleton.mpr rfl, fun m hm e => sa.ne (by rw [← List.mem_singleton.mp hm]; exact e), sa, fun p cs H1 lw b1 sa1 np hp => ?_⟩
    have ok := lw.okR
    refine ⟨_, rfl, p, cs, rfl, hp, ok, fun H2 s2 => ?_⟩
    refine ⟨rfl, _, rfl, cs, rfl, ok, fun s1 dx d h H3 s3 sn dn hn S1 => ?_⟩
    refine ⟨rfl, _, rfl, rfl, rfl, cs, rfl, ok, fun s' dx' d' h' e' H4 s4 sn' dn' hn' en' S2 R2 => ⟨_, _, rfl, ?_⟩⟩
    have X1' : SesX K H3 s1 dx h none cs [] [] := .ses ⟨d, [], S1, rfl⟩
    have hp2 : LnAt H2 p cs := s2 _ _ hp
    have LV : Live K H a p cs s1 dx h s' dx' h' e' [] H4 := ⟨b1.same (s2.trans (s3.trans s4)), sa1.same (s2.trans (s3.trans s4)), s4 _ _ (s3 _ _ hp2), X1'.same s4, .recd ⟨d', [], S2, rfl⟩ R2⟩
    have dd : d ≠ d' := fun e => dict_there S1.cat (e ▸ dn')
    have out2 : ∀ x ∈ mutd s' h' (some e'), H3 x = none := fun x m => by
      rcases List.mem_cons.mp m with rfl | m
      · exact sn'
      · rcases List.mem_cons.mp m with rfl | m
        · exact hn'
        · rw [List.mem_singleton.mp m]
          exact en'
    have out1 : ∀ x ∈ mutd s1 h none, H2 x = none := fun x m => by
      rcases List.mem_cons.mp m with rfl | m
      · exact sn
      · rw [List.mem_singleton.mp m]
        exact hn
    have n12 : ∀ x ∈ mutd s' h' (some e'), x ∉ mutd s1 h none := fun x m w => X1'.there w (out2 x m)
    have n21 : ∀ x ∈ mutd s1 h none, x ∉ mutd s' h' (some e') := fun x m w => n12 x w m
    have fr0 : ∀ {x : Addr}, x ≠ a → H2 x = none → H x = none := fun {x} n e => by
      cases q : H x with
      | none => rfl
      | some u => rw [s2 _ _ (b1 x u (fun m => n (List.mem_singleton.mp m)) q)] at e; cases e
    have np1 : p ∉ mutd s1 h none := fun m => by have := out1 p m; rw [hp2] at this; cases this
    have np2 : p ∉ mutd s' h' (some e') := fun m => by have := out2 p m; rw [s3 _ _ hp2] at this; cases this
    have na1 : a ∉ mutd s1 h none := fun m => (sa1.same s2).ne (out1 a m)
    have na2 : a ∉ mutd s' h' (some e') := fun m => (sa1.same (s2.trans s3)).ne (out2 a m)
    have S1' := S1.same s4
    have fr1 : ∀ {b : Addr} {u : HO}, b ∉ [a] → H b = some u → b ∉ mutd s1 h none := fun {b u} n e m => by
      rw [fr0 (fun z => n (List.mem_singleton.mpr z)) (out1 b m)] at e
      cases e
    have fr2 : ∀ {b : Addr} {u : HO}, b ∉ [a] → H b = some u → b ∉ mutd s' h' (some e') := fun {b u} n e m => by
      rw [fr0 (fun z => n (List.mem_singleton.mpr z)) (s3.free (out2 b m))] at e
      cases e
    -- they are equal, and have the rows
    refine ⟨_, rfl, _, rfl, s1, s', dx, dx', _, _, rfl, rfl, S1'.obj, S2.obj, s', dx', d', h', some e', cs, [], .ref s1, rfl, S2, .inl ⟨s1, aSes K, dx, d, h, none, cs, [], rfl, SC, S1', dd.symm, fun H5 s5 => ⟨_, rfl, _, rfl, iteFr (by rw [decide_eq_true rfl]; rfl) ?_⟩⟩⟩
    have LV5 := LV.same s5
    have l5 : cs.length ≤ 5 := by
      have := lw.sub.length_le
      rw [List.length_map] at this
      exact this
    refine ⟨_, rfl, _, rfl, s1, dx, h, p, none, cs, [], [], rfl, LV5.X1, Nat.zero_le _, Nat.zero_le _, LV5.hp, np1, fun H6 b6 Y1 => ⟨_, rfl, iteFr rfl ?_⟩⟩
    have LV6 : Live K H a p cs s1 dx h s' dx' h' e' [] H6 := ⟨fun b u n e => b6 b u (fr1 n e) (LV5.old b u n e), LV5.sa.butT (ButT.of b6) na1, LnAt.butT LV5.hp (ButT.of b6) np1, .ses Y1.r, LV5.X2.off b6 LV5.X1.stray n12⟩
    obtain ⟨d6, past6, Z1, _⟩ := id LV6.X1.r
    refine ⟨_, rfl, _, _, _, _, false, rfl, .own _, .base (SC.ty _ _ _ _ Z1.obj), IR.no, _, rfl, iteF ?_⟩
    obtain ⟨d7, past7, Z2, _⟩ := id LV6.X2.r
    refine ⟨_, rfl, _, _, _, _, true, rfl, .own _, .base (RC.ty _ _ _ _ Z2.obj), IR.yes, _, rfl, iteFr rfl ?_⟩
    refine ⟨_, rfl, s', dx', _, rfl, Z2.obj, s', dx', h', e', cs, [], [], rfl, LV6.X2.r, LV6.X2.l e' rfl, fun pt H7 s7 hpt => ?_⟩
    obtain ⟨ts7, hts7, pr7⟩ := hpt
    cases pr7
    refine ⟨z0, fun e2 he2 => ⟨.list (([] : List Str).map PyData.str), .list (([] : List Str).map PyData.str), .lst (SqL.of ((Same.new he2) _ _ hts7)) .nil, .lst (SqL.of upd_same) .nil, by decide +kernel, by decide +kernel, _, rfl, iteFr (by rw [strs_eqv]; rfl) ?_⟩⟩
    have LV8 := LV6.same (s7.trans (Same.new (o := .lst []) he2))
    generalize upd H7 e2 (.lst []) = H8 at LV8 ⊢
    refine ⟨_, rfl, _, rfl, s', dx', h', p, some e', cs, [], [], rfl, LV8.X2, Nat.zero_le _, Nat.zero_le _, LV8.hp, np2, fun H9 b9 Y2 => ⟨_, rfl, iteFr rfl ?_⟩⟩
    have LV9 : Live K H a p cs s1 dx h s' dx' h' e' (shows cs) H9 := ⟨fun b u n e => b9 b u (fr2 n e) (LV8.old b u n e), LV8.sa.butT (ButT.of b9) na2, LnAt.butT LV8.hp (ButT.of b9) np2, LV8.X1.off b9 LV8.X2.stray n21, Y2⟩
    -- the transcript tells what was asked
    obtain ⟨d9, past9, Z3, _⟩ := id LV9.X2.r
    refine ⟨_, rfl, s', dx', _, rfl, Z3.obj, s', dx', h', e', cs, [], shows cs, rfl, LV9.X2.r, LV9.X2.l e' rfl, fun pt H10 s10 hpt => ?_⟩
    obtain ⟨ts10, hts10, pr10⟩ := hpt
    have LV10 := LV9.same s10
    have low1 : ∀ r ∈ cs, PyData.strOk ("show " ++ r.1) = true ∧ PyData.strOk (cellText r.2.1 r.2.2) = true := fun r hr => by
      have hl := line_low (ok.nm r hr)
      refine ⟨str_ok fun c hc => ?_, str_ok fun c hc => hl c ?_⟩
      · rw [tl_append] at hc
        rcases List.mem_append.mp hc with hc | hc
        · have : ∀ c ∈ tl "show ", c < 128 := by decide +kernel
          exact this c hc
        · exact name_low (ok.nm r hr) c hc
      · rw [show tl (lineOf r) = _ from line_tl r]
        exact List.mem_append_right _ (List.mem_cons_of_mem _ hc)
    refine ⟨_, rfl, p, rfl, ⟨_, SqL.of LV10.hp⟩, fun D hD => lc_it walk_list (fun i H' => Same H10 H' ∧ ∃ ts : List Addr, H' D = some (.lst (ts.map V.ref)) ∧ ts.length = i ∧ Paired (fun t (q : Str × Str) => H' t = some (.tup [.str q.1, .str q.2])) ts (shows (cs.take i))) ⟨Same.new hD, [], upd_same, rfl, .nil⟩ (fun i H' _ q => SqL.of (q.1 _ _ LV10.hp)) (fun i x H11 H12 hi q y => ?_) (fun H11 q => ?_)⟩
    · obtain ⟨s11, ts, hD11, lts, prr⟩ := q
      obtain ⟨rfl, hx⟩ := y
      rw [List.getElem?_map, Option.map_eq_some_iff] at hx
      obtain ⟨r, hr1, rfl⟩ := hx
      have hm := List.mem_of_getElem? hr1
      have nk := ok.nm r hm
      have ln := line_len nk (ok.gd r hm).sh
      have l8 := name_len nk
      have il : i < cs.length := (List.getElem?_eq_some_iff.mp hr1).1
      refine ⟨rfl, ?_⟩
      unfold tYes
      refine iteT ⟨_, rfl, ⟨_, rfl⟩, lineOf r, " ", rfl, rfl, rfl, by rw [sizeLine_eq]; omega, fun q hq => ?_⟩
      rw [line_split nk]
      obtain ⟨rest, hocc⟩ := line_first (r := r) nk
      refine ⟨q, _, 0, .str r.1, rfl, rfl, SqL.of upd_same, at0, _, _, rfl, rfl, by rw [sizeLine_eq, show Str.length "show " = 5 by decide]; omega, _, rfl, _, rfl, ⟨_, rfl⟩, _, _, _, _, rfl, rfl, hocc, _, _, rfl, rfl, _, rfl, _, rfl, by rw [sizeLine_eq]; omega, ?_⟩
      rw [cut_line]
      refine ⟨z2, fun t ht => ?_⟩
      have s12 := (Same.new (o := .lst ((rowWords r).map V.str)) hq).trans (Same.new (o := .tup [.str ("show " ++ r.1), .str (cellText r.2.1 r.2.2)]) ht)
      have hD12 := s12 _ _ hD11
      have s13 := s11.trans s12
      have keepD : ∀ {u : Addr} {o : HO}, (∀ xs, o ≠ .lst xs) → H12 u = some o → u ≠ D := fun {u o} n e z => by
        rw [z, hD11] at e
        cases e
        exact n _ rfl
      have ntD : t ≠ D := fun z => by
        rw [z, (Same.new (o := .lst ((rowWords r).map V.str)) hq) _ _ hD11] at ht
        cases ht
      refine ⟨_, hD12, by rw [List.length_map, sizeLine_eq]; omega, same_upd_new s13 hD, ts ++ [t], by rw [upd_same, List.map_append]; rfl, by rw [List.length_append, lts]; rfl, ?_⟩
      rw [List.take_succ, hr1]
      show Paired _ _ (shows (cs.take i ++ [r]))
      rw [shows, List.map_append]
      refine paired_snoc ?_ (paired_imp (fun u q hq => ?_) prr)
      · rw [upd_ne ntD, upd_same]
        show _ = some (HO.tup [V.str (Cmd.str (.sho r)), V.str (cellText r.2.1 r.2.2)])
        rw [sho_str]
      · rw [upd_ne (keepD (fun _ z => by cases z) hq)]
        exact s12 _ _ hq
    · obtain ⟨s11, ts, hD11, lts, prr⟩ := q
      rw [List.length_map, List.take_length] at prr
      have pr11 : Paired (fun t (q : Str × Str) => H11 t = some (.tup [.str q.1, .str q.2])) ts10 (shows cs) := paired_imp (fun t q hq => s11 _ _ hq) pr10
      have low : ∀ q ∈ shows cs, PyData.strOk q.1 = true ∧ PyData.strOk q.2 = true := fun q hq => by
        obtain ⟨r, hr, rfl⟩ := List.mem_map.mp hq
        rw [sho_str]
        exact low1 r hr
      refine ⟨.list ((shows cs).map pairD), .list ((shows cs).map pairD), .lst (SqL.of (s11 _ _ hts10)) (dp_pairs pr11), .lst (SqL.of hD11) (dp_pairs prr), sh_pairs low, sh_pairs low, _, rfl, iteFr (by rw [pairs_eqv, decide_eq_true rfl]; rfl) ?_⟩
      have LV11 := LV10.same s11
      -- the cells
      refine ⟨_, rfl, [a], a, rfl, List.mem_singleton.mpr rfl, fun m hm e => LV11.sa.ne (by rw [← List.mem_singleton.mp hm]; exact e), LV11.sa, fun t c kk H12 hk il b12 sa12 lc => ?_⟩
      have npa : p ∉ [a] := np
      have LV12 : Live K H a p cs s1 dx h s' dx' h' e' (shows cs) H12 := ⟨LV11.old.trans b12, sa12, LnAt.butT LV11.hp (ButT.of b12) npa, LV11.X1.off b12 LV11.sa.stray (fun x m w => na1 (by rw [← List.mem_singleton.mp w]; exact m)), LV11.X2.off b12 LV11.sa.stray (fun x m w => na2 (by rw [← List.mem_singleton.mp w]; exact m))⟩
      obtain ⟨g1, g2, g3, g4⟩ := il.small
      have w1 : (10 : Nat) ^ (kk + 1) ≤ 10 ^ 3 := Nat.pow_le_pow_right (by decide) (by omega)
      have w2 : (4 : Nat) ^ (kk + 1) ≤ 4 ^ 3 := Nat.pow_le_pow_right (by decide) (by omega)
      have good := il.good hk
      refine ⟨[a], t, c, rfl, lc, by omega, by omega, fun m hm => by have := g4 m hm; omega, fun H13 s13 => ⟨c.1, c.2, rfl, good, fun H14 o1 s14 hc1 => ?_⟩⟩
      refine ⟨z2, fun tt htt => fun o2 dx0 hx0 hdx0 ne0 => ?_⟩
      have s15 : Same H14 (upd H14 tt (.tup [.int 1, .int 2])) := Same.new htt
      have htt15 : (upd H14 tt (.tup [.int 1, .int 2])) tt = some (.tup [.int 1, .int 2]) := upd_same
      generalize upd H14 tt (.tup [.int 1, .int 2]) = H15 at s15 htt15 hx0 hdx0 ⊢
      refine ⟨o2, dx0, tt, 3, [1, 2], rfl, upd_same, .inr (made_same hx0 hdx0 _ _ htt15), good12.sh, fun _ => ⟨good12.sv, fun H16 b16 hc2 => ⟨rfl, ⟨_, _, rfl, ?_⟩⟩⟩, fun nf => absurd good12.fr nf⟩
      have s16 : Same H15 H16 := fun b o hb => b16 b o (ne_of_none hb hx0) (made_same hx0 hdx0 b o hb)
      have e16 : Same H12 H16 := s13.trans (s14.trans (s15.trans s16))
      have LV16 := LV12.same e16
      have hc1 := hc1.same (s15.trans s16)
      have na : ("a" : Str) ≠ "self" := by decide +kernel
      have nb : ("b" : Str) ≠ "self" := by decide +kernel
      have ka : nameOk "a" = true := by decide +kernel
      have kb : nameOk "b" = true := by decide +kernel
      have two : ∀ {F : Ent → Prop} {u v : Ent}, F u → F v → ∀ e ∈ [u, v], F e := fun {F u v} hu hv e he => by
        rcases List.mem_cons.mp he with rfl | he
        · exact hu
        · rw [List.mem_singleton.mp he]
          exact hv
      have one : ∀ {F : Ent → Prop} {u : Ent}, F u → ∀ e ∈ [u], F e := fun {F u} hu e he => by
        rw [List.mem_singleton.mp he]
        exact hu
      dsimp only
      refine seqI (parI (consI ?_))
      refine x_mkS (es := [⟨"b", o2, 3, [1, 2]⟩, ⟨"a", o1, c.1, c.2⟩]) (cs := cs2 c) rfl (fun X hX => ⟨_, rfl, _, rfl, hX⟩) SC (two hc2 hc1) (.swap _ _ _) (ok_two good) (two nb na) fun s3 dx3 d3 h3 H17 s17 sn3 dn3 hn3 S3 => ?_
      refine consI ?_
      refine x_mkR (es := [⟨"a", o1, c.1, c.2⟩, ⟨"b", o2, 3, [1, 2]⟩]) (cs := cs2 c) rfl (fun X hX => ⟨_, rfl, _, rfl, hX⟩) (two (hc1.same s17) (hc2.same s17)) (.refl _) (ok_two good) (two na nb) fun s4 dx4 d4 h4 e4 H18 s18 sn4 dn4 hn4 en4 S4 R4 => ⟨_, _, rfl, ?_⟩
      have LW : Live2 K H a p cs s1 dx h s' dx' h' e' (shows cs) o1 o2 s3 dx3 d3 h3 s4 dx4 d4 h4 e4 c H18 := ⟨LV16.same (s17.trans s18), hc1.same (s17.trans s18), hc2.same (s17.trans s18), S3.same s18, S4, R4⟩
      have d34 : d3 ≠ d4 := fun e => dict_there S3.cat (e ▸ dn4)
      have fresh3 : ∀ x ∈ mutd s3 h3 none, H16 x = none := fun x m => by
        rcases List.mem_cons.mp m with rfl | m
        · exact sn3
        · rw [List.mem_singleton.mp m]
          exact hn3
      -- equal, with these names
      refine ⟨_, rfl, _, rfl, s3, s4, dx3, dx4, _, _, rfl, rfl, LW.S3.obj, S4.obj, s4, dx4, d4, h4, some e4, cs2 c, [], .ref s3, rfl, S4, .inl ⟨s3, aSes K, dx3, d3, h3, none, cs2 c, [], rfl, SC, LW.S3, d34.symm, fun H19 s19 => ⟨_, rfl, _, rfl, iteFr (by rw [decide_eq_true rfl]; rfl) ?_⟩⟩⟩
      have L19 := LW.same s19
      refine ⟨_, rfl, s3, dx3, _, rfl, L19.S3.obj, s3, dx3, d3, h3, none, cs2 c, [], rfl, L19.S3, fun pn H20 s20 hpn => ⟨z2, fun tn htn => ?_⟩⟩
      refine ⟨.tuple ((["a", "b"] : List Str).map PyData.str), .tuple ((["a", "b"] : List Str).map PyData.str), .tup (xs := (["a", "b"] : List Str).map V.str) (SqT.of ((Same.new htn) _ _ hpn)) (dpStrs _), .tup (xs := (["a", "b"] : List Str).map V.str) (SqT.of upd_same) (dpStrs _), by decide +kernel, by decide +kernel, _, rfl, iteFr (by rw [strs_eqvT, decide_eq_true rfl]; rfl) ?_⟩
      have L21 := L19.same (s20.trans (Same.new (o := .tup [.str "a", .str "b"]) htn))
      generalize upd H20 tn (.tup [.str "a", .str "b"]) = H21 at L21 ⊢
      refine ⟨_, rfl, x_mkS (es := [⟨"a", o1, c.1, c.2⟩]) (cs := [("a", c.1, c.2)]) rfl (fun X hX => ⟨_, rfl, hX⟩) SC (one L21.c1) (.refl _) (ok_one ka good) (one na) fun s5 dx5 d5 h5 H22 s22 sn5 dn5 hn5 S5 => ?_⟩
      have L22 := L21.same s22
      refine ⟨s3, s5, dx3, dx5, _, _, rfl, rfl, L22.S3.obj, S5.obj, s3, dx3, d3, h3, none, cs2 c, [], .ref s5, rfl, L22.S3, .inl ⟨s5, aSes K, dx5, d5, h5, none, _, [], rfl, SC, S5, fun e => dict_there L21.S3.cat (e ▸ dn5), fun H23 s23 => ⟨_, rfl, _, rfl, iteFr (decide_eq_false (by simp)) ?_⟩⟩⟩
      have L23 := L22.same s23
      refine ⟨_, rfl, fun dd0 hdd0 => ⟨(show 4 ≤ sizeLine by decide), fun tt2 htt2 => ?_⟩⟩
      have e25 := (Same.new (o := .dK []) hdd0).trans (Same.new (o := .tup [.non, .int 5, .str "-", .ref dd0]) htt2)
      have hdd1 : (upd (upd H23 dd0 (.dK [])) tt2 (.tup [.non, .int 5, .str "-", .ref dd0])) dd0 = some (.dK []) := (Same.new htt2) _ _ upd_same
      have htt3 : (upd (upd H23 dd0 (.dK [])) tt2 (.tup [.non, .int 5, .str "-", .ref dd0])) tt2 = some (.tup [.non, .int 5, .str "-", .ref dd0]) := upd_same
      have L25 := L23.same e25
      generalize upd (upd H23 dd0 (.dK [])) tt2 (.tup [.non, .int 5, .str "-", .ref dd0]) = H25 at L25 hdd1 htt3 ⊢
      have four : ∀ {F : V → Prop}, F .non → F (.int 5) → F (.str "-") → F (.ref dd0) → ∀ v ∈ [V.non, .int 5, .str "-", .ref dd0], F v := fun {F} f1 f2 f3 f4 v hv => by
        rcases List.mem_cons.mp hv with rfl | hv
        · exact f1
        · rcases List.mem_cons.mp hv with rfl | hv
          · exact f2
          · rcases List.mem_cons.mp hv with rfl | hv
            · exact f3
            · rw [List.mem_singleton.mp hv]
              exact f4
      refine ⟨s3, dx3, tt2, _, _, rfl, rfl, SqT.of htt3, L25.S3.obj, four .non (.int 5) (.str "-") (.dK hdd1), ?_, fun H26 s26 => ⟨_, rfl, iteF ?_⟩⟩
      · refine four (fun H26 s26 => ?_) (fun H26 s26 => ?_) (fun H26 s26 => ?_) (fun H26 s26 => ?_)
        · exact ⟨s3, dx3, d3, h3, none, cs2 c, [], _, rfl, L25.S3.same s26, .inr ⟨_, .base .non, IE.kN, rfl, Same.refl _⟩⟩
        · exact ⟨s3, dx3, d3, h3, none, cs2 c, [], _, rfl, L25.S3.same s26, .inr ⟨_, .base (.int 5), IE.kI, rfl, Same.refl _⟩⟩
        · exact ⟨s3, dx3, d3, h3, none, cs2 c, [], _, rfl, L25.S3.same s26, .inr ⟨_, .base (.str "-"), IE.kS, rfl, Same.refl _⟩⟩
        · exact ⟨s3, dx3, d3, h3, none, cs2 c, [], _, rfl, L25.S3.same s26, .inr ⟨_, .base (.dK (s26 _ _ hdd1)), IE.kD, rfl, Same.refl _⟩⟩
      have L26 := L25.same s26
      -- the fourth is asked
      refine ⟨_, rfl, s4, dx4, _, rfl, L26.S4.obj, rfl, "a", rfl, rfl, fun T0 hT => ?_⟩
      refine ⟨s4, dx4, d4, h4, T0, some e4, cs2 c, [], ("a", c.1, c.2), rfl, L26.S4.same (Same.new hT), List.mem_cons_self .., upd_same, fun pA H27 s27 hpA => ⟨z1, fun tz htz => ?_⟩⟩
      refine ⟨.tuple [.int 0], .tuple [.int 0], .tup (SqT.of ((Same.new htz) _ _ hpA)) (.cons (.int 0) .nil), .tup (SqT.of upd_same) (.cons (.int 0) .nil), by decide +kernel, by decide +kernel, _, rfl, iteFr (by decide +kernel) ?_⟩
      have L28 := L26.same ((Same.new (o := .tup [.int 0]) hT).trans (s27.trans (Same.new (o := .tup [.int 0]) htz)))
      generalize upd H27 tz (.tup [.int 0]) = H28 at L28 ⊢
      refine ⟨_, rfl, s4, dx4, _, rfl, L28.S4.obj, s4, dx4, h4, e4, cs2 c, [], [], rfl, ⟨d4, [], L28.S4, rfl⟩, L28.R4, fun pt2 H29 s29 hpt2 => ?_⟩
      obtain ⟨ts29, hts29, pr29⟩ := hpt2
      cases pr29
      refine ⟨z0, fun e5 he5 => ⟨.list (([] : List Str).map PyData.str), .list (([] : List Str).map PyData.str), .lst (SqL.of ((Same.new he5) _ _ hts29)) .nil, .lst (SqL.of upd_same) .nil, by decide +kernel, by decide +kernel, _, rfl, iteFr (by rw [strs_eqv]; rfl) ?_⟩⟩
      have L30 := L28.same (s29.trans (Same.new (o := .lst []) he5))
      generalize upd H29 e5 (.lst []) = H30 at L30 ⊢
      -- equal just when their cells are
      refine nextI ?_
      dsimp only
      refine seqI (ifI (orI (testI (opI (opI ?_)))))
      refine x_mkS (es := [⟨"a", o1, c.1, c.2⟩]) (cs := [("a", c.1, c.2)]) rfl (fun X hX => ⟨_, rfl, hX⟩) SC (one L30.c1) (.refl _) (ok_one ka good) (one na) fun s6 dx6 d6 h6 H31 s31 sn6 dn6 hn6 S6 => ?_
      have L31 := L30.same s31
      refine x_mkS (es := [⟨"a", o2, 3, [1, 2]⟩]) (cs := [("a", 3, [1, 2])]) rfl (fun X hX => ⟨_, rfl, hX⟩) SC (one L31.c2) (.refl _) (ok_one (c := (3, [1, 2])) ka good12) (one na) fun s7 dx7 d7 h7 H32 s32 sn7 dn7 hn7 S7 => ?_
      have L32 := L31.same s32
      have S6' := S6.same s32
      refine ⟨s6, s7, dx6, dx7, _, _, rfl, rfl, S6'.obj, S7.obj, s6, dx6, d6, h6, none, _, [], .ref s7, rfl, S6', .inl ⟨s7, aSes K, dx7, d7, h7, none, _, [], rfl, SC, S7, fun e => dict_there S6.cat (e ▸ dn7), fun H33 s33 => ⟨_, rfl, ?_⟩⟩⟩
      have L33 := L32.same s33
      obtain ⟨cx1, u1, u2, u3, hb1, hb2⟩ := id L33.c1
      obtain ⟨cx2, v1, v2, v3, hv1, hv2⟩ := id L33.c2
      refine ⟨_, rfl, _, rfl, o1, o2, _, _, _, _, rfl, rfl, hb1, hv1, o1, o2, c.1, 3, c.2, [1, 2], rfl, L33.c1, L33.c2, _, rfl, rfl, _, rfl, iteFr ?_ ?_⟩
      · have e : decide ([(("a" : Str), c.1, c.2)] = [(("a" : Str), 3, [1, 2])]) = decide (c.1 = 3 ∧ c.2 = [1, 2]) := decide_eq_decide.mpr (by simp)
        rw [e, decide_eq_true rfl]
        rfl
      refine testI (opI ?_)
      refine x_mkS (es := [⟨"a", o1, c.1, c.2⟩]) (cs := [("a", c.1, c.2)]) rfl (fun X hX => ⟨_, rfl, hX⟩) SC (one L33.c1) (.refl _) (ok_one ka good) (one na) fun s8 dx8 d8 h8 H34 s34 sn8 dn8 hn8 S8 => ?_
      have L34 := L33.same s34
      refine x_mkS (es := [⟨"b", o1, c.1, c.2⟩]) (cs := [("b", c.1, c.2)]) rfl (fun X hX => ⟨_, rfl, hX⟩) SC (one L34.c1) (.refl _) (ok_one kb good) (one nb) fun s9 dx9 d9 h9 H35 s35 sn9 dn9 hn9 S9 => ?_
      have S8' := S8.same s35
      refine ⟨s8, s9, dx8, dx9, _, _, rfl, rfl, S8'.obj, S9.obj, s8, dx8, d8, h8, none, _, [], .ref s9, rfl, S8', .inl ⟨s9, aSes K, dx9, d9, h9, none, _, [], rfl, SC, S9, fun e => dict_there S8.cat (e ▸ dn9), fun H36 s36 => ⟨_, rfl, _, rfl, iteFr (decide_eq_false fun e => absurd (show ([("a" : Str)] : List Str) = [("b" : Str)] from congrArg (fun l : List Row => l.map fun r : Row => r.1) e) (by decide +kernel)) ?_⟩⟩⟩
      have LM := (L34.same s35).same s36
      -- nothing to undo, three times
      have X3 : ∀ {Hx : Hp}, Ses K Hx (aSes K) s3 dx3 d3 h3 none (cs2 c) [] → SesX K Hx s3 dx3 h3 none (cs2 c) [] [] := fun {Hx} S => .ses ⟨d3, [], S, rfl⟩
      have n31 : ∀ x ∈ mutd s3 h3 none, x ∉ mutd s1 h none := fun x m w => LV16.X1.there w (fresh3 x m)
      have n32 : ∀ x ∈ mutd s3 h3 none, x ∉ mutd s' h' (some e') := fun x m w => LV16.X2.there w (fresh3 x m)
      have n13 : ∀ x ∈ mutd s1 h none, x ∉ mutd s3 h3 none := fun x m w => n31 x w m
      have n23 : ∀ x ∈ mutd s' h' (some e'), x ∉ mutd s3 h3 none := fun x m w => n32 x w m
      have na3 : a ∉ mutd s3 h3 none := fun m => LV16.sa.ne (fresh3 a m)
      have fr3 : ∀ {b : Addr} {u : HO}, b ∉ [a] → H b = some u → b ∉ mutd s3 h3 none := fun {b u} n e m => by
        have := LV16.old b u n e
        rw [fresh3 b m] at this
        cases this
      refine ⟨_, rfl, _, rfl, _, rfl, (show 3 ≤ sizeLine by decide), fun tt4 htt4 => ⟨tt4, rfl, ⟨_, SqT.of upd_same⟩, fun D hD => ?_⟩⟩
      have LN := LM.same (Same.new (o := .tup [.ref s1, .ref s', .ref s3]) htt4)
      have htt5 : (upd H36 tt4 (.tup [.ref s1, .ref s', .ref s3])) tt4 = some (.tup [.ref s1, .ref s', .ref s3]) := upd_same
      have ntt1 : tt4 ∉ mutd s1 h none := fun m => LM.L.X1.there m htt4
      have ntt2 : tt4 ∉ mutd s' h' (some e') := fun m => LM.L.X2.there m htt4
      have ntt3 : tt4 ∉ mutd s3 h3 none := fun m => (X3 LM.S3).there m htt4
      generalize upd H36 tt4 (.tup [.ref s1, .ref s', .ref s3]) = H37 at LN htt5 hD ⊢
      have nD1 : D ∉ mutd s1 h none := fun m => LN.L.X1.there m hD
      have nD2 : D ∉ mutd s' h' (some e') := fun m => LN.L.X2.there m hD
      have nD3 : D ∉ mutd s3 h3 none := fun m => (X3 LN.S3).there m hD
      have nDt : D ≠ tt4 := fun e => by rw [e, htt5] at hD; cases hD
      have nDa : D ≠ a := fun e => LN.L.sa.ne (e ▸ hD)
      let Lall : List Addr := mutd s1 h none ++ (mutd s' h' (some e') ++ mutd s3 h3 none)
      have sub1 : ∀ x ∈ mutd s1 h none, x ∈ Lall := fun x m => List.mem_append_left _ m
      have sub2 : ∀ x ∈ mutd s' h' (some e'), x ∈ Lall := fun x m => List.mem_append_right _ (List.mem_append_left _ m)
      have sub3 : ∀ x ∈ mutd s3 h3 none, x ∈ Lall := fun x m => List.mem_append_right _ (List.mem_append_right _ m)
      have nall : ∀ {x : Addr}, x ∉ mutd s1 h none → x ∉ mutd s' h' (some e') → x ∉ mutd s3 h3 none → x ∉ Lall := fun {x} h1 h2 h3 m => by
        rcases List.mem_append.mp m with m | m
        · exact h1 m
        · rcases List.mem_append.mp m with m | m
          · exact h2 m
          · exact h3 m
      let Pv : Nat → Hp → Prop := fun i H' => ButL Lall H37 H' ∧ H' D = some (.lst (List.replicate i (V.str "nothing to undo"))) ∧ ∃ l1 l2 l3 : List (Str × Str), l1.length ≤ 10 + i ∧ l2.length ≤ 10 + i ∧ l3.length ≤ 10 + i ∧ SesX K H' s1 dx h none cs [] l1 ∧ SesX K H' s' dx' h' (some e') cs [] l2 ∧ SesX K H' s3 dx3 h3 none (cs2 c) [] l3
      have LN2 := LN.same (Same.new (o := .lst []) hD)
      have step : ∀ (i : Nat) (H' : Hp) (l1 l2 l3 : List (Str × Str)), i < 3 → ButL Lall H37 H' → H' D = some (.lst (List.replicate i (V.str "nothing to undo"))) → l1.length ≤ 11 + i → l2.length ≤ 11 + i → l3.length ≤ 11 + i → SesX K H' s1 dx h none cs [] l1 → SesX K H' s' dx' h' (some e') cs [] l2 → SesX K H' s3 dx3 h3 none (cs2 c) [] l3 →
          ∃ acc, H' D = some (.lst acc) ∧ acc.length < sizeLine ∧ Pv (i + 1) (upd H' D (.lst (acc ++ [V.str "nothing to undo"]))) := fun i H' l1 l2 l3 hi b hDi q1 q2 q3 Y1 Y2 Y3 => by
        have bD : ButL [D] H' (upd H' D (.lst (List.replicate i (V.str "nothing to undo") ++ [V.str "nothing to undo"]))) := (ButL.of (Same.refl _)).upd (List.mem_singleton.mpr rfl)
        have stD : Stray H' [D] := fun x hx u hu => by
          rw [List.mem_singleton.mp hx, hDi] at hu
          cases hu
          exact .inr ⟨_, rfl⟩
        have off : ∀ {M : List Addr}, D ∉ M → ∀ x ∈ M, x ∉ [D] := fun {M} n x m w => n (by rw [← List.mem_singleton.mp w]; exact m)
        refine ⟨_, hDi, by rw [List.length_replicate, sizeLine_eq]; omega, fun b' u n hb => ?_, ?_, l1, l2, l3, by omega, by omega, by omega, Y1.off bD stD (off nD1), Y2.off bD stD (off nD2), Y3.off bD stD (off nD3)⟩
        · rw [upd_ne (ne_of_none hb hD)]
          exact b b' u n hb
        · rw [upd_same, List.replicate_succ']
      refine lc_it (g := gName 10) (tt := tYes) (te := fun σ H Q => tMeth (aSes K) "execute" (spExe K (aSes K) (spOut K (aSes K))) [] E0 (tVar 10) (tCons (tC (.str "undo")) tNil) σ H Q ∨ tMeth (aRec K) "execute" (spExe K (aRec K) (spRo K)) [] E0 (tVar 10) (tCons (tC (.str "undo")) tNil) σ H Q) (walk_tup (K := K) (a := tt4) (xs := [.ref s1, .ref s', .ref s3])) Pv ⟨ButL.of (Same.new hD), upd_same, [], shows cs, [], by simp, by rw [shows, List.length_map]; omega, by simp, LN2.L.X1, LN2.L.X2, X3 LN2.S3⟩ (fun i H' _ q => SqT.of (q.1 _ _ (nall ntt1 ntt2 ntt3) htt5)) (fun i x H' H'' hi q y => ?_) (fun H' q => ?_)
      · obtain ⟨b, hDi, l1, l2, l3, q1, q2, q3, Y1, Y2, Y3⟩ := q
        obtain ⟨rfl, hx⟩ := y
        refine ⟨rfl, ?_⟩
        unfold tYes
        refine iteT ?_
        match i, hi, hx with
        | 0, _, hx =>
          cases hx
          refine x_exe (c := .undo) Y1 rfl (fun X hX => by rw [undo_str] at hX; exact hX) (Nat.zero_le _) (by omega) (.none rfl) fun H5 b5 Y1' => ?_
          exact step 0 H5 _ l2 l3 (by omega) (b.trans (ButL.mono b5 sub1)) (b5 _ _ nD1 hDi) (by rw [List.length_append, List.length_singleton]; omega) (by omega) (by omega) Y1' (Y2.off b5 Y1.stray n12) (Y3.off b5 Y1.stray n31)
        | 1, _, hx =>
          cases hx
          refine x_exe (c := .undo) Y2 rfl (fun X hX => by rw [undo_str] at hX; exact hX) (Nat.zero_le _) (by omega) (.none rfl) fun H5 b5 Y2' => ?_
          exact step 1 H5 l1 _ l3 (by omega) (b.trans (ButL.mono b5 sub2)) (b5 _ _ nD2 hDi) (by omega) (by rw [List.length_append, List.length_singleton]; omega) (by omega) (Y1.off b5 Y2.stray n21) Y2' (Y3.off b5 Y2.stray n32)
        | 2, _, hx =>
          cases hx
          refine x_exe (c := .undo) Y3 rfl (fun X hX => by rw [undo_str] at hX; exact hX) (Nat.zero_le _) (by omega) (.none rfl) fun H5 b5 Y3' => ?_
          exact step 2 H5 l1 l2 _ (by omega) (b.trans (ButL.mono b5 sub3)) (b5 _ _ nD3 hDi) (by omega) (by omega) (by rw [List.length_append, List.length_singleton]; omega) (Y1.off b5 Y3.stray n13) (Y2.off b5 Y3.stray n23) Y3'
        | n + 3, hi, _ => exact absurd hi (by show ¬ n + 3 < 3; omega)
      · obtain ⟨b, hDi, l1, l2, l3, q1, q2, q3, Y1, Y2, Y3⟩ := q
        have hD3 : H' D = some (.lst ((["nothing to undo", "nothing to undo", "nothing to undo"] : List Str).map V.str)) := hDi
        refine ⟨z1, fun l4 hl4 => ⟨l4, 3, _, rfl, rfl, upd_same, by decide, by decide, (show 1 * 3 ≤ sizeLine by decide), fun l5 hl5 => ?_⟩⟩
        have e38 := (Same.new (o := .lst [.str "nothing to undo"]) hl4).trans (Same.new (o := .lst (List.replicate (Int.toNat 3) [V.str "nothing to undo"]).flatten) hl5)
        refine ⟨.list ((["nothing to undo", "nothing to undo", "nothing to undo"] : List Str).map PyData.str), .list ((["nothing to undo", "nothing to undo", "nothing to undo"] : List Str).map PyData.str), .lst (xs := (["nothing to undo", "nothing to undo", "nothing to undo"] : List Str).map V.str) (SqL.of (e38 _ _ hD3)) (dpStrs _), .lst (xs := (["nothing to undo", "nothing to undo", "nothing to undo"] : List Str).map V.str) (SqL.of upd_same) (dpStrs _), by decide +kernel, by decide +kernel, _, rfl, iteFr (by rw [strs_eqv, decide_eq_true rfl]; rfl) ?_⟩
        have Y1 := Y1.same e38
        have Y2 := Y2.same e38
        have Y3 := Y3.same e38
        have stA : Stray H37 Lall := fun x m u hu => by
          rcases List.mem_append.mp m with m | m
          · exact LN.L.X1.stray x m u hu
          · rcases List.mem_append.mp m with m | m
            · exact LN.L.X2.stray x m u hu
            · exact (X3 LN.S3).stray x m u hu
        have C1 := (LN.c1.butL b stA).same e38
        have SA : SrcAt H' a := LN.L.sa.butT (ButT.of b) (nall na1 na2 na3)
        have SA := SA.same e38
        have old : ButL [a] H (upd (upd H' l4 (.lst [.str "nothing to undo"])) l5 (.lst (List.replicate (Int.toNat 3) [V.str "nothing to undo"]).flatten)) := fun b' u n hb => e38 _ _ (b b' u (nall (fr1 n hb) (fr2 n hb) (fr3 n hb)) (LN.L.old b' u n hb))
        show _
        generalize upd (upd H' l4 (.lst [.str "nothing to undo"])) l5 (.lst (List.replicate (Int.toNat 3) [V.str "nothing to undo"]).flatten) = H39 at Y1 Y2 Y3 C1 SA old ⊢
        obtain ⟨y1, pa1, Z1, _⟩ := id Y1.r
        refine ⟨_, rfl, s1, dx, _, rfl, Z1.obj, s1, dx, y1, h, none, cs, pa1, rfl, Z1, fun H40 s40 => ⟨_, rfl, rfl, _, rfl, iteFr (by rw [decide_eq_true rfl]; rfl) ?_⟩⟩
        obtain ⟨y2, pa2, Z2, _⟩ := id (Y2.same s40).r
        refine ⟨_, rfl, s', dx', _, rfl, Z2.obj, s', dx', y2, h', some e', cs, pa2, rfl, Z2, fun H41 s41 => ⟨_, rfl, rfl, _, rfl, iteFr (by rw [decide_eq_true rfl]; rfl) ?_⟩⟩
        obtain ⟨y3, pa3, Z3, _⟩ := id (Y3.same (s40.trans s41)).r
        refine ⟨_, rfl, s3, dx3, _, rfl, Z3.obj, s3, dx3, y3, h3, none, cs2 c, pa3, rfl, Z3, fun pn4 H42 s42 hpn4 => ⟨z2, fun tn4 htn4 => ?_⟩⟩
        refine ⟨.tuple ((["a", "b"] : List Str).map PyData.str), .tuple ((["a", "b"] : List Str).map PyData.str), .tup (xs := (["a", "b"] : List Str).map V.str) (SqT.of ((Same.new htn4) _ _ hpn4)) (dpStrs _), .tup (xs := (["a", "b"] : List Str).map V.str) (SqT.of upd_same) (dpStrs _), by decide +kernel, by decide +kernel, _, rfl, iteFr (by rw [strs_eqvT, decide_eq_true rfl]; rfl) ?_⟩
        have e43 := (s40.trans (s41.trans s42)).trans (Same.new (o := .tup [.str "a", .str "b"]) htn4)
        have Y3 := Y3.same e43
        have C1 := C1.same e43
        have SA := SA.same e43
        have old := old.same e43
        generalize upd H42 tn4 (.tup [.str "a", .str "b"]) = H43 at Y3 C1 SA old ⊢
        refine nextI ?_
        dsimp only
        refine retI (andI (opI ?_))
        refine x_mkS0 SC fun s8 dx8 d8 h8 H44 s44 sn8 dn8 hn8 S8 => ?_
        refine ⟨rfl, [], rfl, okRows_nil, fun s9 dx9 d9 h9 H45 s45 sn9 dn9 hn9 S9 => ?_⟩
        have S8' := S8.same s45
        refine ⟨s8, s9, dx8, dx9, _, _, rfl, rfl, S8'.obj, S9.obj, s8, dx8, d8, h8, none, [], [], .ref s9, rfl, S8', .inl ⟨s9, aSes K, dx9, d9, h9, none, [], [], rfl, SC, S9, fun e => dict_there S8.cat (e ▸ dn9), fun H46 s46 => ⟨_, rfl, _, rfl, iteTr (decide_eq_true rfl) ?_⟩⟩⟩
        have e46 := s44.trans (s45.trans s46)
        obtain ⟨y4, pa4, Z4, _⟩ := id (Y3.same e46).r
        obtain ⟨cx1, u1, u2, u3, hb1, hb2⟩ := id (C1.same e46)
        refine ⟨_, rfl, s3, dx3, _, rfl, Z4.obj, rfl, s3, dx3, y4, h3, none, cs2 c, pa4, ("a", c.1, c.2), rfl, Z4, List.mem_cons_self .., fun c0 hc0 => ?_⟩
        obtain ⟨cx2, v1, v2, v3, hv1, hv2⟩ := id hc0
        refine ⟨_, rfl, c0, o1, _, _, _, _, rfl, rfl, hv1, hb1, c0, o1, c.1, c.1, c.2, c.2, rfl, hc0, C1.same e46, _, rfl, ?_⟩
        rw [decide_eq_true (⟨rfl, rfl⟩ : c.1 = c.1 ∧ c.2 = c.2)]
        exact k H46 (old.same e46) (SA.same e46)
end
end TF
end
section
set_option maxHeartbeats 4000000
set_option pp.maxSteps 3000

namespace TF
open PySem PySem.Spec PyProof.Rows L2 TL StX LamX
section
variable {P : Program} {w : World} {K : PySem.W.Frag} {mg : Str → Option Value} {base : Heap}
/-! ### forty commands -/
theorem forty_cell (i : Nat) : ∃ c : LC, IsLc 0 c ∧ ([V.str "3 : 0 1", .str "3 : 1 2", .str "1 : 0"])[i % 3]? = some (.str (cellText c.1 c.2)) := by
  have h : i % 3 < 3 := Nat.mod_lt _ (by decide)
  match i % 3, h with
  | 0, _ => exact ⟨(3, [0, 1]), .one (by decide), congrArg (fun z => some (V.str z)) (show ("3 : 0 1" : Str) = cellText 3 [0, 1] by decide +kernel)⟩
  | 1, _ => exact ⟨(3, [1, 2]), .one (by decide), congrArg (fun z => some (V.str z)) (show ("3 : 1 2" : Str) = cellText 3 [1, 2] by decide +kernel)⟩
  | 2, _ => exact ⟨(1, [0]), .one (by decide), congrArg (fun z => some (V.str z)) (show ("1 : 0" : Str) = cellText 1 [0] by decide +kernel)⟩
  | n + 3, h => omega
theorem line_az (N : Nat) (ms : List Nat) : lineOf ("a", N, ms) = "a " ++ cellText N ms := by
  rw [line_eq]
  refine ext_tl ?_
  rw [tl_append, tl_append, tl_append]
  rfl
theorem cat_one (r : Row) : catText [r] = lineOf r := by
  unfold catText
  rw [if_neg (List.cons_ne_nil _ _), List.map_singleton, join_one]
theorem cmd_az (N : Nat) (ms : List Nat) : Cmd.str (.put ("a", N, ms)) = "set " ++ lineOf ("a", N, ms) := by
  rw [put_str]
  refine ext_tl ?_
  rw [tl_append, tl_append, tl_append]
  rfl
abbrev rowA (c : LC) : List Row := [("a", c.1, c.2)]
/-- nothing, or one cell under the name a -/
def AForm (cs : List Row) : Prop := ∀ r ∈ cs, r.1 = ("a" : Str)
theorem aform_put {cs : List Row} (h : AForm cs) {c : LC} (g : Good c.1 c.2) : RowsPut cs ("a", c.1, c.2) [("a", c.1, c.2)] := by
  refine ⟨ok_one (by decide +kernel) g, ?_⟩
  have e : (cs.filter fun x => decide (x.1 ≠ (("a", c.1, c.2) : Row).1)) = [] := List.filter_eq_nil_iff.mpr fun r hr => by
    rw [h r hr]
    simp
  rw [e]
  exact .refl _
def txts (css : List (List Row)) : List V := css.map fun c => V.str (catText c)
def spFor : Sp := fun vs H Q _ => vs = [] ∧ ∀ H', Same H H' → Q (.bl true) H'
theorem scFor : FnScope ["_law_session", "_law_states", "_law_number", "_law_line", "_law_due"] [] (defScope (tops 87)) := ⟨rfl, rfl, rfl, by decide +kernel, rfl, by decide +kernel, by decide +kernel⟩
theorem ok_for (G : GDef K mg "_law_forty_right" (tops 87)) (T : TxtA K mg) (SC : SesC K (aSes K)) (RC : RecC K) (IE : SesE K mg) (Fmk1 : CKOk P w K mg base CX0 3 (aSes K) (spKw 1 ["self"] (spSi K))) (Fex1 : MOk P w K mg base CX0 11 (aSes K) "execute" (spExe K (aSes K) (spOut K (aSes K)))) (Fex2 : MOk P w K mg base CX0 11 (aRec K) "execute" (spExe K (aRec K) (spRo K)))
    (Ftx1 : POk P w K mg base CX0 5 (aSes K) "text" (spTx K (aSes K))) (Ftx2 : POk P w K mg base CX0 5 (aRec K) "text" (spTx K (aRec K))) : GOk P w K mg base CX0 12 "_law_forty_right" spFor := by
  refine G.ok scFor (fun vs H Q E h => by obtain ⟨rfl, _⟩ := h; rfl) (fun _ _ _ _ _ _ us hl => match us, hl with | [], _ => rfl) (fun f cdv A outer s H vs Q E hr h => ?_)
  obtain ⟨rfl, k⟩ := h
  refine ⟨_, (pss_cons (ps_par (i := 0) (j := 1) (by rfl) scFor.nd rfl rfl (by decide) rfl rfl (pa_cons (pe_mkKw0 Fmk1 (hr.mono (by decide)) pass0 rfl IE.mS) (pa_cons (pe_lst (pa_cons pe_str pa_nil)) pa_nil)) (by rfl))
      (pss_cons (ps_for PassesOwn.never rfl (pi_range1 rfl T.z_range (pa_cons pe_int pa_nil)) (pg_name (i := 2) scFor.nd rfl (Or.inl rfl)) (pss_cons (ps_set (i := 3) scFor.nd rfl (Or.inl rfl) (pe_op op_add_str pe_str (pe_ix ix_list (pe_lst (pa_cons pe_str (pa_cons pe_str (pa_cons pe_str pa_nil)))) (pe_op op_mod (pv 2) pe_int) (fun _ _ => rfl))))
      (pss_cons (ps_expr (pe_bm PySem.F.plainAttrs_list PySem.F.slot_list_append PySem.F.type_list_append mt_append (pv 1) (pa_cons (pv 3) pa_nil)))
      (pss_one (ps_if (PW.pt (pw_or (pt_cmpR op_ne (pe_or (pe_cm Fex1 SC.cl (hr.mono (by decide)) pass0 (pv 0) (pa_cons (pe_op op_add_str pe_str (pv 3)) pa_nil)) (pe_cm Fex2 RC.cl (hr.mono (by decide)) pass0 (pv 0) (pa_cons (pe_op op_add_str pe_str (pv 3)) pa_nil))) pe_str (nomark _)) (pw_or1 (pt_cmpR op_ne (pe_or (pe_cp Ftx1 SC.cl (hr.mono (by decide)) pass0 (pv 0)) (pe_cp Ftx2 RC.cl (hr.mono (by decide)) pass0 (pv 0))) (pv 3) (nomark _))))) (pss_one (ps_ret pe_bl)) pss_nil)))))
      (pss_cons (ps_for PassesOwn.never rfl (pi_list (pe_slice sl_list (pe_revL (pv 1)) (po_some pe_int) po_none)) (pg_name (i := 4) scFor.nd rfl (Or.inl rfl)) (pss_one (ps_if (PW.pt (pw_or (pt_cmpR op_ne (pe_or (pe_cm Fex1 SC.cl (hr.mono (by decide)) pass0 (pv 0) (pa_cons pe_str pa_nil)) (pe_cm Fex2 RC.cl (hr.mono (by decide)) pass0 (pv 0) (pa_cons pe_str pa_nil))) pe_str (nomark _)) (pw_or1 (pt_cmpR op_ne (pe_or (pe_cp Ftx1 SC.cl (hr.mono (by decide)) pass0 (pv 0)) (pe_cp Ftx2 RC.cl (hr.mono (by decide)) pass0 (pv 0))) (pv 4) (nomark _))))) (pss_one (ps_ret pe_bl)) pss_nil)))
      (pss_one (ps_ret (pe_cmpR op_eq (pe_or (pe_cm Fex1 SC.cl (hr.mono (by decide)) pass0 (pv 0) (pa_cons pe_str pa_nil)) (pe_cm Fex2 RC.cl (hr.mono (by decide)) pass0 (pv 0) (pa_cons pe_str pa_nil))) pe_str (nomark _))))))), ?_⟩
  refine seqI (parI (consI ?_))
  refine x_mkS0 SC fun s0 dx d h H1 s1 sn dn hn S => ?_
  refine ⟨z1, fun q hq => ⟨_, _, rfl, ?_⟩⟩
  have X1 : SesX K H1 s0 dx h none [] [] [] := .ses ⟨d, [], S, rfl⟩
  have s2 := s1.trans (Same.new (o := .lst [.str "-"]) hq)
  have X2 := X1.same (Same.new (o := .lst [.str "-"]) hq)
  have nq : q ∉ mutd s0 h none := fun m => X1.there m hq
  have hqn : H q = none := s1.free hq
  have hq2 : (upd H1 q (.lst [.str "-"])) q = some (.lst (txts ([] ++ [[]]))) := upd_same
  generalize upd H1 q (.lst [.str "-"]) = H2 at s2 X2 hq2 ⊢
  have out : ∀ {b : Addr} {u : HO}, H b = some u → b ∉ mutd s0 h none ∧ b ≠ q := fun {b u} e => by
    refine ⟨fun m => ?_, fun z => by rw [z, hqn] at e; cases e⟩
    rcases List.mem_cons.mp m with rfl | m
    · rw [sn] at e
      cases e
    · rw [List.mem_singleton.mp m, hn] at e
      cases e
  let Pv : Nat → L2.St → Hp → Prop := fun i σ' H' => Same H H' ∧ ∃ (cs : List Row) (ps : List (List Row)) (log : List (Str × Str)) (x y z : Option V), SesX K H' s0 dx h none cs ps log ∧ ps.length = i ∧ log.length ≤ i ∧ AForm cs ∧ H' q = some (.lst (txts (ps ++ [cs]))) ∧ σ' = [some (.ref s0), some (.ref q), x, y, z]
  refine ⟨40, rfl, by decide, by decide, for_it walk_range Pv ⟨s2, [], [], [], _, _, _, X2, rfl, Nat.zero_le _, fun _ h => (nomatch h), hq2, rfl⟩ (fun _ _ _ _ _ => trivial) (fun i x σ' H' H'' hi pv y => ?_) (fun σ' H' pv => ?_)⟩
  · obtain ⟨s3, cs, ps, log, x0, y0, z0', X3, lp, ll, af, hq3, rfl⟩ := pv
    obtain ⟨rfl, rfl⟩ := y
    have hi' : i < 40 := by simpa using hi
    obtain ⟨c, il, hc⟩ := forty_cell i
    have good := il.good (by decide)
    have ka : nameOk "a" = true := by decide +kernel
    have lnc : (cellText c.1 c.2).length ≤ 10000 := cell_short good.sh
    refine ⟨(show 3 ≤ sizeLine by decide), fun L hL => ?_⟩
    refine ⟨_, rfl, _, _, rfl, rfl, (show (0 : Int) < 3 by decide), L, _, (0 + (i : Int)) % 3, .str (cellText c.1 c.2), rfl, rfl, SqL.of upd_same, ?_, _, _, rfl, rfl, by rw [sizeLine_eq, show Str.length "a " = 2 by decide]; omega, ?_⟩
    · have e : (0 + (i : Int)) % 3 = ((i % 3 : Nat) : Int) := by omega
      rw [e]
      exact atI_nat hc
    have eS := (Same.new (o := .lst [.str "3 : 0 1", .str "3 : 1 2", .str "1 : 0"]) hL)
    have s4 := s3.trans eS
    have X4 := X3.same eS
    have hq4 := eS _ _ hq3
    generalize upd H'' L (.lst [.str "3 : 0 1", .str "3 : 1 2", .str "1 : 0"]) = H4 at s4 X4 hq4 ⊢
    refine ⟨_, rfl, .inl ⟨rfl, _, SqL.of hq4⟩, _, rfl, q, _, _, rfl, rfl, hq4, by unfold txts; rw [List.length_map, List.length_append, lp, List.length_singleton, sizeLine_eq]; omega, ?_⟩
    have eA : (txts (ps ++ [cs]) ++ [V.str ("a " ++ cellText c.1 c.2)]) = txts ((ps ++ [cs]) ++ [rowA c]) := by
      show _ = List.map _ _
      rw [List.map_append, List.map_singleton, cat_one, line_az]
      rfl
    rw [eA]
    have bq : ButL [q] H4 (upd H4 q (.lst (txts ((ps ++ [cs]) ++ [rowA c])))) := (ButL.of (Same.refl _)).upd (List.mem_singleton.mpr rfl)
    have stq : Stray H4 [q] := fun x hx u hu => by
      rw [List.mem_singleton.mp hx, hq4] at hu
      cases hu
      exact .inr ⟨_, rfl⟩
    have X5 := X4.off bq stq (fun x m w => nq (by rw [← List.mem_singleton.mp w]; exact m))
    have s5 : Same H (upd H4 q (.lst (txts ((ps ++ [cs]) ++ [rowA c])))) := fun b u hb => by
      rw [upd_ne (out hb).2]
      exact s4 _ _ hb
    have hq5 : (upd H4 q (.lst (txts ((ps ++ [cs]) ++ [rowA c])))) q = some (.lst (txts ((ps ++ [cs]) ++ [rowA c]))) := upd_same
    generalize upd H4 q (.lst (txts ((ps ++ [cs]) ++ [rowA c]))) = H5 at X5 s5 hq5 ⊢
    have l1 : cs.length < 26 := by
      obtain ⟨⟨_, _, S5, _⟩, _⟩ := id X5
      have h1 := S5.ok.nd
      cases cs with
      | nil => exact Nat.zero_lt_succ _
      | cons r1 rs => cases rs with
        | nil => exact Nat.succ_lt_succ (Nat.zero_lt_succ _)
        | cons r2 rs =>
          have e1 := af r1 (List.mem_cons_self ..)
          have e2 := af r2 (List.mem_cons_of_mem _ (List.mem_cons_self ..))
          rw [List.map_cons, List.map_cons, e1, e2] at h1
          exact absurd (List.mem_cons_self ..) (List.nodup_cons.mp h1).1
    refine x_exe (c := .put ("a", c.1, c.2)) X5 rfl (fun X hX => ⟨_, rfl, _, _, rfl, rfl, by rw [sizeLine_eq, show Str.length "set " = 4 by decide, len_tl, tl_append, List.length_append, ← len_tl, ← len_tl, show Str.length "a " = 2 by decide]; omega, by rw [cmd_az, line_az] at hX; exact hX⟩) (by omega) (by omega) (.put ka good l1 (aform_put af good)) fun H6 b6 X6 => ⟨rfl, _, rfl, iteFr (by rw [decide_eq_true rfl]; rfl) ?_⟩
    refine x_text X6 rfl fun H7 s7 => ⟨_, rfl, rfl, _, rfl, iteFr (by rw [cat_one, line_az, decide_eq_true rfl]; rfl) ?_⟩
    refine ⟨fun b u hb => s7 _ _ (b6 _ _ (out hb).1 (s5 _ _ hb)), [("a", c.1, c.2)], ps ++ [cs], _, _, _, _, X6.same s7, by rw [List.length_append, lp]; rfl, by rw [List.length_append, List.length_singleton]; omega, fun r hr => by rw [List.mem_singleton.mp hr], s7 _ _ (b6 _ _ nq hq5), rfl⟩
  · obtain ⟨s3, cs, ps, log, x0, y0, z0', X3, lp, ll, af, hq3, rfl⟩ := pv
    have lp40 : ps.length = 40 := lp
    have ll40 : log.length ≤ 40 := ll
    have eL : cutV (txts (ps ++ [cs])).reverse (some 1) none = txts ps.reverse := by
      show cutV (List.map _ _).reverse _ _ = List.map _ _
      rw [List.map_append, List.reverse_append]
      show cutV (V.str (catText cs) :: _) _ _ = _
      rw [cut_1n, List.map_reverse]
      rfl
    refine ⟨_, rfl, q, _, rfl, SqL.of hq3, fun r1 hr1 => ⟨1, rfl, r1, _, rfl, SqL.of upd_same, fun r2 hr2 => ?_⟩⟩
    rw [eL]
    have e4 := (Same.new (o := .lst (txts (ps ++ [cs])).reverse) hr1).trans (Same.new (o := .lst (txts ps.reverse)) hr2)
    have nr2 : r2 ∉ mutd s0 h none := fun m => (X3.same (Same.new (o := .lst (txts (ps ++ [cs])).reverse) hr1)).there m hr2
    have X4 := X3.same e4
    have s4 := s3.trans e4
    have hr22 : (upd (upd H' r1 (.lst (txts (ps ++ [cs])).reverse)) r2 (.lst (txts ps.reverse))) r2 = some (.lst (txts ps.reverse)) := upd_same
    generalize upd (upd H' r1 (.lst (txts (ps ++ [cs])).reverse)) r2 (.lst (txts ps.reverse)) = H4 at X4 s4 hr22 ⊢
    have lR : (txts ps.reverse).length = 40 := by unfold txts; rw [List.length_map, List.length_reverse, lp40]
    let Pv2 : Nat → L2.St → Hp → Prop := fun i σ' H' => ButL (mutd s0 h none) H4 H' ∧ ∃ (c : List Row) (log : List (Str × Str)) (x y z : Option V), SesX K H' s0 dx h none c (ps.reverse.drop i).reverse log ∧ log.length ≤ 40 + i ∧ σ' = [some (.ref s0), some (.ref q), x, y, z]
    refine ⟨r2, rfl, ⟨_, SqL.of hr22⟩, for_it walk_list Pv2 ⟨ButL.of (Same.refl _), cs, log, _, _, _, by rw [List.drop_zero, List.reverse_reverse]; exact X4, by omega, rfl⟩ (fun i σ' H' _ pv => SqL.of (pv.1 _ _ nr2 hr22)) (fun i x σ' H' H'' hi pv y => ?_) (fun σ' H' pv => ?_)⟩
    · obtain ⟨b5, c, log, x1, y1, z1', X5, ll5, rfl⟩ := pv
      obtain ⟨rfl, hx⟩ := y
      have hi5 : i < 40 := by rw [lR] at hi; exact hi
      have hip : i < ps.reverse.length := by rw [List.length_reverse]; omega
      have eD : ps.reverse.drop i = ps.reverse[i] :: ps.reverse.drop (i + 1) := List.drop_eq_getElem_cons hip
      have hx2 : x = .str (catText ps.reverse[i]) := by
        have : (txts ps.reverse)[i]? = some (.str (catText ps.reverse[i])) := by
          show (List.map _ _)[i]? = _
          rw [List.getElem?_map, List.getElem?_eq_getElem hip]
          rfl
        rw [this] at hx
        exact (Option.some.inj hx).symm
      subst hx2
      have lps : ∀ j, (ps.reverse.drop j).reverse.length ≤ 1000 := fun j => by
        rw [List.length_reverse, List.length_drop, List.length_reverse]
        omega
      refine x_exe (c := .undo) X5 rfl (fun X hX => by rw [undo_str] at hX; exact hX) (lps i) (by omega) (.back (cs0 := ps.reverse[i]) (p0 := (ps.reverse.drop (i + 1)).reverse) (by rw [eD, List.reverse_cons])) fun H6 b6 X6 => ⟨rfl, _, rfl, iteFr (by rw [decide_eq_true rfl]; rfl) ?_⟩
      refine x_text X6 rfl fun H7 s7 => ⟨_, rfl, rfl, _, rfl, iteFr (by rw [decide_eq_true rfl]; rfl) ?_⟩
      exact ⟨(b5.trans b6).same s7, _, _, _, _, _, X6.same s7, by rw [List.length_append, List.length_singleton]; omega, rfl⟩
    · obtain ⟨b5, c, log, x1, y1, z1', X5, ll5, rfl⟩ := pv
      rw [lR, List.drop_eq_nil_of_le (by rw [List.length_reverse]; omega), List.reverse_nil] at X5
      rw [lR] at ll5
      refine x_exe (c := .undo) X5 rfl (fun X hX => by rw [undo_str] at hX; exact hX) (Nat.zero_le _) (by omega) (.none rfl) fun H6 b6 X6 => ⟨rfl, ?_⟩
      rw [decide_eq_true (rfl : V.str "nothing to undo" = V.str "nothing to undo")]
      exact k H6 fun b u hb => b6 _ _ (out hb).1 (b5 _ _ (out hb).1 (s4 _ _ hb))
end
end TF
end
section
set_option maxHeartbeats 4000000
set_option pp.maxSteps 3000

namespace TF
open PySem PySem.Spec PyProof.Rows L2 TL StX LamX
section
variable {P : Program} {w : World} {K : PySem.W.Frag} {mg : Str → Option Value} {base : Heap}
/-! ### the law -/
theorem _root_.L2.SqL.butT {H H' : Hp} {a : Addr} {xs : List V} (h : SqL K H a xs) (b : ButT [] H H') : SqL K H' a xs := by
  rcases h with h | h
  · rcases h with h | ⟨o, h⟩
    · exact .inl (.inl (b _ _ (fun m => nomatch m) (fun _ z => by cases z) h))
    · exact .inl (.inr ⟨o, b _ _ (fun m => nomatch m) (fun _ z => by cases z) h⟩)
  · exact .inr h
def spLaw (K : PySem.W.Frag) (T : List (Addr × Str)) : Sp := fun vs H Q _ => ∃ (a : Addr) (ns : List Int), vs = [.ref a] ∧ SqL K H a (ns.map V.int) ∧ ns.length ≤ 1000 ∧ Tabs T H ∧ ∀ H', Q (.bl true) H'
theorem scLaw : FnScope ["_law_script", "_law_k", "_law_source_here"] ["_law_script"] (defScope (tops 88)) := ⟨rfl, rfl, rfl, by decide +kernel, rfl, by decide +kernel, by decide +kernel⟩
theorem law_fn {f : Addr} {fd : FuncData} {T0 : List (Addr × Str)} (G : FunD K "law" "law" (defArgs (tops 88)) (defBody (tops 88)) (defScope (tops 88)) [] [] f fd) (T : TxtA K mg) (SC : SesC K (aSes K)) (RC : RecC K) (IE : SesE K mg) (Ffo : GOk P w K mg base CX0 12 "_law_forty_right" spFor) (Fso : GOk P w K mg base CX0 1 "_law_source" (spSo K)) (Frg : GOk P w K mg base CX0 13 "_law_right" (spRgt K T0)) (Fma : GOk P w K mg base CX0 13 "_law_made_right" spMa)
    (Fmk1 : CKOk P w K mg base CX0 3 (aSes K) (spKw 1 ["self"] (spSi K))) (Fmk2 : CKOk P w K mg base CX0 4 (aRec K) (spKw 1 ["self"] (spRi K))) : FnOk P w K mg base CX0 14 f fd ["_law_script"] (spLaw K T0) := by
  refine G.ok scLaw (fun vs H Q E h => ?_) (fun cdv A outer s H vs Q E hr h => ?_)
  · obtain ⟨_, _, rfl, _⟩ := h
    rfl
  · obtain ⟨a, ns, rfl, ha, hl, tb, k⟩ := h
    suffices hh : ∃ t, PSs (cxOf CX0 P w K mg base ["_law_script", "_law_k", "_law_source_here"] "law" (defScope (tops 88)) f cdv A outer s H E).nox (defBody (tops 88)) t ∧ t { nx := fun _ H' => Q .non H', rt := Q } (start ["_law_script", "_law_k", "_law_source_here"] [.ref a]) H by
      obtain ⟨t, h1, h2⟩ := hh
      exact ⟨t, h1.nox, h2⟩
    refine ⟨_, (pss_cons (ps_if (pt_not (pt_val (pe_cg0 Ffo (hr.mono (by decide)) pass0 rfl))) (pss_one (ps_ret pe_bl)) pss_nil)
      (pss_cons (ps_for PassesOwn.never rfl (pi_range1 rfl T.z_range (pa_cons (pe_callB (call_max2 rfl) (by rfl) T.z_max (by decide +kernel) (pa_cons pe_int (pa_cons (pe_callB (call_min2 rfl) (by rfl) T.z_min (by decide +kernel) (pa_cons (pe_callB call_len_seq (by rfl) T.z_len (by decide +kernel) (pa_cons (pv 0) pa_nil)) (pa_cons pe_int pa_nil))) pa_nil))) pa_nil)) (pg_name (i := 1) scLaw.nd rfl (Or.inl rfl)) (pss_cons (ps_set (i := 2) scLaw.nd rfl (Or.inl rfl) (pe_cg Fso (hr.mono (by decide)) pass0 rfl (pa_cons (pv 0) (pa_cons (pv 1) pa_nil))))
      (pss_one (ps_if (PW.pt (pw_or (pt_not (pt_val (pe_cg Frg (hr.mono (by decide)) pass0 rfl (pa_cons (pv 2) (pa_cons (pe_mkKw0 Fmk1 (hr.mono (by decide)) pass0 rfl IE.mS) pa_nil))))) (pw_or (pt_not (pt_val (pe_cg Frg (hr.mono (by decide)) pass0 rfl (pa_cons (pv 2) (pa_cons (pe_mkKw0 Fmk2 (hr.mono (by decide)) pass0 rfl IE.mR) pa_nil))))) (pw_or1 (pt_not (pt_val (pe_cg Fma (hr.mono (by decide)) pass0 rfl (pa_cons (pv 2) pa_nil)))))))) (pss_one (ps_ret pe_bl)) pss_nil))))
      (pss_one (ps_ret pe_bl)))), ?_⟩
    refine ⟨rfl, fun H1 s1 => ⟨_, rfl, iteFr rfl ?_⟩⟩
    have ha1 : SqL K H1 a (ns.map V.int) := ha.butT (ButT.same s1)
    refine nextI ?_
    dsimp only
    refine ⟨_, rfl, a, _, rfl, .inl ha1, _, _, rfl, _, _, rfl, ?_⟩
    obtain ⟨m, em, m1⟩ : ∃ m : Nat, (if (if (8 : Int) < ((ns.map V.int).length : Nat) then (8 : Int) else ((ns.map V.int).length : Nat)) > 1 then (if (8 : Int) < ((ns.map V.int).length : Nat) then (8 : Int) else ((ns.map V.int).length : Nat)) else 1) = (m : Int) ∧ m ≤ 8 := by
      by_cases h8 : (8 : Int) < ((ns.map V.int).length : Nat)
      · rw [if_pos h8, if_pos (by decide)]
        exact ⟨8, rfl, Nat.le_refl _⟩
      · rw [if_neg h8]
        by_cases h1 : (((ns.map V.int).length : Nat) : Int) > 1
        · rw [if_pos h1]
          exact ⟨_, rfl, by omega⟩
        · rw [if_neg h1]
          exact ⟨1, rfl, by decide⟩
    rw [em]
    let Pv : Nat → L2.St → Hp → Prop := fun i σ' H' => ButT [] H1 H' ∧ Tabs T0 H' ∧ ∃ y z : Option V, σ' = [some (.ref a), y, z]
    refine ⟨m, rfl, by omega, by omega, for_it walk_range Pv ⟨ButT.same (Same.refl _), tb.ext s1, _, _, rfl⟩ (fun _ _ _ _ _ => trivial) (fun i x σ' H' H'' hi pv y => ?_) (fun σ' H' pv => ?_)⟩
    · obtain ⟨b, tb1, y0, z0', rfl⟩ := pv
      obtain ⟨rfl, rfl⟩ := y
      refine ⟨_, rfl, _, rfl, a, ns, i, (by show [V.ref a, V.int (0 + (i : Int))] = _; rw [Int.zero_add]), ha1.butT b, fun p H2 s2 pn sp => ?_⟩
      refine ⟨_, rfl, consI (x_mkS0 SC fun s dx d h H3 s3 sn dn hn S => ?_)⟩
      have stand : ∀ {x : Addr}, H2 x = none → x ≠ p := fun {x} e z => sp.ne (z ▸ e)
      have np : p ∉ mutd s h none := fun m => by
        rcases List.mem_cons.mp m with e | m
        · exact stand sn e.symm
        · exact stand hn (List.mem_singleton.mp m).symm
      refine ⟨p, s, dx, h, none, rfl, sp.same s3, .ses ⟨d, [], S, rfl⟩, tb1.ext (s2.trans s3), np, fun H4 b4 sa4 tb4 => ⟨_, rfl, iteFr rfl ?_⟩⟩
      have c4 : ButT [] H'' H4 := fun x u _ n hx => b4 x u (fun m => by
        rcases List.mem_cons.mp m with e | m
        · rw [e, pn] at hx
          cases hx
        · have h2 := s2 _ _ hx
          rcases List.mem_cons.mp m with e | m
          · rw [e, sn] at h2
            cases h2
          · rw [List.mem_singleton.mp m, hn] at h2
            cases h2) n (s3 _ _ (s2 _ _ hx))
      refine ⟨_, rfl, consI (x_mkR0 fun s' dx' d' h' e' H5 s5 sn' dn' hn' en' S' R' => ?_)⟩
      have stand4 : ∀ {x : Addr}, H4 x = none → x ≠ p := fun {x} e z => sa4.ne (z ▸ e)
      have np' : p ∉ mutd s' h' (some e') := fun m => by
        rcases List.mem_cons.mp m with e | m
        · exact stand4 sn' e.symm
        · rcases List.mem_cons.mp m with e | m
          · exact stand4 hn' e.symm
          · exact stand4 en' (List.mem_singleton.mp m).symm
      refine ⟨p, s', dx', h', some e', rfl, sa4.same s5, .recd ⟨d', [], S', rfl⟩ R', tb4.ext s5, np', fun H6 b6 sa6 tb6 => ⟨_, rfl, iteFr rfl ?_⟩⟩
      have c6 : ButT [] H'' H6 := fun x u q n hx => b6 x u (fun m => by
        have h4 := c4 x u q n hx
        rcases List.mem_cons.mp m with e | m
        · rw [e, pn] at hx
          cases hx
        · rcases List.mem_cons.mp m with e | m
          · rw [e, sn'] at h4
            cases h4
          · rcases List.mem_cons.mp m with e | m
            · rw [e, hn'] at h4
              cases h4
            · rw [List.mem_singleton.mp m, en'] at h4
              cases h4) n (s5 _ _ (c4 x u q n hx))
      refine ⟨_, rfl, p, rfl, sa6, fun H7 b7 sa7 => ⟨_, rfl, iteFr rfl ?_⟩⟩
      refine ⟨b.trans fun x u q n hx => b7 x u (fun m => ?_) (c6 x u q n hx), tb6.butL b7 sa6.stray, _, _, rfl⟩
      rw [List.mem_singleton.mp m, pn] at hx
      cases hx
    · exact k H'
end
end TF
end
section
set_option maxHeartbeats 4000000
namespace TF
open PySem PySem.Spec PyProof.Rows L2 TL StX LamX
open He (ga ma ba)
theorem fileB_ok {F : Str} {K : PySem.W.Frag} {c : Addr} (h : fileB F K c = true) : ∃ (oc : Obj) (vs : Array Value) (file : Str) (tf : Tok), K.lookup c = some oc ∧ oc.data = .fields vs ∧ vs[2]? = some (.str file tf) ∧ (F == file) = true := by
  unfold fileB at h
  split at h
  · rename_i vs _ e
    split at h
    · rename_i file tf e2
      exact ⟨_, vs, file, tf, e, rfl, by rw [← Array.getElem?_toList]; exact e2, h⟩
    · cases h
  · cases h
theorem cellB_ok {K : PySem.W.Frag} {cc D : Addr} (h : cellB K cc D = true) : ∃ oc : Obj, K.lookup cc = some oc ∧ oc.data = .cell (some (.ref D)) := by
  unfold cellB at h
  split at h
  · rename_i E _ e
    have e2 : E = D := of_decide_eq_true h
    exact ⟨_, e, by rw [← e2]⟩
  · cases h
theorem SuD.sup {F : Str} {K : PySem.W.Frag} {d : SuD} (e : fnS K (d.adr K) = d.val) (h : d.ok F K = true) :
    ∃ (cc c : Addr) (kV doc pm : Value) (an : Option Addr) (ct : Value), SupO K (d.adr K) d.name d.qual d.st (ga K d.cls) cc c kV doc pm an ct ∧
      ∃ (oc : Obj) (vs : Array Value) (file : Str) (tf : Tok), K.lookup c = some oc ∧ oc.data = .fields vs ∧ vs[2]? = some (.str file tf) ∧ (F == file) = true := by
  unfold SuD.ok at h
  unfold fnS at e
  cases q : K.lookup (d.adr K) with
  | none =>
    rw [q] at h
    cases h
  | some o =>
    obtain ⟨oc, od, dt, osl⟩ := o
    rw [q] at h e
    cases dt with
    | func fd =>
      obtain ⟨n1, n2, n3, n4, n5, n6, n7, n8, n9, n10, n11, n12, n13, n14, n15⟩ := fd
      have e2 : (some (n1, n2, n3, n4, n5, n6, n7.map (·.1), n15) : FnS) = (some (d.name, d.qual, defArgs d.st, PySem.FuncBody.stmts (defBody d.st), defScope d.st, mainGlobals, [("__class__" : Str)], builtinsNs) : FnS) := e
      simp only [Option.some.injEq, Prod.mk.injEq] at e2
      obtain ⟨h1, h2, h3, h4, h5, h6, h7, h8⟩ := e2
      obtain ⟨k1, k⟩ := ba (show (noneB n8 && (cdB F K d.qual n13 && (clB K (ga K d.cls) n7 && (PySem.W.clsIn K (ga K d.cls)).isSome))) = true from h)
      obtain ⟨k2, k⟩ := ba k
      obtain ⟨k3, k4⟩ := ba k
      have d8 : n8 = .none := by
        cases n8 with
        | none => rfl
        | _ => cases k1
      cases n7 with
      | nil => cases k3
      | cons z zs =>
        cases zs with
        | cons _ _ => cases k3
        | nil =>
          obtain ⟨nm, cc⟩ := z
          have nm1 : nm = "__class__" := by
            have := h7
            simp only [List.map_cons, List.map_nil, List.cons.injEq, and_true] at this
            exact this
          cases n13 with
          | ref c =>
            obtain ⟨k5, k6⟩ := ba (show (PySem.W.codeIn K (.ref c) d.qual && fileB F K c) = true from k2)
            subst h1 h2 h3 h4 h5 h6 h8 d8 nm1
            exact ⟨cc, c, n9, n10, n11, n12, n14, ⟨⟨oc, od, osl, q⟩, k5, cellB_ok k3, k4⟩, fileB_ok k6⟩
          | _ => cases k2
    | _ => cases h
section
variable {F : Str} {fn : List He5.DefA} {sf : List SuD} {tf : List He.Defn} {ex : List Chk} {h : Heap} {K : PySem.W.Frag}
theorem SaysZ.def_ (c : SaysZ F fn sf tf ex h K) (i : Nat) {d : He5.DefA} (hi : fn[i]? = some d := by rfl) : ∃ fd, FunD K d.name d.qual d.params d.body d.scope (d.dvs K) (d.kws K) (d.at_ K) fd := by
  have e2 : (fn.map fun d => He5.fnA K (d.at_ K))[i]? = (fn.map He5.DefA.val)[i]? := by rw [c.fns]
  rw [List.getElem?_map, List.getElem?_map, hi] at e2
  exact He5.DefA.funD (Option.some.inj e2) (c.fok d (List.mem_of_getElem? hi))
theorem SaysZ.sup (c : SaysZ F fn sf tf ex h K) (i : Nat) {d : SuD} (hi : sf[i]? = some d := by rfl) :
    ∃ (cc c : Addr) (kV doc pm : Value) (an : Option Addr) (ct : Value), SupO K (d.adr K) d.name d.qual d.st (ga K d.cls) cc c kV doc pm an ct ∧
      ∃ (oc : Obj) (vs : Array Value) (file : Str) (tf : Tok), K.lookup c = some oc ∧ oc.data = .fields vs ∧ vs[2]? = some (.str file tf) ∧ (F == file) = true := by
  have e2 : (sf.map fun d => fnS K (d.adr K))[i]? = (sf.map SuD.val)[i]? := by rw [c.sus]
  rw [List.getElem?_map, List.getElem?_map, hi] at e2
  exact SuD.sup (Option.some.inj e2) (c.sok d (List.mem_of_getElem? hi))
theorem SaysZ.fact (c : SaysZ F fn sf tf ex h K) (i : Nat) {f : Chk} (hi : ex[i]? = some f := by rfl) : f K = true := c.exs f (List.mem_of_getElem? hi)
end
end TF
end
section
set_option maxHeartbeats 4000000
namespace TF
open PySem PySem.Spec PyProof.Rows L2 TL StX LamX
open He (ga ma ba)
/-! ### all that the head tells -/
structure AllF (P : Program) (K : PySem.W.Frag) (mg : Str → Option Value) (base : Heap) (TP : Addr) : Prop where
  T : TxtA K mg
  C : CellA K
  SC : SesC K (aSes K)
  RC : RecC K
  EA : ErrA K mg
  xi : XDef K mg "InvalidText" (aIT K) "ValueError" "ValueError.__new__" "ValueError.__init__" tlVE "InvalidText.__init__" (inClass (tops 8) 0)
  xis : XSup K mg "SetError" (aSE K) "ValueError.__init__"
  IX : ItX K
  xn : XDef K mg "NotFree" (aNF K) "RuntimeError" "RuntimeError.__new__" "RuntimeError.__init__" tlRE "NotFree.__init__" (inClass (tops 10) 0)
  xns : XSup K mg "StateError" (aStE K) "RuntimeError.__init__"
  n_low : PySem.W.findIn K (.ref (aNF K)) "low" = some none
  n_middle : PySem.W.findIn K (.ref (aNF K)) "middle" = some none
  n_high : PySem.W.findIn K (.ref (aNF K)) "high" = some none
  NE : NuE K
  NA : NuA K
  IE : SesE K mg
  IR : IsR K
  SH : ShiC K
  mSh : mg "ShiftedSequence" = some (.ref (aShi K))
  qu : QuA K mg (ga K "QUESTIONS")
  gw_source : GDef K mg "_law_source" (tops 74)
  gw_pick : GDef K mg "_law_pick" (tops 75)
  gw_pool : GDef K mg "_law_pool" (tops 76)
  gw_joined : GDef K mg "_law_joined" (tops 77)
  gw_cell : GDef K mg "_law_cell" (tops 78)
  gw_shown : GDef K mg "_law_shown" (tops 79)
  gw_lines : GDef K mg "_law_lines" (tops 80)
  gw_text : GDef K mg "_law_text" (tops 81)
  gw_spot : GDef K mg "_law_spot" (tops 82)
  gw_is_so : GDef K mg "_law_is_so" (tops 84)
  gw_right : GDef K mg "_law_right" (tops 85)
  gw_made_right : GDef K mg "_law_made_right" (tops 86)
  gw_forty_right : GDef K mg "_law_forty_right" (tops 87)
  gis_between : GDef K mg "is_between" (tops 31)
  gcheck_shape : GDef K mg "check_shape" (tops 32)
  gspoiling_triple : GDef K mg "spoiling_triple" (tops 33)
  gserving_table : GDef K mg "serving_table" (tops 34)
  gunserved_remainder : GDef K mg "unserved_remainder" (tops 35)
  gis_catalogue_name : GDef K mg "is_catalogue_name" (tops 41)
  gcheck_natural : GDef K mg "check_natural" (tops 42)
  gcheck_catalogue : GDef K mg "check_catalogue" (tops 44)
  gformat_catalogue : GDef K mg "format_catalogue" (tops 45)
  gsplit_lines : GDef K mg "split_lines" (tops 49)
  gread_digits : GDef K mg "read_digits" (tops 50)
  gis_empty_text : GDef K mg "is_empty_text" (tops 51)
  gread_cell : GDef K mg "read_cell" (tops 52)
  gparse_cell : GDef K mg "parse_cell" (tops 53)
  gparse_catalogue : GDef K mg "parse_catalogue" (tops 54)
  gcheck_at_least : GDef K mg "check_at_least" (tops 59)
  gfailure_of : GDef K mg "failure_of" (tops 66)
  gneed_form : GDef K mg "need_form" (tops 67)
  ganswer_of : GDef K mg "answer_of" (tops 70)
  gdigits_in : GDef K mg "digits_in" (tops 20)
  gnumber_of : GDef K mg "number_of" (tops 21)
  gare_plain : GDef K mg "are_plain" (tops 22)
  grank_of : GDef K mg "rank_of" (tops 25)
  gin_base : GDef K mg "in_base" (tops 27)
  gbase_rank : GDef K mg "base_rank" (tops 28)
  rf : TDef K base mg "_law_refused" (tops 83) TP
  ii : G2Def K mg "is_integer" (tops 18) [] [("low", .non), ("high", .non)]
  cn : G2Def K mg "check_number" (tops 19) [.int 0, .non] []
  cdinitd : MDef K (aCell K) "__init__" "Cell.__init__" (inClass (tops 36) 2)
  cdeqd : MDef K (aCell K) "__eq__" "Cell.__eq__" (inClass (tops 36) 13)
  cdstrd : MDef K (aCell K) "__str__" "Cell.__str__" (inClass (tops 36) 14)
  cmodulus : PDef K (aCell K) "modulus" "Cell.modulus" (inClass (tops 36) 3)
  cmembers : PDef K (aCell K) "members" "Cell.members" (inClass (tops 36) 4)
  csize : PDef K (aCell K) "size" "Cell.size" (inClass (tops 36) 5)
  mkC : ∀ f, Meth K (aCell K) "__init__" f → Mk K (aCell K) f
  sload : MDef K (aSes K) "load" "Session.load" (inClass (tops 71) 7)
  schange : MDef K (aSes K) "change" "Session.change" (inClass (tops 71) 8)
  slookup : MDef K (aSes K) "lookup" "Session.lookup" (inClass (tops 71) 9)
  sfind : MDef K (aSes K) "find" "Session.find" (inClass (tops 71) 10)
  soutcome : MDef K (aSes K) "outcome" "Session.outcome" (inClass (tops 71) 12)
  sexecute : MDef K (aSes K) "execute" "Session.execute" (inClass (tops 71) 13)
  sperform : MDef K (aSes K) "perform" "Session.perform" (inClass (tops 71) 16)
  sundo : MDef K (aSes K) "undo" "Session.undo" (inClass (tops 71) 18)
  sneed_place : MDef K (aSes K) "need_place" "Session.need_place" (inClass (tops 71) 20)
  screate : MDef K (aSes K) "create" "Session.create" (inClass (tops 71) 21)
  sdlend : MDef K (aSes K) "__len__" "Session.__len__" (inClass (tops 71) 26)
  sdeqd : MDef K (aSes K) "__eq__" "Session.__eq__" (inClass (tops 71) 27)
  snames : PDef K (aSes K) "names" "Session.names" (inClass (tops 71) 5)
  stext : PDef K (aSes K) "text" "Session.text" (inClass (tops 71) 6)
  srestore : CDef K (aSes K) "restore" "Session.restore" (inClass (tops 71) 3)
  smax : ∃ u, Con K (aSes K) "MAX_NAMES" (.int 26) u
  rload : MDef K (aRec K) "load" "Session.load" (inClass (tops 71) 7)
  rchange : MDef K (aRec K) "change" "Session.change" (inClass (tops 71) 8)
  rlookup : MDef K (aRec K) "lookup" "Session.lookup" (inClass (tops 71) 9)
  rfind : MDef K (aRec K) "find" "Session.find" (inClass (tops 71) 10)
  rexecute : MDef K (aRec K) "execute" "Session.execute" (inClass (tops 71) 13)
  rperform : MDef K (aRec K) "perform" "Session.perform" (inClass (tops 71) 16)
  rundo : MDef K (aRec K) "undo" "Session.undo" (inClass (tops 71) 18)
  rneed_place : MDef K (aRec K) "need_place" "Session.need_place" (inClass (tops 71) 20)
  rcreate : MDef K (aRec K) "create" "Session.create" (inClass (tops 71) 21)
  rdlend : MDef K (aRec K) "__len__" "Session.__len__" (inClass (tops 71) 26)
  rdeqd : MDef K (aRec K) "__eq__" "Session.__eq__" (inClass (tops 71) 27)
  rnames : PDef K (aRec K) "names" "Session.names" (inClass (tops 71) 5)
  rtext : PDef K (aRec K) "text" "Session.text" (inClass (tops 71) 6)
  rrestore : CDef K (aRec K) "restore" "Session.restore" (inClass (tops 71) 3)
  rmax : ∃ u, Con K (aRec K) "MAX_NAMES" (.int 26) u
  sinit : MDef K (aSes K) "__init__" "Session.__init__" (inClass (tops 71) 2)
  mkS : ∃ f, Mk K (aSes K) f
  mkR : ∃ f, Mk K (aRec K) f
  ask : AkDef K (aRec K)
  rinit : SDef P K mg (aRec K) "__init__" "Recorder.__init__" (inClass (tops 72) 0) (aRec K)
  smi : SupM K (aRec K) (aRec K) "__init__" (ma K (aSes K) "__init__")
  smo : SupM K (aRec K) (aRec K) "outcome" (ma K (aSes K) "outcome")
  sif : ∀ f, Meth K (aSes K) "__init__" f → f = ma K (aSes K) "__init__"
  sof : ∃ fd, FunD K "outcome" "Session.outcome" (defArgs (inClass (tops 71) 12)) (defBody (inClass (tops 71) 12)) (defScope (inClass (tops 71) 12)) [] [] (ma K (aSes K) "outcome") fd
  rout : SDef P K mg (aRec K) "outcome" "Recorder.outcome" (inClass (tops 72) 1) (aRec K)
  rtr : PDef K (aRec K) "transcript" "Recorder.transcript" (inClass (tops 72) 2)
  ui : ∃ fd, FunD K "__init__" "RuledSequence.__init__" (defArgs (inClass (tops 60) 1)) (defBody (inClass (tops 60) 1)) (defScope (inClass (tops 60) 1)) [] [] (ma K (aRul K) "__init__") fd
  ur : ∃ fd, FunD K "rank" "RuledSequence.rank" (defArgs (inClass (tops 60) 4)) (defBody (inClass (tops 60) 4)) (defScope (inClass (tops 60) 4)) [] [] (ma K (aRul K) "rank") fd
  sha : ShiA P K mg
  ssi : SupM K (aShi K) (aShi K) "__init__" (ma K (aRul K) "__init__")
  ssr : SupM K (aShi K) (aShi K) "rank" (ma K (aRul K) "rank")
section
variable {P : Program} {w : World} {K : PySem.W.Frag} {mg : Str → Option Value} {base : Heap} {TP : Addr}
theorem MOk.mono {CX : CXT} {j k : Nat} {C : Addr} {m : Str} {sp : Sp} (F : MOk P w K mg base CX j C m sp) (h : j ≤ k) : MOk P w K mg base CX k C m sp := by
  obtain ⟨f, fd, ps, h1, h2, h3⟩ := F.g
  exact ⟨f, fd, ps, h1.mono h, h2, h3⟩
/-- the parts that stand under both classes of sessions -/
structure Low (P : Program) (w : World) (K : PySem.W.Frag) (mg : Str → Option Value) (base : Heap) : Prop where
  icn : GOk P w K mg base CX0 1 "is_catalogue_name" spIcn
  cnat : GOk P w K mg base CX0 1 "check_natural" spCnat
  it : XOk P w K mg base 1 "InvalidText" (aIT K) (spIT (K := K))
  ce : COk P w K mg base (L2.CX P w) 3 (aCell K) (spCell K)
  pce : GOk P w K mg base (L2.CX P w) 6 "parse_cell" (spPce K)
  pca : GOk P w K mg base (L2.CX P w) 6 "parse_catalogue" (spPca K)
  nf : GOk P w K mg base CX0 1 "need_form" spNf
  st : MOk P w K mg base CX0 1 (aCell K) "__str__" (spCStr K)
  fc : KOk P w K mg base CX0 4 "format_catalogue" (spKw 0 [] (spFc K))
  fo : FaOk P w K mg base 1 (aNU K) "nothing to undo"
  si : ∃ f, Mk K (aSes K) f ∧ Meth K (aSes K) "__init__" f ∧ FnKw P w K mg base CX0 3 f (spKw 1 ["self"] (spSi K))
theorem low_of (A : AllF P K mg base TP) : Low P w K mg base := by
  have T := A.T
  have icn : GOk P w K mg base CX0 1 "is_catalogue_name" spIcn := ok_icn A.gis_catalogue_name T
  have it : XOk P w K mg base 1 "InvalidText" (aIT K) (spIT (K := K)) := ok_IT A.xi A.xis A.IX.nr A.IX.nw
  have nf : XOk P w K mg base 1 "NotFree" (aNF K) (spNF (K := K)) := ok_NF A.xn A.xns A.n_low A.n_middle A.n_high
  have ci := ok_cell_init (P := P) (w := w) (base := base) A.cdinitd T A.C (ok_check_shape A.gcheck_shape T (ok_is_between A.gis_between T)) (ok_spoiling_triple A.gspoiling_triple T) (ok_serving_table A.gserving_table T) (ok_uns A.gunserved_remainder T) nf
  have ce : COk P w K mg base (L2.CX P w) 3 (aCell K) (spCell K) := COk.of ci A.mkC
  have sl : GOk P w K mg base (L2.CX P w) 3 "split_lines" (spSpl K) := ok_spl A.gsplit_lines T it
  have rc : GOk P w K mg base (L2.CX P w) 5 "read_cell" (spRc K) := ok_rc A.gread_cell T A.EA (ok_rdg A.gread_digits T) it ce
  have cc : GOk P w K mg base CX0 2 "check_catalogue" (spCc K) := ok_cc A.gcheck_catalogue T A.C icn
  have st : MOk P w K mg base CX0 1 (aCell K) "__str__" (spCStr K) := ok_cell_str A.cdstrd A.C T
  exact { icn := icn, cnat := ok_cnat A.gcheck_natural T, it := it, ce := ce, pce := ok_pce A.gparse_cell T sl rc, pca := ok_pca A.gparse_catalogue T sl rc (ok_iet A.gis_empty_text T it) icn it,
          nf := ok_nf A.gneed_form, st := st, fc := ok_fc A.gformat_catalogue T A.C cc st, fo := ok_fo A.gfailure_of T A.EA A.NA, si := ok_si A.sinit A.mkS T cc }
theorem pf_of {C : Addr} (A : AllF P K mg base TP) (L : Low P w K mg base) (SC : SesC K C) (ch : MDef K C "change" "Session.change" (inClass (tops 71) 8)) (np : MDef K C "need_place" "Session.need_place" (inClass (tops 71) 20)) (mx : ∃ u, Con K C "MAX_NAMES" (.int 26) u)
    (lk : MDef K C "lookup" "Session.lookup" (inClass (tops 71) 9)) (fi : MDef K C "find" "Session.find" (inClass (tops 71) 10)) (cr : MDef K C "create" "Session.create" (inClass (tops 71) 21)) (un : MDef K C "undo" "Session.undo" (inClass (tops 71) 18)) (pf : MDef K C "perform" "Session.perform" (inClass (tops 71) 16)) :
    MOk P w K mg base (L2.CX P w) 7 C "perform" (spPf K C) :=
  ok_pf pf SC A.T L.nf L.icn (ok_un un SC A.T A.EA A.NE) (ok_fi fi SC A.T L.nf L.icn (ok_lk lk SC A.T)) L.st (ok_cr cr SC A.T (ok_np np SC A.T mx) (ok_chg ch SC)) L.pce
theorem law_all (A : AllF P K mg base TP) {f : Addr} {fd : FuncData} (G : FunD K "law" "law" (defArgs (tops 88)) (defBody (tops 88)) (defScope (tops 88)) [] [] f fd) : FnOk P w K mg base CX0 14 f fd ["_law_script"] (spLaw K [(TP, qLam)]) := by
  have T := A.T
  have SC := A.SC
  have RC := A.RC
  have SR : SesC K (aRec K) := RC.toSesC
  have L : Low P w K mg base := low_of A
  have pf1 : MOk P w K mg base (L2.CX P w) 7 (aSes K) "perform" (spPf K (aSes K)) := pf_of A L SC A.schange A.sneed_place A.smax A.slookup A.sfind A.screate A.sundo A.sperform
  have pf2 : MOk P w K mg base (L2.CX P w) 7 (aRec K) "perform" (spPf K (aRec K)) := pf_of A L SR A.rchange A.rneed_place A.rmax A.rlookup A.rfind A.rcreate A.rundo A.rperform
  have ou1 : MOk P w K mg base CX0 8 (aSes K) "outcome" (spOut K (aSes K)) := ok_out A.soutcome SC A.EA L.fo pf1
  have ex1 : MOk P w K mg base CX0 11 (aSes K) "execute" (spExe K (aSes K) (spOut K (aSes K))) := ok_exe A.sexecute SC (MOk.mono ou1 (by decide)) spOut_mono
  obtain ⟨fo0, SOF⟩ := A.sof
  have ou2 : FnR P w K mg base CX0 8 (ma K (aSes K) "outcome") (spOut K (aRec K)) := ((out_fn (C := aRec K) SOF SR A.EA L.fo pf2).raw (SOF.bindsN fun _ _ _ _ _ _ us hl => match us, hl with | [_, _], _ => rfl) .nil).imp fun vs H Q E h => by rw [List.append_nil]; exact h
  have ro : MOk P w K mg base CX0 9 (aRec K) "outcome" (spRo K) := ok_ro (gd := fo0) A.rout RC T A.smo ou2
  have ex2 : MOk P w K mg base CX0 11 (aRec K) "execute" (spExe K (aRec K) (spRo K)) := ok_exe A.rexecute SR (MOk.mono ro (by decide)) spRo_mono
  have mk1 : CKOk P w K mg base CX0 3 (aSes K) (spKw 1 ["self"] (spSi K)) := by
    obtain ⟨f, h1, _, h3⟩ := L.si
    exact ⟨⟨f, h1, h3⟩⟩
  have mk2 : CKOk P w K mg base CX0 4 (aRec K) (spKw 1 ["self"] (spRi K)) := by
    obtain ⟨f, _, h2, h3⟩ := L.si
    rw [A.sif f h2] at h3
    exact ok_ri A.rinit A.mkR RC A.smi h3
  have tr : POk P w K mg base CX0 1 (aRec K) "transcript" (spTr K) := ok_tr A.rtr RC T
  have te : GOk P w K mg base CX0 1 "_law_text" spTe := ok_te A.gw_text T
  have pi : GOk P w K mg base CX0 1 "_law_pick" spPi := ok_pi A.gw_pick T
  have cel : GOk P w K mg base CX0 2 "_law_cell" spCe := ok_ce A.gw_cell T (ok_po A.gw_pool) pi (ok_jo A.gw_joined)
  have sh : GOk P w K mg base CX0 1 "_law_shown" spShn := ok_shn A.gw_shown T
  have li : GOk P w K mg base CX0 3 "_law_lines" spLi := ok_li A.gw_lines T pi cel sh
  have tx1 : POk P w K mg base CX0 5 (aSes K) "text" (spTx K (aSes K)) := ok_tx A.stext SC T L.fc
  have tx2 : POk P w K mg base CX0 5 (aRec K) "text" (spTx K (aRec K)) := ok_tx A.rtext SR T L.fc
  have nm1 : POk P w K mg base CX0 1 (aSes K) "names" (spNm K (aSes K)) := ok_nm A.snames SC T
  have nm2 : POk P w K mg base CX0 1 (aRec K) "names" (spNm K (aRec K)) := ok_nm A.rnames SR T
  have is_ : GOk P w K mg base CX0 12 "_law_is_so" (spIs K) := ok_is A.gw_is_so T SC RC te tx1 tx2 nm1 nm2 (ok_slen A.sdlend SC T) (ok_slen A.rdlend SR T) (ok_lkK A.slookup SC T) (ok_lkK A.rlookup SR T) L.st ex1 ex2
  have rf : GOk P w K mg base CX0 10 "_law_refused" (spRf K [(TP, qLam)]) := ok_rf A.rf A.gw_spot SC SR A.EA A.IX (ok_ld A.sload SC T L.pca (ok_chg A.schange SC)) (ok_ld A.rload SR T L.pca (ok_chg A.rchange SR)) L.pca
  have rg : GOk P w K mg base CX0 13 "_law_right" (spRgt K [(TP, qLam)]) := ok_rgt A.gw_right T SC RC A.IR pi li te sh cel rf is_ (ok_ldK A.sload SC T L.pca (ok_chg A.schange SC)) (ok_ldK A.rload SR T L.pca (ok_chg A.rchange SR)) ex1 ex2 tr
  have fo : GOk P w K mg base CX0 12 "_law_forty_right" spFor := ok_for A.gw_forty_right T SC RC A.IE mk1 ex1 ex2 tx1 tx2
  have ceq : MOk P w K mg base CX0 1 (aCell K) "__eq__" (spCEq K) := ok_cell_eq A.cdeqd A.C T
  have di : GOk P w K mg base CX0 1 "digits_in" spDi := ok_di A.gdigits_in
  have ap : GOk P w K mg base CX0 1 "are_plain" spAp := ok_ap A.gare_plain
  have cn : CnOk P w K mg base 2 := ok_cn A.ii A.cn T
  have cal : GOk P w K mg base CX0 1 "check_at_least" spCal := ok_cal A.gcheck_at_least T
  obtain ⟨_, UI⟩ := A.ui
  obtain ⟨_, UR⟩ := A.ur
  have rui : FnR P w K mg base CX0 1 (ma K (aRul K) "__init__") (spRui K) := rui_fn UI T A.C A.SH
  have rur : FnR P w K mg base CX0 4 (ma K (aRul K) "rank") (spRur K) := rur_fn UR T A.C A.SH cal (ok_br A.gbase_rank cn (ok_rof A.grank_of di (ok_no A.gnumber_of) ap)) (ok_ib A.gin_base cn di ap) (ok_cell_modulus A.cmodulus A.C) (ok_cell_members A.cmembers A.C) (ok_cell_size A.csize A.C T)
  have ao : GOk P w K mg base CX0 6 "answer_of" (spAo K) := ok_ao A.ganswer_of A.SH (ok_shr A.sha A.ssr rur A.SH T cal)
  have ak : AkOk P w K mg base 7 (aRec K) := ok_ak A.ask T SR A.qu A.mSh (ok_lk A.rlookup SR T) L.cnat ao (ok_shi A.sha A.ssi rui A.SH cal)
  have ma_ : GOk P w K mg base CX0 13 "_law_made_right" spMa := ok_ma A.gw_made_right T SC RC A.IR A.IE A.EA li te sh cel is_ (ok_reS A.srestore SC L.pca mk1) (ok_reR A.rrestore SR L.pca mk2) mk1 mk2 L.pce L.ce (ok_seq A.sdeqd SC T ceq) (ok_seq A.rdeqd SR T ceq) ceq ex1 ex2 tr nm1 tx1 tx2 ak (ok_lk A.slookup SC T)
  exact law_fn G T SC RC A.IE fo (ok_so A.gw_source T) rg ma_ mk1 mk2
end
end TF
end
section
set_option maxHeartbeats 4000000
namespace TF
open PySem PySem.Spec PyProof.Rows L2 TL StX LamX
open He (ga ma ba)
theorem splR_eq : ∀ l : List Value, l = (splR l).1.map Value.ref ++ (splR l).2
  | [] => rfl
  | v :: r => by
    cases v with
    | ref a =>
      show Value.ref a :: r = Value.ref a :: ((splR r).1.map Value.ref ++ (splR r).2)
      rw [← splR_eq r]
    | _ => rfl
theorem xclB_ok {K : PySem.W.Frag} {C : Addr} {nid : String} {tl : List Value} (h : xclB K C nid tl = true) :
    ∃ nm q N bs bm sn sub ab col dd k0 k1 k2 k3 k5 pre, K.lookup C = some (excClassObj nm q C N bs bm true sn sub ab col dd k0 k1 k2 k3 k5 nid) ∧ bm = List.map Value.ref pre ++ tl := by
  unfold xclB at h
  cases q : K.lookup C with
  | none =>
    rw [q] at h
    cases h
  | some o =>
    obtain ⟨oc, od, dt, sl⟩ := o
    rw [q] at h
    cases oc with
    | type t =>
      cases dt with
      | cls cd =>
        obtain ⟨k1, k⟩ := ba (show (decide (t = "type") && (mroB C tl cd.mro && (cd.hasDict && (!cd.hasDel && slotB nid sl.toList)))) = true from h)
        obtain ⟨k2, k⟩ := ba k
        obtain ⟨k3, k⟩ := ba k
        obtain ⟨k4, k5⟩ := ba k
        obtain ⟨c1, c2, c3, c4, c5, c6, c7, c8, c9, c10, c11⟩ := cd
        dsimp only at k2 k3 k4
        have d6 : c6 = true := k3
        have d11 : c11 = false := by
          cases c11 with
          | false => rfl
          | true => cases k4
        have e1 : t = "type" := of_decide_eq_true k1
        obtain ⟨pre, hm⟩ : ∃ pre, c3 = .ref C :: (List.map Value.ref pre ++ tl) := by
          cases c3 with
          | nil => cases k2
          | cons v r =>
            cases v with
            | ref D =>
              obtain ⟨m1, m2⟩ := ba (show (decide (D = C) && decide ((splR r).2 = tl)) = true from k2)
              refine ⟨(splR r).1, ?_⟩
              rw [of_decide_eq_true m1, ← of_decide_eq_true m2, ← splR_eq r]
            | _ => cases k2
        obtain ⟨s⟩ := sl
        match s, k5 with
        | [k0, k1', k2', k3', some (.builtin b), k5'], k5 =>
          have eb : b = nid := of_decide_eq_true k5
          subst e1 eb d6 d11 hm
          exact ⟨_, _, _, _, _, _, _, _, _, _, _, _, _, _, _, pre, rfl, rfl⟩
      | _ => cases h
    | _ => cases dt <;> cases h
section
variable {K : PySem.W.Frag} {h : Heap} {mg : Str → Option Value} {x y m : Str} {C : Addr}
theorem gcR (X : K.In h) (G : h.Ns mainGlobals mg) (c : kGlo x K = true) : GC mg x (.ref (ga K x)) := ⟨_, He.glo_ok X G c, rfl⟩
theorem gcI {i : Int} (X : K.In h) (G : h.Ns mainGlobals mg) (c : kInt x i K = true) : GC mg x (.int i) := by
  obtain ⟨t, e⟩ := He.int_ok X G c
  exact ⟨_, e, t, rfl⟩
theorem gcS {z : Str} (X : K.In h) (G : h.Ns mainGlobals mg) (c : kStr x z K = true) : GC mg x (.str z) := by
  obtain ⟨t, e⟩ := He.str_ok X G c
  exact ⟨_, e, t, rfl⟩
theorem propB_ok (h : propB K C m = true) : PropOf K C m (ma K C m) (He5.wf K C "property" m) := by
  obtain ⟨k1, k⟩ := ba h
  obtain ⟨k2, k⟩ := ba k
  obtain ⟨k3, k4⟩ := ba k
  refine ⟨He.eqO_ok k1, He.eqO_ok k2, of_decide_eq_true k3, ?_⟩
  unfold He5.wf
  split at k4
  · rename_i f r e
    exact ⟨r, by rw [e]⟩
  · cases k4
theorem rdB_ok (h : rdB K C = true) : ClX.CRead K C (.type "type") := by
  obtain ⟨k1, k2⟩ := ba h
  exact ⟨k1, He.eqO_ok k2⟩
theorem cm_ok (c : kCm x m K = true) : ClX.CMet K (ga K x) (.type "type") m (ma K (ga K x) m) (He5.wf K (ga K x) "classmethod" m) := by
  obtain ⟨k1, k2⟩ := ba c
  exact He5.cmet_of k1 k2
theorem cv_ok {i : Int} (c : kCv x y i K = true) : ∃ u, ClX.CVal K (ga K x) (.type "type") y (.int i) u := by
  unfold kCv at c
  split at c
  · rename_i u e
    exact ⟨u, e, He.relB_ok c⟩
  · cases c
theorem ci_ok {b : String} (c : kCi x y b K = true) : PySem.W.findCls K (.ref (ga K x)) (.type "type") y = some (.val (.builtin b)) := by
  unfold kCi at c
  split at c
  · rename_i u e
    have e2 : u = b := of_decide_eq_true c
    rw [e, e2]
  · cases c
theorem ob_ok {e : PySem.W.Frag → Option Bool} {b : Bool} (c : kOB e b K = true) : e K = some b := of_decide_eq_true c
theorem fi_ok {e : PySem.W.Frag → Option (Option Value)} {v : Option Value} (c : kFi e v K = true) : e K = some v := He.eqO_ok c
theorem ty_ok {e : PySem.W.Frag → Option Value} {v : Value} (c : kTy e v K = true) : e K = some v := of_decide_eq_true c
theorem ne_ok (c : kNe K = true) : aRec K ≠ aSes K := fun z => by
  have c2 : (!decide (aRec K = aSes K)) = true := c
  rw [decide_eq_true z] at c2
  cases c2
theorem methR (e : kSame m K = true) (c : kMeth "Recorder" m K = true) : Meth K (aRec K) m (ma K (aSes K) m) := by
  have e2 : ma K (aRec K) m = ma K (aSes K) m := of_decide_eq_true e
  have M : Meth K (aRec K) m (ma K (aRec K) m) := He.meth_ok c
  rw [e2] at M
  exact M
theorem propR (e : kSameW "property" m K = true) (c : kProp "Recorder" m K = true) : PropOf K (aRec K) m (ma K (aRec K) m) (He5.wf K (aSes K) "property" m) := by
  have e2 : He5.wf K (aRec K) "property" m = He5.wf K (aSes K) "property" m := of_decide_eq_true e
  have M : PropOf K (aRec K) m (ma K (aRec K) m) (He5.wf K (aRec K) "property" m) := propB_ok c
  rw [e2] at M
  exact M
theorem cmR (e : kSameW "classmethod" m K = true) (c : kCm "Recorder" m K = true) : ClX.CMet K (aRec K) (.type "type") m (ma K (aRec K) m) (He5.wf K (aSes K) "classmethod" m) := by
  have e2 : He5.wf K (aRec K) "classmethod" m = He5.wf K (aSes K) "classmethod" m := of_decide_eq_true e
  have M : ClX.CMet K (aRec K) (.type "type") m (ma K (aRec K) m) (He5.wf K (aRec K) "classmethod" m) := cm_ok c
  rw [e2] at M
  exact M
theorem meth_eq {f g : Addr} (a : Meth K C m f) (b : Meth K C m g) : f = g := by
  have e := a.at_.symm.trans b.at_
  cases e
  rfl
theorem mk_of {f : Addr} (c : kMk x K = true) (a : Meth K (ga K x) "__init__" f) : Mk K (ga K x) f := by
  have M := He.mkr_ok c
  have e := a.at_.symm.trans M.init
  cases e
  exact M
theorem meth_ty {f : Addr} (a : Meth K C m f) : PySem.W.typeIn K (.ref f) = some (.type "function") := beq_iff_eq.mp a.fn
end
theorem at_ok {K : PySem.W.Frag} {x d m y : Str} (c : kSu x d m y K = true) : PySem.W.ks_superIn K (ga K x) (ga K d) m = some (some (.ref (ma K (ga K y) m))) := He.eqO_ok c
/-- the top's facts: of the head's word -/
theorem allF_of {P : Program} {Fl : Str} {K : PySem.W.Frag} {h base : Heap} {mg : Str → Option Value} (hP : P.main.file = Fl) (top : (P.main.scope.names.lookup ("super" : Str)).isSome = false) (c : SaysZ Fl fnL sfL tfL exL h K) (X : K.In base) (G : base.Ns mainGlobals mg)
    (tb : TabB base mg (He.cT K ("_law_refused", none)).1 (He.cT K ("_law_refused", none)).2) : AllF P K mg base (He.cT K ("_law_refused", none)).2 := by
  have rf : TDef K base mg "_law_refused" (tops 83) (He.cT K ("_law_refused", none)).2 := by
    obtain ⟨fd, z⟩ := c.def_ 40 (d := dG "_law_refused" 83) rfl
    obtain ⟨⟨oc, od, dV, kV, doc, pm, an, cdv, ct, osl, rfl, lk, hcd, hD, hK⟩, kp⟩ := z
    have hD : dV = .none := hD.elim (fun z => z.2) fun z => absurd rfl z.1
    subst hD
    obtain ⟨c1, rfl⟩ := He.codeIn_ref hcd
    have e : He.codeOf K ("_law_refused", none) = c1 := He.codeOf_eq (p := ("_law_refused", none)) lk rfl
    have tb1 : TabB base mg (He.codeOf K ("_law_refused", none)) (He.cT K ("_law_refused", none)).2 := tb
    rw [e] at tb1
    exact ⟨_, c1, oc, od, kV, doc, pm, an, ct, osl, lk, hcd, kp, He.glo_ok X G (c.fact 236 (f := kGlo "_law_refused") rfl), tb1⟩
  exact {
    T := { z_isinstance := He.free_ok X G (c.fact 1 (f := kFree "isinstance") rfl), z_int := He.free_ok X G (c.fact 2 (f := kFree "int") rfl), z_bool := He.free_ok X G (c.fact 3 (f := kFree "bool") rfl), z_str := He.free_ok X G (c.fact 4 (f := kFree "str") rfl), z_list := He.free_ok X G (c.fact 5 (f := kFree "list") rfl), z_tuple := He.free_ok X G (c.fact 6 (f := kFree "tuple") rfl), z_len := He.free_ok X G (c.fact 7 (f := kFree "len") rfl), z_range := He.free_ok X G (c.fact 8 (f := kFree "range") rfl), z_enumerate := He.free_ok X G (c.fact 9 (f := kFree "enumerate") rfl), z_zip := He.free_ok X G (c.fact 10 (f := kFree "zip") rfl), z_max := He.free_ok X G (c.fact 11 (f := kFree "max") rfl), z_min := He.free_ok X G (c.fact 12 (f := kFree "min") rfl), z_sorted := He.free_ok X G (c.fact 13 (f := kFree "sorted") rfl), z_all := He.free_ok X G (c.fact 14 (f := kFree "all") rfl), z_super := He.free_ok X G (c.fact 15 (f := kFree "super") rfl), c_MAX_NAMES := gcI X G (c.fact 16 (f := kInt "MAX_NAMES" 26) rfl), c_MAX_DIGITS := gcI X G (c.fact 17 (f := kInt "MAX_DIGITS" 600) rfl), c_EMPTY := gcS X G (c.fact 18 (f := kStr "EMPTY" "-") rfl), c_LETTERS := gcS X G (c.fact 19 (f := kStr "LETTERS" "abcdefghijklmnopqrstuvwxyz") rfl), c_DIGITS := gcS X G (c.fact 20 (f := kStr "DIGITS" "0123456789") rfl), c_DONE := gcS X G (c.fact 21 (f := kStr "DONE" "ok") rfl), c_Cell := gcR X G (c.fact 22 (f := kGlo "Cell") rfl), c_Session := gcR X G (c.fact 23 (f := kGlo "Session") rfl), c_Recorder := gcR X G (c.fact 24 (f := kGlo "Recorder") rfl), r_Cell := rdB_ok (c.fact 25 (f := kRd "Cell") rfl), v_MAX_MODULUS := cv_ok (c.fact 26 (f := kCv "Cell" "MAX_MODULUS" 20000) rfl), v_MAX_MEMBERS := cv_ok (c.fact 27 (f := kCv "Cell" "MAX_MEMBERS" 256) rfl) },
    C := { cl := He.cls_ok (c.fact 30 (f := kCls "Cell") rfl), n1 := He.noat_ok (c.fact 31 (f := kNo "Cell" "table") rfl), n2 := He.noat_ok (c.fact 32 (f := kNo "Cell" "own_modulus") rfl), n3 := He.noat_ok (c.fact 33 (f := kNo "Cell" "own_members") rfl), n4 := He.noat_ok (c.fact 34 (f := kNo "Cell" "known") rfl), ty := fun H a dx fs e => .ins e (He.cls_ok (c.fact 30 (f := kCls "Cell") rfl)) (fi_ok (c.fact 35 (f := kFi (fun K => PySem.W.findIn K (.ref (ga K "Cell")) "__class__") (some (.builtin "object.__class__"))) rfl)) (fi_ok (c.fact 28 (f := kFi (fun K => PySem.W.specialIn K (.builtin "object.__class__") "__get__") (some (.builtin "getset_descriptor.__get__"))) rfl)) (ob_ok (c.fact 29 (f := kOB (fun K => PySem.W.takesIn K (.builtin "object.__class__")) true) rfl)) (ob_ok (c.fact 36 (f := kOB (fun K => PySem.W.mroIn K (ga K "Cell") (.type "object")) true) rfl)), is := ob_ok (c.fact 37 (f := kOB (fun K => PySem.W.kitOne K (.ref (ga K "Cell")) (.ref (ga K "Cell"))) true) rfl) },
    SC := { cl := He.cls_ok (c.fact 38 (f := kCls "Session") rfl), n1 := He.noat_ok (c.fact 39 (f := kNo "Session" "held") rfl), n2 := He.noat_ok (c.fact 40 (f := kNo "Session" "history") rfl), ty := fun H a dx fs e => .ins e (He.cls_ok (c.fact 38 (f := kCls "Session") rfl)) (fi_ok (c.fact 41 (f := kFi (fun K => PySem.W.findIn K (.ref (ga K "Session")) "__class__") (some (.builtin "object.__class__"))) rfl)) (fi_ok (c.fact 28 (f := kFi (fun K => PySem.W.specialIn K (.builtin "object.__class__") "__get__") (some (.builtin "getset_descriptor.__get__"))) rfl)) (ob_ok (c.fact 29 (f := kOB (fun K => PySem.W.takesIn K (.builtin "object.__class__")) true) rfl)) (ob_ok (c.fact 42 (f := kOB (fun K => PySem.W.mroIn K (ga K "Session") (.type "object")) true) rfl)), is := ob_ok (c.fact 43 (f := kOB (fun K => PySem.W.kitOne K (.ref (ga K "Session")) (.ref (ga K "Session"))) true) rfl) },
    RC := { toSesC := { cl := He.cls_ok (c.fact 44 (f := kCls "Recorder") rfl), n1 := He.noat_ok (c.fact 45 (f := kNo "Recorder" "held") rfl), n2 := He.noat_ok (c.fact 46 (f := kNo "Recorder" "history") rfl), ty := fun H a dx fs e => .ins e (He.cls_ok (c.fact 44 (f := kCls "Recorder") rfl)) (fi_ok (c.fact 47 (f := kFi (fun K => PySem.W.findIn K (.ref (ga K "Recorder")) "__class__") (some (.builtin "object.__class__"))) rfl)) (fi_ok (c.fact 28 (f := kFi (fun K => PySem.W.specialIn K (.builtin "object.__class__") "__get__") (some (.builtin "getset_descriptor.__get__"))) rfl)) (ob_ok (c.fact 29 (f := kOB (fun K => PySem.W.takesIn K (.builtin "object.__class__")) true) rfl)) (ob_ok (c.fact 48 (f := kOB (fun K => PySem.W.mroIn K (ga K "Recorder") (.type "object")) true) rfl)), is := ob_ok (c.fact 49 (f := kOB (fun K => PySem.W.kitOne K (.ref (ga K "Recorder")) (.ref (ga K "Session"))) true) rfl) }, n3 := He.noat_ok (c.fact 50 (f := kNo "Recorder" "entries") rfl) },
    EA := { m_IT := He.glo_ok X G (c.fact 51 (f := kGlo "InvalidText") rfl), m_NF := He.glo_ok X G (c.fact 52 (f := kGlo "NotFree") rfl), m_NS := He.glo_ok X G (c.fact 53 (f := kGlo "NotServed") rfl), m_TL := He.glo_ok X G (c.fact 54 (f := kGlo "TooLarge") rfl), m_IC := He.glo_ok X G (c.fact 55 (f := kGlo "InvalidCell") rfl), m_IN := He.glo_ok X G (c.fact 56 (f := kGlo "InvalidNumber") rfl), m_NU := He.glo_ok X G (c.fact 57 (f := kGlo "NothingToUndo") rfl), m_Cell := He.glo_ok X G (c.fact 22 (f := kGlo "Cell") rfl), three := ob_ok (c.fact 58 (f := kOB (fun K => PySem.W.exmAny K (.ref (ga K "NotFree")) [.ref (ga K "NotFree"), .ref (ga K "NotServed"), .ref (ga K "TooLarge")]) true) rfl), five := ob_ok (c.fact 59 (f := kOB (fun K => PySem.W.exmAny K (.ref (ga K "NothingToUndo")) [.ref (ga K "InvalidText"), .ref (ga K "InvalidCell"), .ref (ga K "InvalidNumber"), .ref (ga K "TooLarge"), .ref (ga K "NothingToUndo")]) true) rfl), one := ob_ok (c.fact 60 (f := kOB (fun K => PySem.W.exmOne K (.ref (ga K "InvalidText")) (.ref (ga K "InvalidText"))) true) rfl) },
    xi := { cl := { b := xbVE, cls := xclB_ok (c.fact 61 (f := kXc "InvalidText" "ValueError.__new__" [.type "ValueError", .type "Exception", .type "BaseException", .type "object"]) rfl), sa := fi_ok (c.fact 62 (f := kFi (fun K => PySem.W.findIn K (.ref (ga K "InvalidText")) "__setattr__") (some (.builtin "object.__setattr__"))) rfl), exC := ob_ok (c.fact 63 (f := kOB (fun K => PySem.W.subIn K (.ref (ga K "InvalidText")) (.type "BaseException")) true) rfl), tyC := ty_ok (c.fact 64 (f := kTy (fun K => PySem.W.typeIn K (.ref (ga K "InvalidText"))) (.type "type")) rfl), kC := He.keep_ok (c.fact 65 (f := kKeep "InvalidText") rfl) }, df := let ⟨fd, z⟩ := (c.def_ 0 (d := dM "InvalidText" "__init__" "InvalidText.__init__" 8 0) rfl); ⟨_, fd, z, (He.meth_ok (c.fact 66 (f := kMeth "InvalidText" "__init__") rfl)).at_, meth_ty (He.meth_ok (c.fact 66 (f := kMeth "InvalidText" "__init__") rfl))⟩, m := He.glo_ok X G (c.fact 51 (f := kGlo "InvalidText") rfl) },
    xis := { g := gcR X G (c.fact 67 (f := kGlo "SetError") rfl), rd := rdB_ok (c.fact 68 (f := kRd "SetError") rfl), vi := ci_ok (c.fact 69 (f := kCi "SetError" "__init__" "ValueError.__init__") rfl) },
    IX := { xf := xfB_ok (c.fact 70 (f := kXf "InvalidText") rfl), nr := He.noat_ok (c.fact 71 (f := kNo "InvalidText" "row") rfl), nw := He.noat_ok (c.fact 72 (f := kNo "InvalidText" "word") rfl) },
    xn := { cl := { b := xbRE, cls := xclB_ok (c.fact 73 (f := kXc "NotFree" "RuntimeError.__new__" [.type "RuntimeError", .type "Exception", .type "BaseException", .type "object"]) rfl), sa := fi_ok (c.fact 74 (f := kFi (fun K => PySem.W.findIn K (.ref (ga K "NotFree")) "__setattr__") (some (.builtin "object.__setattr__"))) rfl), exC := ob_ok (c.fact 75 (f := kOB (fun K => PySem.W.subIn K (.ref (ga K "NotFree")) (.type "BaseException")) true) rfl), tyC := ty_ok (c.fact 76 (f := kTy (fun K => PySem.W.typeIn K (.ref (ga K "NotFree"))) (.type "type")) rfl), kC := He.keep_ok (c.fact 77 (f := kKeep "NotFree") rfl) }, df := let ⟨fd, z⟩ := (c.def_ 1 (d := dM "NotFree" "__init__" "NotFree.__init__" 10 0) rfl); ⟨_, fd, z, (He.meth_ok (c.fact 78 (f := kMeth "NotFree" "__init__") rfl)).at_, meth_ty (He.meth_ok (c.fact 78 (f := kMeth "NotFree" "__init__") rfl))⟩, m := He.glo_ok X G (c.fact 52 (f := kGlo "NotFree") rfl) },
    xns := { g := gcR X G (c.fact 79 (f := kGlo "StateError") rfl), rd := rdB_ok (c.fact 80 (f := kRd "StateError") rfl), vi := ci_ok (c.fact 81 (f := kCi "StateError" "__init__" "RuntimeError.__init__") rfl) },
    n_low := He.noat_ok (c.fact 82 (f := kNo "NotFree" "low") rfl),
    n_middle := He.noat_ok (c.fact 83 (f := kNo "NotFree" "middle") rfl),
    n_high := He.noat_ok (c.fact 84 (f := kNo "NotFree" "high") rfl),
    NE := { ex := (c.fact 85 (f := kExc "NothingToUndo" [.type "RuntimeError", .type "Exception", .type "BaseException", .type "object"] "RuntimeError.__new__") rfl), kp := He.keep_ok (c.fact 86 (f := kKeep "NothingToUndo") rfl), sb := ob_ok (c.fact 87 (f := kOB (fun K => PySem.W.subIn K (.ref (ga K "NothingToUndo")) (.type "BaseException")) true) rfl), ty := ty_ok (c.fact 88 (f := kTy (fun K => PySem.W.typeIn K (.ref (ga K "NothingToUndo"))) (.type "type")) rfl) },
    NA := { xc := { hg := fi_ok (c.fact 89 (f := kFi (fun K => PySem.W.findIn K (.ref (ga K "NothingToUndo")) "__getattribute__") (some (.builtin "BaseException.__getattribute__"))) rfl), hk := fi_ok (c.fact 90 (f := kFi (fun K => PySem.W.findIn K (.ref (ga K "NothingToUndo")) "__getattr__") (none)) rfl), hs := ob_ok (c.fact 87 (f := kOB (fun K => PySem.W.subIn K (.ref (ga K "NothingToUndo")) (.type "BaseException")) true) rfl), hd := (c.fact 91 (f := fun K => PySem.W.hasDictIn K (ga K "NothingToUndo")) rfl), ha := fi_ok (c.fact 92 (f := kFi (fun K => PySem.W.findIn K (.ref (ga K "NothingToUndo")) "__class__") (some (.builtin "object.__class__"))) rfl), hn := fi_ok (c.fact 28 (f := kFi (fun K => PySem.W.specialIn K (.builtin "object.__class__") "__get__") (some (.builtin "getset_descriptor.__get__"))) rfl), ht := ob_ok (c.fact 29 (f := kOB (fun K => PySem.W.takesIn K (.builtin "object.__class__")) true) rfl), hm := ob_ok (c.fact 93 (f := kOB (fun K => PySem.W.mroIn K (ga K "NothingToUndo") (.type "object")) true) rfl) }, k1 := ob_ok (c.fact 94 (f := kOB (fun K => PySem.W.kitOne K (.ref (ga K "NothingToUndo")) (.ref (ga K "InvalidText"))) false) rfl), k2 := ob_ok (c.fact 95 (f := kOB (fun K => PySem.W.kitOne K (.ref (ga K "NothingToUndo")) (.ref (ga K "InvalidCell"))) false) rfl), k3 := ob_ok (c.fact 96 (f := kOB (fun K => PySem.W.kitOne K (.ref (ga K "NothingToUndo")) (.ref (ga K "InvalidNumber"))) false) rfl), k4 := ob_ok (c.fact 97 (f := kOB (fun K => PySem.W.kitOne K (.ref (ga K "NothingToUndo")) (.ref (ga K "TooLarge"))) false) rfl) },
    IE := { mS := He.glo_ok X G (c.fact 23 (f := kGlo "Session") rfl), mR := He.glo_ok X G (c.fact 24 (f := kGlo "Recorder") rfl), ne := ne_ok (c.fact 102 (f := kNe) rfl), sub := ob_ok (c.fact 103 (f := kOB (fun K => PySem.W.subIn K (.ref (ga K "Recorder")) (.ref (ga K "Session"))) true) rfl), fne := fi_ok (c.fact 104 (f := kFi (fun K => PySem.W.findIn K (.ref (ga K "Recorder")) "__ne__") (some (.builtin "object.__ne__"))) rfl), mro := ob_ok (c.fact 48 (f := kOB (fun K => PySem.W.mroIn K (ga K "Recorder") (.type "object")) true) rfl), nf := (c.fact 105 (f := kNF "Session") rfl), nc := (c.fact 106 (f := kNF "Cell") rfl), fr := ⟨ob_ok (c.fact 98 (f := kOB (fun K => PySem.W.subIn K (.ref (ga K "Session")) (.type "NoneType")) false) rfl), ob_ok (c.fact 99 (f := kOB (fun K => PySem.W.subIn K (.ref (ga K "Session")) (.type "int")) false) rfl), ob_ok (c.fact 100 (f := kOB (fun K => PySem.W.subIn K (.ref (ga K "Session")) (.type "str")) false) rfl), ob_ok (c.fact 101 (f := kOB (fun K => PySem.W.subIn K (.ref (ga K "Session")) (.type "dict")) false) rfl)⟩, kN := ob_ok (c.fact 107 (f := kOB (fun K => PySem.W.kitOne K (.type "NoneType") (.ref (ga K "Session"))) false) rfl), kI := ob_ok (c.fact 108 (f := kOB (fun K => PySem.W.kitOne K (.type "int") (.ref (ga K "Session"))) false) rfl), kS := ob_ok (c.fact 109 (f := kOB (fun K => PySem.W.kitOne K (.type "str") (.ref (ga K "Session"))) false) rfl), kD := ob_ok (c.fact 110 (f := kOB (fun K => PySem.W.kitOne K (.type "dict") (.ref (ga K "Session"))) false) rfl) },
    IR := { no := ob_ok (c.fact 111 (f := kOB (fun K => PySem.W.kitOne K (.ref (ga K "Session")) (.ref (ga K "Recorder"))) false) rfl), yes := ob_ok (c.fact 112 (f := kOB (fun K => PySem.W.kitOne K (.ref (ga K "Recorder")) (.ref (ga K "Recorder"))) true) rfl) },
    SH := { cl := He.cls_ok (c.fact 113 (f := kCls "ShiftedSequence") rfl), n1 := He.noat_ok (c.fact 114 (f := kNo "ShiftedSequence" "own_cell") rfl), n2 := He.noat_ok (c.fact 115 (f := kNo "ShiftedSequence" "offset") rfl) },
    mSh := He.glo_ok X G (c.fact 116 (f := kGlo "ShiftedSequence") rfl),
    qu := ⟨gcR X G (c.fact 117 (f := kGlo "QUESTIONS") rfl), fun H => He.tupB_ok (vs := [.str "member", .str "rank", .str "next", .str "last", .str "cover"]) (c.fact 118 (f := kTupQ "QUESTIONS" [.str "member", .str "rank", .str "next", .str "last", .str "cover"]) rfl) H⟩,
    gw_source := let ⟨fd, z⟩ := (c.def_ 2 (d := dG "_law_source" 74) rfl); ⟨_, fd, z, He.glo_ok X G (c.fact 119 (f := kGlo "_law_source") rfl)⟩,
    gw_pick := let ⟨fd, z⟩ := (c.def_ 3 (d := dG "_law_pick" 75) rfl); ⟨_, fd, z, He.glo_ok X G (c.fact 120 (f := kGlo "_law_pick") rfl)⟩,
    gw_pool := let ⟨fd, z⟩ := (c.def_ 4 (d := dG "_law_pool" 76) rfl); ⟨_, fd, z, He.glo_ok X G (c.fact 121 (f := kGlo "_law_pool") rfl)⟩,
    gw_joined := let ⟨fd, z⟩ := (c.def_ 5 (d := dG "_law_joined" 77) rfl); ⟨_, fd, z, He.glo_ok X G (c.fact 122 (f := kGlo "_law_joined") rfl)⟩,
    gw_cell := let ⟨fd, z⟩ := (c.def_ 6 (d := dG "_law_cell" 78) rfl); ⟨_, fd, z, He.glo_ok X G (c.fact 123 (f := kGlo "_law_cell") rfl)⟩,
    gw_shown := let ⟨fd, z⟩ := (c.def_ 7 (d := dG "_law_shown" 79) rfl); ⟨_, fd, z, He.glo_ok X G (c.fact 124 (f := kGlo "_law_shown") rfl)⟩,
    gw_lines := let ⟨fd, z⟩ := (c.def_ 8 (d := dG "_law_lines" 80) rfl); ⟨_, fd, z, He.glo_ok X G (c.fact 125 (f := kGlo "_law_lines") rfl)⟩,
    gw_text := let ⟨fd, z⟩ := (c.def_ 9 (d := dG "_law_text" 81) rfl); ⟨_, fd, z, He.glo_ok X G (c.fact 126 (f := kGlo "_law_text") rfl)⟩,
    gw_spot := let ⟨fd, z⟩ := (c.def_ 10 (d := dG "_law_spot" 82) rfl); ⟨_, fd, z, He.glo_ok X G (c.fact 127 (f := kGlo "_law_spot") rfl)⟩,
    gw_is_so := let ⟨fd, z⟩ := (c.def_ 11 (d := dG "_law_is_so" 84) rfl); ⟨_, fd, z, He.glo_ok X G (c.fact 128 (f := kGlo "_law_is_so") rfl)⟩,
    gw_right := let ⟨fd, z⟩ := (c.def_ 12 (d := dG "_law_right" 85) rfl); ⟨_, fd, z, He.glo_ok X G (c.fact 129 (f := kGlo "_law_right") rfl)⟩,
    gw_made_right := let ⟨fd, z⟩ := (c.def_ 13 (d := dG "_law_made_right" 86) rfl); ⟨_, fd, z, He.glo_ok X G (c.fact 130 (f := kGlo "_law_made_right") rfl)⟩,
    gw_forty_right := let ⟨fd, z⟩ := (c.def_ 14 (d := dG "_law_forty_right" 87) rfl); ⟨_, fd, z, He.glo_ok X G (c.fact 131 (f := kGlo "_law_forty_right") rfl)⟩,
    gis_between := let ⟨fd, z⟩ := (c.def_ 15 (d := dG "is_between" 31) rfl); ⟨_, fd, z, He.glo_ok X G (c.fact 132 (f := kGlo "is_between") rfl)⟩,
    gcheck_shape := let ⟨fd, z⟩ := (c.def_ 16 (d := dG "check_shape" 32) rfl); ⟨_, fd, z, He.glo_ok X G (c.fact 133 (f := kGlo "check_shape") rfl)⟩,
    gspoiling_triple := let ⟨fd, z⟩ := (c.def_ 17 (d := dG "spoiling_triple" 33) rfl); ⟨_, fd, z, He.glo_ok X G (c.fact 134 (f := kGlo "spoiling_triple") rfl)⟩,
    gserving_table := let ⟨fd, z⟩ := (c.def_ 18 (d := dG "serving_table" 34) rfl); ⟨_, fd, z, He.glo_ok X G (c.fact 135 (f := kGlo "serving_table") rfl)⟩,
    gunserved_remainder := let ⟨fd, z⟩ := (c.def_ 19 (d := dG "unserved_remainder" 35) rfl); ⟨_, fd, z, He.glo_ok X G (c.fact 136 (f := kGlo "unserved_remainder") rfl)⟩,
    gis_catalogue_name := let ⟨fd, z⟩ := (c.def_ 20 (d := dG "is_catalogue_name" 41) rfl); ⟨_, fd, z, He.glo_ok X G (c.fact 137 (f := kGlo "is_catalogue_name") rfl)⟩,
    gcheck_natural := let ⟨fd, z⟩ := (c.def_ 21 (d := dG "check_natural" 42) rfl); ⟨_, fd, z, He.glo_ok X G (c.fact 138 (f := kGlo "check_natural") rfl)⟩,
    gcheck_catalogue := let ⟨fd, z⟩ := (c.def_ 22 (d := dG "check_catalogue" 44) rfl); ⟨_, fd, z, He.glo_ok X G (c.fact 139 (f := kGlo "check_catalogue") rfl)⟩,
    gformat_catalogue := let ⟨fd, z⟩ := (c.def_ 23 (d := dG "format_catalogue" 45) rfl); ⟨_, fd, z, He.glo_ok X G (c.fact 140 (f := kGlo "format_catalogue") rfl)⟩,
    gsplit_lines := let ⟨fd, z⟩ := (c.def_ 24 (d := dG "split_lines" 49) rfl); ⟨_, fd, z, He.glo_ok X G (c.fact 141 (f := kGlo "split_lines") rfl)⟩,
    gread_digits := let ⟨fd, z⟩ := (c.def_ 25 (d := dG "read_digits" 50) rfl); ⟨_, fd, z, He.glo_ok X G (c.fact 142 (f := kGlo "read_digits") rfl)⟩,
    gis_empty_text := let ⟨fd, z⟩ := (c.def_ 26 (d := dG "is_empty_text" 51) rfl); ⟨_, fd, z, He.glo_ok X G (c.fact 143 (f := kGlo "is_empty_text") rfl)⟩,
    gread_cell := let ⟨fd, z⟩ := (c.def_ 27 (d := dG "read_cell" 52) rfl); ⟨_, fd, z, He.glo_ok X G (c.fact 144 (f := kGlo "read_cell") rfl)⟩,
    gparse_cell := let ⟨fd, z⟩ := (c.def_ 28 (d := dG "parse_cell" 53) rfl); ⟨_, fd, z, He.glo_ok X G (c.fact 145 (f := kGlo "parse_cell") rfl)⟩,
    gparse_catalogue := let ⟨fd, z⟩ := (c.def_ 29 (d := dG "parse_catalogue" 54) rfl); ⟨_, fd, z, He.glo_ok X G (c.fact 146 (f := kGlo "parse_catalogue") rfl)⟩,
    gcheck_at_least := let ⟨fd, z⟩ := (c.def_ 30 (d := dG "check_at_least" 59) rfl); ⟨_, fd, z, He.glo_ok X G (c.fact 147 (f := kGlo "check_at_least") rfl)⟩,
    gfailure_of := let ⟨fd, z⟩ := (c.def_ 31 (d := dG "failure_of" 66) rfl); ⟨_, fd, z, He.glo_ok X G (c.fact 148 (f := kGlo "failure_of") rfl)⟩,
    gneed_form := let ⟨fd, z⟩ := (c.def_ 32 (d := dG "need_form" 67) rfl); ⟨_, fd, z, He.glo_ok X G (c.fact 149 (f := kGlo "need_form") rfl)⟩,
    ganswer_of := let ⟨fd, z⟩ := (c.def_ 33 (d := dG "answer_of" 70) rfl); ⟨_, fd, z, He.glo_ok X G (c.fact 150 (f := kGlo "answer_of") rfl)⟩,
    gdigits_in := let ⟨fd, z⟩ := (c.def_ 34 (d := dG "digits_in" 20) rfl); ⟨_, fd, z, He.glo_ok X G (c.fact 151 (f := kGlo "digits_in") rfl)⟩,
    gnumber_of := let ⟨fd, z⟩ := (c.def_ 35 (d := dG "number_of" 21) rfl); ⟨_, fd, z, He.glo_ok X G (c.fact 152 (f := kGlo "number_of") rfl)⟩,
    gare_plain := let ⟨fd, z⟩ := (c.def_ 36 (d := dG "are_plain" 22) rfl); ⟨_, fd, z, He.glo_ok X G (c.fact 153 (f := kGlo "are_plain") rfl)⟩,
    grank_of := let ⟨fd, z⟩ := (c.def_ 37 (d := dG "rank_of" 25) rfl); ⟨_, fd, z, He.glo_ok X G (c.fact 154 (f := kGlo "rank_of") rfl)⟩,
    gin_base := let ⟨fd, z⟩ := (c.def_ 38 (d := dG "in_base" 27) rfl); ⟨_, fd, z, He.glo_ok X G (c.fact 155 (f := kGlo "in_base") rfl)⟩,
    gbase_rank := let ⟨fd, z⟩ := (c.def_ 39 (d := dG "base_rank" 28) rfl); ⟨_, fd, z, He.glo_ok X G (c.fact 156 (f := kGlo "base_rank") rfl)⟩,
    rf := rf,
    ii := let ⟨fd, z⟩ := (c.def_ 41 (d := dGk "is_integer" 18 [] [("low", .non), ("high", .non)]) rfl); ⟨_, fd, z, He.glo_ok X G (c.fact 157 (f := kGlo "is_integer") rfl)⟩,
    cn := let ⟨fd, z⟩ := (c.def_ 42 (d := dGk "check_number" 19 [.int 0, .non] []) rfl); ⟨_, fd, z, He.glo_ok X G (c.fact 158 (f := kGlo "check_number") rfl)⟩,
    cdinitd := let ⟨fd, z⟩ := (c.def_ 43 (d := dM "Cell" "__init__" "Cell.__init__" 36 2) rfl); ⟨_, fd, z, He.meth_ok (c.fact 159 (f := kMeth "Cell" "__init__") rfl)⟩,
    cdeqd := let ⟨fd, z⟩ := (c.def_ 44 (d := dM "Cell" "__eq__" "Cell.__eq__" 36 13) rfl); ⟨_, fd, z, He.meth_ok (c.fact 160 (f := kMeth "Cell" "__eq__") rfl)⟩,
    cdstrd := let ⟨fd, z⟩ := (c.def_ 45 (d := dM "Cell" "__str__" "Cell.__str__" 36 14) rfl); ⟨_, fd, z, He.meth_ok (c.fact 161 (f := kMeth "Cell" "__str__") rfl)⟩,
    cmodulus := let ⟨fd, z⟩ := (c.def_ 46 (d := dP "Cell" "property" "modulus" "Cell.modulus" 36 3) rfl); ⟨_, _, fd, z, propB_ok (c.fact 162 (f := kProp "Cell" "modulus") rfl)⟩,
    cmembers := let ⟨fd, z⟩ := (c.def_ 47 (d := dP "Cell" "property" "members" "Cell.members" 36 4) rfl); ⟨_, _, fd, z, propB_ok (c.fact 163 (f := kProp "Cell" "members") rfl)⟩,
    csize := let ⟨fd, z⟩ := (c.def_ 48 (d := dP "Cell" "property" "size" "Cell.size" 36 5) rfl); ⟨_, _, fd, z, propB_ok (c.fact 164 (f := kProp "Cell" "size") rfl)⟩,
    mkC := fun f z => mk_of (c.fact 165 (f := kMk "Cell") rfl) z,
    sload := let ⟨fd, z⟩ := (c.def_ 49 (d := dM "Session" "load" "Session.load" 71 7) rfl); ⟨_, fd, z, He.meth_ok (c.fact 166 (f := kMeth "Session" "load") rfl)⟩,
    schange := let ⟨fd, z⟩ := (c.def_ 50 (d := dM "Session" "change" "Session.change" 71 8) rfl); ⟨_, fd, z, He.meth_ok (c.fact 167 (f := kMeth "Session" "change") rfl)⟩,
    slookup := let ⟨fd, z⟩ := (c.def_ 51 (d := dM "Session" "lookup" "Session.lookup" 71 9) rfl); ⟨_, fd, z, He.meth_ok (c.fact 168 (f := kMeth "Session" "lookup") rfl)⟩,
    sfind := let ⟨fd, z⟩ := (c.def_ 52 (d := dM "Session" "find" "Session.find" 71 10) rfl); ⟨_, fd, z, He.meth_ok (c.fact 169 (f := kMeth "Session" "find") rfl)⟩,
    soutcome := let ⟨fd, z⟩ := (c.def_ 53 (d := dM "Session" "outcome" "Session.outcome" 71 12) rfl); ⟨_, fd, z, He.meth_ok (c.fact 170 (f := kMeth "Session" "outcome") rfl)⟩,
    sexecute := let ⟨fd, z⟩ := (c.def_ 54 (d := dM "Session" "execute" "Session.execute" 71 13) rfl); ⟨_, fd, z, He.meth_ok (c.fact 171 (f := kMeth "Session" "execute") rfl)⟩,
    sperform := let ⟨fd, z⟩ := (c.def_ 55 (d := dM "Session" "perform" "Session.perform" 71 16) rfl); ⟨_, fd, z, He.meth_ok (c.fact 172 (f := kMeth "Session" "perform") rfl)⟩,
    sundo := let ⟨fd, z⟩ := (c.def_ 56 (d := dM "Session" "undo" "Session.undo" 71 18) rfl); ⟨_, fd, z, He.meth_ok (c.fact 173 (f := kMeth "Session" "undo") rfl)⟩,
    sneed_place := let ⟨fd, z⟩ := (c.def_ 57 (d := dM "Session" "need_place" "Session.need_place" 71 20) rfl); ⟨_, fd, z, He.meth_ok (c.fact 174 (f := kMeth "Session" "need_place") rfl)⟩,
    screate := let ⟨fd, z⟩ := (c.def_ 58 (d := dM "Session" "create" "Session.create" 71 21) rfl); ⟨_, fd, z, He.meth_ok (c.fact 175 (f := kMeth "Session" "create") rfl)⟩,
    sdlend := let ⟨fd, z⟩ := (c.def_ 59 (d := dM "Session" "__len__" "Session.__len__" 71 26) rfl); ⟨_, fd, z, He.meth_ok (c.fact 176 (f := kMeth "Session" "__len__") rfl)⟩,
    sdeqd := let ⟨fd, z⟩ := (c.def_ 60 (d := dM "Session" "__eq__" "Session.__eq__" 71 27) rfl); ⟨_, fd, z, He.meth_ok (c.fact 177 (f := kMeth "Session" "__eq__") rfl)⟩,
    snames := let ⟨fd, z⟩ := (c.def_ 61 (d := dP "Session" "property" "names" "Session.names" 71 5) rfl); ⟨_, _, fd, z, propB_ok (c.fact 178 (f := kProp "Session" "names") rfl)⟩,
    stext := let ⟨fd, z⟩ := (c.def_ 62 (d := dP "Session" "property" "text" "Session.text" 71 6) rfl); ⟨_, _, fd, z, propB_ok (c.fact 179 (f := kProp "Session" "text") rfl)⟩,
    srestore := let ⟨fd, z⟩ := (c.def_ 63 (d := dP "Session" "classmethod" "restore" "Session.restore" 71 3) rfl); ⟨_, _, fd, z, cm_ok (c.fact 180 (f := kCm "Session" "restore") rfl), rdB_ok (c.fact 181 (f := kRd "Session") rfl)⟩,
    smax := He.conB_ok (c.fact 182 (f := kCon "Session" "MAX_NAMES" 26) rfl),
    rload := let ⟨fd, z⟩ := (c.def_ 49 (d := dM "Session" "load" "Session.load" 71 7) rfl); ⟨_, fd, z, methR (c.fact 183 (f := kSame "load") rfl) (c.fact 184 (f := kMeth "Recorder" "load") rfl)⟩,
    rchange := let ⟨fd, z⟩ := (c.def_ 50 (d := dM "Session" "change" "Session.change" 71 8) rfl); ⟨_, fd, z, methR (c.fact 185 (f := kSame "change") rfl) (c.fact 186 (f := kMeth "Recorder" "change") rfl)⟩,
    rlookup := let ⟨fd, z⟩ := (c.def_ 51 (d := dM "Session" "lookup" "Session.lookup" 71 9) rfl); ⟨_, fd, z, methR (c.fact 187 (f := kSame "lookup") rfl) (c.fact 188 (f := kMeth "Recorder" "lookup") rfl)⟩,
    rfind := let ⟨fd, z⟩ := (c.def_ 52 (d := dM "Session" "find" "Session.find" 71 10) rfl); ⟨_, fd, z, methR (c.fact 189 (f := kSame "find") rfl) (c.fact 190 (f := kMeth "Recorder" "find") rfl)⟩,
    rexecute := let ⟨fd, z⟩ := (c.def_ 54 (d := dM "Session" "execute" "Session.execute" 71 13) rfl); ⟨_, fd, z, methR (c.fact 191 (f := kSame "execute") rfl) (c.fact 192 (f := kMeth "Recorder" "execute") rfl)⟩,
    rperform := let ⟨fd, z⟩ := (c.def_ 55 (d := dM "Session" "perform" "Session.perform" 71 16) rfl); ⟨_, fd, z, methR (c.fact 193 (f := kSame "perform") rfl) (c.fact 194 (f := kMeth "Recorder" "perform") rfl)⟩,
    rundo := let ⟨fd, z⟩ := (c.def_ 56 (d := dM "Session" "undo" "Session.undo" 71 18) rfl); ⟨_, fd, z, methR (c.fact 195 (f := kSame "undo") rfl) (c.fact 196 (f := kMeth "Recorder" "undo") rfl)⟩,
    rneed_place := let ⟨fd, z⟩ := (c.def_ 57 (d := dM "Session" "need_place" "Session.need_place" 71 20) rfl); ⟨_, fd, z, methR (c.fact 197 (f := kSame "need_place") rfl) (c.fact 198 (f := kMeth "Recorder" "need_place") rfl)⟩,
    rcreate := let ⟨fd, z⟩ := (c.def_ 58 (d := dM "Session" "create" "Session.create" 71 21) rfl); ⟨_, fd, z, methR (c.fact 199 (f := kSame "create") rfl) (c.fact 200 (f := kMeth "Recorder" "create") rfl)⟩,
    rdlend := let ⟨fd, z⟩ := (c.def_ 59 (d := dM "Session" "__len__" "Session.__len__" 71 26) rfl); ⟨_, fd, z, methR (c.fact 201 (f := kSame "__len__") rfl) (c.fact 202 (f := kMeth "Recorder" "__len__") rfl)⟩,
    rdeqd := let ⟨fd, z⟩ := (c.def_ 60 (d := dM "Session" "__eq__" "Session.__eq__" 71 27) rfl); ⟨_, fd, z, methR (c.fact 203 (f := kSame "__eq__") rfl) (c.fact 204 (f := kMeth "Recorder" "__eq__") rfl)⟩,
    rnames := let ⟨fd, z⟩ := (c.def_ 61 (d := dP "Session" "property" "names" "Session.names" 71 5) rfl); ⟨_, _, fd, z, propR (c.fact 205 (f := kSameW "property" "names") rfl) (c.fact 206 (f := kProp "Recorder" "names") rfl)⟩,
    rtext := let ⟨fd, z⟩ := (c.def_ 62 (d := dP "Session" "property" "text" "Session.text" 71 6) rfl); ⟨_, _, fd, z, propR (c.fact 207 (f := kSameW "property" "text") rfl) (c.fact 208 (f := kProp "Recorder" "text") rfl)⟩,
    rrestore := let ⟨fd, z⟩ := (c.def_ 63 (d := dP "Session" "classmethod" "restore" "Session.restore" 71 3) rfl); ⟨_, _, fd, z, cmR (c.fact 209 (f := kSameW "classmethod" "restore") rfl) (c.fact 210 (f := kCm "Recorder" "restore") rfl), rdB_ok (c.fact 211 (f := kRd "Recorder") rfl)⟩,
    rmax := He.conB_ok (c.fact 212 (f := kCon "Recorder" "MAX_NAMES" 26) rfl),
    sinit := let ⟨fd, z⟩ := (c.def_ 64 (d := dM "Session" "__init__" "Session.__init__" 71 2) rfl); ⟨_, fd, z, He.meth_ok (c.fact 213 (f := kMeth "Session" "__init__") rfl)⟩,
    mkS := ⟨_, He.mkr_ok (c.fact 214 (f := kMk "Session") rfl)⟩,
    mkR := ⟨_, He.mkr_ok (c.fact 215 (f := kMk "Recorder") rfl)⟩,
    ask := let ⟨fd, z⟩ := (c.def_ 65 (d := dMk "Session" "ask" "Session.ask" 71 11 [("shift", .int 0)]) rfl); ⟨_, fd, z, methR (c.fact 216 (f := kSame "ask") rfl) (c.fact 217 (f := kMeth "Recorder" "ask") rfl)⟩,
    rinit := let ⟨cc, c1, kV, doc, pm, an, ct, z1, oc, vs, file, tf, z2, z3, z4, z5⟩ := (c.sup 0 (d := ⟨"Recorder", "__init__", "Recorder.__init__", inClass (tops 72) 0⟩) rfl); ⟨_, cc, c1, kV, doc, pm, an, ct, z1, ⟨⟨oc, vs, file, tf, z2, z3, z4, (by rw [hP]; exact z5)⟩, top, He.free_ok X G (c.fact 15 (f := kFree "super") rfl), fi_ok (c.fact 218 (f := kFi (fun K => PySem.W.nsIn K PySem.cStatics "thirdparty.any") (none)) rfl)⟩, He.meth_ok (c.fact 219 (f := kMeth "Recorder" "__init__") rfl)⟩,
    smi := { at_ := at_ok (c.fact 220 (f := kSu "Recorder" "Recorder" "__init__" "Session") rfl), ty := meth_ty (He.meth_ok (c.fact 213 (f := kMeth "Session" "__init__") rfl)), fi := (c.fact 221 (f := fun K => PySem.W.fnIn K (ma K (ga K "Session") "__init__")) rfl), sub := ob_ok (c.fact 222 (f := kOB (fun K => PySem.W.mroIn K (ga K "Recorder") (.ref (ga K "Recorder"))) true) rfl), nm := by decide },
    smo := { at_ := at_ok (c.fact 223 (f := kSu "Recorder" "Recorder" "outcome" "Session") rfl), ty := meth_ty (He.meth_ok (c.fact 170 (f := kMeth "Session" "outcome") rfl)), fi := (c.fact 224 (f := fun K => PySem.W.fnIn K (ma K (ga K "Session") "outcome")) rfl), sub := ob_ok (c.fact 222 (f := kOB (fun K => PySem.W.mroIn K (ga K "Recorder") (.ref (ga K "Recorder"))) true) rfl), nm := by decide },
    sif := fun f z => meth_eq z (He.meth_ok (c.fact 213 (f := kMeth "Session" "__init__") rfl)),
    sof := (c.def_ 53 (d := dM "Session" "outcome" "Session.outcome" 71 12) rfl),
    rout := let ⟨cc, c1, kV, doc, pm, an, ct, z1, oc, vs, file, tf, z2, z3, z4, z5⟩ := (c.sup 1 (d := ⟨"Recorder", "outcome", "Recorder.outcome", inClass (tops 72) 1⟩) rfl); ⟨_, cc, c1, kV, doc, pm, an, ct, z1, ⟨⟨oc, vs, file, tf, z2, z3, z4, (by rw [hP]; exact z5)⟩, top, He.free_ok X G (c.fact 15 (f := kFree "super") rfl), fi_ok (c.fact 218 (f := kFi (fun K => PySem.W.nsIn K PySem.cStatics "thirdparty.any") (none)) rfl)⟩, He.meth_ok (c.fact 225 (f := kMeth "Recorder" "outcome") rfl)⟩,
    rtr := let ⟨fd, z⟩ := (c.def_ 66 (d := dP "Recorder" "property" "transcript" "Recorder.transcript" 72 2) rfl); ⟨_, _, fd, z, propB_ok (c.fact 226 (f := kProp "Recorder" "transcript") rfl)⟩,
    ui := (c.def_ 67 (d := dM "RuledSequence" "__init__" "RuledSequence.__init__" 60 1) rfl),
    ur := (c.def_ 68 (d := dM "RuledSequence" "rank" "RuledSequence.rank" 60 4) rfl),
    sha := { ci := let ⟨cc, c1, kV, doc, pm, an, ct, z1, oc, vs, file, tf, z2, z3, z4, z5⟩ := (c.sup 2 (d := ⟨"ShiftedSequence", "__init__", "ShiftedSequence.__init__", inClass (tops 61) 1⟩) rfl); ⟨_, cc, c1, kV, doc, pm, an, ct, z1, ⟨⟨oc, vs, file, tf, z2, z3, z4, (by rw [hP]; exact z5)⟩, top, He.free_ok X G (c.fact 15 (f := kFree "super") rfl), fi_ok (c.fact 218 (f := kFi (fun K => PySem.W.nsIn K PySem.cStatics "thirdparty.any") (none)) rfl)⟩, He.mkr_ok (c.fact 227 (f := kMk "ShiftedSequence") rfl)⟩, cr := let ⟨cc, c1, kV, doc, pm, an, ct, z1, oc, vs, file, tf, z2, z3, z4, z5⟩ := (c.sup 3 (d := ⟨"ShiftedSequence", "rank", "ShiftedSequence.rank", inClass (tops 61) 4⟩) rfl); ⟨_, cc, c1, kV, doc, pm, an, ct, z1, ⟨⟨oc, vs, file, tf, z2, z3, z4, (by rw [hP]; exact z5)⟩, top, He.free_ok X G (c.fact 15 (f := kFree "super") rfl), fi_ok (c.fact 218 (f := kFi (fun K => PySem.W.nsIn K PySem.cStatics "thirdparty.any") (none)) rfl)⟩, He.meth_ok (c.fact 228 (f := kMeth "ShiftedSequence" "rank") rfl)⟩ },
    ssi := { at_ := at_ok (c.fact 229 (f := kSu "ShiftedSequence" "ShiftedSequence" "__init__" "RuledSequence") rfl), ty := meth_ty (He.meth_ok (c.fact 230 (f := kMeth "RuledSequence" "__init__") rfl)), fi := (c.fact 231 (f := fun K => PySem.W.fnIn K (ma K (ga K "RuledSequence") "__init__")) rfl), sub := ob_ok (c.fact 232 (f := kOB (fun K => PySem.W.mroIn K (ga K "ShiftedSequence") (.ref (ga K "ShiftedSequence"))) true) rfl), nm := by decide },
    ssr := { at_ := at_ok (c.fact 233 (f := kSu "ShiftedSequence" "ShiftedSequence" "rank" "RuledSequence") rfl), ty := meth_ty (He.meth_ok (c.fact 234 (f := kMeth "RuledSequence" "rank") rfl)), fi := (c.fact 235 (f := fun K => PySem.W.fnIn K (ma K (ga K "RuledSequence") "rank")) rfl), sub := ob_ok (c.fact 232 (f := kOB (fun K => PySem.W.mroIn K (ga K "ShiftedSequence") (.ref (ga K "ShiftedSequence"))) true) rfl), nm := by decide } }
end TF
end
section
set_option maxHeartbeats 0
namespace HdK
open PySem PySem.W PySem.Calls PyProof.Rows
open L2 in
theorem end_ {w : World} {h : Heap} {mg : PySem.Str → Option Value} {fa : Addr} (Y : hk.says w h) (G : h.Ns mainGlobals mg) (hmg : mg ("law" : PySem.Str) = some (.ref fa)) :
    ∃ K : PySem.W.Frag, K.In h ∧ LamX.LawAtS PySem.Challenge.rw_triplefree_k64_whole_loaded_texts w K L2.CX0 14 63 "_law_script" mg fa h := by
  obtain ⟨K, KX, c⟩ := Y
  obtain ⟨fd, F⟩ := c.def_ 69 (d := TF.dG "law" 88) rfl
  have e := hmg.symm.trans (He.glo_ok KX G (c.fact 0 (f := TF.kGlo "law") rfl))
  cases e
  have b := FunD.bindsA (ps := ["_law_script"]) F fun _ _ _ _ _ _ us hl => match us, hl with | [_], _ => rfl
  have mem : (("_law_refused", none) : He.Defn) ∈ TF.tfL := List.mem_singleton.mpr rfl
  refine ⟨K, KX, fd, [He.cT K ("_law_refused", none)], TF.spLaw K [((He.cT K ("_law_refused", none)).2, TF.qLam)], fun p hp => ?_, fun p hp => ?_, fun p hp => ?_, fun s v => b s [v] rfl, fun H a ns hl _ hT hS => ?_, fun base X GB tb => ?_⟩
  · rw [List.mem_singleton.mp hp]
    exact c.empty _ mem
  · rw [List.mem_singleton.mp hp]
    exact c.out _ mem
  · rw [List.mem_singleton.mp hp]
    exact PySem.W.codeHd_of_K KX (c.hd _ mem)
  · refine ⟨a, ns, rfl, hS, by omega, fun p hp => ?_, fun _ => rfl⟩
    rw [List.mem_singleton.mp hp]
    exact ⟨#[], hT _ (List.mem_singleton.mpr rfl), trivial, fun pos cv z => by cases z⟩
  · exact TF.law_all (TF.allF_of (Fl := FlL) rfl (by rfl) c X GB (tb _ (List.mem_singleton.mpr rfl))) F
end HdK
open PySem PySem.W PySem.Calls PyProof.Rows
theorem PySem.Challenge.cw_triplefree_k64_whole_loaded_texts_holds : PySem.Challenge.rw_triplefree_k64_whole_loaded_texts.Holds := by
  w_on; o_law
  refine HandSHeadRun.head_any (r := OpenLaw.row PySem.Challenge.rw_triplefree_k64_whole_loaded_texts) (q := HdK.qv) (H := HdK.hk) (ob := HdK.ob) (M := 12000) (loose := HdK.loose) (d := HandSHeadRun.topDef (OpenLaw.row PySem.Challenge.rw_triplefree_k64_whole_loaded_texts).prog 88) (kwd := []) HdK.ob_eq
    (by kernel_rfl) (fun s => by kernel_rfl) HdK.run (by kernel_rfl) (by kernel_rfl) (by kernel_rfl) (by rfl) (by first | assumption | decide +kernel) (by decide +kernel) ⟨rfl, rfl, rfl, rfl, rfl, by decide +kernel⟩ ?hw ?hc
  case hw => w_witness2
  case hc =>
    refine LamX.walk_ofTsE (l := PySem.Challenge.rw_triplefree_k64_whole_loaded_texts) (n := 63) (k := 14) (x := "_law_script") (CX := fun _ => L2.CX0) rfl (by decide) (by kernel_rfl) ⟨rfl, by decide, by decide⟩ ?F (fun _ _ _ _ _ z => z)
    intro w mg fa h Y G hmg0
    have hmg : mg ("law" : PySem.Str) = some (.ref fa) := by
      have e : (HandSHeadRun.topDef (OpenLaw.row PySem.Challenge.rw_triplefree_k64_whole_loaded_texts).prog 88).name = ("law" : PySem.Str) := by kernel_rfl
      rw [← e]
      exact hmg0
    exact HdK.end_ Y G hmg
end
