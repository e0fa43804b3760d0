import PyProof.Rows.All
import Wide.All
import OpenK.AllK
import Wide.FinOn
import KE.KStateDown
import HandS.ForMost
import HandS.Exc
import HandS.Defaults
import HandS.Property
import HandS.ClsMeth
import HandS.Lambda
import HandS.EndBits
import HandS.EndTab
import HandS.Head0
import HandS.Head1
import HandS.Head2
import HandS.HeadHook1
import HandS.HeadHook2
import HandS.HeadHook3
import HandS.HeadHook4
import HandS.HeadWalk
import HandS.IsInst
import HandS.TryOnly
import HandS.ExcOwn
import HandS.WordsExc
import HandS.Star
import HandS.DictComp
import HandS.Wide
import PyProof.StrBlock2
import PyProof.Rows.StrMul
import PyProof.Rows.StrJoinRep
import KE.KSortRegAny
import KE.KDictSum
import HandS.SetFor
import HandS.SetBool
import HandS.Strs
import HandS.ExcValue
import HandS.More
import HandS.ExcIs
import HandS.Conv
import PySem.Challenge.RW_keptroutes_k66_runs_that_are_moved
set_option Elab.async false
set_option linter.all false
set_option maxRecDepth 100000
set_option maxHeartbeats 0
/-! A Hook of our own: defs found by paths (methods, property getters, static and class methods), facts as Bool functions. -/
namespace KH
open PySem PySem.Spec PyProof.Rows L2 He
abbrev Fr := PySem.W.Frag
/-! paths -/
/-- the object that a class holds under a name -/
def cA (C m : Str) (K : Fr) : Addr := ma K (ga K C) m
/-- a global def -/
def gA (x : Str) (K : Fr) : Addr := ga K x
/-- the first field of the record that a class holds under a name (a property's getter, a static method's def) -/
def rA (T : String) (C m : Str) (K : Fr) : Addr := match PySem.W.recIn K (cA C m K) T with
  | some (.ref g :: _) => g
  | _ => 0
structure DefP where
  path : Fr → Addr
  name : Str
  qual : Str
  st : Stmt
  dfl : List Dv := []
  kwd : List (Str × Dv) := []
def fnAt (K : Fr) (a : Addr) : FnW := match K.lookup a with
  | some ⟨_, _, .func fd, _⟩ => some (fd.name, fd.qualname, fd.params, fd.body, fd.scope, fd.globals, fd.closure, fd.builtins)
  | _ => none
def DefP.val (d : DefP) : FnW := some (d.name, d.qual, defArgs d.st, .stmts (defBody d.st), defScope d.st, mainGlobals, [], builtinsNs)
def DefP.dvs (K : Fr) (d : DefP) : List V := d.dfl.map (Dv.v K)
def DefP.kws (K : Fr) (d : DefP) : List (Str × V) := d.kwd.map fun q => (q.1, q.2.v K)
def DefP.ok (K : Fr) (d : DefP) : Bool := PySem.W.keepIn K (.ref (d.path K)) && (match K.lookup (d.path K) with
  | some ⟨_, _, .func fd, _⟩ => PySem.W.codeIn K fd.code d.qual && (dflB K fd.defaults (d.dvs K) && kwdB K fd.kwdefaults (d.kws K))
  | _ => false)
abbrev FunP (K : Fr) (d : DefP) (fd : FuncData) : Prop := FunD K d.name d.qual (defArgs d.st) (defBody d.st) (defScope d.st) (d.dvs K) (d.kws K) (d.path K) fd
theorem DefP.funD {K : Fr} {d : DefP} (e : fnAt K (d.path K) = d.val) (c : d.ok K = true) : ∃ fd, FunP K d fd := by
  obtain ⟨kp, c2⟩ := ba c
  unfold fnAt at e
  cases q : K.lookup (d.path K) with
  | none => rw [q] at c2; cases c2
  | some o =>
    obtain ⟨oc, od, dt, osl⟩ := o
    rw [q] at c2 e
    cases dt with
    | func fd =>
      obtain ⟨n1, n2, n3, n4, n5, n6, n7, n8, n9, n10, n11, n12, n13, n14, n15⟩ := fd
      have e2 : (some (n1, n2, n3, n4, n5, n6, n7, n15) : FnW) = some (d.name, d.qual, defArgs d.st, .stmts (defBody d.st), defScope d.st, mainGlobals, [], builtinsNs) := e
      simp only [Option.some.injEq, Prod.mk.injEq] at e2
      obtain ⟨h1, h2, h3, h4, h5, h6, h7, h8⟩ := e2
      subst h1 h2 h3 h4 h5 h6 h7 h8
      have c3 : (PySem.W.codeIn K n13 d.qual && (dflB K n8 (d.dvs K) && kwdB K n9 (d.kws K))) = true := c2
      obtain ⟨k1, k2⟩ := ba c3
      obtain ⟨k3, k4⟩ := ba k2
      exact ⟨_, ⟨oc, od, n8, n9, n10, n11, n12, n13, n14, osl, rfl, q, k1, dflB_ok k3, kwdB_ok k4⟩, kp⟩
    | _ => cases c2
/-! the Hook -/
abbrev AlP : Type := (Bool × List FnW) × (List (Option (List (Option (Str × Int)))) × Bool)
def obsK (fa : List (Fr → Bool)) (fn : List DefP) (ts : List Tab) (K : Fr) : (Bool × List FnW) × List (Option (List (Option (Str × Int)))) :=
  (((fa.all fun f => f K) && fn.all fun d => d.ok K, fn.map fun d => fnAt K (d.path K)), ts.map fun t => dicW K (t.1 K))
def valK (fn : List DefP) (ts : List Tab) (w : World) : (Bool × List FnW) × List (Option (List (Option (Str × Int)))) := ((true, fn.map DefP.val), ts.map fun t => some (keysIn w.params t.2))
structure SaysP (fa : List (Fr → Bool)) (fn : List DefP) (ts : List Tab) (tf : List Defn) (w : World) (h : Heap) (K : Fr) : Prop where
  t : obsK fa fn ts K = valK fn ts w
  hd : ∀ p ∈ tf, PySem.W.codeHdIn K (cT K p).1 (cT K p).2 = true
  out : ∀ p ∈ tf, K.lookup (cT K p).2 = none
  empty : ∀ p ∈ tf, h.get? (cT K p).2 = some { cls := .none, data := .fields #[] }
/-- what the names reach in n steps, and the interpreter's own statics -/
def asP (g : Addr → Option Obj) (n : Nat) : List Addr := asD g n ++ [cStatics]
abbrev AlQ : Type := ((Bool × List FnW) × List (Option (List (Option (Str × Int))))) × Bool
def obsP (n : Nat) (fa : List (Fr → Bool)) (fn : List DefP) (ts : List Tab) (tf : List Defn) (g : Addr → Option Obj) : AlQ := (obsK fa fn ts (frT g (asP g n)), tabsB g tf (frT g (asP g n)))
def valP (fn : List DefP) (ts : List Tab) (w : World) : AlQ := (valK fn ts w, true)
theorem saysP_of {n : Nat} {fa : List (Fr → Bool)} {fn : List DefP} {ts : List Tab} {tf : List Defn} {w : World} {h : Heap} (e : obsP n fa fn ts tf h.get? = valP fn ts w) : SaysP fa fn ts tf w h (frT h.get? (asP h.get? n)) := by
  have e1 : obsK fa fn ts (frT h.get? (asP h.get? n)) = valK fn ts w := congrArg (fun z : AlQ => z.1) e
  have h2 : tabsB h.get? tf (frT h.get? (asP h.get? n)) = true := congrArg (fun z : AlQ => z.2) e
  have key : ∀ p ∈ tf, PySem.W.codeHdIn (frT h.get? (asP h.get? n)) (cT (frT h.get? (asP h.get? n)) p).1 (cT (frT h.get? (asP h.get? n)) p).2 = true ∧ ∃ o, h.get? (cT (frT h.get? (asP h.get? n)) p).2 = some o ∧ emptyTab o = true := fun p hp => by
    obtain ⟨h3, h4⟩ := ba (List.all_eq_true.mp h2 p hp)
    refine ⟨h3, ?_⟩
    cases q : h.get? (cT (frT h.get? (asP h.get? n)) p).2 with
    | none => rw [q] at h4; cases h4
    | some o => rw [q] at h4; exact ⟨o, rfl, h4⟩
  exact ⟨e1, fun p hp => (key p hp).1, fun p hp => by
    obtain ⟨_, o, q, z⟩ := key p hp
    exact frT_none q z, fun p hp => by
    obtain ⟨_, o, q, z⟩ := key p hp
    rw [q, emptyTab_eq z]⟩
def hookP (n : Nat) (fa : List (Fr → Bool)) (fn : List DefP) (ts : List Tab) (tf : List Defn) : PySem.W.Hook where
  α := AlQ
  obs := fun s => obsP n fa fn ts tf s.heap.get?
  val := fun w => valP fn ts w
  says := fun w h => ∃ K : Fr, K.In h ∧ SaysP fa fn ts tf w h K
  of := fun _ _ e => ⟨_, frT_in, saysP_of e⟩
  keeps := fun _ _ _ ⟨K, hK, c⟩ k => ⟨K, PySem.W.Frag.In.keeps hK k, ⟨c.t, c.hd, c.out, fun p hp => k _ _ (c.empty p hp)⟩⟩
theorem obsP_eq {n : Nat} {fa : List (Fr → Bool)} {fn : List DefP} {ts : List Tab} {tf : List Defn} {g : Addr → Option Obj} {s : Shared} (h : ∀ a, g a = s.heap.get? a) : obsP n fa fn ts tf g = (hookP n fa fn ts tf).obs s := by
  have e : g = s.heap.get? := funext h
  rw [e] <;> rfl
section
variable {fa : List (Fr → Bool)} {fn : List DefP} {ts : List Tab} {tf : List Defn} {w : World} {h : Heap} {K : Fr}
theorem SaysP.fact (c : SaysP fa fn ts tf w h K) (i : Nat) {f : Fr → Bool} (hi : fa[i]? = some f := by rfl) : f K = true := by
  have c1 := (ba (show ((fa.all fun f => f K) && fn.all fun d => d.ok K) = true from congrArg (fun z : (Bool × List FnW) × List (Option (List (Option (Str × Int)))) => z.1.1) c.t)).1
  exact List.all_eq_true.mp c1 f (List.mem_of_getElem? hi)
theorem SaysP.def_ (c : SaysP fa fn ts tf w h K) (i : Nat) {d : DefP} (hi : fn[i]? = some d := by rfl) : ∃ fd, FunP K d fd := by
  have c2 := (ba (show ((fa.all fun f => f K) && fn.all fun d => d.ok K) = true from congrArg (fun z : (Bool × List FnW) × List (Option (List (Option (Str × Int)))) => z.1.1) c.t)).2
  have e : fn.map (fun d => fnAt K (d.path K)) = fn.map DefP.val := congrArg (fun z : (Bool × List FnW) × List (Option (List (Option (Str × Int)))) => z.1.2) c.t
  have e2 : (fn.map fun d => fnAt K (d.path K))[i]? = (fn.map DefP.val)[i]? := by rw [e]
  rw [List.getElem?_map, List.getElem?_map, hi] at e2
  exact DefP.funD (Option.some.inj e2) (List.all_eq_true.mp c2 d (List.mem_of_getElem? hi))
end
/-! facts as Bool functions -/
def fGlo (x : Str) (K : Fr) : Bool := (Fa.glo x).ok K
def fFree (x : Str) (K : Fr) : Bool := (Fa.free x).ok K
def fInt (x : Str) (i : Int) (K : Fr) : Bool := (Fa.int x i).ok K
def fStr (x z : Str) (K : Fr) : Bool := (Fa.str x z).ok K
def fCls (x : Str) (K : Fr) : Bool := (Fa.cls x).ok K
def fNoat (x f : Str) (K : Fr) : Bool := (Fa.noat x f).ok K
def fMeth (x m : Str) (K : Fr) : Bool := (Fa.meth x m).ok K
def fMkr (x : Str) (K : Fr) : Bool := (Fa.mkr x).ok K
def fExc (x : Str) (K : Fr) : Bool := (Fa.exc x).ok K
def fExm (x y : Str) (b : Bool) (K : Fr) : Bool := (Fa.exm x y b).ok K
def fProp (C f : Str) (K : Fr) : Bool :=
  eqO (PySem.W.findIn K (.ref (ga K C)) f) (some (some (.ref (cA C f K)))) && (eqO (PySem.W.specialIn K (.ref (cA C f K)) "__get__") (some (some (.builtin "property.__get__"))) &&
    (decide (PySem.W.takesIn K (.ref (cA C f K)) = some true) && (match PySem.W.recIn K (cA C f K) "property" with
      | some (.ref _ :: _) => true
      | _ => false)))
theorem prop_ok {C f : Str} {K : Fr} (h : fProp C f K = true) : PropOf K (ga K C) f (cA C f K) (rA "property" C f K) := by
  obtain ⟨h1, h⟩ := ba (show (eqO (PySem.W.findIn K (.ref (ga K C)) f) (some (some (.ref (cA C f K)))) && _) = true from h)
  obtain ⟨h2, h⟩ := ba h
  obtain ⟨h3, h4⟩ := ba h
  refine ⟨eqO_ok h1, eqO_ok h2, of_decide_eq_true h3, ?_⟩
  unfold rA
  split at h4
  · rename_i g r e
    rw [e]
    exact ⟨r, rfl⟩
  · cases h4
end KH
/-! Short words over the hand layer: a def, a method, a property, a class by its promise; readings step by step. -/
namespace K2
open PySem PySem.Spec PyProof.Rows L2 KH He
/-! ### what is promised of a def, a method, a property, a class -/
section
variable (P : Program) (w : World) (K : Fr) (mg : Str → Option Value) (base : Heap)
def OkF (k : Nat) (x : Str) (ps : List Str) (sp : Sp) : Prop :=
  ∃ f fd, mg x = some (.ref f) ∧ PySem.W.keepIn K (.ref f) = true ∧ Binds K fd ps [] ∧ FnOk P w K mg base (L2.CX P w) k f fd ps sp
def OkM (k : Nat) (C : Addr) (m : Str) (ps : List Str) (sp : Sp) : Prop :=
  ∃ f fd, Meth K C m f ∧ Binds K fd ps [] ∧ FnOk P w K mg base (L2.CX P w) k f fd ps sp
def OkP (k : Nat) (C : Addr) (m : Str) (sp : Sp) : Prop :=
  ∃ p g fd, PropOf K C m p g ∧ Binds K fd ["self"] [] ∧ FnOk P w K mg base (L2.CX P w) k g fd ["self"] sp
def OkC (k : Nat) (x : Str) (C : Addr) (ps : List Str) (sp : Sp) : Prop :=
  ∃ f fd, mg x = some (.ref C) ∧ Mk K C f ∧ Binds K fd ps [] ∧ FnOk P w K mg base (L2.CX P w) k f fd ps sp
end
section
variable {P : Program} {w : World} {K : Fr} {mg : Str → Option Value} {base : Heap}
theorem OkF.mk {k : Nat} {x : Str} {ps : List Str} {sp : Sp} {f : Addr} {fd : FuncData} {n q : Str} {st : Stmt} (g : mg x = some (.ref f)) (F : FunD K n q (defArgs st) (defBody st) (defScope st) [] [] f fd) (b : Binds K fd ps [])
    (h : FnOk P w K mg base (L2.CX P w) k f fd ps sp) : OkF P w K mg base k x ps sp := ⟨f, fd, g, F.kp, b, h⟩
end
section
variable {X : Cx} {x m : Str} {C : Addr} {ps : List Str} {sp : Sp} {E : XK} {e o : Expr} {es : List Expr} {t : TA} {ta : TE} {p pos apos : Pos} {k : Nat}
/-- f(e, ..) -/
theorem pcl (h : OkF X.prog X.w X.K X.mg X.base k x ps sp) (hr : Room k X.A) (hg : Gl X x) (ha : PA X (e :: es) t) (hdb : (x == ("__debug__" : Str)) = false := by decide)
    (he : starEach (e :: es) X.env = (false, eval e X.env) :: starEach es X.env := by rfl) (hpl : (backTo pos (starEach es X.env)).any (·.1) = false := by rfl) : PE X (.Call (.Name x p) (e :: es) [] pos) (tCall sp [] E0 t) := by
  obtain ⟨f, fd, g, kp, b, F⟩ := h
  exact pe_call F hr hg g kp b .nil passL ha hdb he hpl
theorem pcl0 (h : OkF X.prog X.w X.K X.mg X.base k x ps sp) (hr : Room k X.A) (hg : Gl X x) (hdb : (x == ("__debug__" : Str)) = false := by decide) : PE X (.Call (.Name x p) [] [] pos) (tCall sp [] E0 tNil) := by
  obtain ⟨f, fd, g, kp, b, F⟩ := h
  exact pe_call0 F hr hg g kp b .nil passL hdb
/-- .. where what it raises is wanted: E -/
theorem pclX (h : OkF X.prog X.w X.K X.mg X.base k x ps sp) (hr : Room k X.A) (hg : Gl X x) (hx : Passes (L2.CX X.prog X.w) X E) (ha : PA X (e :: es) t) (hdb : (x == ("__debug__" : Str)) = false := by decide)
    (he : starEach (e :: es) X.env = (false, eval e X.env) :: starEach es X.env := by rfl) (hpl : (backTo pos (starEach es X.env)).any (·.1) = false := by rfl) : PE X (.Call (.Name x p) (e :: es) [] pos) (tCall sp [] E t) := by
  obtain ⟨f, fd, g, kp, b, F⟩ := h
  exact pe_call F hr hg g kp b .nil hx ha hdb he hpl
/-- o.m(e, ..) -/
theorem pmt {pl : Sem Bool} (c : Cls X.K C) (h : OkM X.prog X.w X.K X.mg X.base k C m ps sp) (hr : Room k X.A) (ho : PE X o ta) (ha : PA X (e :: es) t)
    (hst : starEach (e :: es) X.env = (false, eval e X.env) :: starEach es X.env := by rfl) (hpl : (backTo pos (starEach es X.env)).any (·.1) = false := by rfl)
    (ht : eval (.Call (.Attribute o m apos) (e :: es) [] pos) X.env = (do
      let ov ← eval o X.env
      standAt apos.atName
      let (f, first) ← holding [ov] (getMethod ov m pl)
      callWith pos f first (backTo pos (starEach (e :: es) X.env)) (backToKw pos (keywordEach [] X.env))) := by rfl) :
    PE X (.Call (.Attribute o m apos) (e :: es) [] pos) (tMeth C m sp [] E0 ta t) := by
  obtain ⟨f, fd, hm, b, F⟩ := h
  exact pe_meth ho c hm F hr b .nil passL ha hst hpl ht
theorem pmt0 {pl : Sem Bool} (c : Cls X.K C) (h : OkM X.prog X.w X.K X.mg X.base k C m ps sp) (hr : Room k X.A) (ho : PE X o ta)
    (ht : eval (.Call (.Attribute o m apos) [] [] pos) X.env = (do
      let ov ← eval o X.env
      standAt apos.atName
      let (f, first) ← holding [ov] (getMethod ov m pl)
      callWith pos f first (backTo pos (starEach [] X.env)) (backToKw pos (keywordEach [] X.env))) := by rfl) :
    PE X (.Call (.Attribute o m apos) [] [] pos) (tMeth C m sp [] E0 ta tNil) := by
  obtain ⟨f, fd, hm, b, F⟩ := h
  exact pe_meth0 ho c hm F hr b .nil passL ht
/-- o.f, a property -/
theorem ppr {f : Str} (c : Cls X.K C) (h : OkP X.prog X.w X.K X.mg X.base k C f sp) (hr : Room (k + 1) X.A) (ho : PE X o ta) (hab : attributeBase o f X.env (eval o X.env) = eval o X.env := by rfl) : PE X (.Attribute o f pos) (tProp C sp [] E0 ta) := by
  obtain ⟨q, g, fd, hp, b, F⟩ := h
  exact pe_prop ho c hp F hr b .nil (passL (X := X.nox)) hab
/-- C(e, ..) -/
theorem pmk (h : OkC X.prog X.w X.K X.mg X.base k x C ps sp) (hr : Room (k + 1) X.A) (hg : Gl X x) (hx : Passes (L2.CX X.prog X.w) X E) (ha : PA X (e :: es) t) (hdb : (x == ("__debug__" : Str)) = false := by decide)
    (he : starEach (e :: es) X.env = (false, eval e X.env) :: starEach es X.env := by rfl) (hpl : (backTo pos (starEach es X.env)).any (·.1) = false := by rfl) : PE X (.Call (.Name x p) (e :: es) [] pos) (tMake C sp [] E t) := by
  obtain ⟨f, fd, g, M, b, F⟩ := h
  exact pe_make M F hr hg g b .nil hx ha hdb he hpl
/-- constants and built-in types by name -/
theorem pci {i : Int} (h : ∃ t, X.mg x = some (.int i t)) (hg : Gl X x) (hd : (x == ("__debug__" : Str)) = false := by decide) : PE X (.Name x pos) (tC (.int i)) := by
  obtain ⟨t, h⟩ := h
  exact pe_glob hg h ⟨t, rfl⟩ hd
theorem pcs {z : Str} (h : ∃ t, X.mg x = some (.str z t)) (hg : Gl X x) (hd : (x == ("__debug__" : Str)) = false := by decide) : PE X (.Name x pos) (tC (.str z)) := by
  obtain ⟨t, h⟩ := h
  exact pe_glob hg h ⟨t, rfl⟩ hd
theorem pty {n : String} (h : X.mg x = none) (hg : Gl X x) (hv : bootBuiltins x = some (.type n)) (hn : x ≠ "__name__" := by decide) (hd : (x == ("__debug__" : Str)) = false := by decide) : PE X (.Name x pos) (tC (.ty n)) :=
  pe_bltn hg h hv rfl hn hd
/-- a class by name -/
theorem pcc {C : Addr} (h : X.mg x = some (.ref C)) (hg : Gl X x) (hd : (x == ("__debug__" : Str)) = false := by decide) : PE X (.Name x pos) (tC (.ref C)) := pe_glob hg h rfl hd
end

/-! ### heaps -/
/-- what was tracked stands -/
abbrev Ex (H H' : Hp) : Prop := ∀ a o, H a = some o → H' a = some o
theorem Ex.rfl' {H : Hp} : Ex H H := fun _ _ h => h
theorem Ex.tr {H H1 H2 : Hp} (a : Ex H H1) (b : Ex H1 H2) : Ex H H2 := fun x o h => b x o (a x o h)
theorem Ex.nw {H : Hp} {p : Addr} {o : HO} (h : H p = none) : Ex H (upd H p o) := fun a u e => by
  rw [upd_ne (ne_of_none e h)]
  exact e
theorem Ex.up {H H' : Hp} {p : Addr} {o : HO} (e : Ex H H') (h : H p = none) : Ex H (upd H' p o) := fun a u ha => by
  rw [upd_ne (ne_of_none ha h)]
  exact e a u ha
theorem Ex.fr {H H' : Hp} {p : Addr} (e : Ex H H') (h : H' p = none) : H p = none := by
  cases h1 : H p with
  | none => rfl
  | some o => rw [e p o h1] at h; cases h
/-- all but p stands -/
abbrev Xp (p : Addr) (H H' : Hp) : Prop := ∀ a o, a ≠ p → H a = some o → H' a = some o
theorem Ex.xp {p : Addr} {H H' : Hp} (e : Ex H H') : Xp p H H' := fun a o _ h => e a o h
theorem Xp.tr {p : Addr} {H H1 H2 : Hp} (a : Xp p H H1) (b : Xp p H1 H2) : Xp p H H2 := fun x o n h => b x o n (a x o n h)
theorem Xp.up {p : Addr} {H H' : Hp} {o : HO} (e : Xp p H H') : Xp p H (upd H' p o) := fun a u n h => by
  rw [upd_ne n]
  exact e a u n h
theorem Xp.nw {p q : Addr} {H H' : Hp} {o : HO} (e : Xp p H H') (h : H q = none) : Xp p H (upd H' q o) := fun a u n k => by
  rw [upd_ne (ne_of_none k h)]
  exact e a u n k
theorem Xp.fr {p q : Addr} {H H' : Hp} (e : Xp p H H') (n : q ≠ p) (h : H' q = none) : H q = none := by
  cases h1 : H q with
  | none => rfl
  | some o => rw [e q o n h1] at h; cases h

/-! ### readings, step by step -/
section
variable {σ : L2.St} {H : Hp} {Q : VK} {i : Nat} {v x y : V} {ta tb te tx : TE} {t u c : TT} {r : R2} {R : Bool → Hp → Prop} {nx bk ct : L2.St → Hp → Prop} {rt : VK} {s1 s2 : TS}
theorem rd_var (h : σ[i]? = some (some v)) (q : Q v H) : tVar i σ H Q := ⟨v, h, q⟩
theorem rd_c (q : Q v H) : tC v σ H Q := q
theorem rd_op (h : ta σ H fun x H1 => tb σ H1 fun y H2 => r x y H2 Q) : tOp r ta tb σ H Q := h
theorem rd_un {r : V → Hp → VK → Prop} (h : ta σ H fun x H1 => r x H1 Q) : tUn r ta σ H Q := h
theorem rd_I0 {g : Int → Int → V} {i j : Int} (q : Q (g i j) H) : rI0 g (.int i) (.int j) H Q := ⟨i, j, rfl, rfl, q⟩
theorem rd_I {C : Int → Int → Prop} {g : Int → Int → V} {i j : Int} (h : C i j) (q : Q (g i j) H) : rI C g (.int i) (.int j) H Q := ⟨i, j, rfl, rfl, h, q⟩
theorem rd_eq (h : scal x y = true) (q : Q (.bl (decide (x = y))) H) : rEq x y H Q := ⟨h, q⟩
theorem rd_ne (h : scal x y = true) (q : Q (.bl (!decide (x = y))) H) : rNe x y H Q := ⟨h, q⟩
theorem rd_test (h : te σ H fun x H' => ∃ k, x = .bl k ∧ R k H') : tTest te σ H R := h
theorem rd_tB (h : te σ H fun x H' => ∃ k, x = .bl k ∧ R k H') : tB te σ H R := h
theorem rd_bl {b : Bool} {S : Bool → Prop} (q : S b) : ∃ k, V.bl b = V.bl k ∧ S k := ⟨b, rfl, q⟩
theorem rd_and (h : t σ H fun c H1 => if c = true then u σ H1 R else R false H1) : tAnd t u σ H R := h
theorem rd_or (h : t σ H fun c H1 => if c = true then R true H1 else u σ H1 R) : tOr t u σ H R := h
theorem rd_not (h : t σ H fun c H1 => R (!c) H1) : tNot t σ H R := h
theorem rd_andV (h : ta σ H fun x H1 => ∃ c, x = .bl c ∧ if c = true then tb σ H1 Q else Q (.bl false) H1) : tAndV ta tb σ H Q := h
theorem rd_orV (h : ta σ H fun x H1 => ∃ c, x = .bl c ∧ if c = true then Q (.bl true) H1 else tb σ H1 Q) : tOrV ta tb σ H Q := h
theorem rd_notV (h : ta σ H fun x H1 => ∃ c, x = .bl c ∧ Q (.bl (!c)) H1) : tNotV ta σ H Q := h
theorem rd_if (h : t σ H fun c H1 => if c = true then ta σ H1 Q else tb σ H1 Q) : tIf t ta tb σ H Q := h
theorem rd_nil {S : List V → Hp → Prop} (q : S [] H) : tNil σ H S := q
theorem rd_cons {tr : TA} {S : List V → Hp → Prop} (h : te σ H fun x H1 => tr σ H1 fun xs H2 => S (x :: xs) H2) : tCons te tr σ H S := h
theorem rd_call {sp : Sp} {E : XK} {tr : TA} (h : tr σ H fun vs H1 => sp (vs ++ []) H1 Q E) : tCall sp [] E tr σ H Q := h
theorem rd_cb {r : List V → Hp → VK → Prop} {tr : TA} (h : tr σ H fun vs H1 => r vs H1 Q) : tCB r tr σ H Q := h
theorem rd_noPart {S : Option Int → Hp → Prop} (q : S none H) : tNoPart σ H S := q
theorem rd_part {S : Option Int → Hp → Prop} (h : te σ H fun x H1 => ∃ i, x = .int i ∧ S (some i) H1) : tPart te σ H S := h
theorem rd_int {i : Int} {S : Int → Prop} (q : S i) : ∃ k, V.int i = V.int k ∧ S k := ⟨i, rfl, q⟩
theorem rd_sl {r : V → Option Int → Option Int → Hp → VK → Prop} {tl th : TO} (h : te σ H fun x H1 => tl σ H1 fun l H2 => th σ H2 fun u H3 => r x l u H3 Q) : tSl r te tl th σ H Q := h
theorem rd_slS {z : Str} {lo hi : Option Int} (h : z.length ≤ sizeLine) (q : Q (.str (cutS z lo hi)) H) : rSlS (.str z) lo hi H Q := ⟨z, rfl, h, q⟩
theorem rd_seq (h : s1 ⟨s2 ⟨nx, rt, bk, ct⟩, rt, bk, ct⟩ σ H) : tSeq s1 s2 ⟨nx, rt, bk, ct⟩ σ H := h
theorem rd_asg {g : TG} (h : te σ H fun x H1 => g x σ H1 nx) : tAsg te g ⟨nx, rt, bk, ct⟩ σ H := h
theorem rd_gName {S : L2.St → Hp → Prop} (q : S (σ.set i (some v)) H) : gName i v σ H S := q
theorem rd_ret (h : te σ H rt) : tRet te ⟨nx, rt, bk, ct⟩ σ H := h
theorem rd_retN (q : rt .non H) : tRetN ⟨nx, rt, bk, ct⟩ σ H := q
theorem rd_ifs (h : c σ H fun b H1 => if b = true then s1 ⟨nx, rt, bk, ct⟩ σ H1 else s2 ⟨nx, rt, bk, ct⟩ σ H1) : tIfS c s1 s2 ⟨nx, rt, bk, ct⟩ σ H := h
theorem rd_next (q : nx σ H) : tNext ⟨nx, rt, bk, ct⟩ σ H := q
theorem rd_drop (h : te σ H fun _ H1 => nx σ H1) : tDrop te ⟨nx, rt, bk, ct⟩ σ H := h
theorem rd_brk (q : bk σ H) : tBreak ⟨nx, rt, bk, ct⟩ σ H := q
theorem rd_cont (q : ct σ H) : tCont ⟨nx, rt, bk, ct⟩ σ H := q
theorem rd_isN (q : Q (.bl (decide (x = .non))) H) : tIsN (tC x) σ H Q := q
theorem rd_lst {tr : TA} (h : tr σ H fun xs H1 => xs.length ≤ sizeLine ∧ ∀ p, H1 p = none → Q (.ref p) (upd H1 p (.lst xs))) : tLst tr σ H Q := h
theorem rd_tup {tr : TA} (h : tr σ H fun xs H1 => xs.length ≤ sizeLine ∧ ∀ p, H1 p = none → Q (.ref p) (upd H1 p (.tup xs))) : tTup tr σ H Q := h
theorem rd_dget {td ty : TE} (h : td σ H fun x H1 => ty σ H1 fun y H2 => ∃ a v, x = .ref a ∧ DGet H2 a y (some v) ∧ Q v H2) : tDGet td ty σ H Q := h
theorem rd_din {td ty : TE} (h : ty σ H fun y H1 => td σ H1 fun x H2 => ∃ a o, x = .ref a ∧ DGet H2 a y o ∧ Q (.bl o.isSome) H2) : tDIn ty td σ H Q := h
theorem rd_dnin {td ty : TE} (h : ty σ H fun y H1 => td σ H1 fun x H2 => ∃ a o, x = .ref a ∧ DGet H2 a y o ∧ Q (.bl (!o.isSome)) H2) : tDNotIn ty td σ H Q := h
theorem rd_dput {td ty tv : TE} (h : tv σ H fun v H1 => td σ H1 fun x H2 => ty σ H2 fun y H3 => ∃ a H4, x = .ref a ∧ DPut H3 a y v H4 ∧ nx σ H4) : sDPut td ty tv ⟨nx, rt, bk, ct⟩ σ H := h
theorem rd_meth {C : Addr} {m : Str} {sp : Sp} {E : XK} {tr : TA} {a dx : Addr} {fs : List (Str × V)} (ha : te σ H fun x H1 => ∃ a dx fs, x = .ref a ∧ H1 a = some (.ins C dx fs) ∧ fs.lookup m = none ∧ tr σ H1 fun vs H2 => sp (x :: (vs ++ [])) H2 Q E) : tMeth C m sp [] E te tr σ H Q := ha
theorem rd_fld {K : Fr} {f : Str} (h : te σ H fun x H1 => ∃ a C dx fs v, x = .ref a ∧ H1 a = some (.ins C dx fs) ∧ Cls K C ∧ NoAttr K C f ∧ fs.lookup f = some v ∧ Q v H1) : tFld K te f σ H Q := h
theorem rd_prop {C : Addr} {sp : Sp} {E : XK} (h : te σ H fun x H1 => ∃ a dx fs, x = .ref a ∧ H1 a = some (.ins C dx fs) ∧ sp (.ref a :: []) H1 Q E) : tProp C sp [] E te σ H Q := h
theorem rd_chain {r r' : R2} {tc : TE} (h : ta σ H fun x H1 => tb σ H1 fun y H2 => r x y H2 fun z H3 => ∃ k, z = .bl k ∧ (if k = true then tc σ H3 fun w' H4 => r' y w' H4 Q else Q (.bl false) H3)) : tChain r r' ta tb tc σ H Q := h
end
section
variable {K : Fr} {H : Hp} {Q : VK}
theorem rd_isi {x : V} {n a : String} {b : Bool} (ty : TyX K H x (.type a)) (e : kitB a n = some b) (q : Q (.bl b) H) : rIsi K [x, .ty n] H Q := ⟨_, _, _, _, _, rfl, .ty _, ty, kit_ty e, q⟩
theorem rd_isi_int_int {i : Int} (q : Q (.bl true) H) : rIsi K [.int i, .ty "int"] H Q := rd_isi (.base (.int _)) (b := true) (by decide +kernel) q
theorem rd_isi_int_bool {i : Int} (q : Q (.bl false) H) : rIsi K [.int i, .ty "bool"] H Q := rd_isi (.base (.int _)) (b := false) (by decide +kernel) q
theorem rd_isi_int_str {i : Int} (q : Q (.bl false) H) : rIsi K [.int i, .ty "str"] H Q := rd_isi (.base (.int _)) (b := false) (by decide +kernel) q
theorem rd_isi_int_list {i : Int} (q : Q (.bl false) H) : rIsi K [.int i, .ty "list"] H Q := rd_isi (.base (.int _)) (b := false) (by decide +kernel) q
theorem rd_isi_int_tuple {i : Int} (q : Q (.bl false) H) : rIsi K [.int i, .ty "tuple"] H Q := rd_isi (.base (.int _)) (b := false) (by decide +kernel) q
theorem rd_isi_int_dict {i : Int} (q : Q (.bl false) H) : rIsi K [.int i, .ty "dict"] H Q := rd_isi (.base (.int _)) (b := false) (by decide +kernel) q
theorem rd_isi_str_int {z : Str} (q : Q (.bl false) H) : rIsi K [.str z, .ty "int"] H Q := rd_isi (.base (.str _)) (b := false) (by decide +kernel) q
theorem rd_isi_str_bool {z : Str} (q : Q (.bl false) H) : rIsi K [.str z, .ty "bool"] H Q := rd_isi (.base (.str _)) (b := false) (by decide +kernel) q
theorem rd_isi_str_str {z : Str} (q : Q (.bl true) H) : rIsi K [.str z, .ty "str"] H Q := rd_isi (.base (.str _)) (b := true) (by decide +kernel) q
theorem rd_isi_str_list {z : Str} (q : Q (.bl false) H) : rIsi K [.str z, .ty "list"] H Q := rd_isi (.base (.str _)) (b := false) (by decide +kernel) q
theorem rd_isi_str_tuple {z : Str} (q : Q (.bl false) H) : rIsi K [.str z, .ty "tuple"] H Q := rd_isi (.base (.str _)) (b := false) (by decide +kernel) q
theorem rd_isi_str_dict {z : Str} (q : Q (.bl false) H) : rIsi K [.str z, .ty "dict"] H Q := rd_isi (.base (.str _)) (b := false) (by decide +kernel) q
theorem rd_isi_bool_int {c : Bool} (q : Q (.bl true) H) : rIsi K [.bl c, .ty "int"] H Q := rd_isi (.base (.bl _)) (b := true) (by decide +kernel) q
theorem rd_isi_bool_bool {c : Bool} (q : Q (.bl true) H) : rIsi K [.bl c, .ty "bool"] H Q := rd_isi (.base (.bl _)) (b := true) (by decide +kernel) q
theorem rd_isi_bool_str {c : Bool} (q : Q (.bl false) H) : rIsi K [.bl c, .ty "str"] H Q := rd_isi (.base (.bl _)) (b := false) (by decide +kernel) q
theorem rd_isi_bool_list {c : Bool} (q : Q (.bl false) H) : rIsi K [.bl c, .ty "list"] H Q := rd_isi (.base (.bl _)) (b := false) (by decide +kernel) q
theorem rd_isi_bool_tuple {c : Bool} (q : Q (.bl false) H) : rIsi K [.bl c, .ty "tuple"] H Q := rd_isi (.base (.bl _)) (b := false) (by decide +kernel) q
theorem rd_isi_bool_dict {c : Bool} (q : Q (.bl false) H) : rIsi K [.bl c, .ty "dict"] H Q := rd_isi (.base (.bl _)) (b := false) (by decide +kernel) q
theorem rd_isi_none_int  (q : Q (.bl false) H) : rIsi K [.non, .ty "int"] H Q := rd_isi (.base .non) (b := false) (by decide +kernel) q
theorem rd_isi_none_bool  (q : Q (.bl false) H) : rIsi K [.non, .ty "bool"] H Q := rd_isi (.base .non) (b := false) (by decide +kernel) q
theorem rd_isi_none_str  (q : Q (.bl false) H) : rIsi K [.non, .ty "str"] H Q := rd_isi (.base .non) (b := false) (by decide +kernel) q
theorem rd_isi_none_list  (q : Q (.bl false) H) : rIsi K [.non, .ty "list"] H Q := rd_isi (.base .non) (b := false) (by decide +kernel) q
theorem rd_isi_none_tuple  (q : Q (.bl false) H) : rIsi K [.non, .ty "tuple"] H Q := rd_isi (.base .non) (b := false) (by decide +kernel) q
theorem rd_isi_none_dict  (q : Q (.bl false) H) : rIsi K [.non, .ty "dict"] H Q := rd_isi (.base .non) (b := false) (by decide +kernel) q
end
theorem iteFn {A B : Prop} (h : B) : if (!true) = true then A else B := by rw [if_neg (by decide)]; exact h
theorem iteTn {A B : Prop} (h : A) : if (!false) = true then A else B := by rw [if_pos (show (!false) = true from rfl)]; exact h
theorem iteD {p : Prop} [Decidable p] {A B : Prop} (h1 : p → A) (h2 : ¬p → B) : if (decide p) = true then A else B := by
  by_cases h : p
  · rw [if_pos (decide_eq_true h)]; exact h1 h
  · rw [if_neg (by simp [h])]; exact h2 h
theorem iteN {p : Prop} [Decidable p] {A B : Prop} (h1 : p → B) (h2 : ¬p → A) : if (!decide p) = true then A else B := by
  by_cases h : p
  · rw [if_neg (by simp [h])]; exact h1 h
  · rw [if_pos (by simp [h])]; exact h2 h
theorem iteB {b : Bool} {A B : Prop} (h1 : b = true → A) (h2 : b = false → B) : if b = true then A else B := by
  cases b
  · exact h2 rfl
  · exact h1 rfl
end K2
/-! Bit strings: lists of Bool as texts. -/
namespace K2
open PySem PySem.Spec PyProof.Rows L2 KH He
abbrev Bits := List Bool
def bc (b : Bool) : Nat := if b then 49 else 48
def bstr (b : Bits) : Str := ⟨(b.map bc).toArray⟩
theorem str_ext {a b : Str} (h : a.cps.toList = b.cps.toList) : a = b := by
  obtain ⟨x⟩ := a; obtain ⟨y⟩ := b
  simp only [Str.mk.injEq] at *
  exact Array.toList_inj.mp h
theorem bstr_cps (b : Bits) : (bstr b).cps.toList = b.map bc := by simp [bstr]
theorem bstr_len (b : Bits) : (bstr b).length = b.length := by simp [bstr, Str.length]
theorem bc_inj {a b : Bool} (h : bc a = bc b) : a = b := by cases a <;> cases b <;> first | rfl | (exact absurd h (by decide))
theorem map_bc_inj : ∀ {a b : Bits}, a.map bc = b.map bc → a = b
  | [], [], _ => rfl
  | [], _ :: _, h => by cases h
  | _ :: _, [], h => by cases h
  | x :: a, y :: b, h => by
    simp only [List.map_cons, List.cons.injEq] at h
    rw [bc_inj h.1, map_bc_inj h.2]
theorem bstr_inj {a b : Bits} : bstr a = bstr b ↔ a = b := by
  refine ⟨fun h => ?_, fun h => by rw [h]⟩
  have e := congrArg (fun s : Str => s.cps.toList) h
  simp only [bstr_cps] at e
  exact map_bc_inj e
theorem bstr_app (a b : Bits) : bstr a ++ bstr b = bstr (a ++ b) := by
  apply str_ext
  show ((bstr a).cps ++ (bstr b).cps).toList = _
  rw [Array.toList_append, bstr_cps, bstr_cps, bstr_cps, List.map_append]
theorem bstr_nil : bstr [] = ("" : Str) := by decide +kernel
theorem bstr_0 : bstr [false] = ("0" : Str) := by decide +kernel
theorem bstr_1 : bstr [true] = ("1" : Str) := by decide +kernel
theorem bstr_one (b : Bool) : bstr [b] = ⟨#[bc b]⟩ := rfl
/-- slices -/
theorem cut_to (b : Bits) (n : Nat) : cutS (bstr b) none (some (n : Int)) = bstr (b.take n) := by
  apply str_ext
  unfold cutS
  rw [bstr_cps, bstr_cps, bstr_len, HT.sIx_none, HT.sIx_nat, List.drop_zero, Nat.sub_zero, List.map_take]
  by_cases h : n ≤ b.length
  · rw [Nat.min_eq_left h]
  · have h1 : b.length ≤ n := by omega
    rw [Nat.min_eq_right h1, List.take_of_length_le (by simp), List.take_of_length_le (by simpa using h1)]
/-- '0' * n -/
theorem mul_bit (c : Bool) (n : Nat) : Txt.mul (bstr [c]) (n : Int) = bstr (List.replicate n c) := by
  apply str_ext
  rw [bstr_one, mul_one_list, bstr_cps, List.map_replicate, Int.toNat_natCast]
/-- an order -/
def bltB : Bits → Bits → Bool
  | [], [] => false
  | [], _ :: _ => true
  | _ :: _, [] => false
  | x :: a, y :: b => if x = y then bltB a b else (!x && y)
theorem lt_bits : ∀ a b : Bits, decide ((bstr a).cps.toList < (bstr b).cps.toList) = bltB a b := by
  intro a b
  rw [bstr_cps, bstr_cps]
  induction a generalizing b with
  | nil => cases b <;> simp [bltB]
  | cons x a ih =>
    cases b with
    | nil => simp [bltB]
    | cons y b =>
      rw [bltB]
      have h := ih b
      simp only [List.map_cons, List.cons_lt_cons_iff]
      cases x <;> cases y <;> simp [bc] at h ⊢ <;> exact h
/-! rules for texts -/
section
variable {X : Cx}
theorem op_mul_si : OpR X (binaryOp .Mult) (fun x y H Q => ∃ z n, x = .str z ∧ y = .int n ∧ MulOk z n ∧ Q (.str (Txt.mul z n)) H) := by
  intro pins s σ H x y v u Q I rx ry h
  obtain ⟨z, n, rfl, rfl, hm, q⟩ := h
  obtain ⟨t, rfl⟩ := rx
  obtain ⟨t', rfl⟩ := ry
  exact PySem.SB.mul hm fun t2 k => ⟨.str (Txt.mul z n), H, I.tok _, ⟨_, rfl⟩, q⟩
end
theorem mulOk_bit (c : Bool) (n : Nat) (h : n ≤ 1000) : MulOk (bstr [c]) (n : Int) :=
  PyProof.Rows.mulOk_of 1 1000 (by rw [bstr_len]; exact Nat.le_refl 1) (by omega) (by omega) (by decide) (by decide)
theorem isPre_take : ∀ a b : Bits, b.isPrefixOf a = (a.take b.length == b)
  | a, [] => by simp
  | [], y :: b => by simp
  | x :: a, y :: b => by
    rw [List.isPrefixOf_cons₂, List.length_cons, List.take_succ_cons, isPre_take a b, List.cons_beq_cons]
    cases x <;> cases y <;> rfl
theorem take_map_beq (a b : Bits) : ((a.map bc).take b.length == b.map bc) = (a.take b.length == b) := by
  rw [← List.map_take, Bool.eq_iff_iff, beq_iff_eq, beq_iff_eq]
  exact ⟨map_bc_inj, fun h => by rw [h]⟩
/-- startswith -/
theorem starts_bits (a b : Bits) : Txt.startswith (bstr a) (bstr b) = b.isPrefixOf a := by
  unfold Txt.startswith
  rw [PySem.StrLaws.subAt_eq, isPre_take, bstr_cps, bstr_cps, bstr_len, bstr_len, List.drop_zero, take_map_beq, Nat.zero_add]
  by_cases h : b.length ≤ a.length
  · simp [h]
  · have h2 : (a.take b.length == b) = false := by
      rw [beq_eq_false_iff_ne]
      intro e
      have := congrArg List.length e
      rw [List.length_take] at this
      omega
    rw [h2, Bool.and_false]
end K2
/-! sorted of texts, of any number: a list's, a dict's keys. -/
namespace K2
open PySem PySem.Spec PyProof.Rows L2 KH He
/-! ### the order of bit strings -/
abbrev leB (a b : Bits) : Bool := !bltB b a
theorem blt_irr : ∀ a : Bits, bltB a a = false
  | [] => rfl
  | x :: a => by rw [bltB, if_pos rfl]; exact blt_irr a
theorem blt_tri : ∀ a b : Bits, bltB a b = false → bltB b a = false → a = b
  | [], [], _, _ => rfl
  | [], _ :: _, h, _ => by cases h
  | _ :: _, [], _, h => by cases h
  | x :: a, y :: b, h1, h2 => by
    rw [bltB] at h1 h2
    cases x <;> cases y <;> simp at h1 h2
    · rw [blt_tri a b h1 h2]
    · rw [blt_tri a b h1 h2]
theorem blt_trans : ∀ a b c : Bits, bltB a b = true → bltB b c = true → bltB a c = true
  | [], [], _, h, _ => by cases h
  | _ :: _, [], _, h, _ => by cases h
  | [], _ :: _, [], _, h => by cases h
  | [], _ :: _, _ :: _, _, _ => rfl
  | _ :: _, _ :: _, [], _, h => by cases h
  | x :: a, y :: b, z :: c, h1, h2 => by
    rw [bltB] at h1 h2 ⊢
    cases x <;> cases y <;> cases z <;> simp at h1 h2 ⊢
    · exact blt_trans a b c h1 h2
    · exact blt_trans a b c h1 h2
theorem blt_asym (a b : Bits) (h : bltB a b = true) : bltB b a = false := by
  cases q : bltB b a with
  | false => rfl
  | true =>
    have z := blt_trans a b a h q
    rw [blt_irr] at z
    cases z
theorem leB_total (a b : Bits) : (leB a b || leB b a) = true := by
  unfold leB
  cases q : bltB b a with
  | false => rfl
  | true => rw [blt_asym _ _ q]; rfl
theorem leB_trans (a b c : Bits) (h1 : leB a b = true) (h2 : leB b c = true) : leB a c = true := by
  unfold leB at *
  simp only [Bool.not_eq_true'] at *
  cases q : bltB c a with
  | false => rfl
  | true =>
    cases r : bltB a b with
    | true => rw [blt_trans c a b q r] at h2; cases h2
    | false =>
      have e := blt_tri a b r h1
      rw [← e] at h2
      rw [q] at h2; cases h2
theorem leB_anti (a b : Bits) (h1 : leB a b = true) (h2 : leB b a = true) : a = b := by
  unfold leB at *
  simp only [Bool.not_eq_true'] at *
  exact blt_tri a b h2 h1
/-- in ascending order -/
def sortB (l : List Bits) : List Bits := l.mergeSort leB
theorem sortB_perm (l : List Bits) : (sortB l).Perm l := List.mergeSort_perm l leB
theorem sortB_pair (l : List Bits) : (sortB l).Pairwise (fun a b => leB a b = true) := List.pairwise_mergeSort leB_trans leB_total l
theorem sortB_uniq {l ys : List Bits} (h1 : ys.Perm l) (h2 : ys.Pairwise (fun a b => leB a b = true)) : ys = sortB l :=
  List.Perm.eq_of_pairwise (fun a b _ _ x y => leB_anti a b x y) h2 (sortB_pair l) (h1.trans (sortB_perm l).symm)
theorem sortB_congr {l l' : List Bits} (h : l.Perm l') : sortB l = sortB l' := sortB_uniq ((sortB_perm l).trans h) (sortB_pair l)
theorem sortB_mem {l : List Bits} {a : Bits} : a ∈ sortB l ↔ a ∈ l := (sortB_perm l).mem_iff
theorem sortB_len (l : List Bits) : (sortB l).length = l.length := (sortB_perm l).length_eq
theorem sortB_nodup {l : List Bits} (h : l.Nodup) : (sortB l).Nodup := (sortB_perm l).nodup_iff.mpr h
theorem ltCps_bits : ∀ a b : Bits, ltCps (a.map bc) (b.map bc) = bltB a b
  | [], [] => rfl
  | [], _ :: _ => rfl
  | _ :: _, [] => rfl
  | x :: a, y :: b => by
    rw [List.map_cons, List.map_cons, ltCps, bltB, ltCps_bits a b]
    cases x <;> cases y <;> simp [bc]
theorem rising_pair : ∀ (bs : List Bits) (p : Bits), risingS (bstr p) (bs.map bstr) = true → (p :: bs).Pairwise (fun a b => leB a b = true)
  | [], p, _ => by simp
  | x :: bs, p, h => by
    rw [List.map_cons, risingS, bstr_cps, bstr_cps, ltCps_bits] at h
    obtain ⟨h1, h2⟩ := Bool.and_eq_true_iff.mp h
    have ih := rising_pair bs x h2
    refine List.pairwise_cons.mpr ⟨fun y hy => ?_, ih⟩
    rcases List.mem_cons.mp hy with e | hy
    · rw [e]; exact h1
    · exact leB_trans p x y h1 ((List.pairwise_cons.mp ih).1 y hy)
theorem sortedS_pair (bs : List Bits) (h : sortedS (bs.map bstr) = true) : bs.Pairwise (fun a b => leB a b = true) := by
  cases bs with
  | nil => exact List.Pairwise.nil
  | cons x r => exact rising_pair r x h
theorem perm_bstr {ys : List Str} {bs : List Bits} (h : ys.Perm (bs.map bstr)) : ∃ cs : List Bits, ys = cs.map bstr ∧ cs.Perm bs := by
  have hm : ∀ y ∈ ys, ∃ b, y = bstr b := fun y hy => by
    obtain ⟨b, _, e⟩ := List.mem_map.mp (h.mem_iff.mp hy)
    exact ⟨b, e.symm⟩
  obtain ⟨cs, rfl⟩ : ∃ cs : List Bits, ys = cs.map bstr := by
    clear h
    induction ys with
    | nil => exact ⟨[], rfl⟩
    | cons y ys ih =>
      obtain ⟨b, rfl⟩ := hm y List.mem_cons_self
      obtain ⟨cs, rfl⟩ := ih fun z hz => hm z (List.mem_cons_of_mem _ hz)
      exact ⟨b :: cs, rfl⟩
  refine ⟨cs, rfl, ?_⟩
  have key : ∀ (l : List Bits) (c : Bits), List.count (bstr c) (l.map bstr) = List.count c l := fun l c => by
    induction l with
    | nil => rfl
    | cons x l ih =>
      rw [List.map_cons, List.count_cons, List.count_cons, ih]
      by_cases e : x = c
      · subst e; simp
      · have e2 : ¬ bstr x = bstr c := fun q => e (bstr_inj.mp q)
        simp [e, e2]
  exact List.perm_iff_count.mpr fun c => by rw [← key, ← key]; exact h.count_eq _
theorem sorted_bits {ys : List Str} {bs : List Bits} (h : ys.Perm (bs.map bstr)) (hs : sortedS ys = true) : ys = (sortB bs).map bstr := by
  obtain ⟨cs, rfl, hp⟩ := perm_bstr h
  rw [sortB_uniq hp (sortedS_pair cs hs)]
/-! ### the rules -/
section
variable {X : Cx}
/-- sorted(xs), texts -/
theorem cr_sortedLA : CallR X (.builtin "sorted") (fun vs H Q => ∃ (a : Addr) (xs : List Str), vs = [V.ref a] ∧ SqL X.K H a (xs.map V.str) ∧ ∀ ys p, ys.Perm xs → sortedS ys = true → H p = none → Q (.ref p) (upd H p (.lst (ys.map V.str)))) := by
  intro pins s σ H vs us Q I r h
  obtain ⟨a, xs, rfl, hs, q⟩ := h
  obtain ⟨its, rv, hl, hz⟩ := I.list hs
  rw [Vals.ref1 r]
  have hlen0 := rv.length
  rw [List.length_map] at hlen0
  have hz2 : xs.length ≤ sizeLine := by rw [List.length_map] at hz; exact hz
  refine PyProof.Rows.sorted_strsAny hl.isList rv.strs (by rw [← hlen0]; exact hz2) fun out ys h1 h2 h3 => ?_
  obtain ⟨ep, he'⟩ := PyProof.Rows.sortedAll_at s.heap its out
  have hlen : (ys.map V.str).length ≤ sizeLine := by rw [List.length_map, h2.length_eq]; exact hz2
  exact ⟨.ref _, upd H (s.heap.objs.size + 1) (.lst (ys.map V.str)), I.laid (t' := s.toks) (fun _ _ => PyProof.Rows.sortedAll_old) (Nat.le_succ _) ⟨hlen, out.toList, ep, vals_of_strs h1, he'⟩, rfl, q ys _ h2 h3 (I.hok.fresh (Nat.le_succ _))⟩
/-- sorted(d), a dict's keys, texts -/
theorem cr_sortedDA (hcalm : X.calm = true) : CallR X (.builtin "sorted") (fun xs H Q => ∃ (a : Addr) (kvs : List (Key × V)) (ks : List Str), xs = [.ref a] ∧ Rd H a (.dK kvs) ∧ kvs.map (·.1) = ks.map Sum.inr ∧
    ∀ ys p, ys.Perm ks → sortedS ys = true → H p = none → Q (.ref p) (upd H p (.lst (ys.map V.str)))) := by
  intro pins s σ H xs us Q I r q
  obtain ⟨a, kvs, ks, ex, hd, hks, q⟩ := q
  subst ex
  obtain ⟨u, eu, rx⟩ := vals1 r
  subst eu
  cases rx
  obtain ⟨z, lo, vs, rel, dd⟩ := dk_rd I.hok hd
  obtain ⟨ep, hat⟩ := dd.dictAt
  have hkeys : vs.map (·.1) = ks.map Sum.inr := rel.keys.symm.trans hks
  have hl : vs.length = ks.length := by
    have e := congrArg List.length hkeys
    rw [List.length_map, List.length_map] at e
    exact e
  have h16 : vs.length ≤ sizeLine := by rw [← rel.length]; exact z
  refine Calls.call_function_entry PyProof.Rows.kind_sorted PyProof.Rows.plain_sorted PyProof.Rows.entry_sorted (PyProof.Rows.args_sorted1 _) ?_
  unfold Builtin.«sorted»
  refine wpAny_bind (m := checkCount "sorted" 1 1 _) (wpAny_pure ?_)
  refine wpAny_bind (PySem.W.kdu_collect (A := X.A.in1) (PySem.W.kdl_dict (knd := mixKind X.prog X.w) (kvs := vs) (ep := ep) lo) (I.ok.hd hcalm) hat h16 fun h' tk acc hk hacc => ?_)
  have hal : acc.toList.length = ks.length := by rw [Array.length_toList, hacc.1, hl]
  have hS : StrsAre acc.toList ks := strs_at hal fun j v e => by
    obtain ⟨k, x, e1, e2⟩ := hacc.2 j v (by rw [← Array.getElem?_toList]; exact e)
    have e3 : (vs.map (·.1))[j]? = some k := by rw [List.getElem?_map, e1]; all_goals rfl
    rw [hkeys, List.getElem?_map] at e3
    cases e4 : ks[j]? with
    | none => rw [e4] at e3; cases e3
    | some y =>
      rw [e4] at e3
      have e5 : Sum.inr y = k := Option.some.inj e3
      subst e5
      obtain ⟨t, ev⟩ := Value.isStrOf_shape (x := y) (v := v) e2
      exact ⟨y, t, rfl, ev⟩
  have I1 : Inv X pins σ H { s with heap := h', toks := tk } := I.kept hk
  have h17 : ks.length ≤ sizeLine := by rw [← hl]; exact h16
  refine wpAny_bind (wpAny_newList ?_ (by rw [hal]; exact h17))
  have hoL : (h'.push (seqObj "list" acc.toList.toArray 0)).get? h'.objs.size = some (seqObj "list" acc.toList.toArray 0) := Heap.get?_push_size _ rfl
  show wpAny _ _ _ _ _ { s with heap := h'.push (seqObj "list" acc.toList.toArray 0), toks := tk }
  refine wpAny_bind (wpAny_holding (wpAny_call_entry PyProof.Rows.slot_list_sort ⟨_, hoL, rfl⟩ PyProof.Rows.entry_list_sort
    (list_sort_treeKAny strKind_oneLt (s := { s with heap := h'.push (seqObj "list" acc.toList.toArray 0), toks := tk }) hoL hS.keysOf (fun v₁ v₂ rest e => keyKind_strs (by rw [← e]; exact hS)) (by rw [hal]; exact h17) fun st' hp hs => ⟨_, rfl, ?_⟩)
    (PyProof.Rows.args_list_sort _)))
  obtain ⟨ys, g1, g2, g3⟩ := sorted_out_str hS hp hs
  obtain ⟨e', he'⟩ := PyProof.Rows.sortedHeap_at (vs := acc.toList) (out := (arrOf st').map (·.2)) hoL
  have hlen : (ys.map V.str).length ≤ sizeLine := by
    rw [List.length_map, g2.length_eq]
    exact h17
  refine wpAny_pure ⟨_, rfl, .ref h'.objs.size, upd H h'.objs.size (.lst (ys.map V.str)), I1.laid (t' := tk) (fun b u e => ?_) (Nat.le_refl _)
    (show ObjOk X.prog X.w _ _ _ (.lst (ys.map V.str)) from ⟨hlen, ((arrOf st').map (·.2)).toList, e', vals_of_strs g1, by rw [Array.toArray_toList]; exact he'⟩), rfl, q ys _ g2 g3 (I1.hok.fresh (Nat.le_refl _))⟩
  have hb : b < h'.objs.size := Heap.lt_size e
  rw [PyProof.Rows.sortedHeap_old (Nat.ne_of_lt hb) (by rw [size_push']; exact Nat.lt_succ_of_lt hb)]
  exact Heap.get?_push_of_some _ e
end
end K2
/-! Comprehensions and loops whose turns make objects but change none: by a function of the item. -/
namespace K2
open PySem PySem.Spec PyProof.Rows L2 KH He
theorem szl {n : Nat} (h : n ≤ 1000000) : n ≤ sizeLine := by rw [sizeLine_eq]; omega
theorem szlt {n : Nat} (h : n < 1000000) : n < sizeLine := by rw [sizeLine_eq]; omega
theorem Ex.sq {K : Fr} {H H' : Hp} {a : Addr} {xs : List V} (e : Ex H H') (h : SqL K H a xs) : SqL K H' a xs := by
  rcases h with (h | ⟨o, h⟩) | h
  · exact .inl (.inl (e _ _ h))
  · exact .inl (.inr ⟨o, e _ _ h⟩)
  · exact .inr h
theorem Ex.sqT {K : Fr} {H H' : Hp} {a : Addr} {xs : List V} (e : Ex H H') (h : SqT K H a xs) : SqT K H' a xs := by
  rcases h with (h | ⟨o, h⟩) | h
  · exact .inl (.inl (e _ _ h))
  · exact .inl (.inr ⟨o, e _ _ h⟩)
  · exact .inr h
theorem Ex.rd {H H' : Hp} {a : Addr} {u : HO} (e : Ex H H') (h : Rd H a u) : Rd H' a u := by
  rcases h with h | ⟨o, h⟩
  · exact .inl (e _ _ h)
  · exact .inr ⟨o, e _ _ h⟩
/-- d locked: all else as it was -/
theorem Ex.unlock {H H' : Hp} {d : Addr} {od : Obj} {u : HO} (hd : H d = some u) (e : Ex (upd H d (.frz od u)) H') : Ex H (upd H' d u) := fun a o h => by
  by_cases q : a = d
  · rw [q] at h ⊢
    rw [upd_same, ← h, hd]
  · rw [upd_ne q]
    exact e a o (by rw [upd_ne q]; exact h)
theorem Ex.unlockF {H H' : Hp} {d : Addr} {od : Obj} {u : HO} (e : Ex (upd H d (.frz od u)) H') : H' d = some (.frz od u) := e d _ upd_same
/-- an iterator over the values xs, while Keep -/
structure Src (J : It) (xs : List V) (Keep : Hp → Prop) : Prop where
  go : ∀ i H, Keep H → i < xs.length → J.go i H
  stop : ∀ i H, Keep H → xs.length ≤ i → J.stop i H
  yld : ∀ i H x H', Keep H → i < xs.length → J.yld i H x H' → H' = H ∧ xs[i]? = some x
theorem src_list {K : Fr} {a : Addr} {xs : List V} : Src (Itl K a) xs (fun H => SqL K H a xs) where
  go := fun i H h hi => ⟨xs, xs[i], h, by simp [hi]⟩
  stop := fun i H h hi => ⟨xs, h, hi⟩
  yld := fun i H x H' h _ y => ⟨y.1, y.2 xs h⟩
theorem src_tup {K : Fr} {a : Addr} {xs : List V} : Src (Itt K a) xs (fun H => SqT K H a xs) where
  go := fun i H h hi => ⟨xs, xs[i], h, by simp [hi]⟩
  stop := fun i H h hi => ⟨xs, h, hi⟩
  yld := fun i H x H' h _ y => ⟨y.1, y.2 xs h⟩
theorem src_range {lo : Int} {n : Nat} : Src (Itr lo n) ((List.range n).map fun (i : Nat) => V.int (lo + (i : Int))) (fun _ => True) where
  go := fun i H _ hi => by
    rw [List.length_map, List.length_range] at hi
    exact hi
  stop := fun i H _ hi => by
    rw [List.length_map, List.length_range] at hi
    exact hi
  yld := fun i H x H' h hi y => ⟨y.1, by rw [List.length_map, List.length_range] at hi; rw [y.2, List.getElem?_map, List.getElem?_range hi]; rfl⟩
def signs (z : Str) : List V := z.cps.toList.map fun c => V.str ⟨#[c]⟩
theorem src_str {z : Str} : Src (Its z) (signs z) (fun _ => True) where
  go := fun i H _ hi => by
    show i < z.cps.size
    simpa [signs] using hi
  stop := fun i H _ hi => by
    show z.cps.size ≤ i
    simpa [signs] using hi
  yld := fun i H x H' h _ y => by
    obtain ⟨e1, c, e2, e3⟩ := y
    refine ⟨e1, ?_⟩
    rw [signs, List.getElem?_map, Array.getElem?_toList, e2, e3]
    rfl
theorem src_keys {d : Addr} {o : Obj} {kvs : List (Key × V)} : Src (Itk d o kvs) (kvs.map fun q => kV q.1) (fun H => H d = some (.frz o (.dK kvs))) where
  go := fun i H h hi => ⟨h, by simpa using hi⟩
  stop := fun i H h hi => ⟨h, by simpa using hi⟩
  yld := fun i H x H' h _ y => by
    obtain ⟨e1, k, v, e2, e3⟩ := y
    refine ⟨e1, ?_⟩
    rw [List.getElem?_map, e2, e3]
    rfl
section
variable {J : It} {xs : List V} {Keep : Hp → Prop} {g : TG} {tt : TT} {te tk tv : TE} {vs : List Nat} {σ : L2.St} {H : Hp} {D : Addr} {Qd : Hp → Prop}
/-- [elt for x in xs if test]: f tells the element, if there is one -/
theorem lcG (hJ : Src J xs Keep) (hk : ∀ H', Ex H H' → Keep H') (f : V → Option V) (hD : H D = none) (hz : xs.length ≤ 1000000)
    (turn : ∀ x, x ∈ xs → ∀ H', Ex H H' → ∀ (R : V → Hp → Prop) (S : Hp → Prop), (∀ y H4, f x = some y → Ex H' H4 → R y H4) → (∀ H3, f x = none → Ex H' H3 → S H3) →
      g x (wipe σ vs) H' fun σ2 H2 => wipe σ2 vs = wipe σ vs ∧ tt σ2 H2 fun b H3 => if b = true then te σ2 H3 R else S H3)
    (done : ∀ H', Ex H H' → H' D = some (.lst (xs.filterMap f)) → Qd H') :
    ∃ W : Nat → Nat → Hp → Prop, (∃ m, W 0 m (upd H D (.lst []))) ∧ ∀ i m H, W i m H → (J.stop i H ∧ Qd H) ∨ (J.go i H ∧ ∃ Nx : Hp → Prop, (∀ H', Nx H' → ∃ m', m' < m ∧ W (i + 1) m' H') ∧
      ∀ x H', J.yld i H x H' → g x (wipe σ vs) H' fun σ2 H2 => wipe σ2 vs = wipe σ vs ∧ tt σ2 H2 fun b H3 =>
        if b = true then te σ2 H3 fun y H4 => ∃ acc, H4 D = some (.lst acc) ∧ acc.length < sizeLine ∧ Nx (upd H4 D (.lst (acc ++ [y]))) else Nx H3) := by
  refine ⟨fun i m H' => m = xs.length - i ∧ i ≤ xs.length ∧ Ex H H' ∧ H' D = some (.lst ((xs.take i).filterMap f)), ⟨xs.length, by simp, Nat.zero_le _, Ex.rfl'.up hD, upd_same⟩, ?_⟩
  rintro i m H1 ⟨rfl, hi, e1, d1⟩
  have kp := hk H1 e1
  by_cases hlt : i < xs.length
  · refine .inr ⟨hJ.go i H1 kp hlt, fun H' => Ex H H' ∧ H' D = some (.lst ((xs.take (i + 1)).filterMap f)), fun H' p => ⟨xs.length - (i + 1), by omega, rfl, hlt, p.1, p.2⟩, fun x H' y => ?_⟩
    obtain ⟨rfl, ex⟩ := hJ.yld i H1 x H' kp hlt y
    have et : xs.take (i + 1) = xs.take i ++ [x] := by
      rw [List.take_succ, ex]; rfl
    refine turn x (List.mem_of_getElem? ex) H' e1 _ _ (fun y H4 hf e4 => ⟨_, e4 D _ d1, ?_, (e1.tr e4).up hD, ?_⟩) fun H3 hf e3 => ⟨e1.tr e3, ?_⟩
    · have h1 := List.length_filterMap_le f (xs.take i)
      rw [List.length_take] at h1
      exact szlt (by omega)
    · rw [upd_same, et, List.filterMap_append]
      simp [hf]
    · rw [e3 D _ d1, et, List.filterMap_append]
      simp [hf]
  · have ei : i = xs.length := by omega
    subst ei
    rw [List.take_length] at d1
    exact .inl ⟨hJ.stop _ H1 kp (Nat.le_refl _), done H1 e1 d1⟩
/-- {k: v for x in xs if test}: f tells key and value -/
theorem dcG (hJ : Src J xs Keep) (hk : ∀ H', Ex H H' → Keep H') (f : V → Option (Key × V)) (hD : H D = none) (hz : xs.length ≤ 1000000)
    (turn : ∀ x, x ∈ xs → ∀ H', Ex H H' → ∀ (R : V → V → Hp → Prop) (S : Hp → Prop), (∀ k y H4, f x = some (k, y) → Ex H' H4 → R (kV k) y H4) → (∀ H3, f x = none → Ex H' H3 → S H3) →
      g x (wipe σ vs) H' fun σ2 H2 => wipe σ2 vs = wipe σ vs ∧ tt σ2 H2 fun b H3 => if b = true then tk σ2 H3 fun y H4 => tv σ2 H4 fun z H5 => R y z H5 else S H3)
    (done : ∀ H', Ex H H' → H' D = some (.dK (mergeK [] (xs.filterMap f))) → Qd H') :
    ∃ W : Nat → Nat → Hp → Prop, (∃ m, W 0 m (upd H D (.dK []))) ∧ ∀ i m H, W i m H → (J.stop i H ∧ Qd H) ∨ (J.go i H ∧ ∃ Nx : Hp → Prop, (∀ H', Nx H' → ∃ m', m' < m ∧ W (i + 1) m' H') ∧
      ∀ x H', J.yld i H x H' → g x (wipe σ vs) H' fun σ2 H2 => wipe σ2 vs = wipe σ vs ∧ tt σ2 H2 fun b H3 =>
        if b = true then tk σ2 H3 fun y H4 => tv σ2 H4 fun z H5 => ∃ kvs k, y = kV k ∧ H5 D = some (.dK kvs) ∧ kvs.length < sizeLine ∧ Nx (upd H5 D (.dK (putK kvs k z))) else Nx H3) := by
  have len : ∀ l : List (Key × V), (mergeK [] l).length ≤ l.length := fun l => by
    have key : ∀ (l : List (Key × V)) (acc : List (Key × V)), (mergeK acc l).length ≤ acc.length + l.length := fun l => by
      induction l with
      | nil => intro acc; exact Nat.le_refl _
      | cons p l ih =>
        intro acc
        have h1 := ih (putK acc p.1 p.2)
        have h2 := length_putK acc p.1 p.2
        show (mergeK (putK acc p.1 p.2) l).length ≤ _
        simp only [List.length_cons]
        omega
    have := key l []
    simpa using this
  refine ⟨fun i m H' => m = xs.length - i ∧ i ≤ xs.length ∧ Ex H H' ∧ H' D = some (.dK (mergeK [] ((xs.take i).filterMap f))), ⟨xs.length, by simp, Nat.zero_le _, Ex.rfl'.up hD, upd_same⟩, ?_⟩
  rintro i m H1 ⟨rfl, hi, e1, d1⟩
  have kp := hk H1 e1
  by_cases hlt : i < xs.length
  · refine .inr ⟨hJ.go i H1 kp hlt, fun H' => Ex H H' ∧ H' D = some (.dK (mergeK [] ((xs.take (i + 1)).filterMap f))), fun H' p => ⟨xs.length - (i + 1), by omega, rfl, hlt, p.1, p.2⟩, fun x H' y => ?_⟩
    obtain ⟨rfl, ex⟩ := hJ.yld i H1 x H' kp hlt y
    have et : xs.take (i + 1) = xs.take i ++ [x] := by
      rw [List.take_succ, ex]; rfl
    refine turn x (List.mem_of_getElem? ex) H' e1 (fun y z H5 => ∃ kvs k, y = kV k ∧ H5 D = some (.dK kvs) ∧ kvs.length < sizeLine ∧ (Ex H (upd H5 D (.dK (putK kvs k z))) ∧ (upd H5 D (.dK (putK kvs k z))) D = some (.dK (mergeK [] ((xs.take (i + 1)).filterMap f))))) _ (fun k y H4 hf e4 => ⟨_, k, rfl, e4 D _ d1, ?_, (e1.tr e4).up hD, ?_⟩) fun H3 hf e3 => ⟨e1.tr e3, ?_⟩
    · have h1 := List.length_filterMap_le f (xs.take i)
      have h2 := len ((xs.take i).filterMap f)
      rw [List.length_take] at h1
      exact szlt (by omega)
    · rw [upd_same, et, List.filterMap_append, mergeK, mergeK, List.foldl_append]
      simp [hf]
    · rw [e3 D _ d1, et, List.filterMap_append]
      simp [hf]
  · have ei : i = xs.length := by omega
    subst ei
    rw [List.take_length] at d1
    exact .inl ⟨hJ.stop _ H1 kp (Nat.le_refl _), done H1 e1 d1⟩
end
/-- keys that differ: the entries as they come -/
theorem mergeK_nodup : ∀ (l acc : List (Key × V)), ((acc ++ l).map (·.1)).Nodup → mergeK acc l = acc ++ l
  | [], acc, _ => by simp [mergeK]
  | p :: l, acc, h => by
    have hn : ¬ p.1 ∈ acc.map (·.1) := by
      rw [List.map_append, List.map_cons] at h
      intro hm
      exact (List.nodup_append.mp h).2.2 _ hm _ List.mem_cons_self rfl
    have e : putK acc p.1 p.2 = acc ++ [p] := by
      unfold putK
      rw [if_neg]
      intro hc
      obtain ⟨q, hq, e⟩ := List.any_eq_true.mp hc
      exact hn (List.mem_map.mpr ⟨q, hq, of_decide_eq_true e⟩)
    have ih := mergeK_nodup l (acc ++ [p]) (by simpa using h)
    show mergeK (putK acc p.1 p.2) l = _
    rw [e, ih]
    simp
/-! a dict that an expression makes, walked: it stays locked -/
def iKeysL (td : TE) : TI := fun σ H R => td σ H fun x H1 => ∃ d kvs, x = .ref d ∧ H1 d = some (.dK kvs) ∧ ∀ o, R (Itk d o kvs) (upd H1 d (.frz o (.dK kvs)))
theorem pi_keysL {X : Cx} {tg e : Expr} {td : TE} (he : PE X e td) : PI X tg e (iKeysL td) := by
  refine ⟨fun pins s σ H R I h => ?_⟩
  refine thn (he.run pins s σ H _ I h) fun u s1 ⟨x, H1, I1, rx, d, kvs, ex, hd, q⟩ => ?_
  subst ex
  obtain rfl : u = Value.ref d := rx
  obtain ⟨od, I2⟩ := I1.lock hd trivial
  have hd2 : (upd H1 d (.frz od (.dK kvs))) d = some (.frz od (.dK kvs)) := upd_same
  obtain ⟨hs, hgd, hx, es, ep, vs, hdt, hsz, kv, hm⟩ := I2.frzK hd2
  refine iter_keys hs hgd hx hdt (pi_one (tk := s1.toks) I2 _ (turn_keys _ hdt) ⟨_, Heap.get?_push_size _ rfl, rfl, ?_⟩ (q od))
  rw [hsz] <;> rfl
end K2
/-! Rows of tables as data; the closure, its leaves; where an address leads. -/
namespace K2
open PySem PySem.Spec PyProof.Rows L2 KH He
abbrev Rows := List (Bits × Str)
abbrev bk (b : Bits) : Key := Sum.inr (bstr b)
theorem bk_inj {a b : Bits} : bk a = bk b ↔ a = b := ⟨fun h => bstr_inj.mp (Sum.inr.inj h), fun h => by rw [h]⟩
def rK (r : Rows) : List (Key × V) := r.map fun x => (bk x.1, V.str x.2)
/-- entries by bit strings, any values -/
def eK (r : List (Bits × V)) : List (Key × V) := r.map fun x => (bk x.1, x.2)
def rV (r : Rows) : List (Bits × V) := r.map fun x => (x.1, V.str x.2)
theorem rK_eq (r : Rows) : rK r = eK (rV r) := by simp [rK, eK, rV]
theorem valV_eK (r : List (Bits × V)) (b : Bits) : valV (eK r) (bk b) = r.lookup b := by
  induction r with
  | nil => rfl
  | cons x r ih =>
    by_cases e : x.1 = b
    · rw [show eK (x :: r) = (bk x.1, x.2) :: eK r from rfl, valV_pos (by rw [e])]
      rw [← e]
      obtain ⟨x1, x2⟩ := x
      simp
    · rw [show eK (x :: r) = (bk x.1, x.2) :: eK r from rfl, valV_neg (fun h => e (bk_inj.mp h)), ih]
      obtain ⟨x1, x2⟩ := x
      have e2 : (b == x1) = false := beq_eq_false_iff_ne.mpr fun h => e h.symm
      simp [List.lookup, e2]
theorem lookup_rV (r : Rows) (b : Bits) : (rV r).lookup b = (r.lookup b).map V.str := by
  induction r with
  | nil => rfl
  | cons x r ih =>
    obtain ⟨x1, x2⟩ := x
    rw [show rV ((x1, x2) :: r) = (x1, V.str x2) :: rV r from rfl]
    cases e : (b == x1) with
    | true => simp [List.lookup, e]
    | false => simp [List.lookup, e, ih]
theorem valV_rK (r : Rows) (b : Bits) : valV (rK r) (bk b) = (r.lookup b).map V.str := by rw [rK_eq, valV_eK, lookup_rV]
theorem rK_len (r : Rows) : (rK r).length = r.length := by simp [rK]
theorem eK_keys (r : List (Bits × V)) : (eK r).map (·.1) = (r.map (·.1)).map bk := by simp [eK]
theorem rK_keys (r : Rows) : (rK r).map (·.1) = (r.map (·.1)).map bk := by simp [rK]
theorem rK_strs (r : Rows) : (rK r).map (·.1) = ((r.map (·.1)).map bstr).map Sum.inr := by simp [rK, bk]
/-- d[k] = v on rows -/
def putR {α : Type} (r : List (Bits × α)) (b : Bits) (v : α) : List (Bits × α) := if b ∈ r.map (·.1) then r.map (fun x => if x.1 = b then (x.1, v) else x) else r ++ [(b, v)]
theorem any_bk (l : List (Bits × V)) (b : Bits) : ((eK l).any fun kv => decide (kv.1 = bk b)) = decide (b ∈ l.map (·.1)) := by
  rw [Bool.eq_iff_iff, List.any_eq_true, decide_eq_true_eq, List.mem_map]
  constructor
  · rintro ⟨q, hq, e⟩
    obtain ⟨x, hx, rfl⟩ := List.mem_map.mp hq
    exact ⟨x, hx, bk_inj.mp (of_decide_eq_true e)⟩
  · rintro ⟨x, hx, e⟩
    exact ⟨_, List.mem_map.mpr ⟨x, hx, rfl⟩, decide_eq_true (bk_inj.mpr e)⟩
theorem putK_eK (l : List (Bits × V)) (b : Bits) (v : V) : putK (eK l) (bk b) v = eK (putR l b v) := by
  unfold putK putR
  rw [any_bk]
  by_cases h : b ∈ l.map (·.1)
  · rw [if_pos (decide_eq_true h), if_pos h]
    simp only [eK, List.map_map]
    apply List.map_congr_left
    intro x _
    by_cases e : x.1 = b
    · simp [e]
    · have e2 : ¬ bk x.1 = bk b := fun q => e (bk_inj.mp q)
      simp [e, e2]
  · rw [if_neg (by simpa using h), if_neg h]
    simp [eK]
theorem putK_rK (r : Rows) (b : Bits) (t : Str) : putK (rK r) (bk b) (V.str t) = rK (putR r b t) := by
  rw [rK_eq, putK_eK, rK_eq]
  congr 1
  unfold putR
  have e : b ∈ (rV r).map (·.1) ↔ b ∈ r.map (·.1) := by simp [rV]
  by_cases h : b ∈ r.map (·.1)
  · rw [if_pos (e.mpr h), if_pos h]
    simp only [rV, List.map_map]
    apply List.map_congr_left
    intro x _
    by_cases q : x.1 = b <;> simp [q]
  · rw [if_neg (fun q => h (e.mp q)), if_neg h]
    simp [rV]
theorem putR_keys {α : Type} (r : List (Bits × α)) (b : Bits) (v : α) : (putR r b v).map (·.1) = if b ∈ r.map (·.1) then r.map (·.1) else r.map (·.1) ++ [b] := by
  unfold putR
  split
  · rw [List.map_map]
    apply List.map_congr_left
    intro x _
    simp only [Function.comp]
    split <;> rfl
  · simp
theorem putR_nodup {α : Type} {r : List (Bits × α)} {b : Bits} {v : α} (h : (r.map (·.1)).Nodup) : ((putR r b v).map (·.1)).Nodup := by
  rw [putR_keys]
  split
  · exact h
  · rename_i hn
    rw [List.nodup_append]
    refine ⟨h, by simp, fun a ha c hc => ?_⟩
    rw [List.mem_singleton] at hc
    rw [hc]
    exact fun e => hn (e ▸ ha)
/-- sorted rows -/
def sortR (r : Rows) : Rows := (sortB (r.map (·.1))).filterMap fun b => (r.lookup b).map fun t => (b, t)
theorem lookup_some_of_mem {α : Type} {r : List (Bits × α)} {b : Bits} (h : b ∈ r.map (·.1)) : ∃ t, r.lookup b = some t := by
  induction r with
  | nil => cases h
  | cons x r ih =>
    obtain ⟨x1, x2⟩ := x
    cases e : (b == x1) with
    | true => exact ⟨x2, by simp [List.lookup, e]⟩
    | false =>
      have hb : b ∈ r.map (·.1) := by
        rcases List.mem_cons.mp h with q | q
        · rw [q] at e; simp at e
        · exact q
      obtain ⟨t, q⟩ := ih hb
      exact ⟨t, by simp [List.lookup, e, q]⟩
theorem mem_of_lookup' {α : Type} {r : List (Bits × α)} {b : Bits} {t : α} (h : r.lookup b = some t) : (b, t) ∈ r := by
  induction r with
  | nil => cases h
  | cons x r ih =>
    obtain ⟨x1, x2⟩ := x
    cases e : (b == x1) with
    | true =>
      have e2 := beq_iff_eq.mp e
      simp [List.lookup, e] at h
      subst e2 h
      exact List.mem_cons_self
    | false =>
      simp [List.lookup, e] at h
      exact List.mem_cons_of_mem _ (ih h)
theorem lookup_none_iff {α : Type} {r : List (Bits × α)} {b : Bits} : r.lookup b = none ↔ ¬ b ∈ r.map (·.1) := by
  constructor
  · intro h hm
    obtain ⟨t, q⟩ := lookup_some_of_mem hm
    rw [h] at q; cases q
  · intro h
    cases q : r.lookup b with
    | none => rfl
    | some t => exact absurd (List.mem_map.mpr ⟨_, mem_of_lookup' q, rfl⟩) h
theorem lookup_mem {α : Type} {r : List (Bits × α)} (h : (r.map (·.1)).Nodup) {x : Bits × α} (hx : x ∈ r) : r.lookup x.1 = some x.2 := by
  induction r with
  | nil => cases hx
  | cons y r ih =>
    obtain ⟨y1, y2⟩ := y
    rw [List.map_cons, List.nodup_cons] at h
    rcases List.mem_cons.mp hx with e | e
    · rw [e]
      simp [List.lookup]
    · have hm : x.1 ∈ r.map (·.1) := List.mem_map.mpr ⟨x, e, rfl⟩
      have e2 : (x.1 == y1) = false := beq_eq_false_iff_ne.mpr fun q => h.1 (by rw [← q]; exact hm)
      simp [List.lookup, e2, ih h.2 e]
theorem sortR_keys (r : Rows) : (sortR r).map (·.1) = sortB (r.map (·.1)) := by
  unfold sortR
  have key : ∀ l : List Bits, (∀ b ∈ l, b ∈ r.map (·.1)) → (l.filterMap fun b => (r.lookup b).map fun t => (b, t)).map (·.1) = l := by
    intro l
    induction l with
    | nil => intro _; rfl
    | cons b l ih =>
      intro h
      obtain ⟨t, q⟩ := lookup_some_of_mem (h b List.mem_cons_self)
      rw [List.filterMap_cons, q]
      simp only [Option.map_some, List.map_cons]
      rw [ih fun c hc => h c (List.mem_cons_of_mem _ hc)]
  exact key _ fun b hb => sortB_mem.mp hb
theorem sortR_lookup (r : Rows) (b : Bits) : (sortR r).lookup b = r.lookup b := by
  have key : ∀ l : List Bits, (l.filterMap fun b => (r.lookup b).map fun t => (b, t)).lookup b = if b ∈ l then r.lookup b else none := by
    intro l
    induction l with
    | nil => simp
    | cons c l ih =>
      rw [List.filterMap_cons]
      cases q : r.lookup c with
      | none =>
        simp only [Option.map_none]
        rw [ih]
        by_cases e : b = c
        · subst e
          rw [q]; simp
        · simp [e]
      | some t =>
        simp only [Option.map_some]
        by_cases e : b = c
        · subst e
          simp [List.lookup, q]
        · have e2 : (b == c) = false := beq_eq_false_iff_ne.mpr e
          simp [List.lookup, e2, ih, e]
  unfold sortR
  rw [key]
  by_cases h : b ∈ r.map (·.1)
  · rw [if_pos (sortB_mem.mpr h)]
  · rw [if_neg (fun q => h (sortB_mem.mp q)), lookup_none_iff.mpr h]
/-- the longest row that a bit string begins with: from the longest start on -/
def longB {α : Type} (r : List (Bits × α)) (b : Bits) : Option Bits := ((List.range (b.length + 1)).reverse.find? fun n => (r.lookup (b.take n)).isSome).map fun n => b.take n
def leadB {α : Type} (r : List (Bits × α)) (b : Bits) : Option α := (longB r b).bind fun q => r.lookup q
def oV : Option Str → V
  | none => .non
  | some s => .str s
/-- the longest key that b begins with -/
def Longest {α : Type} (r : List (Bits × α)) (b : Bits) (o : Option Bits) : Prop :=
  match o with
  | none => ∀ q ∈ r.map (·.1), ¬ q <+: b
  | some q => q ∈ r.map (·.1) ∧ q <+: b ∧ ∀ q' ∈ r.map (·.1), q' <+: b → q'.length ≤ q.length
theorem pre_eq {a c b : Bits} (ha : a <+: b) (hc : c <+: b) (h : a.length = c.length) : a = c := by
  rw [List.prefix_iff_eq_take.mp ha, List.prefix_iff_eq_take.mp hc, h]
theorem Longest.uniq {α : Type} {r : List (Bits × α)} {b : Bits} {o o' : Option Bits} (h : Longest r b o) (h' : Longest r b o') : o = o' := by
  cases o with
  | none =>
    cases o' with
    | none => rfl
    | some q => exact absurd h'.2.1 (h q h'.1)
  | some q =>
    cases o' with
    | none => exact absurd h.2.1 (h' q h.1)
    | some q' =>
      have e1 := h.2.2 q' h'.1 h'.2.1
      have e2 := h'.2.2 q h.1 h.2.1
      rw [pre_eq h.2.1 h'.2.1 (by omega)]
theorem longB_longest {α : Type} (r : List (Bits × α)) (b : Bits) : Longest r b (longB r b) := by
  unfold longB
  cases q : (List.range (b.length + 1)).reverse.find? fun n => (r.lookup (b.take n)).isSome with
  | none =>
    intro k hk hp
    have h := List.find?_eq_none.mp q k.length (by
      rw [List.mem_reverse, List.mem_range]
      exact Nat.lt_succ_of_le hp.length_le)
    rw [← List.prefix_iff_eq_take.mp hp] at h
    obtain ⟨t, e⟩ := lookup_some_of_mem hk
    rw [e] at h
    exact h rfl
  | some n =>
    obtain ⟨h1, l1, l2, h2, h3⟩ := List.find?_eq_some_iff_append.mp q
    have hn : n ≤ b.length := by
      have : n ∈ (List.range (b.length + 1)).reverse := by rw [h2]; simp
      rw [List.mem_reverse, List.mem_range] at this
      omega
    refine ⟨?_, List.take_prefix n b, fun k hk hp => ?_⟩
    · obtain ⟨t, e⟩ := Option.isSome_iff_exists.mp h1
      exact List.mem_map.mpr ⟨_, mem_of_lookup' e, rfl⟩
    · rw [List.length_take, Nat.min_eq_left hn]
      apply Classical.byContradiction
      intro hlt
      have hk1 : k.length ∈ l1 := by
        have hm : k.length ∈ (List.range (b.length + 1)).reverse := by
          rw [List.mem_reverse, List.mem_range]
          exact Nat.lt_succ_of_le hp.length_le
        rw [h2] at hm
        rcases List.mem_append.mp hm with z | z
        · exact z
        · rcases List.mem_cons.mp z with z | z
          · omega
          · have hs : (List.range (b.length + 1)).reverse.Pairwise (· > ·) := by
              rw [List.pairwise_reverse]
              exact List.pairwise_lt_range
            rw [h2, List.pairwise_append] at hs
            have := (List.pairwise_cons.mp hs.2.1).1 _ z
            omega
      have h4 := h3 _ hk1
      rw [← List.prefix_iff_eq_take.mp hp] at h4
      obtain ⟨t, e⟩ := lookup_some_of_mem hk
      rw [e] at h4
      exact absurd h4 (by simp)
end K2
/-! C.m(..), m a static method of the class C. -/
namespace K2
open PySem PySem.Spec PyProof.Rows L2 KH He
structure StatOf (K : Fr) (C : Addr) (m : Str) (p g : Addr) : Prop where
  rd : ClX.CRead K C (.type "type")
  at_ : PySem.W.findCls K (.ref C) (.type "type") m = some (.get (.builtin "staticmethod.__get__") (.ref p) .none (.ref C))
  rc : ∃ rest, PySem.W.recIn K p "staticmethod" = some (.ref g :: rest)
def fStat (C m : Str) (K : Fr) : Bool :=
  (PySem.W.readsIn K (ga K C) (.type "type") && eqO (PySem.W.specialIn K (.ref (ga K C)) "__getattribute__") (some (some (.builtin "type.__getattribute__")))) &&
  ((match PySem.W.findCls K (.ref (ga K C)) (.type "type") m with
    | some (.get (.builtin n) (.ref p) .none (.ref c)) => decide (n = "staticmethod.__get__") && (decide (p = cA C m K) && decide (c = ga K C))
    | _ => false) && (match PySem.W.recIn K (cA C m K) "staticmethod" with
    | some (.ref _ :: _) => true
    | _ => false))
theorem stat_ok {C m : Str} {K : Fr} (h : fStat C m K = true) : StatOf K (ga K C) m (cA C m K) (rA "staticmethod" C m K) := by
  obtain ⟨h1, h2⟩ := ba (show (_ && _) = true from h)
  obtain ⟨a1, a2⟩ := ba h1
  obtain ⟨b1, b2⟩ := ba h2
  refine ⟨⟨a1, eqO_ok a2⟩, ?_, ?_⟩
  · split at b1
    · rename_i n p c e
      obtain ⟨c1, c2⟩ := ba b1
      obtain ⟨c3, c4⟩ := ba c2
      rw [e, of_decide_eq_true c1, of_decide_eq_true c3, of_decide_eq_true c4]
    · cases b1
  · unfold rA
    split at b2
    · rename_i g r e
      rw [e]
      exact ⟨r, rfl⟩
    · cases b2
def OkS (P : Program) (w : World) (K : Fr) (mg : Str → Option Value) (base : Heap) (k : Nat) (C : Addr) (m : Str) (ps : List Str) (sp : Sp) : Prop :=
  ∃ p g fd, StatOf K C m p g ∧ PySem.W.keepIn K (.ref g) = true ∧ Binds K fd ps [] ∧ FnOk P w K mg base (L2.CX P w) k g fd ps sp
def tSMeth (C : Addr) (sp : Sp) (E : XK) (ta : TE) (t : TA) : TE := fun σ H Q => ta σ H fun x H1 => x = .ref C ∧ t σ H1 fun vs H2 => sp (vs ++ []) H2 Q E
section
variable {X : Cx} {m : Str} {C : Addr} {ps : List Str} {sp : Sp} {e o : Expr} {es : List Expr} {t : TA} {ta : TE} {p pos apos : Pos} {k : Nat}
theorem psm {pl : Sem Bool} (h : OkS X.prog X.w X.K X.mg X.base k C m ps sp) (hr : Room k X.A) (ho : PE X o ta) (ha : PA X (e :: es) t)
    (hst : starEach (e :: es) X.env = (false, eval e X.env) :: starEach es X.env := by rfl) (hpl : (backTo pos (starEach es X.env)).any (·.1) = false := by rfl)
    (ht : eval (.Call (.Attribute o m apos) (e :: es) [] pos) X.env = (do
      let ov ← eval o X.env
      standAt apos.atName
      let (f, first) ← holding [ov] (getMethod ov m pl)
      callWith pos f first (backTo pos (starEach (e :: es) X.env)) (backToKw pos (keywordEach [] X.env))) := by rfl) :
    PE X (.Call (.Attribute o m apos) (e :: es) [] pos) (tSMeth C sp E0 ta t) := by
  obtain ⟨p, g, fd, st, kp, b, F⟩ := h
  refine ⟨fun pins s σ H Q I h => ?_⟩
  refine PySem.W.methodCall_KW (pl := pl) (thn (ho.run pins s σ H _ I h) fun u s1 ⟨x, H1, I1, rx, ex, q⟩ => ?_) ht
  subst ex
  obtain rfl : u = Value.ref C := rx
  obtain ⟨rest, hp⟩ := st.rc
  refine PySem.W.method_cls I1.kIn st.rd.ga (PySem.W.cls_bind I1.kIn st.rd.rd st.at_ ?_)
  refine wpAny_call (PySem.W.sm_get (s := { s1 with toks := s1.toks + 1 }) I1.kIn hp (PySem.W.handed_on rfl ?_))
  refine PySem.W.callWith_K (h₀ := X.base) I1.ok.mod.kin kp (thn (ha.run pos pins _ σ H1 _ (I1.tok _) q) fun us s2 ⟨vs, H2, I2, r, q2⟩ => ⟨I2.kIn, ?_⟩) hst hpl
  exact run_fn F hr b .nil passL I2 r q2
end
theorem rd_sm {C : Addr} {sp : Sp} {E : XK} {te : TE} {tr : TA} {σ : L2.St} {H : Hp} {Q : VK} (h : te σ H fun x H1 => x = .ref C ∧ tr σ H1 fun vs H2 => sp (vs ++ []) H2 Q E) : tSMeth C sp E te tr σ H Q := h
theorem rd_ref {a : Addr} {S : Prop} (q : S) : V.ref a = V.ref a ∧ S := ⟨rfl, q⟩
end K2
/-! The rules that speak of the written part K, with K a letter (within comprehensions the context is another). -/
namespace K2
open PySem PySem.Spec PyProof.Rows L2 KH He
section
variable {X : Cx} {K : Fr}
theorem k_in (h : X.K = K := by rfl) : OpR X (compareOp .In) (rIn K false) := h ▸ op_in_seq
theorem k_notIn (h : X.K = K := by rfl) : OpR X (compareOp .NotIn) (rIn K true) := h ▸ op_notIn_seq
theorem k_ixL (h : X.K = K := by rfl) : IxR X (rIxL K) := h ▸ ix_list
theorem k_ixT (h : X.K = K := by rfl) : IxR X (rIxT K) := h ▸ ix_tup
theorem k_slL (h : X.K = K := by rfl) : SlR X (rSlL K) := h ▸ sl_list
theorem k_slT (h : X.K = K := by rfl) : SlR X (rSlT K) := h ▸ sl_tup
theorem k_isi (h : X.K = K := by rfl) : CallR X (.builtin "isinstance") (rIsi K) := h ▸ call_isi
theorem k_all (h : X.K = K := by rfl) (hc : X.calm = true := by rfl) : CallR X (.builtin "all") (rAll K) := h ▸ cr_all hc
theorem k_any (h : X.K = K := by rfl) (hc : X.calm = true := by rfl) : CallR X (.builtin "any") (rAny K) := h ▸ cr_any hc
theorem k_sum (h : X.K = K := by rfl) (hc : X.calm = true := by rfl) : CallR X (.builtin "sum") (rSum K) := h ▸ cr_sum hc
def rLenQ (K : Fr) : List V → Hp → VK → Prop := fun xs H Q => ∃ p ys, xs = [.ref p] ∧ (SqL K H p ys ∨ SqT K H p ys) ∧ Q (.int ys.length) H
theorem k_len (h : X.K = K := by rfl) : CallR X (.builtin "len") (rLenQ K) := h ▸ call_len_seq
def rLenZ : List V → Hp → VK → Prop := fun xs H Q => ∃ z, xs = [.str z] ∧ z.length ≤ sizeLine ∧ Q (.int z.length) H
theorem k_lenS : CallR X (.builtin "len") rLenZ := call_len_str
theorem k_eqD (hu : X.A.units + 64 < cLine) (h : X.K = K := by rfl) : OpR X (compareOp .Eq) (rEqD K) := h ▸ op_eqD hu
theorem k_neD (hu : X.A.units + 64 < cLine) (h : X.K = K := by rfl) : OpR X (compareOp .NotEq) (rNeD K) := h ▸ op_neD hu
theorem k_catT (h : X.K = K := by rfl) : OpR X (binaryOp .Add) (rCatT K) := h ▸ op_catT
def rListO (K : Fr) : List V → Hp → VK → Prop := fun xs H Q => ∃ p ys, xs = [.ref p] ∧ (SqL K H p ys ∨ SqT K H p ys) ∧ ∀ l, H l = none → Q (.ref l) (upd H l (.lst ys))
theorem k_listO (h : X.K = K := by rfl) : CallR X (.type "list") (rListO K) := h ▸ call_list_of
def rListD : List V → Hp → VK → Prop := fun xs H Q => ∃ (a : Addr) (kvs : List (Key × V)), xs = [.ref a] ∧ Rd H a (.dK kvs) ∧ ∀ p, H p = none → Q (.ref p) (upd H p (.lst (kvs.map fun q => kV q.1)))
def rDictD : List V → Hp → VK → Prop := fun xs H Q => ∃ (a : Addr) (kvs : List (Key × V)), xs = [.ref a] ∧ Rd H a (.dK kvs) ∧ ∀ p, H p = none → Q (.ref p) (upd H p (.dK kvs))
theorem k_dictD : CallR X (.type "dict") rDictD := call_dictD
def rSortD : List V → Hp → VK → Prop := fun xs H Q => ∃ (a : Addr) (kvs : List (Key × V)) (ks : List Str), xs = [.ref a] ∧ Rd H a (.dK kvs) ∧ kvs.map (·.1) = ks.map Sum.inr ∧
    ∀ ys p, ys.Perm ks → sortedS ys = true → H p = none → Q (.ref p) (upd H p (.lst (ys.map V.str)))
theorem k_sortD (hc : X.calm = true := by rfl) : CallR X (.builtin "sorted") rSortD := cr_sortedDA hc
def rSortL (K : Fr) : List V → Hp → VK → Prop := fun vs H Q => ∃ (a : Addr) (xs : List Str), vs = [V.ref a] ∧ SqL K H a (xs.map V.str) ∧ ∀ ys p, ys.Perm xs → sortedS ys = true → H p = none → Q (.ref p) (upd H p (.lst (ys.map V.str)))
theorem k_sortL (h : X.K = K := by rfl) : CallR X (.builtin "sorted") (rSortL K) := h ▸ cr_sortedLA
def rMulSI : R2 := fun x y H Q => ∃ z n, x = .str z ∧ y = .int n ∧ MulOk z n ∧ Q (.str (Txt.mul z n)) H
theorem k_mulSI : OpR X (binaryOp .Mult) rMulSI := op_mul_si
def rAddZ : R2 := fun x y H Q => ∃ i j, x = .str i ∧ y = .str j ∧ i.length + j.length ≤ sizeLine ∧ Q (.str (i ++ j)) H
theorem k_addZ : OpR X (binaryOp .Add) rAddZ := op_add_str
def rIsN2 : R2 := fun x y H Q => y = .non ∧ Q (.bl (decide (x = .non))) H
def rNotN2 : R2 := fun x y H Q => y = .non ∧ Q (.bl (!decide (x = .non))) H
theorem k_isN : OpR X (compareOp .Is) rIsN2 := op_isN
theorem k_notN : OpR X (compareOp .IsNot) rNotN2 := op_notN
def rMin2 : List V → Hp → VK → Prop := fun xs H Q => ∃ i j, xs = [.int i, .int j] ∧ Q (.int (if j < i then j else i)) H
theorem k_min2 (hc : X.calm = true := by rfl) : CallR X (.builtin "min") rMin2 := call_min2 hc
variable {o e value tg l : Expr} {es : List Expr} {f : Str} {pos pos' : Pos} {ta tv : TE} {t : TA}
theorem k_fld (he : PE X e ta) (h : X.K = K := by rfl) (hb : attributeBase e f X.env (eval e X.env) = eval e X.env := by rfl) : PE X (.Attribute e f pos) (tFld K ta f) := h ▸ pe_fld he hb
theorem k_setF (ha : PE X o ta) (hv : PE X value tv) (h : X.K = K := by rfl) (hs : swapsWith value (some (.Attribute o f pos')) pos.line X.env = pure false := by rfl) : PS X (.Assign [.Attribute o f pos'] value pos) (sFld K ta tv f) := h ▸ ps_fld ha hv hs
theorem k_itL {tl : TE} (hl : PE X l tl) (h : X.K = K := by rfl) : PI X tg l (iList K tl) := h ▸ pi_list hl
theorem k_itT {tl : TE} (hl : PE X l tl) (h : X.K = K := by rfl) : PI X tg l (iTup K tl) := h ▸ pi_tup hl
theorem k_gTup {es : List Expr} {k : Nat} {t : TGs} {n : Nat} (hg : PGs X es t) (h : X.K = K := by rfl) (hc : X.calm = true := by rfl)
    (hn : (assignEach es X.env).length = n := by rfl) (hst : (assignEach es X.env).findIdx? (·.1) = none := by rfl) : PG X (.Tuple es k pos) (gTup K n t) := h ▸ pg_tup hc hg hn hst
theorem k_bm0 {name : Str} {T id : String} {r : V → List V → Hp → VK → Prop} {to : TE} {apos cpos : Pos} (pa : PlainAttrs T) (slot : Slot T name id) (hty : typeOf (.builtin id) = pure (.type "method_descriptor")) (hm : MtR X id r) (ho : PE X o to) (h : X.K = K := by rfl)
    (hbase : attributeBase o name X.env (eval o X.env) = eval o X.env := by rfl) (hline : (apos.endLine == cpos.line) = true := by rfl) : PE X (.Call (.Attribute o name apos) [] [] cpos) (tBM0 K T r to) := h ▸ pe_bm0 pa slot hty hm ho hbase hline
theorem k_bm {name : Str} {T id : String} {r : V → List V → Hp → VK → Prop} {to : TE} {apos cpos : Pos} (pa : PlainAttrs T) (slot : Slot T name id) (hty : typeOf (.builtin id) = pure (.type "method_descriptor")) (hm : MtR X id r) (ho : PE X o to) (ha : PA X (e :: es) t) (h : X.K = K := by rfl)
    (hbase : attributeBase o name X.env (eval o X.env) = eval o X.env := by rfl)
    (hfew : ((backTo cpos (starEach (e :: es) X.env)).all (fun x => !x.1) && (backToKw cpos (keywordEach [] X.env)).all (fun x => x.1.isSome)
      && decide ((e :: es).length + ([] : List Keyword).length + (if ([] : List Keyword).isEmpty then 0 else 1) < 30)) = true := by rfl)
    (hline : (apos.endLine == cpos.line) = true := by rfl) (hs : starEach (e :: es) X.env = (false, eval e X.env) :: starEach es X.env := by rfl) (hplain : (backTo cpos (starEach es X.env)).any (·.1) = false := by rfl) :
    PE X (.Call (.Attribute o name apos) (e :: es) [] cpos) (tBM K T r to t) := h ▸ pe_bm pa slot hty hm ho ha hbase hfew hline hs hplain
end
/-! readings of these -/
section
variable {K : Fr} {σ : L2.St} {H : Hp} {Q : VK} {v x y : V} {ta tb te : TE} {nx bk ct : L2.St → Hp → Prop} {rt : VK}
theorem rd_lenZ {z : Str} (h : z.length ≤ sizeLine) (q : Q (.int z.length) H) : rLenZ [.str z] H Q := ⟨z, rfl, h, q⟩
theorem rd_lenL {p : Addr} {ys : List V} (h : SqL K H p ys) (q : Q (.int ys.length) H) : rLenQ K [.ref p] H Q := ⟨p, ys, rfl, .inl h, q⟩
theorem rd_lenT {p : Addr} {ys : List V} (h : SqT K H p ys) (q : Q (.int ys.length) H) : rLenQ K [.ref p] H Q := ⟨p, ys, rfl, .inr h, q⟩
theorem rd_mulSI {z : Str} {n : Int} (h : MulOk z n) (q : Q (.str (Txt.mul z n)) H) : rMulSI (.str z) (.int n) H Q := ⟨z, n, rfl, rfl, h, q⟩
theorem rd_addZ {i j : Str} (h : i.length + j.length ≤ sizeLine) (q : Q (.str (i ++ j)) H) : rAddZ (.str i) (.str j) H Q := ⟨i, j, rfl, rfl, h, q⟩
theorem rd_isN2 (q : Q (.bl (decide (x = .non))) H) : rIsN2 x .non H Q := ⟨rfl, q⟩
theorem rd_notN2 (q : Q (.bl (!decide (x = .non))) H) : rNotN2 x .non H Q := ⟨rfl, q⟩
theorem rd_min2 {i j : Int} (q : Q (.int (if j < i then j else i)) H) : rMin2 [.int i, .int j] H Q := ⟨i, j, rfl, q⟩
theorem rd_ixL {p : Addr} {xs : List V} {i : Int} (h : SqL K H p xs) (a : atI xs i = some v) (q : Q v H) : rIxL K (.ref p) (.int i) H Q := ⟨p, xs, i, v, rfl, rfl, h, a, q⟩
theorem rd_ixT {p : Addr} {xs : List V} {i : Int} (h : SqT K H p xs) (a : atI xs i = some v) (q : Q v H) : rIxT K (.ref p) (.int i) H Q := ⟨p, xs, i, v, rfl, rfl, h, a, q⟩
theorem rd_fldV {a C dx : Addr} {fs : List (Str × V)} {f : Str} (h : H a = some (.ins C dx fs)) (c : Cls K C) (n : NoAttr K C f) (l : fs.lookup f = some v) (q : Q v H) : ∃ a' C' dx' fs' v', V.ref a = .ref a' ∧ H a' = some (.ins C' dx' fs') ∧ Cls K C' ∧ NoAttr K C' f ∧ fs'.lookup f = some v' ∧ Q v' H :=
  ⟨a, C, dx, fs, v, rfl, h, c, n, l, q⟩
theorem rd_bm0 {T : String} {r : V → List V → Hp → VK → Prop} (h : te σ H fun x H1 => tyV K T x H1 ∧ r x [] H1 Q) : tBM0 K T r te σ H Q := h
theorem rd_bm {T : String} {r : V → List V → Hp → VK → Prop} {tr : TA} (h : te σ H fun x H1 => tyV K T x H1 ∧ tr σ H1 fun xs H2 => r x xs H2 Q) : tBM K T r te tr σ H Q := h
theorem rd_setF {f : Str} (h : tb σ H fun y H1 => ta σ H1 fun x H2 => ∃ a C dx fs, x = .ref a ∧ H2 a = some (.ins C dx fs) ∧ Cls K C ∧ NoAttr K C f ∧ fs.length < 1000 ∧ nx σ (upd H2 a (.ins C dx (putF f y fs)))) : sFld K ta tb f ⟨nx, rt, bk, ct⟩ σ H := h
theorem tyL {p : Addr} {xs : List V} (h : H p = some (.lst xs)) : tyV K "list" (.ref p) H := .inl ⟨rfl, _, SqL.of h⟩
end
/-! what is walked -/
section
variable {K : Fr} {σ : L2.St} {H : Hp} {Q : VK} {te tk tv : TE} {wi : TI} {g : TG} {tt : TT} {tb : TS} {vs : List Nat} {nx bk ct : L2.St → Hp → Prop} {rt : VK} {R : It → Hp → Prop} {J : It} {xs : List V} {Keep : Hp → Prop}
theorem rd_lc (h : wi σ H fun J H1 => ∀ D, H1 D = none → ∃ W : Nat → Nat → Hp → Prop, (∃ m, W 0 m (upd H1 D (.lst []))) ∧ ∀ i m H, W i m H →
  (J.stop i H ∧ Q (.ref D) H) ∨ (J.go i H ∧ ∃ Nx : Hp → Prop, (∀ H', Nx H' → ∃ m', m' < m ∧ W (i + 1) m' H') ∧ ∀ x H', J.yld i H x H' → g x (wipe σ vs) H' fun σ2 H2 => wipe σ2 vs = wipe σ vs ∧ tt σ2 H2 fun b H3 =>
    if b = true then te σ2 H3 fun y H4 => ∃ acc, H4 D = some (.lst acc) ∧ acc.length < sizeLine ∧ Nx (upd H4 D (.lst (acc ++ [y]))) else Nx H3)) : tLc wi g tt te vs σ H Q := h
theorem rd_dc (h : wi σ H fun J H1 => ∀ D, H1 D = none → ∃ W : Nat → Nat → Hp → Prop, (∃ m, W 0 m (upd H1 D (.dK []))) ∧ ∀ i m H, W i m H →
  (J.stop i H ∧ Q (.ref D) H) ∨ (J.go i H ∧ ∃ Nx : Hp → Prop, (∀ H', Nx H' → ∃ m', m' < m ∧ W (i + 1) m' H') ∧ ∀ x H', J.yld i H x H' → g x (wipe σ vs) H' fun σ2 H2 => wipe σ2 vs = wipe σ vs ∧ tt σ2 H2 fun b H3 =>
    if b = true then tk σ2 H3 fun y H4 => tv σ2 H4 fun z H5 => ∃ kvs k, y = kV k ∧ H5 D = some (.dK kvs) ∧ kvs.length < sizeLine ∧ Nx (upd H5 D (.dK (putK kvs k z))) else Nx H3)) : tDc wi g tt tk tv vs σ H Q := h
theorem rd_for (h : wi σ H fun J H1 => ∃ W : Nat → Nat → L2.St → Hp → Prop, (∃ m, W 0 m σ H1) ∧ ∀ i m σ H, W i m σ H →
  (J.stop i H ∧ nx σ H) ∨ (J.go i H ∧ ∃ N : L2.St → Hp → Prop, (∀ σ' H', N σ' H' → ∃ m', m' < m ∧ W (i + 1) m' σ' H') ∧ ∀ x H', J.yld i H x H' → g x σ H' fun σ2 H2 => tb ⟨N, rt, nx, N⟩ σ2 H2)) : tFor wi g tb ⟨nx, rt, bk, ct⟩ σ H := h
theorem rd_iStr (h : te σ H fun v H1 => ∃ x, v = .str x ∧ R (Its x) H1) : iStr te σ H R := h
theorem rd_strx {z : Str} {S : Str → Prop} (q : S z) : ∃ x, V.str z = V.str x ∧ S x := ⟨z, rfl, q⟩
theorem rd_iList (h : te σ H fun x H1 => ∃ a, x = .ref a ∧ (∃ xs, SqL K H1 a xs) ∧ R (Itl K a) H1) : iList K te σ H R := h
theorem rd_iTup (h : te σ H fun x H1 => ∃ a, x = .ref a ∧ (∃ xs, SqT K H1 a xs) ∧ R (Itt K a) H1) : iTup K te σ H R := h
theorem rd_itl {p : Addr} (h : SqL K H p xs) (q : R (Itl K p) H) : ∃ a, V.ref p = .ref a ∧ (∃ xs, SqL K H a xs) ∧ R (Itl K a) H := ⟨p, rfl, ⟨xs, h⟩, q⟩
theorem rd_itt {p : Addr} (h : SqT K H p xs) (q : R (Itt K p) H) : ∃ a, V.ref p = .ref a ∧ (∃ xs, SqT K H a xs) ∧ R (Itt K a) H := ⟨p, rfl, ⟨xs, h⟩, q⟩
theorem rd_iKeysL (h : te σ H fun x H1 => ∃ d kvs, x = .ref d ∧ H1 d = some (.dK kvs) ∧ ∀ o, R (Itk d o kvs) (upd H1 d (.frz o (.dK kvs)))) : iKeysL te σ H R := h
theorem rd_itkL {p : Addr} {kvs : List (Key × V)} (h : H p = some (.dK kvs)) (q : ∀ o, R (Itk p o kvs) (upd H p (.frz o (.dK kvs)))) : ∃ d kvs, V.ref p = .ref d ∧ H d = some (.dK kvs) ∧ ∀ o, R (Itk d o kvs) (upd H d (.frz o (.dK kvs))) := ⟨p, kvs, rfl, h, q⟩
theorem rd_iKeys (h : te σ H fun x H1 => ∃ d o, x = .ref d ∧ ((∃ kvs, H1 d = some (.frz o (.dK kvs)) ∧ R (Itk d o kvs) H1) ∨ ∃ kvs, H1 d = some (.frz o (.dT kvs)) ∧ R (Itkt d o kvs) H1)) : iKeys te σ H R := h
theorem rd_itk {p : Addr} {o : Obj} {kvs : List (Key × V)} (h : H p = some (.frz o (.dK kvs))) (q : R (Itk p o kvs) H) :
  ∃ d o, V.ref p = .ref d ∧ ((∃ kvs, H d = some (.frz o (.dK kvs)) ∧ R (Itk d o kvs) H) ∨ ∃ kvs, H d = some (.frz o (.dT kvs)) ∧ R (Itkt d o kvs) H) := ⟨p, o, rfl, .inl ⟨kvs, h, q⟩⟩
theorem rd_iRng1 {tr : TA} (h : tr σ H fun vs H1 => ∃ j : Int, vs = [.int j] ∧ -(2 ^ 62) ≤ j ∧ j < 2 ^ 62 ∧ R (Itr 0 j.toNat) H1) : iRng1 tr σ H R := h
theorem rd_iRng2 {tr : TA} (h : tr σ H fun vs H1 => ∃ i j : Int, vs = [.int i, .int j] ∧ (-(2 ^ 62) ≤ i ∧ i < 2 ^ 62 ∧ -(2 ^ 62) ≤ j ∧ j < 2 ^ 62) ∧ R (Itr i (j - i).toNat) H1) : iRng2 tr σ H R := h
theorem rd_lockE {t : TE} {d : Addr} {u : HO} (h : H d = some u) (m : Mut (some u)) (k : ∀ od, t σ (upd H d (.frz od u)) fun v H' => H' d = some (.frz od u) ∧ Q v (upd H' d u)) : tLockE t σ H Q := ⟨d, u, h, m, k⟩
/-- a loop by its invariant -/
theorem forG (hJ : Src J xs Keep) (Pv : Nat → L2.St → Hp → Prop) (h0 : Pv 0 σ H) (hk : ∀ i σ' H', i ≤ xs.length → Pv i σ' H' → Keep H')
    (turn : ∀ i x σ' H', xs[i]? = some x → Pv i σ' H' → g x σ' H' fun σ2 H2 => tb ⟨Pv (i + 1), rt, nx, Pv (i + 1)⟩ σ2 H2) (done : ∀ σ' H', Pv xs.length σ' H' → nx σ' H') :
    ∃ W : Nat → Nat → L2.St → Hp → Prop, (∃ m, W 0 m σ H) ∧ ∀ i m σ H, W i m σ H →
      (J.stop i H ∧ nx σ H) ∨ (J.go i H ∧ ∃ N : L2.St → Hp → Prop, (∀ σ' H', N σ' H' → ∃ m', m' < m ∧ W (i + 1) m' σ' H') ∧ ∀ x H', J.yld i H x H' → g x σ H' fun σ2 H2 => tb ⟨N, rt, nx, N⟩ σ2 H2) := by
  refine ⟨fun i m σ' H' => m = xs.length - i ∧ i ≤ xs.length ∧ Pv i σ' H', ⟨xs.length, by simp, Nat.zero_le _, h0⟩, ?_⟩
  rintro i m σ1 H1 ⟨rfl, hi, p⟩
  have kp := hk i σ1 H1 hi p
  by_cases hlt : i < xs.length
  · refine .inr ⟨hJ.go i H1 kp hlt, Pv (i + 1), fun σ' H' p' => ⟨xs.length - (i + 1), by omega, rfl, hlt, p'⟩, fun x H' y => ?_⟩
    obtain ⟨rfl, ex⟩ := hJ.yld i H1 x H' kp hlt y
    exact turn i x σ1 _ ex p
  · have ei : i = xs.length := by omega
    subst ei
    exact .inl ⟨hJ.stop _ H1 kp (Nat.le_refl _), done σ1 H1 p⟩
/-- over range(n), by the number -/
theorem forR {lo : Int} {n : Nat} (Pv : Nat → L2.St → Hp → Prop) (h0 : Pv 0 σ H)
    (turn : ∀ i σ' H', i < n → Pv i σ' H' → g (.int (lo + (i : Nat))) σ' H' fun σ2 H2 => tb ⟨Pv (i + 1), rt, nx, Pv (i + 1)⟩ σ2 H2) (done : ∀ σ' H', Pv n σ' H' → nx σ' H') :
    ∃ W : Nat → Nat → L2.St → Hp → Prop, (∃ m, W 0 m σ H) ∧ ∀ i m σ H, W i m σ H →
      ((Itr lo n).stop i H ∧ nx σ H) ∨ ((Itr lo n).go i H ∧ ∃ N : L2.St → Hp → Prop, (∀ σ' H', N σ' H' → ∃ m', m' < m ∧ W (i + 1) m' σ' H') ∧ ∀ x H', (Itr lo n).yld i H x H' → g x σ H' fun σ2 H2 => tb ⟨N, rt, nx, N⟩ σ2 H2) := by
  refine forG (src_range (lo := lo) (n := n)) Pv h0 (fun _ _ _ _ _ => trivial) (fun i x σ' H' hx p => ?_) fun σ' H' p => done σ' H' (by simpa using p)
  rw [List.getElem?_map] at hx
  cases q : (List.range n)[i]? with
  | none => rw [q] at hx; cases hx
  | some j =>
    rw [q] at hx
    have hi : i < n := by
      have := (List.getElem?_eq_some_iff.mp q).1
      simpa using this
    rw [List.getElem?_range hi] at q
    cases q
    cases hx
    exact turn i σ' H' hi p
end
end K2
/-! Sets of keys that can be walked: set(xs), sorted(set(xs)), {e for x in xs}, len. -/
namespace K2
open PySem PySem.Spec PyProof.Rows L2 KH He
def memK (j : Key) (l : List Key) : Bool := l.any fun x => decide (x = j)
theorem memK_iff {j : Key} {l : List Key} : memK j l = true ↔ j ∈ l := by simp [memK, List.any_eq_true]
def keyX (e : Int × Value) : Key := match e.2 with
  | .int k _ => .inl k
  | .str k _ => .inr k
  | _ => .inl 0
def GoodX (P : Program) (w : World) (e : Int × Value) : Prop := ∃ k, (mixKind P w).is k e.2 = true ∧ e.1 = (mixKind P w).hash k ∧ e.2.scannable = true
theorem keyX_of {P : Program} {w : World} {k : Key} {h : Int} {v : Value} (e : (mixKind P w).is k v = true) : keyX (h, v) = k := by
  cases k with
  | inl i =>
    cases v <;> first | (exact congrArg Sum.inl (eq_of_beq (show (_ == _) = true from e))) | (exact absurd (show false = true from e) Bool.false_ne_true)
  | inr x =>
    cases v <;> first | (exact congrArg Sum.inr (eq_of_beq (show (_ == _) = true from e))) | (exact absurd (show false = true from e) Bool.false_ne_true)
theorem scan_of {P : Program} {w : World} {k : Key} {v : Value} (e : (mixKind P w).is k v = true) : v.scannable = true := by
  cases k with
  | inl i => cases v <;> first | rfl | (exact absurd (show false = true from e) Bool.false_ne_true)
  | inr x => cases v <;> first | rfl | (exact absurd (show false = true from e) Bool.false_ne_true)
/-- the set of keys at a: S its members, n their number; its table rises and can be walked -/
def SetX (P : Program) (w : World) (h : Heap) (a : Addr) (S : Key → Bool) (n : Nat) : Prop :=
  ∃ o es ep t, h.get? a = some o ∧ o.ExactSet ∧ o.data = .set es ep t ∧ (∀ e ∈ es.toList, GoodX P w e) ∧ (es.toList.map keyX).Nodup ∧ (∀ k, S k = true ↔ k ∈ es.toList.map keyX) ∧
    es.size < scanBound ∧ t.fits es.size = true ∧ es.size = n ∧ Ris t.place.toList ∧ (w.params.followText "set-order" = true ∨ t.led = true)
section
variable {P : Program} {w : World} {h h' : Heap} {a : Addr} {S : Key → Bool} {n : Nat}
theorem SetX.at (R : SetX P w h a S n) (k : ∀ o, h.get? a = some o → h'.get? a = some o) : SetX P w h' a S n := by
  obtain ⟨o, es, ep, t, ho, r⟩ := R
  exact ⟨o, es, ep, t, k o ho, r⟩
theorem SetX.congr {S' : Key → Bool} (R : SetX P w h a S n) (e : ∀ k, S' k = S k) : SetX P w h a S' n := by
  have q : S' = S := funext e
  rw [q]; exact R
theorem goodX_elems {l : List (Int × Value)} (g : ∀ e ∈ l, GoodX P w e) : ElemsOf (mixKind P w) l := fun e he => by
  obtain ⟨k, h1, h2, h3⟩ := g e he
  exact ⟨⟨k, h1, h2⟩, h3⟩
theorem goodX_is {e : Int × Value} (g : GoodX P w e) (k : Key) : (mixKind P w).is k e.2 = true ↔ keyX e = k := by
  obtain ⟨k0, h1, _⟩ := g
  obtain ⟨e1, e2⟩ := e
  constructor
  · intro h
    exact keyX_of h
  · intro h
    have h4 : keyX (e1, e2) = k0 := keyX_of h1
    rw [← h, h4]
    exact h1
theorem goodX_mem {l : List (Int × Value)} (g : ∀ e ∈ l, GoodX P w e) (k : Key) : k ∈ l.map keyX ↔ ∃ e ∈ l, (mixKind P w).is k e.2 = true := by
  rw [List.mem_map]
  constructor
  · rintro ⟨e, he, q⟩
    exact ⟨e, he, (goodX_is (g e he) k).2 q⟩
  · rintro ⟨e, he, q⟩
    exact ⟨e, he, (goodX_is (g e he) k).1 q⟩
theorem SetX.setOf (R : SetX P w h a S n) : h.SetOf (mixKind P w) a S n := by
  obtain ⟨o, es, ep, t, ho, hx, hd, g, nd, hm, hb, hf, hn, _⟩ := R
  exact ⟨o, es, ep, t, ho, hx, hd, goodX_elems g, fun k => (hm k).trans (goodX_mem g k), hb, hf, hn⟩
end
section
variable {P : Program} {w : World} {A : Around} {E : Value → Shared → Prop} {s : Shared} {a : Addr} {S : Key → Bool} {n : Nat}

theorem setX_add_tail {g : Bool → Sem Unit} (hg : ∀ (b : Bool) (s₁ : Shared) (Q' : Unit → Shared → Prop), Q' () s₁ → wpAny (model P w) A (g b) Q' E s₁)
    {o : Obj} {es : Array (Int × Value)} {ep : Nat} {t : SetTable} (ho : s.heap.get? a = some o) (hex : o.ExactSet) (hd : o.data = .set es ep t)
    {es1 : Array (Int × Value)} {t2 : SetTable} {S' : Key → Bool} (g1 : ∀ e ∈ es1.toList, GoodX P w e) (nd1 : (es1.toList.map keyX).Nodup) (m1 : ∀ k, S' k = true ↔ k ∈ es1.toList.map keyX)
    (hb1 : es1.size < scanBound) (hf2 : t2.fits es1.size = true) (hr : Ris t2.place.toList) (hl : w.params.followText "set-order" = true ∨ t2.led = true) {wasDummy : Bool} {R : Option Bool → Shared → Prop}
    (hR : ∀ h', Heap.SameBut a s.heap h' → SetX P w h' a S' es1.size → R (some true) { s with heap := h' }) :
    wpAny (model P w) A (do
        storeSet a es1 t2
        if (!wasDummy && t2.tooFull) = true then do
            g (relayAll t2 es1 (SetTable.grown es1.size)).2.2
            storeSet a (relayAll t2 es1 (SetTable.grown es1.size)).1 (relayAll t2 es1 (SetTable.grown es1.size)).2.1
            pure (some true)
          else pure (some true)) R E s := by
  refine wpAny_bind (wpAny_storeSet_of ho hd ?_ (fits_of_scanBound hb1))
  have ho1 := store_at (es' := es1) (t' := t2) ho hd
  have sb1 := Heap.SameBut.update s.heap a (Obj.putSet es1 t2)
  split
  · have pm := relayAll_perm t2 es1 (SetTable.grown es1.size)
    have hf3 := relayAll_fits t2 es1 (SetTable.grown es1.size)
    have hr3 := relayAll_ris t2 es1 (SetTable.grown es1.size)
    have hl3 := relayAll_led t2 es1 (SetTable.grown es1.size)
    generalize relayAll t2 es1 (SetTable.grown es1.size) = Z at pm hf3 hr3 hl3 ⊢
    obtain ⟨es2, t3, gave⟩ := Z
    dsimp only at pm hf3 hr3 hl3 ⊢
    have hsz : es2.size = es1.size := by rw [← Array.length_toList, pm.length_eq, Array.length_toList]
    have hb2 : es2.size < scanBound := by rw [hsz]; exact hb1
    refine wpAny_bind (hg _ _ _ ?_)
    refine wpAny_bind (wpAny_storeSet_of ho1 rfl ?_ (fits_of_scanBound hb2))
    have ho2 := store_at (es' := es2) (t' := t3) ho1 rfl
    refine wpAny_pure (hR _ (sb1.trans (Heap.SameBut.update _ a _)) ?_)
    exact ⟨_, es2, _, t3, ho2, hex, rfl, fun e he => g1 e (pm.mem_iff.mp he), (pm.map keyX).nodup_iff.mpr nd1, fun k => (m1 k).trans (pm.map keyX).mem_iff.symm, hb2, hf3, hsz, hr3,
      hl.imp id fun z => by rw [hl3]; exact z⟩
  · exact wpAny_pure (hR _ sb1 ⟨_, es1, _, t2, ho1, hex, rfl, g1, nd1, m1, hb1, hf2, rfl, hr, hl⟩)

theorem setX_add_hashed {k : Key} {v : Value} (hkey : (mixKind P w).is k v = true) {Q : Bool → Shared → Prop} (R : SetX P w s.heap a S n) (room : n + 1 < scanBound)
    (hQ : ∀ h', Heap.SameBut a s.heap h' → SetX P w h' a (fun j => S j || decide (j = k)) (if S k = true then n else n + 1) → Q (!S k) { s with heap := h' }) :
    wpAny (model P w) A (setAddHashed a v ((mixKind P w).hash k)) Q E s := by
  obtain ⟨o, es, ep, t, ho, hex, hd, g, nd, hm, hb, hf, hn, hr, hl⟩ := R
  have hsc : v.scannable = true := scan_of hkey
  have hel : ElemsOf (mixKind P w) es.toList := goodX_elems g
  unfold setAddHashed setAddHashedIn
  refine wpAny_holding (wpAny_bind (wpAny_setState_of ho hd hf ?_))
  dsimp only
  rw [byScan_of hsc hb hel]
  simp only [↓reduceIte]
  unfold setAddByScan
  refine wpAny_bind ?_
  refine wpAny_bind (wpAny_rule ?_)
  refine wpAny_bind (wpAny_setScan_of hkey ho hd hf hel ?_)
  cases hfi : List.findIdx? (fun e => (mixKind P w).is k e.2) es.toList with
  | some j =>
    dsimp only
    obtain ⟨hj, pj, _⟩ := List.findIdx?_eq_some_iff_getElem.mp hfi
    have hSk : S k = true := (hm k).2 ((goodX_mem (P := P) (w := w) g k).2 ⟨es.toList[j], List.getElem_mem hj, pj⟩)
    refine wpAny_pure (wpAny_pure ?_)
    have q := hQ s.heap (Heap.SameBut.refl a s.heap) ⟨o, es, ep, t, ho, hex, hd, g, nd, fun i => by
      rw [Bool.or_eq_true, decide_eq_true_eq, ← hm i]
      exact ⟨fun z => z.elim id (fun e => e ▸ hSk), .inl⟩, hb, hf, by rw [if_pos hSk]; exact hn, hr, hl⟩
    rw [hSk] at q
    exact q
  | none =>
    dsimp only
    have hnk : k ∉ es.toList.map keyX := fun z => by
      obtain ⟨e, he, q⟩ := (goodX_mem (P := P) (w := w) g k).1 z
      have c := List.findIdx?_eq_none_iff.mp hfi e he
      rw [q] at c
      cases c
    have hSk : S k = false := by
      cases q : S k with
      | false => rfl
      | true => exact absurd ((hm k).1 q) hnk
    have hgw : ∀ (b : Bool) {s₁ : Shared} {Q' : Unit → Shared → Prop}, Q' () s₁ → wpAny (model P w) A (match b with | true => rule "set.scan.the-table-gave-way" | false => pure ()) Q' E s₁ :=
      fun b s₁ Q' q => by cases b <;> first | exact wpAny_pure q | exact wpAny_rule q
    have pm := layNew_perm t es ((mixKind P w).hash k) v
    have hf1 := layNew_fits t es ((mixKind P w).hash k) v
    have hr1 := layNew_ris t es ((mixKind P w).hash k) v hr
    have hl1 := layNew_led t es ((mixKind P w).hash k) v
    generalize layNew t es ((mixKind P w).hash k) v = Z at pm hf1 hr1 hl1 ⊢
    obtain ⟨es1, t1, wasDummy, gave⟩ := Z
    dsimp only at pm hf1 hr1 hl1 ⊢
    rw [Array.toList_push] at pm
    have pc : es1.toList.Perm (((mixKind P w).hash k, v) :: es.toList) := pm.trans (List.perm_append_singleton _ _)
    have pk : (es1.toList.map keyX).Perm (k :: es.toList.map keyX) := by
      have z := pc.map keyX
      rw [List.map_cons, keyX_of hkey] at z
      exact z
    have g1 : ∀ e ∈ es1.toList, GoodX P w e := fun e he => by
      rcases List.mem_cons.mp (pc.mem_iff.mp he) with z | z
      · rw [z]; exact ⟨k, hkey, rfl, hsc⟩
      · exact g e z
    have nd1 : (es1.toList.map keyX).Nodup := pk.nodup_iff.mpr (List.nodup_cons.mpr ⟨hnk, nd⟩)
    have m1 : ∀ i, (S i || decide (i = k)) = true ↔ i ∈ es1.toList.map keyX := fun i => by
      rw [Bool.or_eq_true, decide_eq_true_eq, hm i, pk.mem_iff, List.mem_cons]
      exact Or.comm
    have hsz : es1.size = n + 1 := by rw [← Array.length_toList, pc.length_eq, List.length_cons, Array.length_toList, hn]
    have hb1 : es1.size < scanBound := by rw [hsz]; exact room
    have hled : w.params.followText "set-order" = true ∨ t1.led = true := hl.imp id fun z => by rw [hl1]; exact z
    have fin : ∀ h', Heap.SameBut a s.heap h' → SetX P w h' a (fun j => S j || decide (j = k)) es1.size → Q true { s with heap := h' } := fun h' sb r => by
      have q := hQ h' sb
      rw [hSk] at q
      rw [hsz] at r
      exact q r
    refine wpAny_bind (hgw _ ?_)
    split
    · refine wpAny_bind ?_
      rw [hashByValue_scannable 8 hsc]
      refine wpAny_pure ?_
      refine setX_add_tail ?_ ho hex hd g1 nd1 m1 hb1 ?_ ?_ ?_ ?_
      · intro b s₁ Q' q; cases b <;> first | exact wpAny_pure q | exact wpAny_rule q
      · first | (split <;> first | exact hf1 | exact SetTable.fits_plain_off hf1) | exact hf1
      · first | (split <;> exact hr1) | exact hr1
      · first | (split <;> exact hled) | exact hled
      · intro h' sb r; dsimp only; exact wpAny_pure (fin h' sb r)
    · refine wpAny_bind (wpAny_pure ?_)
      simp only [↓reduceIte]
      refine setX_add_tail ?_ ho hex hd g1 nd1 m1 hb1 hf1 hr1 hled ?_
      · intro b s₁ Q' q; cases b <;> first | exact wpAny_pure q | exact wpAny_rule q
      · intro h' sb r; dsimp only; exact wpAny_pure (fin h' sb r)

theorem setX_add {k : Key} {v : Value} (hkey : (mixKind P w).is k v = true) {Q : Value → Shared → Prop} (R : SetX P w s.heap a S n) (room : n + 1 < scanBound)
    (hQ : ∀ h', Heap.SameBut a s.heap h' → SetX P w h' a (fun j => S j || decide (j = k)) (if S k = true then n else n + 1) → Q .none { s with heap := h', toks := s.toks + 1 }) :
    wpAny (model P w) A (call (.builtin "set.add") [.ref a, v]) Q E s := by
  have hS : s.heap.SetOf (mixKind P w) a S n := R.setOf
  refine wpAny_call_entry PySem.F.slot_set_add hS.typeIs PySem.F.entry_set_add ?_ (PySem.F.args_set_add_2 _ _)
  unfold Builtin.«set.add» Builtin.Frozenset.oneOther
  simp only [List.isEmpty_nil, bind_assoc]
  unfold Builtin.Frozenset.addrOf setAdd
  refine wpAny_bind (wpAny_pure ?_)
  try dsimp only
  refine wpAny_bind (wpAny_pure ?_)
  try dsimp only
  refine wpAny_bind ?_
  refine wpAny_holding ?_
  refine wpAny_bind ((mixKind P w).pyHash (hkey) ?_)
  refine setX_add_hashed hkey (s := { s with toks := s.toks + 1 }) R room fun h' sb r => ?_
  show wpAny _ _ (ret Value.none) _ _ _
  exact wpAny_pure ⟨_, rfl, hQ h' sb r⟩

theorem setX_fresh {h : Heap} (P : Program) (w : World) : SetX P w (h.push { cls := .type "set", dict := none, data := .set #[] 0 (.fresh 0 0 (!w.params.followText "set-order")) }) h.objs.size (fun _ => false) 0 :=
  ⟨_, #[], 0, _, Heap.get?_push_size _ rfl, ⟨rfl, rfl, rfl⟩, rfl, (fun e he => by simp at he), (by simp), (fun k => by simp), (by decide), (by rfl), rfl, List.Pairwise.nil, by
    show _ ∨ (!w.params.followText "set-order") = true
    cases w.params.followText "set-order"
    · exact .inr rfl
    · exact .inl rfl⟩
theorem setX_new_at {h : Heap} {a : Addr} {ns : List Key} (ho : h.get? a = some { cls := .type "set", dict := none, data := .set #[] 0 (.fresh 0 0 (!w.params.followText "set-order")) }) : SetX P w h a (fun j => memK j (ns.take 0)) 0 :=
  ⟨_, #[], 0, _, ho, ⟨rfl, rfl, rfl⟩, rfl, (fun e he => by simp at he), (by simp), (fun k => by simp [memK]), (by decide), (by rfl), rfl, List.Pairwise.nil, by
    show _ ∨ (!w.params.followText "set-order") = true
    cases w.params.followText "set-order"
    · exact .inr rfl
    · exact .inl rfl⟩

theorem set_update_keys {I : Addr} {fp wr : List Addr} {G : Array GenState → Array GenState → Prop} {n : Nat} {Pv : Nat → Value → Prop} {St : Nat → Shared → Prop} {R : Result → Shared → Prop}
    (W : WalksS P w A.in1 I fp wr G n Pv St) (S : Addr) (hSf : S ∉ fp) (ns : List Key) (hn : n = ns.length) (hb : ns.length + 1 < scanBound) (hval : ∀ i v, Pv i v → ∃ k, ns[i]? = some k ∧ (mixKind P w).is k v = true) :
    ∀ (k i : Nat) (s : Shared), n - i = k → i ≤ n → St i s → (∃ c, c ≤ i ∧ SetX P w s.heap S (fun j => memK j (ns.take i)) c) →
      (∀ s' c, Moved (S :: wr) G s s' → c ≤ n → SetX P w s'.heap S (fun j => memK j (ns)) c → R (.ok (.ret .none)) s') →
      codeAny (model P w) A (.builtin "set.update.loop" ⟨[.ref S, .ref I], []⟩) R s := by
  have hSw : S ∉ wr := fun h => hSf (W.sub _ h)
  have hsub : ∀ b ∈ wr, b ∈ S :: wr := fun b hb => List.mem_cons_of_mem _ hb
  intro k
  induction k with
  | zero =>
    intro i s hk' hi hst ⟨c, hc, hS⟩ hR
    have hin : i = n := by omega
    subst hin
    refine codeAny_builtin PyProof.Rows.F.entry_set_update_loop ?_
    rw [Around.under_plainId PyProof.Rows.F.plain_set_update_loop _]
    show wpAny _ A.in1 (pyNext (.ref I) >>= _) _ _ s
    refine wpAny_bind (W.done s _ _ hst fun s' hm => ?_)
    show wpAny _ A.in1 (ret Value.none) _ _ s'
    have e : ns.take i = ns := List.take_of_length_le (by omega)
    rw [e] at hS
    exact wpAny_pure (hR s' c (hm.mono hsub) hc (hS.at fun o e => hm.heap S o hSw e))
  | succ k ih =>
    intro i s hk' hi hst ⟨c, hc, hS⟩ hR
    have hlt : i < n := by omega
    refine codeAny_builtin PyProof.Rows.F.entry_set_update_loop ?_
    rw [Around.under_plainId PyProof.Rows.F.plain_set_update_loop _]
    show wpAny _ A.in1 (pyNext (.ref I) >>= _) _ _ s
    refine wpAny_bind (W.item i s _ _ hlt hst fun v s' hP hst' hm => ?_)
    obtain ⟨z, hz, hkey⟩ := hval i v hP
    have hS' : SetX P w s'.heap S (fun j => memK j (ns.take i)) c := hS.at fun o e => hm.heap S o hSw e
    show wpAny _ A.in1 (holding [v] (setAdd S (v)) >>= _) _ _ s'
    refine wpAny_bind (wpAny_holding ?_)
    unfold setAdd
    refine wpAny_holding ?_
    refine wpAny_bind ((mixKind P w).pyHash (k := z) hkey ?_)
    refine setX_add_hashed hkey (s := { s' with toks := s'.toks + 1 }) hS' (by omega) fun h' hsb hS2 => ?_
    have hS3 : SetX P w h' S (fun j => memK j (ns.take (i + 1))) (if memK z (ns.take i) = true then c else c + 1) := hS2.congr fun j => by
      rw [List.take_add_one, hz]
      simp only [memK, List.any_append, Option.toList_some, List.any_cons, List.any_nil, Bool.or_false]
      congr 1
      exact decide_eq_decide.mpr eq_comm
    have hc3 : (if memK z (ns.take i) = true then c else c + 1) ≤ i + 1 := by
      split <;> omega
    refine wpAny_pure ⟨plainId_quiet PyProof.Rows.F.plain_set_update_loop _, ih (i + 1) _ (by omega) hlt (W.frame _ s' _ _ hst' (Nat.le_succ _) fun b hb o e => ?_) ⟨_, hc3, hS3⟩ fun s'' c2 hm'' hc'' hS'' => ?_⟩
    · rw [hsb.2 b (fun h : b = S => hSf (by rw [← h]; exact hb))]; exact e
    · refine hR s'' c2 (Moved.trans W.gtrans ((hm.mono hsub).then_heap (Nat.le_succ _) fun b o hb e => ?_) hm'') hc'' hS''
      rw [hsb.2 b (fun h : b = S => hb (by rw [h]; exact List.mem_cons_self))]; exact e

set_option maxRecDepth 100000 in
set_option maxHeartbeats 3200000 in
theorem call_set_listX {l : Addr} {items : Array Value} (ns : List Key) {Q : Value → Shared → Prop} (hh : A.handled = none) (hl : s.heap.IsList l items) (hisz : items.size = ns.length) (hval : ∀ (i : Nat) (v : Value), items[i]? = some v → ∃ k, ns[i]? = some k ∧ (mixKind P w).is k v = true) (hb : ns.length + 1 < scanBound)
    (h : ∀ (h' : Heap) (tk c : Nat), SetX P w h' s.heap.objs.size (fun j => memK j (ns)) c → c ≤ ns.length → (∀ b o, s.heap.get? b = some o → h'.get? b = some o) → Q (.ref s.heap.objs.size) { s with heap := h', toks := tk }) :
    wpAny (model P w) A (call (.type "set") [.ref l]) Q E s := by
  obtain ⟨c, tl, hmro⟩ := PySem.F.called_set.mro
  have hmade := PySem.F.called_set.made
  have hsub := PySem.F.called_set.sub
  refine wpAny_call (codeAny_of_tree ?_)
  show wpAny _ _ (callAny (.type "set") _) _ _ _
  refine wpAny_pure ⟨Code.quiet_builtin _ (by decide +kernel), codeAny_builtin PySem.F.entry_type_call ?_⟩
  rw [Around.under_plain (weight_type_call_type "set" [.ref l] []) rfl]
  have h1 := PySem.F.called_set.notType
  have h2 := PySem.F.called_set.canCreate
  have hct := PySem.F.typeCall_set_1 (.ref l)
  repeat (any_goals (first | assumption | wp_step))

  refine codeAny_mono (code_set_led1 (.ref l) (E := E) (Q₁ := fun obj s₁ => obj = .ref s.heap.objs.size ∧ s₁ = { s with heap := s.heap.push { cls := .type "set", dict := none, data := .set #[] 0 (.fresh 0 0 (!w.params.followText "set-order")) } }) ⟨rfl, rfl⟩) fun r s₁ hr => ?_
  cases r with
  | error e => exact hr
  | ok fl =>
    cases fl with
    | ret obj =>
      obtain ⟨rfl, rfl⟩ := hr
      have hS : (s.heap.push { cls := .type "set", dict := none, data := .set #[] 0 (.fresh 0 0 (!w.params.followText "set-order")) }).get? s.heap.objs.size = some { cls := .type "set", dict := none, data := .set #[] 0 (.fresh 0 0 (!w.params.followText "set-order")) } := Heap.get?_push_size _ rfl
      have hT : Shared.TypeIs { s with heap := s.heap.push { cls := .type "set", dict := none, data := .set #[] 0 (.fresh 0 0 (!w.params.followText "set-order")) } } (.ref s.heap.objs.size) "set" := ⟨_, hS, rfl⟩
      have hli := PySem.F.called_set.init.lookup
      have hbi := PySem.F.called_set.init.bind (.ref s.heap.objs.size)
      repeat (any_goals (first | assumption | wp_step))

      refine codeAny_mono (codeAny_call_builtin (R := wants (fun r s₂ => r = .none ∧ ∃ h' tk c, s₂ = { s with heap := h', toks := tk } ∧ SetX P w h' s.heap.objs.size (fun j => memK j (ns)) c ∧ c ≤ ns.length ∧
          (∀ b o, s.heap.get? b = some o → h'.get? b = some o)) E) PySem.F.called_set.init.plain PySem.F.entry_set_init (check_set_init_1 hT ?_)) fun r₂ s₂ hr₂ => ?_
      · obtain ⟨ol, hol, hcl, nl, hdl⟩ := hl
        obtain ⟨ocls, odict, odata, oslots⟩ := ol
        simp only at hcl hdl
        subst hcl; subst hdl
        have hol' : (s.heap.push { cls := .type "set", dict := none, data := .set #[] 0 (.fresh 0 0 (!w.params.followText "set-order")) }).get? l = some { cls := .type "list", dict := odict, data := .seq items nl, slots := oslots } := Heap.get?_push_of_some _ hol
        have hsls := PySem.F.sub_list_set
        have hslf := PySem.F.sub_list_frozenset
        have hne : (Value.type "list" == Value.type "dict") = false := by decide
        have hl1 : (s.heap.push { cls := .type "set", dict := none, data := .set #[] 0 (.fresh 0 0 (!w.params.followText "set-order")) }).IsList l items := ⟨_, hol', rfl, nl, rfl⟩
        unfold Builtin.«set.__init__» noKeywords Builtin.Frozenset.updateFrom
        generalize hPI : pyIter = PI
        wp_walk
        subst hPI

        refine wpAny_pyIter_list hl1 ?_
        refine wpAny_bind (wpAny_runValue ?_)
        have hlS : l < s.heap.objs.size := Heap.lt_size hol
        have hh3 : A.in1.in1.in1.handled = none := by simp [hh]
        have hz1 : (s.heap.push { cls := .type "set", dict := none, data := .set #[] 0 (.fresh 0 0 (!w.params.followText "set-order")) }).objs.size = s.heap.objs.size + 1 := Heap.size_push ..
        have hneI : l ≠ (s.heap.push { cls := .type "set", dict := none, data := .set #[] 0 (.fresh 0 0 (!w.params.followText "set-order")) }).objs.size := by
          rw [Heap.size_push]; exact Nat.ne_of_lt (Nat.lt_succ_of_lt hlS)
        have hSf : s.heap.objs.size ∉ [(s.heap.push { cls := .type "set", dict := none, data := .set #[] 0 (.fresh 0 0 (!w.params.followText "set-order")) }).objs.size, l] := by
          rw [Heap.size_push]; simp only [List.mem_cons, List.mem_singleton, List.not_mem_nil, or_false, not_or]
          exact ⟨Nat.ne_of_lt (Nat.lt_succ_self _), Nat.ne_of_gt hlS⟩
        refine set_update_keys (P := P) (w := w) ((Walks.list hh3 _ l hneI items).toS) s.heap.objs.size
          hSf ns hisz hb hval (items.size - 0) 0 _ (by omega) (Nat.zero_le _)
          ⟨⟨_, Heap.get?_push_size _ rfl, rfl, rfl⟩, (hl1.push _)⟩ ?hS0 ?hR
        case hS0 =>
          have hget : ((s.heap.push { cls := .type "set", dict := none, data := .set #[] 0 (.fresh 0 0 (!w.params.followText "set-order")) }).push { cls := .type "list_iterator", data := .fields #[.ref l, .int 0 0] }).get? s.heap.objs.size
              = some { cls := .type "set", dict := none, data := .set #[] 0 (.fresh 0 0 (!w.params.followText "set-order")) } := Heap.get?_push_of_some _ hS
          exact ⟨0, Nat.le_refl 0, setX_new_at hget⟩
        case hR =>
          intro s' c' hm hc' hS'
          obtain ⟨h', g2, d', tk', os'⟩ := s'
          have eg : g2 = s.gens := hm.gens
          have ed : d' = s.drawn := hm.drawn
          have eo : os' = s.os := hm.os
          subst eg; subst ed; subst eo
          show wpAny _ _ _ _ _ _
          refine wpAny_pure ?_
          show wpAny _ _ (ret Value.none) _ _ _
          rw [hisz] at hc'
          refine wpAny_pure ⟨rfl, h', tk', c', rfl, hS', hc', fun b o e => ?_⟩
          have hb0 : b < s.heap.objs.size := Heap.lt_size e
          have hb1 : b ≠ s.heap.objs.size := Nat.ne_of_lt hb0
          have hb2 : b ≠ (s.heap.push { cls := .type "set", dict := none, data := .set #[] 0 (.fresh 0 0 (!w.params.followText "set-order")) }).objs.size := by
            rw [Heap.size_push]; exact Nat.ne_of_lt (Nat.lt_succ_of_lt hb0)
          exact hm.heap b o (by simp only [List.mem_cons, List.mem_singleton, List.not_mem_nil, or_false, not_or]; exact ⟨hb1, hb2⟩) (Heap.get?_push_of_some _ (Heap.get?_push_of_some _ e))

      · cases r₂ with
        | error e => exact hr₂
        | ok fl₂ =>
          cases fl₂ with
          | ret r =>
            obtain ⟨rfl, h', tk, c', rfl, hS', hc', hk'⟩ := hr₂
            repeat (any_goals (first | assumption | wp_step))
            exact h _ _ _ hS' hc' hk'
          | _ => exact hr₂.elim
    | _ => exact hr.elim
end
def SetXO (P : Program) (w : World) (a : Addr) (S : Key → Bool) (n : Nat) : HO := .ext fun h => SetX P w h a S n
theorem setXO_new {w : World} {P : Program} {H : Hp} {h : Heap} {a : Addr} {S : Key → Bool} {n : Nat} (R : SetX P w h a S n) : ObjOk P w H h a (SetXO P w a S n) := by
  have ⟨o, _, _, _, ho, _⟩ := R
  exact ⟨R, ⟨o, ho⟩, fun h1 h2 p k => SetX.at p k⟩
section
variable {X : Cx}
theorem setXO_get {pins : List (Addr × Obj)} {σ : L2.St} {H : Hp} {s : Shared} {a : Addr} {S : Key → Bool} {n : Nat} (I : Inv X pins σ H s) (ha : H a = some (SetXO X.prog X.w a S n)) : SetX X.prog X.w s.heap a S n := (I.hok a _ ha).1
/-- set.add of a truth value -/
theorem addX_ok {pins : List (Addr × Obj)} {σ : L2.St} {H : Hp} {s : Shared} {E : Value → Shared → Prop} {D : Addr} {S : Key → Bool} {n : Nat} {y : Key} {u : Value} (hy : (mixKind X.prog X.w).is y u = true) {Q : Value → Shared → Prop} (I : Inv X pins σ H s) (hD : H D = some (SetXO X.prog X.w D S n)) (room : n + 1 < scanBound)
    (h : ∀ s', Inv X pins σ (upd H D (SetXO X.prog X.w D (fun j => S j || decide (j = y)) (if S y = true then n else n + 1))) s' → Q .none s') : wpAny (model X.prog X.w) X.A (call (.builtin "set.add") [.ref D, u]) Q E s := by
  have R := setXO_get I hD
  refine setX_add hy R room fun h' sb new => ?_
  have he : ∃ u, h'.get? D = some u := by
    have ⟨o, _, _, _, ho, _⟩ := new
    exact ⟨o, ho⟩
  exact h _ (I.write (e := D) (t' := s.toks + 1) (by rw [hD]; trivial) (.inl rfl) (fun b u hb hu => (sb.2 b hb).trans hu) he (setXO_new new))
def tSx (P : Program) (w : World) (wi : TI) (g : TG) (tt : TT) (te : TE) (vs : List Nat) : TE := fun σ H Q => wi σ H fun J H1 => ∀ D, H1 D = none → ∃ W : Nat → Nat → Hp → Prop, (∃ m, W 0 m (upd H1 D (SetXO P w D (fun _ => false) 0))) ∧ ∀ i m H, W i m H →
  (J.stop i H ∧ Q (.ref D) H) ∨ (J.go i H ∧ ∃ Nx : Hp → Prop, (∀ H', Nx H' → ∃ m', m' < m ∧ W (i + 1) m' H') ∧ ∀ x H', J.yld i H x H' → g x (wipe σ vs) H' fun σ2 H2 => wipe σ2 vs = wipe σ vs ∧ tt σ2 H2 fun b H3 =>
    if b = true then te σ2 H3 fun y H4 => ∃ (c : Key) (S : Key → Bool) (n : Nat), y = kV c ∧ H4 D = some (SetXO P w D S n) ∧ n + 1 < scanBound ∧ Nx (upd H4 D (SetXO P w D (fun j => S j || decide (j = c)) (if S c = true then n else n + 1))) else Nx H3)
theorem sx_core {pins : List (Addr × Obj)} {s : Shared} {σ : L2.St} {H : Hp} {Q : VK} {elt tg iter : Expr} {ifs : List Expr} {scope : Scope} {own : List (PySem.Str × Nat)} {pos pos' : Pos} {wi : TI} {g : TG} {tt : TT} {te : TE} {use : Option (Value → Sem Unit)} {Qf : Value → Shared → Prop}
    (hc : X.calm = true) (hN : X.N.Nodup) (I : Inv X pins σ H s) (hi : PI X tg iter wi) (ok : BlkOk X.N X.env.scope scope own)
    (hg : ∀ (s : Shared) (H : Hp) (C : Addr) (cl : List (PySem.Str × Addr)) (fp : List Addr), PG (X.blk s H scope (compEnvC scope cl C X.env) fp) tg g) (ht : ∀ (s : Shared) (H : Hp) (C : Addr) (cl : List (PySem.Str × Addr)) (fp : List Addr), PTs (X.blk s H scope (compEnvC scope cl C X.env) fp) ifs tt)
    (he : ∀ (s : Shared) (H : Hp) (C : Addr) (cl : List (PySem.Str × Addr)) (fp : List Addr), PE (X.blk s H scope (compEnvC scope cl C X.env) fp) elt te) (hs : ∀ x, foldedSetIterable iter X.env x = pure x)
    (h : tSx X.prog X.w wi g tt te (own.map (·.2)) σ H Q)
    (hRR : ∀ D C s' m H', Inv X pins σ H' s' → Q (.ref D) H' → s'.heap.Ns C m → FpOk X pins H' C → compPost (model X.prog X.w) X.A X.xe use Qf (.ref D) C (.ok .next) s') :
    wpAny (model X.prog X.w) X.A (comprehension (.SetComp elt [⟨tg, iter, ifs, 0⟩] scope pos) scope X.env pos' (newSet (.type "set")) false (eval iter X.env) use) Qf X.xe s := by
  have hfree : ∀ y ∈ scope.names, y.2 = .free → ∃ c, X.env.cells.lookup y.1 = some c := fun y hy e => by
    rcases ok.free y hy e with k | k
    · exact I.ok.has _ (.inl k)
    · exact I.ok.has _ (.inr k)
  refine wpAny_comprehension_free (use := use) rfl hs (closure_ok hfree) ok.kind (fun y hy e => by rw [ok.uniq y hy, e])
    (thn (hi.run pins s σ H _ I h) fun xv s1 hx => thn hx fun itv s2 h2 => ?_)
  obtain ⟨it, fp, tn, J, H2, e, I2, T, st2, f2, q⟩ := h2
  subst e
  refine PpSet.newSet_ok (newEnv_comp ?_)
  generalize hD : s2.heap.objs.size = D
  have hDn : H2 D = none := I2.hok.fresh (Nat.le_of_eq hD)
  obtain ⟨W, ⟨m0, w0⟩, turn⟩ := q D hDn
  -- the new list
  generalize hs3 : ({ s2 with heap := s2.heap.push { cls := .type "set", dict := none, data := .set #[] 0 (.fresh 0 0 (!X.w.params.followText "set-order")) } } : Shared) = s3
  have I3 : Inv X pins σ (upd H2 D (SetXO X.prog X.w D (fun _ => false) 0)) s3 := by
    rw [← hs3]
    refine I2.laid (t' := s2.toks) (fun b o e => Heap.get?_push_of_some _ e) (Nat.le_of_eq hD) ?_
    rw [← hD]
    exact setXO_new (setX_fresh X.prog X.w)
  have h3 : s3.heap = s2.heap.push { cls := .type "set", dict := none, data := .set #[] 0 (.fresh 0 0 (!X.w.params.followText "set-order")) } := by rw [← hs3]
  have sz : ∀ b ∈ fp, b < s2.heap.objs.size := fun b hb => by
    obtain ⟨o, e, _⟩ := T.obj _ _ st2 b hb
    exact Heap.lt_size e
  have f3 : ∀ b ∈ fp, FpOk X pins (upd H2 D (SetXO X.prog X.w D (fun _ => false) 0)) b ∧ b < s3.heap.objs.size := fun b hb => by
    have hlt := sz b hb
    refine ⟨⟨?_, (f2 b hb).2⟩, by rw [h3, Heap.size_push]; exact Nat.lt_succ_of_lt hlt⟩
    rw [upd_ne (by rw [← hD]; exact Nat.ne_of_lt hlt)]
    exact (f2 b hb).1
  have st3 : tn 0 s3.heap := T.keep _ _ _ st2 fun b _ o e => by rw [h3]; exact Heap.get?_push_of_some _ e
  have I4 := block_start I3 ok hN f3
  have pg := hg s3 (upd H2 D (SetXO X.prog X.w D (fun _ => false) 0)) s3.heap.objs.size (cellsFrom (s3.heap.objs.size + 1) scope.names (cloFrom X.env.cells scope.names [])) fp
  have pt := ht s3 (upd H2 D (SetXO X.prog X.w D (fun _ => false) 0)) s3.heap.objs.size (cellsFrom (s3.heap.objs.size + 1) scope.names (cloFrom X.env.cells scope.names [])) fp
  have pe := he s3 (upd H2 D (SetXO X.prog X.w D (fun _ => false) 0)) s3.heap.objs.size (cellsFrom (s3.heap.objs.size + 1) scope.names (cloFrom X.env.cells scope.names [])) fp
  show codeAny _ _ (.compStart (.SetComp elt [⟨tg, iter, ifs, 0⟩] scope pos) 0 (.ref it) (.ref D) (compEnvC scope (cellsFrom (s3.heap.objs.size + 1) scope.names (cloFrom X.env.cells scope.names [])) s3.heap.objs.size X.env)) (compPost (model X.prog X.w) X.A X.xe use Qf (.ref D) s3.heap.objs.size) { s3 with heap := pushCells (s3.heap.push { cls := .type "dict", data := .dict #[] }) scope.names }
  have nfp : ∀ b ∈ fp, (upd H2 D (SetXO X.prog X.w D (fun _ => false) 0)) b = none := fun b hb => (f3 b hb).1.1
  generalize hce : compEnvC scope (cellsFrom (s3.heap.objs.size + 1) scope.names (cloFrom X.env.cells scope.names [])) s3.heap.objs.size X.env = ce at I4 pg pt pe ⊢
  have cL : ce.locals = s3.heap.objs.size := by subst hce; rfl
  generalize hH3 : upd H2 D (SetXO X.prog X.w D (fun _ => false) 0) = H3 at I3 I4 pg pt pe w0 nfp f3
  generalize hs4 : ({ s3 with heap := pushCells (s3.heap.push { cls := .type "dict", data := .dict #[] }) scope.names } : Shared) = s4 at I4 ⊢
  have st4 : tn 0 s4.heap := T.keep _ _ _ st3 fun b _ o e => by rw [← hs4]; exact pushCells_keeps _ _ _ _ (Heap.get?_push_of_some _ e)
  have stat : ∀ {σ' : L2.St} {H' : Hp} {s' : Shared}, Inv (X.blk s3 H3 scope ce fp) [] σ' H' s' → (∀ b ∈ fp, H' b = none) → ∀ b ∈ fp, FpOk (X.blk s3 H3 scope ce fp) [] H' b := fun {σ' H' s'} I' hn b hb =>
    ⟨hn b hb, (I'.ok.exf b hb).1, I'.ok.exfs b hb, .inl hb, fun x c e => (I'.ok.exf b hb).2 x c e, fun p hp => absurd (show p ∈ ([] : List (Addr × Obj)) ++ [] from hp) (by simp)⟩
  have loop : codeAny (model X.prog X.w) X.A (.compLoop (.SetComp elt [⟨tg, iter, ifs, 0⟩] scope pos) 0 (.ref it) (.ref D) ce) (compPost (model X.prog X.w) X.A X.xe use Qf (.ref D) s3.heap.objs.size) s4 := by
    refine PpSet.compLoopS_any (fun n s' => ∃ i H', Inv (X.blk s3 H3 scope ce fp) [] (wipe σ (own.map (·.2))) H' s' ∧ tn i s'.heap ∧ (∀ b ∈ fp, H' b = none) ∧ W i n H') ?_ m0 ⟨0, H3, I4, st4, nfp, w0⟩
    rintro n s5 ⟨i, H5, I5, st5, n5, w5⟩
    rcases turn i n H5 w5 with ⟨stop, qq⟩ | ⟨go, Nx, hNx, step⟩
    · have td := T.done (X.blk s3 H3 scope ce fp) rfl rfl rfl hc i [] s5 _ H5 (fun _ _ => False) I5 (stat I5 n5) st5 stop
      refine thnF td fun r s6 ⟨hr, I6⟩ => ?_
      subst hr
      -- back in the def's context
      have I7 : Inv X pins σ H5 s6 := I3.call' (ch := fp) I6.os I6.base I6.hok I6.bare fun b hb => ⟨(f3 b hb).1.2.2.2.1, (f3 b hb).1.2.1, (f3 b hb).1.2.2.2.2.1, (f3 b hb).1.2.2.2.2.2⟩
      have nC : H5 s3.heap.objs.size = none := by
        have z : H5 ce.locals = none := I6.free
        rw [cL] at z
        exact z
      obtain ⟨m, hn, _⟩ := I6.loc
      have hn : s6.heap.Ns ce.locals m := hn
      rw [cL] at hn
      exact hRR D s3.heap.objs.size s6 m H5 I7 qq hn (I3.fpOk (Nat.le_refl _) nC)
    · have ti := T.item (X.blk s3 H3 scope ce fp) rfl rfl rfl hc i [] s5 _ H5 (fun _ _ => False) I5 (stat I5 n5) st5 go
      refine thnF ti fun r s6 ⟨u, hr, h6⟩ => ?_
      subst hr
      refine thnF h6 fun _ s7 ⟨x, H7, I7, r7, y7, st7, n7⟩ => ?_
      have I7' := I7.pinned (stat I7 n7) (T.obj _ _ st7)
      refine thnF (pg.run _ s7 _ H7 x u _ I7' r7 (step x H7 y7)) fun _ s8 ⟨σ8, H8, I8, hw8, q8⟩ => ?_
      refine thnF (pt.run _ s8 σ8 H8 _ I8 q8) fun b s9 ⟨H9, I9, q9⟩ => ?_
      -- the turn's end
      have fin : ∀ {s' : Shared} {H' : Hp}, Inv (X.blk s3 H3 scope ce fp) ([] ++ pinsAt fp s7.heap) σ8 H' s' → Nx H' → ∃ m, m < n ∧ ∃ i H', Inv (X.blk s3 H3 scope ce fp) [] (wipe σ (own.map (·.2))) H' s' ∧ tn i s'.heap ∧ (∀ b ∈ fp, H' b = none) ∧ W i m H' := fun {s' H'} I' nx => by
        obtain ⟨m', hm, w'⟩ := hNx H' nx
        have pin' : ∀ b ∈ fp, ∀ o, s7.heap.get? b = some o → s'.heap.get? b = some o ∧ H' b = none := fun b hb o e =>
          let z := I'.pin (b, o) (List.mem_append_right _ (List.mem_append_right _ (mem_pinsAt hb e)))
          ⟨z.1, z.2.1⟩
        have hl : (wipe σ (own.map (·.2))).length = σ8.length := by rw [← hw8, wipe_length]
        refine ⟨m', hm, i + 1, H', (I'.unpinned (pins := [])).weak hl (fun j v e => ?_), T.keep _ _ _ st7 fun b hb o e => (pin' b hb o e).1, fun b hb => ?_, w'⟩
        · rw [← hw8] at e
          exact (wipe_some e).1
        · obtain ⟨o, e, _⟩ := T.obj _ _ st7 b hb
          exact (pin' b hb o e).2
      cases b with
      | false =>
        simp only [Bool.false_eq_true, if_false] at q9 ⊢
        exact fin I9 q9
      | true =>
        simp only [if_true] at q9 ⊢
        refine thnF (pe.run _ s9 σ8 H9 _ I9 q9) fun z s10 ⟨yv, H10, I10, r10, cb, S0, n0, ey, hD10, hz10, nx⟩ => ?_
        subst ey
        exact addX_ok (kV_is r10) (X := X.blk s3 H3 scope ce fp) I10 hD10 hz10 fun s11 I11 => fin I11 nx
  exact PpSet.codeAny_compStart_set loop (T.self X.A 0 _ _ _ st4 loop)
/-- as a value -/
theorem pe_sx {elt tg iter : Expr} {ifs : List Expr} {scope : Scope} {own : List (PySem.Str × Nat)} {pos : Pos} {wi : TI} {g : TG} {tt : TT} {te : TE} (hc : X.calm = true) (hN : X.N.Nodup) (hi : PI X tg iter wi) (ok : BlkOk X.N X.env.scope scope own)
    (hg : ∀ (s : Shared) (H : Hp) (C : Addr) (cl : List (PySem.Str × Addr)) (fp : List Addr), PG (X.blk s H scope (compEnvC scope cl C X.env) fp) tg g) (ht : ∀ (s : Shared) (H : Hp) (C : Addr) (cl : List (PySem.Str × Addr)) (fp : List Addr), PTs (X.blk s H scope (compEnvC scope cl C X.env) fp) ifs tt)
    (he : ∀ (s : Shared) (H : Hp) (C : Addr) (cl : List (PySem.Str × Addr)) (fp : List Addr), PE (X.blk s H scope (compEnvC scope cl C X.env) fp) elt te) (hs : ∀ x, foldedSetIterable iter X.env x = pure x := by intro _; rfl) :
    PE X (.SetComp elt [⟨tg, iter, ifs, 0⟩] scope pos) (tSx X.prog X.w wi g tt te (own.map (·.2))) := by
  refine ⟨fun pins s σ H Q I h => ?_⟩
  rw [PpSet.eval_SetComp]
  refine sx_core hc hN I hi ok hg ht he hs h fun D C s' m H' I' q hn f => ⟨m, hn, fun h'' sb => ?_⟩
  obtain ⟨f0, f1, f2, f3, f4, f5⟩ := f
  exact ⟨.ref D, H', I'.turned (t' := s'.toks) (fun b o hb e => (sb.2 b hb).trans e) f0 f1 f3 f4 f5, rfl, q⟩
end
end K2
/-! More rules: a statement never reached; sets; defs with a star parameter; lists from dicts. -/
namespace K2
open PySem PySem.Spec PyProof.Rows L2 KH He
theorem rd_yes {σ : L2.St} {H : Hp} {S : Bool → Hp → Prop} (q : S true H) : tYes σ H S := q
def rSetX (K : Fr) (P : Program) (w : World) : List V → Hp → VK → Prop := fun xs H Q => ∃ (a : Addr) (ks : List Key), xs = [.ref a] ∧ SqL K H a (ks.map kV) ∧ ks.length + 1 < scanBound ∧
  ∀ p c S, H p = none → c ≤ ks.length → (∀ k, S k = true ↔ k ∈ ks) → Q (.ref p) (upd H p (SetXO P w p S c))
theorem vals_keys {P : Program} {w : World} : ∀ {ks : List Key} {us : List Value}, Vals (ks.map kV) us → us.length = ks.length ∧ ∀ (i : Nat) (v : Value), us[i]? = some v → ∃ k, ks[i]? = some k ∧ (mixKind P w).is k v = true
  | [], _, .nil => ⟨rfl, fun i v h => by simp at h⟩
  | k :: ks, _, .cons r t => by
    obtain ⟨l, h⟩ := vals_keys (P := P) (w := w) (ks := ks) t
    refine ⟨congrArg Nat.succ l, fun i v e => ?_⟩
    cases i with
    | zero =>
      simp at e
      subst e
      exact ⟨k, rfl, kV_is r⟩
    | succ i => exact h i v (by simpa using e)
theorem cr_setX {X : Cx} (hc : X.calm = true) : CallR X (.type "set") (rSetX X.K X.prog X.w) := by
  intro pins s σ H xs us Q I r h
  obtain ⟨a, ks, rfl, ha, hz, q⟩ := h
  rw [Vals.ref1 r]
  obtain ⟨its, rv, pl, hz2⟩ := I.list ha
  obtain ⟨hl, hv⟩ := vals_keys (P := X.prog) (w := X.w) rv
  refine call_set_listX (P := X.prog) (w := X.w) ks (I.ok.hd hc) pl.isList (by simpa using hl) (fun i v e => hv i v (by rw [← Array.getElem?_toList] at e; simpa using e)) hz fun h' tk c hS hcl hk => ?_
  have n : H s.heap.objs.size = none := I.hok.fresh (Nat.le_refl _)
  have e0 : s.heap.get? s.heap.objs.size = none := by
    cases e : s.heap.get? s.heap.objs.size with
    | none => rfl
    | some o => exact absurd (Heap.lt_size e) (Nat.lt_irrefl _)
  exact ⟨.ref _, _, I.laidN (t' := tk) hk e0 n (setXO_new hS), rfl, q _ c _ n hcl fun k => memK_iff⟩
theorem k_setX {X : Cx} {K : Fr} {P : Program} {w : World} (hc : X.calm = true := by rfl) (h : X.K = K := by rfl) (h1 : X.prog = P := by rfl) (h2 : X.w = w := by rfl) : CallR X (.type "set") (rSetX K P w) := by
  subst h h1 h2
  exact cr_setX hc
def rLenX (P : Program) (w : World) : List V → Hp → VK → Prop := fun xs H Q => ∃ (a : Addr) (S : Key → Bool) (n : Nat), xs = [.ref a] ∧ H a = some (SetXO P w a S n) ∧ Q (.int n) H
theorem k_lenX {X : Cx} {P : Program} {w : World} (h1 : X.prog = P := by rfl) (h2 : X.w = w := by rfl) : CallR X (.builtin "len") (rLenX P w) := by
  subst h1 h2
  intro pins s σ H xs us Q I r h
  obtain ⟨a, S, n, rfl, ha, q⟩ := h
  rw [Vals.ref1 r]
  obtain ⟨o, es, ep, t, ho, hex, hd, _, _, _, hb, hf, hn, _⟩ := setXO_get I ha
  refine call_len_set ho hex hd hf (by have := fits_of_scanBound hb; rw [sizeLine_eq] at this; omega) ⟨.int n, H, I.tok _, ⟨_, by rw [hn]⟩, q⟩
/-- sorted(s), s a set of texts -/
def rSortX (P : Program) (w : World) : List V → Hp → VK → Prop := fun vs H Q => ∃ (a : Addr) (S : Key → Bool) (n : Nat), vs = [.ref a] ∧ H a = some (SetXO P w a S n) ∧ (∀ k, S k = true → ∃ x, k = Sum.inr x) ∧
  ∀ ys p, ys.Nodup → (∀ y, y ∈ ys ↔ S (Sum.inr y) = true) → sortedS ys = true → H p = none → Q (.ref p) (upd H p (.lst (ys.map V.str)))
theorem strs_byKeys {P : Program} {w : World} : ∀ (l : List (Int × Value)), (∀ e ∈ l, GoodX P w e) → (∀ e ∈ l, ∃ x, keyX e = Sum.inr x) → ∃ xs : List Str, StrsAre (l.map (·.2)) xs ∧ l.map keyX = xs.map Sum.inr
  | [], _, _ => ⟨[], .nil, rfl⟩
  | e :: l, h1, h2 => by
    obtain ⟨xs, a, b⟩ := strs_byKeys l (fun e he => h1 e (List.mem_cons_of_mem _ he)) fun e he => h2 e (List.mem_cons_of_mem _ he)
    obtain ⟨x, ex⟩ := h2 e List.mem_cons_self
    have g := h1 e List.mem_cons_self
    have gi := (goodX_is g (Sum.inr x)).mpr ex
    obtain ⟨t, ev⟩ := Value.isStrOf_shape (x := x) (v := e.2) gi
    refine ⟨x :: xs, ?_, by rw [List.map_cons, ex, b]; rfl⟩
    rw [List.map_cons, ev]
    exact .cons x t a
theorem cr_sortX {X : Cx} (hc : X.calm = true) : CallR X (.builtin "sorted") (rSortX X.prog X.w) := by
  intro pins s σ H xs us Q I r q
  obtain ⟨a, S, n, rfl, ha, hS, q⟩ := q
  rw [Vals.ref1 r]
  obtain ⟨o, es, ep, t, ho, hex, hd, g, nd, hm, hb, hf, hn, hr, hl⟩ := setXO_get I ha
  refine Calls.call_function_entry PyProof.Rows.kind_sorted PyProof.Rows.plain_sorted PyProof.Rows.entry_sorted (PyProof.Rows.args_sorted1 _) ?_
  unfold Builtin.«sorted»
  refine wpAny_bind (m := checkCount "sorted" 1 1 _) (wpAny_pure ?_)
  refine wpAny_bind (collect_set (A := X.A.in1) (I.ok.hd hc) ⟨o, ho, hex.1, hd⟩ hf hb hr hl fun s1 vs k1 hz g1 o1 pm => ?_)
  -- in the order of the walk
  obtain ⟨es', pe, ev⟩ : ∃ es' : List (Int × Value), es'.Perm es.toList ∧ vs = es'.map (·.2) := by
    clear q k1 hz g1 o1 g nd hm
    have key : ∀ (l : List (Int × Value)) (vs : List Value), vs.Perm (l.map (·.2)) → ∃ es' : List (Int × Value), es'.Perm l ∧ vs = es'.map (·.2) := by
      intro l vs
      induction vs generalizing l with
      | nil =>
        intro p
        have e := List.map_eq_nil_iff.mp (List.nil_perm.mp p)
        exact ⟨[], by rw [e], rfl⟩
      | cons v vs ih =>
        intro p
        have hv : v ∈ l.map (·.2) := p.mem_iff.mp List.mem_cons_self
        obtain ⟨e, he, q⟩ := List.mem_map.mp hv
        obtain ⟨l1, l2, hl12⟩ := List.append_of_mem he
        subst hl12
        have p2 : vs.Perm ((l1 ++ l2).map (·.2)) := by
          have p3 : (v :: vs).Perm (v :: (l1 ++ l2).map (·.2)) := by
            refine p.trans ?_
            rw [List.map_append, List.map_cons, q, List.map_append]
            exact List.perm_middle
          exact p3.cons_inv
        obtain ⟨es', a1, a2⟩ := ih (l1 ++ l2) p2
        exact ⟨e :: es', (a1.cons e).trans List.perm_middle.symm, by rw [List.map_cons, q, ← a2]⟩
    exact key _ _ pm
  subst ev
  obtain ⟨ks, hks, ek⟩ := strs_byKeys (P := X.prog) (w := X.w) es' (fun e he => g e (pe.mem_iff.mp he)) fun e he => hS _ ((hm _).mpr (List.mem_map.mpr ⟨e, pe.mem_iff.mp he, rfl⟩))
  have h16 : ks.length ≤ sizeLine := by
    have e1 : ks.length = es.size := by
      have := congrArg List.length ek
      rw [List.length_map, List.length_map] at this
      rw [← this, pe.length_eq, Array.length_toList]
    rw [e1]
    exact fits_of_scanBound hb
  have hlen0 : (es'.map (·.2)).length = ks.length := by
    have := congrArg List.length ek
    rw [List.length_map, List.length_map] at this
    rw [List.length_map, this]
  have I1 : Inv X pins σ H s1 := by
    have J := I.call (ch := []) (h' := s1.heap) (g' := s1.gens) (t' := s1.toks) (d' := s1.drawn) (H' := H) (Un.kept k1) (I.hok.kept k1) (by rw [g1]; exact I.bare) (fun _ z => nomatch z)
    obtain ⟨a1, a2, a3, a4, a5⟩ := s1
    simp only at o1
    subst o1
    exact J
  refine wpAny_bind (wpAny_newList ?_ (by rw [hlen0]; exact h16))
  have hoL : (s1.heap.push (seqObj "list" (es'.map (·.2)).toArray 0)).get? s1.heap.objs.size = some (seqObj "list" (es'.map (·.2)).toArray 0) := Heap.get?_push_size _ rfl
  refine wpAny_bind (wpAny_holding (wpAny_call_entry PyProof.Rows.slot_list_sort ⟨_, hoL, rfl⟩ PyProof.Rows.entry_list_sort
    (list_sort_treeKAny strKind_oneLt (s := { s1 with heap := s1.heap.push (seqObj "list" (es'.map (·.2)).toArray 0) }) hoL hks.keysOf (fun v₁ v₂ rest e => keyKind_strs (by rw [← e]; exact hks)) (by rw [hlen0]; exact h16) fun st' hp hs => ⟨_, rfl, ?_⟩)
    (PyProof.Rows.args_list_sort _)))
  obtain ⟨ys, g1', g2, g3⟩ := sorted_out_str hks hp hs
  obtain ⟨e', he'⟩ := PyProof.Rows.sortedHeap_at (vs := es'.map (·.2)) (out := (arrOf st').map (·.2)) hoL
  have hlen : (ys.map V.str).length ≤ sizeLine := by
    rw [List.length_map, g2.length_eq]
    exact h16
  have ndk : ks.Nodup := by
    have h1 : (es'.map keyX).Nodup := (pe.map keyX).nodup_iff.mpr nd
    rw [ek] at h1
    exact List.Pairwise.of_map (S := fun a b => a ≠ b) Sum.inr (fun a b h e => h (by rw [e])) h1
  refine wpAny_pure ⟨_, rfl, .ref s1.heap.objs.size, upd H s1.heap.objs.size (.lst (ys.map V.str)), I1.laid (t' := s1.toks) (fun b u e => ?_) (Nat.le_refl _)
    (show ObjOk X.prog X.w _ _ _ (.lst (ys.map V.str)) from ⟨hlen, ((arrOf st').map (·.2)).toList, e', vals_of_strs g1', by rw [Array.toArray_toList]; exact he'⟩), rfl, q ys _ (g2.nodup_iff.mpr ndk) (fun y => ?_) g3 (I1.hok.fresh (Nat.le_refl _))⟩
  · have hb : b < s1.heap.objs.size := Heap.lt_size e
    rw [PyProof.Rows.sortedHeap_old (Nat.ne_of_lt hb) (by rw [size_push']; exact Nat.lt_succ_of_lt hb)]
    exact Heap.get?_push_of_some _ e
  · rw [g2.mem_iff, hm]
    have h1 : (Sum.inr y : Key) ∈ es.toList.map keyX ↔ Sum.inr y ∈ es'.map keyX := (pe.map keyX).mem_iff.symm
    rw [h1, ek]
    simp
theorem k_sortX {X : Cx} {P : Program} {w : World} (hc : X.calm = true := by rfl) (h1 : X.prog = P := by rfl) (h2 : X.w = w := by rfl) : CallR X (.builtin "sorted") (rSortX P w) := by
  subst h1 h2
  exact cr_sortX hc
/-! readings of dicts of rows -/
theorem DG {H : Hp} {d : Addr} {r : Rows} {b : Bits} {t : Str} (h : Rd H d (.dK (rK r))) (e : r.lookup b = some t) : DGet H d (.str (bstr b)) (some (.str t)) := .inl ⟨rK r, bk b, h, rfl, by rw [valV_rK, e]; rfl⟩
theorem DI {H : Hp} {d : Addr} {r : Rows} {b : Bits} (h : Rd H d (.dK (rK r))) : DGet H d (.str (bstr b)) ((r.lookup b).map V.str) := .inl ⟨rK r, bk b, h, rfl, (valV_rK r b).symm⟩
theorem src_rangeC {lo c : Int} {n : Nat} : Src (Itc lo c n) ((List.range n).map fun (i : Nat) => V.int (lo + (i : Int) * c)) (fun _ => True) where
  go := fun i H _ hi => by
    rw [List.length_map, List.length_range] at hi
    exact hi
  stop := fun i H _ hi => by
    rw [List.length_map, List.length_range] at hi
    exact hi
  yld := fun i H x H' h hi y => ⟨y.1, by rw [List.length_map, List.length_range] at hi; rw [y.2, List.getElem?_map, List.getElem?_range hi]; rfl⟩
section
variable {σ : L2.St} {H : Hp} {R : It → Hp → Prop}
theorem rd_iRng3 {tr : TA} (h : tr σ H fun vs H1 => ∃ (i j c : Int) (n : Nat), vs = [.int i, .int j, .int c] ∧ RgC i j c n ∧ R (Itc i c n) H1) : iRng3 tr σ H R := h
end
theorem rd_met {σ : L2.St} {H : Hp} {Q : VK} {te : TE} {C : Addr} {m : Str} {sp : Sp} {E : XK} {tr : TA} (ha : te σ H fun x H1 => ∃ a dx fs, x = .ref a ∧ H1 a = some (.ins C dx fs) ∧ fs.lookup m = none ∧ tr σ H1 fun vs H2 => sp (x :: (vs ++ [])) H2 Q E) : tMeth C m sp [] E te tr σ H Q := ha
theorem rd_make {σ : L2.St} {H : Hp} {Q : VK} {C : Addr} {sp : Sp} {E : XK} {tr : TA} (h : tr σ H fun vs H1 => ∀ x dx, H1 x = none → H1 dx = none → dx ≠ x → sp (.ref x :: (vs ++ [])) (upd (upd H1 dx (.own x)) x (.ins C dx [])) (fun v H2 => v = .non ∧ Q (.ref x) H2) E) : tMake C sp [] E tr σ H Q := h
theorem rd_U {H : Hp} {Q : VK} {f : Int → V} {i : Int} (q : Q (f i) H) : rU f (.int i) H Q := ⟨i, rfl, q⟩
theorem longB_some {α : Type} {r : List (Bits × α)} {b : Bits} {i : Nat} (hn : ∀ j, j < i → (r.lookup (b.take (b.length - j))).isSome = false) (h : (r.lookup (b.take (b.length - i))).isSome = true) : longB r b = some (b.take (b.length - i)) := by
  refine Longest.uniq (longB_longest r b) ⟨?_, List.take_prefix _ b, fun q hq hp => ?_⟩
  · obtain ⟨t, e⟩ := Option.isSome_iff_exists.mp h
    exact List.mem_map.mpr ⟨_, mem_of_lookup' e, rfl⟩
  · have hl := hp.length_le
    rw [List.length_take]
    apply Classical.byContradiction
    intro hc
    obtain ⟨t, e⟩ := lookup_some_of_mem hq
    have h2 := hn (b.length - q.length) (by omega)
    rw [show b.length - (b.length - q.length) = q.length by omega, ← List.prefix_iff_eq_take.mp hp, e] at h2
    cases h2
theorem longB_none {α : Type} {r : List (Bits × α)} {b : Bits} (hn : ∀ j, j < b.length + 1 → (r.lookup (b.take (b.length - j))).isSome = false) : longB r b = none := by
  refine Longest.uniq (longB_longest r b) fun q hq hp => ?_
  have hl := hp.length_le
  obtain ⟨t, e⟩ := lookup_some_of_mem hq
  have h2 := hn (b.length - q.length) (by omega)
  rw [show b.length - (b.length - q.length) = q.length by omega, ← List.prefix_iff_eq_take.mp hp, e] at h2
  cases h2
theorem rd_isN_str {z : Str} {H : Hp} {Q : VK} (q : Q (.bl false) H) : rIsN2 (.str z) .non H Q := ⟨rfl, q⟩
theorem rd_notN_str {z : Str} {H : Hp} {Q : VK} (q : Q (.bl true) H) : rNotN2 (.str z) .non H Q := ⟨rfl, q⟩
theorem rd_isN_int {z : Int} {H : Hp} {Q : VK} (q : Q (.bl false) H) : rIsN2 (.int z) .non H Q := ⟨rfl, q⟩
theorem rd_notN_int {z : Int} {H : Hp} {Q : VK} (q : Q (.bl true) H) : rNotN2 (.int z) .non H Q := ⟨rfl, q⟩
theorem rd_isN_ref {z : Addr} {H : Hp} {Q : VK} (q : Q (.bl false) H) : rIsN2 (.ref z) .non H Q := ⟨rfl, q⟩
theorem rd_notN_ref {z : Addr} {H : Hp} {Q : VK} (q : Q (.bl true) H) : rNotN2 (.ref z) .non H Q := ⟨rfl, q⟩
theorem rd_isN_non {H : Hp} {Q : VK} (q : Q (.bl true) H) : rIsN2 .non .non H Q := ⟨rfl, q⟩
theorem rd_notN_non {H : Hp} {Q : VK} (q : Q (.bl false) H) : rNotN2 .non .non H Q := ⟨rfl, q⟩
theorem flatMap_len {α β : Type} (f : α → List β) (n : Nat) : ∀ (l : List α), (∀ x ∈ l, (f x).length ≤ n) → (l.flatMap f).length ≤ n * l.length
  | [], _ => Nat.zero_le _
  | x :: l, h => by
    have h1 := flatMap_len f n l fun y hy => h y (List.mem_cons_of_mem _ hy)
    have h2 := h x List.mem_cons_self
    rw [List.flatMap_cons, List.length_append, List.length_cons, Nat.mul_add]
    omega
section
variable {J : It} {xs : List V} {Keep : Hp → Prop} {g g1 : TG} {tt tt1 : TT} {te : TE} {wi1 : TI} {vs vs1 : List Nat} {σ : L2.St} {H : Hp} {D : Addr} {Qd : Hp → Prop}
/-- [z for x in xs for z in ..]: f tells the items of x's walk -/
theorem lc2G (hJ : Src J xs Keep) (hk : ∀ H', Ex H H' → Keep H') (f : V → List V) (hD : H D = none) (hz : xs.length ≤ 1000) (hf : ∀ x ∈ xs, (f x).length ≤ 900)
    (turn : ∀ x, x ∈ xs → ∀ H', Ex H H' → (∃ acc, H' D = some (.lst acc)) → ∀ (R : L2.St → It → Hp → Prop) (S : Hp → Prop),
      (∀ σ2 J1 H4 Keep1, Ex H' H4 → Src J1 (f x) Keep1 → (∀ H5, Xp D H4 H5 → Keep1 H5) →
        (∀ z ∈ f x, ∀ H5, Xp D H4 H5 → ∀ (R1 : V → Hp → Prop) (S1 : Hp → Prop), (∀ H7, Ex H5 H7 → R1 z H7) → g1 z (wipe σ2 vs1) H5 fun σ3 H6 => wipe σ3 vs1 = wipe σ2 vs1 ∧ tt1 σ3 H6 fun b H7 => if b = true then te σ3 H7 R1 else S1 H7) → R σ2 J1 H4) →
      g x (wipe σ vs) H' fun σ2 H2 => wipe σ2 vs = wipe σ vs ∧ tt σ2 H2 fun b H3 => if b = true then wi1 σ2 H3 (R σ2) else S H3)
    (done : ∀ H', Ex H H' → H' D = some (.lst (xs.flatMap f)) → Qd H') :
    ∃ W : Nat → Nat → Hp → Prop, (∃ m, W 0 m (upd H D (.lst []))) ∧ ∀ i m H, W i m H → (J.stop i H ∧ Qd H) ∨ (J.go i H ∧ ∃ Nx : Hp → Prop, (∀ H', Nx H' → ∃ m', m' < m ∧ W (i + 1) m' H') ∧
      ∀ x H', J.yld i H x H' → g x (wipe σ vs) H' fun σ2 H2 => wipe σ2 vs = wipe σ vs ∧ tt σ2 H2 fun b H3 =>
        if b = true then wi1 σ2 H3 fun J1 H4 => ∃ W1 : Nat → Nat → Hp → Prop, (∃ m, W1 0 m H4) ∧ ∀ j k H, W1 j k H →
          (J1.stop j H ∧ Nx H) ∨ (J1.go j H ∧ ∃ Nx1 : Hp → Prop, (∀ H', Nx1 H' → ∃ k', k' < k ∧ W1 (j + 1) k' H') ∧ ∀ x H', J1.yld j H x H' → g1 x (wipe σ2 vs1) H' fun σ3 H5 => wipe σ3 vs1 = wipe σ2 vs1 ∧ tt1 σ3 H5 fun b H6 =>
            if b = true then te σ3 H6 fun y H7 => ∃ acc, H7 D = some (.lst acc) ∧ acc.length < sizeLine ∧ Nx1 (upd H7 D (.lst (acc ++ [y]))) else Nx1 H6)
        else Nx H3) := by
  refine ⟨fun i m H' => m = xs.length - i ∧ i ≤ xs.length ∧ Ex H H' ∧ H' D = some (.lst ((xs.take i).flatMap f)), ⟨xs.length, by simp, Nat.zero_le _, Ex.rfl'.up hD, upd_same⟩, ?_⟩
  rintro i m H1 ⟨rfl, hi, e1, d1⟩
  have kp := hk H1 e1
  by_cases hlt : i < xs.length
  · refine .inr ⟨hJ.go i H1 kp hlt, fun H' => Ex H H' ∧ H' D = some (.lst ((xs.take (i + 1)).flatMap f)), fun H' p => ⟨xs.length - (i + 1), by omega, rfl, hlt, p.1, p.2⟩, fun x H' y => ?_⟩
    obtain ⟨rfl, ex⟩ := hJ.yld i H1 x H' kp hlt y
    have hx := List.mem_of_getElem? ex
    have et : xs.take (i + 1) = xs.take i ++ [x] := by
      rw [List.take_succ, ex]; rfl
    have hl := flatMap_len f 900 (xs.take i) fun y hy => hf y (List.mem_of_mem_take hy)
    rw [List.length_take, Nat.min_eq_left hi] at hl
    have hfx := hf x hx
    refine turn x hx H' e1 ⟨_, d1⟩ _ _ fun σ2 J1 H4 Keep1 e4 hJ1 hk1 turn1 => ?_
    refine ⟨fun j k H5 => k = (f x).length - j ∧ j ≤ (f x).length ∧ Ex H H5 ∧ (∀ a o, a ≠ D → H4 a = some o → H5 a = some o) ∧ H5 D = some (.lst ((xs.take i).flatMap f ++ (f x).take j)), ⟨(f x).length, by simp, Nat.zero_le _, e1.tr e4, fun _ _ _ h => h, by rw [List.take_zero, List.append_nil]; exact e4 _ _ d1⟩, ?_⟩
    rintro j k H5 ⟨rfl, hj, e5, x5, d5⟩
    have kp1 := hk1 H5 x5
    by_cases hlt1 : j < (f x).length
    · refine .inr ⟨hJ1.go j H5 kp1 hlt1, fun H6 => Ex H H6 ∧ (∀ a o, a ≠ D → H4 a = some o → H6 a = some o) ∧ H6 D = some (.lst ((xs.take i).flatMap f ++ (f x).take (j + 1))), fun H6 p => ⟨(f x).length - (j + 1), by omega, rfl, hlt1, p.1, p.2.1, p.2.2⟩, fun z H6 y1 => ?_⟩
      obtain ⟨rfl, ez⟩ := hJ1.yld j H5 z H6 kp1 hlt1 y1
      have et1 : (f x).take (j + 1) = (f x).take j ++ [z] := by
        rw [List.take_succ, ez]; rfl
      refine turn1 z (List.mem_of_getElem? ez) H6 x5 (fun y H7 => ∃ acc, H7 D = some (.lst acc) ∧ acc.length < sizeLine ∧ (Ex H (upd H7 D (.lst (acc ++ [y]))) ∧ (∀ a o, a ≠ D → H4 a = some o → (upd H7 D (.lst (acc ++ [y]))) a = some o) ∧ (upd H7 D (.lst (acc ++ [y]))) D = some (.lst ((xs.take i).flatMap f ++ (f x).take (j + 1))))) _ fun H7 e7 => ⟨_, e7 D _ d5, ?_, (e5.tr e7).up hD, fun a o ha h => ?_, ?_⟩
      · rw [List.length_append, List.length_take]
        exact szlt (by omega)
      · rw [upd_ne ha]
        exact e7 _ _ (x5 a o ha h)
      · rw [upd_same, et1, List.append_assoc]
    · have ej : j = (f x).length := by omega
      subst ej
      rw [List.take_length] at d5
      exact .inl ⟨hJ1.stop _ H5 kp1 (Nat.le_refl _), e5, by rw [d5, et, List.flatMap_append]; simp⟩
  · have ei : i = xs.length := by omega
    subst ei
    rw [List.take_length] at d1
    exact .inl ⟨hJ.stop _ H1 kp (Nat.le_refl _), done H1 e1 d1⟩
end
end K2
/-! The closure of bit strings, its leaves; the runs that are moved. -/
namespace K2
open PySem PySem.Spec PyProof.Rows L2 KH He
abbrev vb (b : Bits) : V := .str (bstr b)
def cl1 (b : Bits) (n : Nat) : List Bits := (List.range n).flatMap fun k => [b.take k ++ [false], b.take k ++ [true]]
def clL (bs : List Bits) : List Bits := [] :: bs.flatMap fun b => cl1 b b.length
theorem cl1_succ (b : Bits) (n : Nat) : cl1 b (n + 1) = cl1 b n ++ [b.take n ++ [false], b.take n ++ [true]] := by
  unfold cl1
  rw [List.range_succ, List.flatMap_append]
  simp
theorem cl1_len (b : Bits) (n : Nat) : (cl1 b n).length = 2 * n := by
  induction n with
  | zero => rfl
  | succ n ih => rw [cl1_succ, List.length_append, ih]; simp; omega
theorem clL_snoc (bs : List Bits) (b : Bits) : clL (bs ++ [b]) = clL bs ++ cl1 b b.length := by simp [clL, List.flatMap_append]
theorem clL_len (bs : List Bits) (h : ∀ b ∈ bs, b.length ≤ 32) : (clL bs).length ≤ 1 + 64 * bs.length := by
  have := flatMap_len (fun b => cl1 b b.length) 64 bs fun b hb => by
    rw [cl1_len]
    have := h b hb
    omega
  simp only [clL, List.length_cons]
  omega
theorem clL_mem_len {bs : List Bits} {n : Nat} (h : ∀ b ∈ bs, b.length ≤ n) {c : Bits} (hc : c ∈ clL bs) : c.length ≤ n := by
  rcases List.mem_cons.mp hc with e | e
  · rw [e]; exact Nat.zero_le _
  · obtain ⟨b, hb, h1⟩ := List.mem_flatMap.mp e
    obtain ⟨k, hk, h2⟩ := List.mem_flatMap.mp h1
    have hk := List.mem_range.mp hk
    have hl := h b hb
    simp only [List.mem_cons, List.not_mem_nil, or_false] at h2
    rcases h2 with e | e <;> rw [e, List.length_append, List.length_take, List.length_singleton] <;> omega
def nubB : List Bits → List Bits
  | [] => []
  | x :: l => if x ∈ l then nubB l else x :: nubB l
theorem nubB_mem {c : Bits} : ∀ {l : List Bits}, c ∈ nubB l ↔ c ∈ l
  | [] => Iff.rfl
  | x :: l => by
    unfold nubB
    split
    · rw [nubB_mem, List.mem_cons]
      constructor
      · exact .inr
      · rintro (e | e)
        · rw [e]; assumption
        · exact e
    · rw [List.mem_cons, List.mem_cons, nubB_mem]
theorem nubB_nodup : ∀ (l : List Bits), (nubB l).Nodup
  | [] => List.Pairwise.nil
  | x :: l => by
    unfold nubB
    split
    · exact nubB_nodup l
    · rw [List.nodup_cons, nubB_mem]
      exact ⟨by assumption, nubB_nodup l⟩
/-- the closure, sorted -/
def closB (bs : List Bits) : List Bits := sortB (nubB (clL bs))
theorem closB_of {bs ys : List Bits} (nd : ys.Nodup) (m : ∀ c, c ∈ ys ↔ c ∈ clL bs) : sortB ys = closB bs :=
  sortB_congr ((List.perm_ext_iff_of_nodup nd (nubB_nodup _)).mpr fun c => (m c).trans nubB_mem.symm)
theorem closB_mem {bs : List Bits} {c : Bits} : c ∈ closB bs ↔ c ∈ clL bs := sortB_mem.trans nubB_mem
theorem closB_nodup (bs : List Bits) : (closB bs).Nodup := sortB_nodup (nubB_nodup _)
theorem nubB_len : ∀ l : List Bits, (nubB l).length ≤ l.length
  | [] => Nat.le_refl _
  | x :: l => by
    have := nubB_len l
    unfold nubB
    split
    · simp only [List.length_cons]; omega
    · simp only [List.length_cons]; omega
theorem closB_len (bs : List Bits) (h : ∀ b ∈ bs, b.length ≤ 32) : (closB bs).length ≤ 1 + 64 * bs.length := by
  rw [closB, sortB_len]
  exact Nat.le_trans (nubB_len _) (clL_len bs h)
theorem closB_congr {bs bs' : List Bits} (h : ∀ b, b ∈ bs ↔ b ∈ bs') : closB bs = closB bs' := by
  refine closB_of (nubB_nodup _) fun c => nubB_mem.trans ?_
  unfold clL
  rw [List.mem_cons, List.mem_cons, List.mem_flatMap, List.mem_flatMap]
  constructor
  · rintro (e | ⟨b, hb, hc⟩)
    · exact .inl e
    · exact .inr ⟨b, (h b).mp hb, hc⟩
  · rintro (e | ⟨b, hb, hc⟩)
    · exact .inl e
    · exact .inr ⟨b, (h b).mpr hb, hc⟩
/-- the leaves of a closure -/
def leafB (ns : List Bits) : List Bits := ns.filter fun b => !decide (b ++ [false] ∈ ns)
theorem putR_mem {α : Type} {r : List (Bits × α)} {b c : Bits} {v : α} : c ∈ (putR r b v).map (·.1) ↔ c ∈ r.map (·.1) ∨ c = b := by
  rw [putR_keys]
  split
  · constructor
    · exact .inl
    · rintro (e | e)
      · exact e
      · rw [e]; assumption
  · rw [List.mem_append, List.mem_singleton]
theorem putR_len {α : Type} (r : List (Bits × α)) (b : Bits) (v : α) : (putR r b v).length ≤ r.length + 1 := by
  unfold putR
  split
  · rw [List.length_map]; omega
  · rw [List.length_append, List.length_singleton]; omega
theorem eK_len (r : List (Bits × V)) : (eK r).length = r.length := by simp [eK]
theorem eK_strs (r : List (Bits × V)) : (eK r).map (·.1) = ((r.map (·.1)).map bstr).map Sum.inr := by simp [eK, bk]
/-- d[b] = v -/
theorem DPe {H : Hp} {d : Addr} {l : List (Bits × V)} {b : Bits} {v : V} (h : H d = some (.dK (eK l))) (hl : l.length < 100000) : DPut H d (.str (bstr b)) v (upd H d (.dK (eK (putR l b v)))) :=
  .inl ⟨eK l, bk b, h, rfl, by rw [eK_len]; exact szlt (by omega), by rw [putK_eK]⟩
theorem DPr {H : Hp} {d : Addr} {r : Rows} {b : Bits} {t : Str} (h : H d = some (.dK (rK r))) (hl : r.length < 100000) : DPut H d (.str (bstr b)) (.str t) (upd H d (.dK (rK (putR r b t)))) :=
  .inl ⟨rK r, bk b, h, rfl, by rw [rK_len]; exact szlt (by omega), by rw [putK_rK]⟩
theorem rK_inj : ∀ {a b : Rows}, rK a = rK b → a = b
  | [], [], _ => rfl
  | [], _ :: _, h => by cases h
  | _ :: _, [], h => by cases h
  | x :: a, y :: b, h => by
    obtain ⟨h1, h2⟩ := List.cons.inj (show (bk x.1, V.str x.2) :: rK a = (bk y.1, V.str y.2) :: rK b from h)
    obtain ⟨h3, h4⟩ := Prod.mk.inj h1
    rw [rK_inj h2]
    obtain ⟨x1, x2⟩ := x
    obtain ⟨y1, y2⟩ := y
    have h5 : x1 = y1 := bk_inj.mp h3
    have h6 : x2 = y2 := V.str.inj h4
    rw [h5, h6]
theorem Ex.nw2 {H : Hp} {p : Addr} {o o' : HO} (h : H p = none) : Ex H (upd (upd H p o) p o') := fun a u e => by
  rw [upd_ne (ne_of_none e h), upd_ne (ne_of_none e h)]
  exact e
theorem src_rows {d : Addr} {o : Obj} {r : Rows} : Src (Itk d o (rK r)) ((r.map (·.1)).map vb) (fun H => H d = some (.frz o (.dK (rK r)))) := by
  have e : ((r.map (·.1)).map vb) = (rK r).map fun q => kV q.1 := by
    rw [rK, List.map_map, List.map_map]
    rfl
  rw [e]
  exact src_keys
/-! the runs -/
structure Run where
  lo : Bits
  hi : Bits
  was : Option Str
  now : Option Str
def runV (r : Run) : List V := [vb r.lo, vb r.hi, oV r.was, oV r.now]
/-- a leaf added: found so far (last first), the pair of the leaf before if it was moved -/
def stepR (n : Nat) (a b : Rows) (st : List Run × Option (Option Str × Option Str)) (e : Bits) : List Run × Option (Option Str × Option Str) :=
  let p := (leadB a e, leadB b e)
  if p.1 = p.2 then (st.1, some p) else
    let lo := if st.2 = some p then (match st.1 with | r :: _ => r.lo | [] => []) else e ++ List.replicate (n - e.length) false
    let rest := if st.2 = some p then st.1.drop 1 else st.1
    (⟨lo, e ++ List.replicate (n - e.length) true, p.1, p.2⟩ :: rest, some p)
def runsB (n : Nat) (a b : Rows) (es : List Bits) : List Run × Option (Option Str × Option Str) := es.foldl (stepR n a b) ([], none)
def movesB (n : Nat) (a b : Rows) : List Run := (runsB n a b (leafB (closB (a.map (·.1) ++ b.map (·.1))))).1.reverse
end K2
/-! Own exceptions raised; defs with a star parameter; set comprehensions. -/
namespace K2
open PySem PySem.Spec PyProof.Rows L2 KH He
def XcOf (K : Fr) (C : Addr) : Prop := PySem.W.excIn K C veBase "ValueError.__new__" = true ∧ PySem.W.keepIn K (.ref C) = true ∧ PySem.W.subIn K (.ref C) (.type "BaseException") = some true ∧ PySem.W.typeIn K (.ref C) = some (.type "type")
theorem xc_ok {x : Str} {K : Fr} (c : fExc x K = true) : XcOf K (ga K x) := exc_ok c
theorem pmk_exc {X : Cx} {x m : Str} {C : Addr} {j : Nat} {p p2 pos : Pos} (h : XcOf X.K C) (g : X.mg x = some (.ref C)) (hg : Gl X x := by rfl) (hdb : (x == ("__debug__" : Str)) = false := by decide) :
    PMk X (.Call (.Name x p) [.Constant (.str m) j p2] [] pos) (fun _ H Q => Q (.ref C) none H) := pmk_own PySem.F.excBase_ValueError h.1 g h.2.1 (raises_own h.2.2.1 h.2.2.2) hg hdb
def fExcC (C : Str) (K : Fr) : Bool :=
  ((eqO (PySem.W.findIn K (.ref (ga K C)) "__getattribute__") (some (some (.builtin "BaseException.__getattribute__"))) && eqO (PySem.W.findIn K (.ref (ga K C)) "__getattr__") (some none)) &&
  (decide (PySem.W.subIn K (.ref (ga K C)) (.type "BaseException") = some true) && PySem.W.hasDictIn K (ga K C))) &&
  ((eqO (PySem.W.findIn K (.ref (ga K C)) "__class__") (some (some (.builtin "object.__class__"))) && eqO (PySem.W.specialIn K (.builtin "object.__class__") "__get__") (some (some (.builtin "getset_descriptor.__get__")))) &&
  (decide (PySem.W.takesIn K (.builtin "object.__class__") = some true) && decide (PySem.W.mroIn K (ga K C) (.type "object") = some true)))
theorem excC_ok {C : Str} {K : Fr} (c : fExcC C K = true) : ExcC K (ga K C) := by
  obtain ⟨c1, c2⟩ := ba (show (_ && _) = true from c)
  obtain ⟨a1, a2⟩ := ba c1
  obtain ⟨b1, b2⟩ := ba c2
  obtain ⟨a11, a12⟩ := ba a1
  obtain ⟨a21, a22⟩ := ba a2
  obtain ⟨b11, b12⟩ := ba b1
  obtain ⟨b21, b22⟩ := ba b2
  exact ⟨eqO_ok a11, eqO_ok a12, of_decide_eq_true a21, a22, eqO_ok b11, eqO_ok b12, of_decide_eq_true b21, of_decide_eq_true b22⟩
def fKit (C D : Str) (b : Bool) (K : Fr) : Bool := decide (PySem.W.kitOne K (.ref (ga K C)) (.ref (ga K D)) = some b)
theorem kit2_ok {C D : Str} {b : Bool} {K : Fr} (c : fKit C D b K = true) : PySem.W.kitOne K (.ref (ga K C)) (.ref (ga K D)) = some b := of_decide_eq_true c
section
variable (P : Program) (w : World) (K : Fr) (mg : Str → Option Value) (base : Heap)
/-- a def by its promise of positional values, however they are bound -/
def OkR (k : Nat) (x : Str) (sp : Sp) : Prop := ∃ f, mg x = some (.ref f) ∧ PySem.W.keepIn K (.ref f) = true ∧ FnR P w K mg base (L2.CX P w) k f sp
end
def spStar (n : Nat) (sb : Sp) : Sp := fun vs H Q E => vs.length = n ∧ ∀ p, H p = none → sb [.ref p] (upd H p (.tup vs)) Q E
theorem spStar_imp {n : Nat} {sb : Sp} (hn : n ≤ 1000) : ∀ vs H Q E, spStar n sb vs H Q E → ∃ ws rest, vs = ws ++ rest ∧ ws.length = ([] : List Str).length ∧ rest.length ≤ sizeLine ∧ ∀ p, H p = none → sb (ws ++ [V.ref p]) (upd H p (.tup rest)) Q E :=
  fun vs H Q E h => ⟨[], vs, rfl, rfl, szl (by rw [h.1]; omega), h.2⟩
section
variable {X : Cx} {x : Str} {sp : Sp} {E : XK} {e : Expr} {es : List Expr} {t : TA} {p pos : Pos} {k : Nat}
theorem pcR (h : OkR X.prog X.w X.K X.mg X.base k x sp) (hr : Room k X.A) (hg : Gl X x) (hx : Passes (L2.CX X.prog X.w) X E) (ha : PA X (e :: es) t) (hdb : (x == ("__debug__" : Str)) = false := by decide)
    (he : starEach (e :: es) X.env = (false, eval e X.env) :: starEach es X.env := by rfl) (hpl : (backTo pos (starEach es X.env)).any (·.1) = false := by rfl) : PE X (.Call (.Name x p) (e :: es) [] pos) (tCall sp [] E t) := by
  obtain ⟨f, g, kp, F⟩ := h
  refine ⟨fun pins s σ H Q I h => ?_⟩
  refine wpAny_Call_Name_kw (ld_glob I hg g ?_ hdb)
  refine PySem.W.callWith_K (h₀ := X.base) I.ok.mod.kin kp (thn (ha.run pos pins s σ H _ I h) fun us s1 ⟨vs, H1, I1, r, q⟩ => ⟨I1.kIn, ?_⟩) he hpl
  have q2 : sp (vs ++ []) H1 Q E := q
  rw [List.append_nil] at q2
  exact wpAny_call (run_fnR F hr hx I1 r q2)
/-- what a callee lets out leaves this def as well -/
theorem passE {P : Program} {w : World} {K : Fr} {mg : Str → Option Value} {base : Heap} {N : List Str} {q : Str} {sc : Scope} {f : Addr} {cdv : Value} {A : Around} {outer : List Env} {s : Shared} {H : Hp} {E : XK} :
    Passes (L2.CX P w) (cxOf (L2.CX P w) P w K mg base N q sc f cdv A outer s H E) E := passes_call (takes_of rfl rfl rfl rfl) (fun _ _ _ _ h => h)
end
/-! set comprehensions -/
def setStep (p : (Key → Bool) × Nat) (c : Key) : (Key → Bool) × Nat := (fun j => p.1 j || decide (j = c), if p.1 c = true then p.2 else p.2 + 1)
def setFold (ks : List Key) : (Key → Bool) × Nat := ks.foldl setStep (fun _ => false, 0)
theorem setFold_le (ks : List Key) : (setFold ks).2 ≤ ks.length := by
  have key : ∀ (l : List Key) (p : (Key → Bool) × Nat), (l.foldl setStep p).2 ≤ p.2 + l.length := by
    intro l
    induction l with
    | nil => intro p; exact Nat.le_refl _
    | cons c l ih =>
      intro p
      refine Nat.le_trans (ih _) ?_
      show (if p.1 c = true then p.2 else p.2 + 1) + l.length ≤ _
      simp only [List.length_cons]
      split <;> omega
  have := key ks (fun _ => false, 0)
  simpa [setFold] using this
section
variable {P : Program} {w : World} {J : It} {xs : List V} {Keep : Hp → Prop} {g : TG} {tt : TT} {te : TE} {vs : List Nat} {σ : L2.St} {H : Hp} {D : Addr} {Qd : Hp → Prop} {wi : TI} {Q : VK}
theorem rd_sc (h : wi σ H fun J H1 => ∀ D, H1 D = none → ∃ W : Nat → Nat → Hp → Prop, (∃ m, W 0 m (upd H1 D (SetXO P w D (fun _ => false) 0))) ∧ ∀ i m H, W i m H →
  (J.stop i H ∧ Q (.ref D) H) ∨ (J.go i H ∧ ∃ Nx : Hp → Prop, (∀ H', Nx H' → ∃ m', m' < m ∧ W (i + 1) m' H') ∧ ∀ x H', J.yld i H x H' → g x (wipe σ vs) H' fun σ2 H2 => wipe σ2 vs = wipe σ vs ∧ tt σ2 H2 fun b H3 =>
    if b = true then te σ2 H3 fun y H4 => ∃ (c : Key) (S : Key → Bool) (n : Nat), y = kV c ∧ H4 D = some (SetXO P w D S n) ∧ n + 1 < scanBound ∧ Nx (upd H4 D (SetXO P w D (fun j => S j || decide (j = c)) (if S c = true then n else n + 1))) else Nx H3)) : tSx P w wi g tt te vs σ H Q := h
theorem scG (hJ : Src J xs Keep) (hk : ∀ H', Ex H H' → Keep H') (f : V → Key) (hD : H D = none) (hz : xs.length ≤ 1000)
    (turn : ∀ x, x ∈ xs → ∀ H', Ex H H' → ∀ (R : V → Hp → Prop) (S : Hp → Prop), (∀ H4, Ex H' H4 → R (kV (f x)) H4) →
      g x (wipe σ vs) H' fun σ2 H2 => wipe σ2 vs = wipe σ vs ∧ tt σ2 H2 fun b H3 => if b = true then te σ2 H3 R else S H3)
    (done : ∀ H', Ex H H' → H' D = some (SetXO P w D (setFold (xs.map f)).1 (setFold (xs.map f)).2) → Qd H') :
    ∃ W : Nat → Nat → Hp → Prop, (∃ m, W 0 m (upd H D (SetXO P w D (fun _ => false) 0))) ∧ ∀ i m H, W i m H → (J.stop i H ∧ Qd H) ∨ (J.go i H ∧ ∃ Nx : Hp → Prop, (∀ H', Nx H' → ∃ m', m' < m ∧ W (i + 1) m' H') ∧
      ∀ x H', J.yld i H x H' → g x (wipe σ vs) H' fun σ2 H2 => wipe σ2 vs = wipe σ vs ∧ tt σ2 H2 fun b H3 =>
        if b = true then te σ2 H3 fun y H4 => ∃ (c : Key) (S : Key → Bool) (n : Nat), y = kV c ∧ H4 D = some (SetXO P w D S n) ∧ n + 1 < scanBound ∧ Nx (upd H4 D (SetXO P w D (fun j => S j || decide (j = c)) (if S c = true then n else n + 1))) else Nx H3) := by
  refine ⟨fun i m H' => m = xs.length - i ∧ i ≤ xs.length ∧ Ex H H' ∧ H' D = some (SetXO P w D (setFold ((xs.take i).map f)).1 (setFold ((xs.take i).map f)).2), ⟨xs.length, by simp, Nat.zero_le _, Ex.rfl'.up hD, upd_same⟩, ?_⟩
  rintro i m H1 ⟨rfl, hi, e1, d1⟩
  have kp := hk H1 e1
  by_cases hlt : i < xs.length
  · refine .inr ⟨hJ.go i H1 kp hlt, fun H' => Ex H H' ∧ H' D = some (SetXO P w D (setFold ((xs.take (i + 1)).map f)).1 (setFold ((xs.take (i + 1)).map f)).2), fun H' p => ⟨xs.length - (i + 1), by omega, rfl, hlt, p.1, p.2⟩, fun x H' y => ?_⟩
    obtain ⟨rfl, ex⟩ := hJ.yld i H1 x H' kp hlt y
    have et : (xs.take (i + 1)).map f = (xs.take i).map f ++ [f x] := by
      rw [List.take_succ, ex, List.map_append]; rfl
    refine turn x (List.mem_of_getElem? ex) H' e1 (fun y H4 => ∃ (c : Key) (S : Key → Bool) (n : Nat), y = kV c ∧ H4 D = some (SetXO P w D S n) ∧ n + 1 < scanBound ∧ (Ex H (upd H4 D (SetXO P w D (fun j => S j || decide (j = c)) (if S c = true then n else n + 1))) ∧
      (upd H4 D (SetXO P w D (fun j => S j || decide (j = c)) (if S c = true then n else n + 1))) D = some (SetXO P w D (setFold ((xs.take (i + 1)).map f)).1 (setFold ((xs.take (i + 1)).map f)).2))) _ fun H4 e4 => ⟨f x, _, _, rfl, e4 D _ d1, ?_, (e1.tr e4).up hD, ?_⟩
    · have h1 := setFold_le ((xs.take i).map f)
      rw [List.length_map, List.length_take] at h1
      unfold scanBound
      omega
    · rw [upd_same, et, setFold, setFold, List.foldl_append]
      rfl
  · have ei : i = xs.length := by omega
    subst ei
    rw [List.take_length] at d1
    exact .inl ⟨hJ.stop _ H1 kp (Nat.le_refl _), done H1 e1 d1⟩
theorem rd_lenX {H : Hp} {a : Addr} {S : Key → Bool} {n : Nat} (h : H a = some (SetXO P w a S n)) (q : Q (.int n) H) : rLenX P w [.ref a] H Q := ⟨a, S, n, rfl, h, q⟩
end
section
variable {wi wi1 : TI} {g g1 : TG} {tt tt1 : TT} {te : TE} {vs vs1 : List Nat} {σ : L2.St} {H : Hp} {Q : VK}
theorem rd_lc2 (h : wi σ H fun J H1 => ∀ D, H1 D = none → ∃ W : Nat → Nat → Hp → Prop, (∃ m, W 0 m (upd H1 D (.lst []))) ∧ ∀ i m H, W i m H →
  (J.stop i H ∧ Q (.ref D) H) ∨ (J.go i H ∧ ∃ Nx : Hp → Prop, (∀ H', Nx H' → ∃ m', m' < m ∧ W (i + 1) m' H') ∧ ∀ x H', J.yld i H x H' → g x (wipe σ vs) H' fun σ2 H2 => wipe σ2 vs = wipe σ vs ∧ tt σ2 H2 fun b H3 =>
    if b = true then wi1 σ2 H3 fun J1 H4 => ∃ W1 : Nat → Nat → Hp → Prop, (∃ m, W1 0 m H4) ∧ ∀ j k H, W1 j k H →
      (J1.stop j H ∧ Nx H) ∨ (J1.go j H ∧ ∃ Nx1 : Hp → Prop, (∀ H', Nx1 H' → ∃ k', k' < k ∧ W1 (j + 1) k' H') ∧ ∀ x H', J1.yld j H x H' → g1 x (wipe σ2 vs1) H' fun σ3 H5 => wipe σ3 vs1 = wipe σ2 vs1 ∧ tt1 σ3 H5 fun b H6 =>
        if b = true then te σ3 H6 fun y H7 => ∃ acc, H7 D = some (.lst acc) ∧ acc.length < sizeLine ∧ Nx1 (upd H7 D (.lst (acc ++ [y]))) else Nx1 H6)
    else Nx H3)) : tLc2 wi g tt wi1 g1 tt1 te vs vs1 σ H Q := h
end
end K2
/-! Runs as tuples. -/
namespace K2
open PySem PySem.Spec PyProof.Rows L2 KH He
theorem oV_inj {x y : Option Str} : oV x = oV y ↔ x = y := by
  cases x <;> cases y <;> simp [oV]
theorem oV_scal (x y : Option Str) : scal (oV x) (oV y) = true := by cases x <;> cases y <;> rfl
theorem oV_flat (x : Option Str) : flatV (oV x) = true := by cases x <;> rfl
def dOf : Option Str → PyData
  | none => .none
  | some s => .str s
theorem dp_oV {K : Fr} {H : Hp} (x : Option Str) : Dp K H (oV x) (dOf x) := by
  cases x with
  | none => exact .non
  | some s => exact .str s
theorem eqv_dOf (x y : Option Str) : PyData.eqv (dOf x) (dOf y) = decide (x = y) := by
  cases x <;> cases y <;> simp [dOf, PyData.eqv]
  rename_i a b
  rw [Bool.eq_iff_iff]
  simp
theorem eqv_pair (x y u v : Option Str) : PyData.eqv (.tuple [dOf x, dOf y]) (.tuple [dOf u, dOf v]) = decide ((x, y) = (u, v)) := by
  simp only [PyData.eqv, PyData.eqvAll, eqv_dOf, Bool.and_true]
  rw [Bool.eq_iff_iff]
  simp
def oOk (x : Option Str) : Prop := ∀ s, x = some s → PyData.strOk s = true
theorem shaped_pair {x y : Option Str} (hx : oOk x) (hy : oOk y) : SeqAt.shaped (.tuple [dOf x, dOf y]) = true := by
  have one : ∀ {x : Option Str}, oOk x → PyData.canLay0 (dOf x) = true ∧ (dOf x).depth ≤ 1 := fun {x} h => by
    cases x with
    | none => exact ⟨rfl, by decide⟩
    | some s => exact ⟨h s rfl, by simp [dOf, PyData.depth]⟩
  obtain ⟨a1, a2⟩ := one hx
  obtain ⟨b1, b2⟩ := one hy
  unfold SeqAt.shaped
  simp only [PyData.canLay0, PyData.canLayAll0, a1, b1, Bool.and_true, Bool.true_and, decide_eq_true_eq]
  simp only [PyData.depth, PyData.depthAll]
  omega
theorem dp_pair {K : Fr} {H : Hp} {t : Addr} {x y : Option Str} (h : H t = some (.tup [oV x, oV y])) : Dp K H (.ref t) (.tuple [dOf x, dOf y]) := .tup (SqT.of h) (.cons (dp_oV x) (.cons (dp_oV y) .nil))
/-- the tuples ts hold the runs -/
def RunsAt (H : Hp) (ts : List Addr) (rs : List Run) : Prop := Paired (fun t r => H t = some (.tup (runV r))) ts rs
theorem RunsAt.ex {H H' : Hp} (e : ∀ a xs, H a = some (.tup xs) → H' a = some (.tup xs)) : ∀ {ts : List Addr} {rs : List Run}, RunsAt H ts rs → RunsAt H' ts rs
  | _, _, .nil => .nil
  | _, _, .cons a t => .cons (e _ _ a) (RunsAt.ex e t)
theorem Ex.runs {H H' : Hp} (e : Ex H H') {ts : List Addr} {rs : List Run} (h : RunsAt H ts rs) : RunsAt H' ts rs := h.ex fun a xs h => e _ _ h
theorem RunsAt.snoc {H : Hp} {t : Addr} {r : Run} (h : H t = some (.tup (runV r))) : ∀ {ts : List Addr} {rs : List Run}, RunsAt H ts rs → RunsAt H (ts ++ [t]) (rs ++ [r])
  | _, _, .nil => .cons h .nil
  | _, _, .cons a s => .cons a (RunsAt.snoc h s)
theorem RunsAt.unsnoc {H : Hp} : ∀ {ts : List Addr} {rs : List Run} {r : Run}, RunsAt H ts (rs ++ [r]) → ∃ ts' t, ts = ts' ++ [t] ∧ H t = some (.tup (runV r)) ∧ RunsAt H ts' rs
  | _, [], _, .cons a s => by
    cases s
    exact ⟨[], _, rfl, a, .nil⟩
  | _, r0 :: rs, r, .cons a s => by
    obtain ⟨ts', t, e1, e2, e3⟩ := RunsAt.unsnoc s
    exact ⟨_ :: ts', t, by rw [e1]; rfl, e2, .cons a e3⟩
theorem RunsAt.len {H : Hp} {ts : List Addr} {rs : List Run} (h : RunsAt H ts rs) : ts.length = rs.length := Paired.length h
/-- the last leaf's pair, where it was moved, is the last run's -/
def RunOk (st : List Run × Option (Option Str × Option Str)) : Prop := ∀ p, st.2 = some p → p.1 ≠ p.2 → ∃ r rest, st.1 = r :: rest ∧ (r.was, r.now) = p
def joinB (st : List Run × Option (Option Str × Option Str)) : Bool := match st.2 with
  | some p => !decide (p.1 = p.2)
  | none => false
theorem stepR_ok {n : Nat} {a b : Rows} {st : List Run × Option (Option Str × Option Str)} {e : Bits} (h : RunOk st) : RunOk (stepR n a b st e) := by
  unfold stepR
  dsimp only
  by_cases hp : leadB a e = leadB b e
  · rw [if_pos hp]
    intro p ep hne
    cases ep
    exact absurd hp hne
  · rw [if_neg hp]
    intro p ep hne
    cases ep
    exact ⟨_, _, rfl, rfl⟩
theorem runsB_ok (n : Nat) (a b : Rows) (es : List Bits) : RunOk (runsB n a b es) := by
  have key : ∀ (l : List Bits) (st : List Run × Option (Option Str × Option Str)), RunOk st → RunOk (l.foldl (stepR n a b) st) := by
    intro l
    induction l with
    | nil => intro st h; exact h
    | cons x l ih => intro st h; exact ih _ (stepR_ok h)
  exact key es _ fun p ep => by cases ep
theorem runsB_snoc (n : Nat) (a b : Rows) (es : List Bits) (e : Bits) : runsB n a b (es ++ [e]) = stepR n a b (runsB n a b es) e := by
  unfold runsB
  rw [List.foldl_append]
  rfl
theorem stepR_len {n : Nat} {a b : Rows} {st : List Run × Option (Option Str × Option Str)} {e : Bits} : (stepR n a b st e).1.length ≤ st.1.length + 1 := by
  unfold stepR
  dsimp only
  split
  · exact Nat.le_succ _
  · simp only [List.length_cons]
    split <;> (try simp only [List.length_drop]) <;> omega
theorem runsB_len (n : Nat) (a b : Rows) (es : List Bits) : (runsB n a b es).1.length ≤ es.length := by
  have key : ∀ (l : List Bits) (st : List Run × Option (Option Str × Option Str)), (l.foldl (stepR n a b) st).1.length ≤ st.1.length + l.length := by
    intro l
    induction l with
    | nil => intro st; exact Nat.le_refl _
    | cons x l ih =>
      intro st
      have h1 := ih (stepR n a b st x)
      have h2 := stepR_len (n := n) (a := a) (b := b) (st := st) (e := x)
      simp only [List.length_cons]
      exact Nat.le_trans h1 (by omega)
  have := key es ([], none)
  simpa [runsB] using this
theorem leafB_len (ns : List Bits) : (leafB ns).length ≤ ns.length := List.length_filter_le _ _
theorem leafB_mem {ns : List Bits} {b : Bits} (h : b ∈ leafB ns) : b ∈ ns := (List.mem_filter.mp h).1
theorem dec_oV (x y : Option Str) : decide (oV x = oV y) = decide (x = y) := decide_eq_decide.mpr oV_inj
theorem stepR_same {n : Nat} {a b : Rows} {st : List Run × Option (Option Str × Option Str)} {e : Bits} (h : leadB a e = leadB b e) : stepR n a b st e = (st.1, some (leadB a e, leadB b e)) := if_pos h
theorem stepR_join {n : Nat} {a b : Rows} {st : List Run × Option (Option Str × Option Str)} {e : Bits} {r : Run} {rest : List Run} (h : ¬ leadB a e = leadB b e) (hj : st.2 = some (leadB a e, leadB b e)) (hr : st.1 = r :: rest) :
    stepR n a b st e = (⟨r.lo, e ++ List.replicate (n - e.length) true, leadB a e, leadB b e⟩ :: rest, some (leadB a e, leadB b e)) := by
  unfold stepR
  dsimp only
  rw [if_neg h, if_pos hj, if_pos hj, hr]
  rfl
theorem stepR_new {n : Nat} {a b : Rows} {st : List Run × Option (Option Str × Option Str)} {e : Bits} (h : ¬ leadB a e = leadB b e) (hj : ¬ st.2 = some (leadB a e, leadB b e)) :
    stepR n a b st e = (⟨e ++ List.replicate (n - e.length) false, e ++ List.replicate (n - e.length) true, leadB a e, leadB b e⟩ :: st.1, some (leadB a e, leadB b e)) := by
  unfold stepR
  dsimp only
  rw [if_neg h, if_neg hj, if_neg hj]
theorem runs_lead (n : Nat) (a b : Rows) (es : List Bits) : ∀ r ∈ (runsB n a b es).1, ∃ e, r.was = leadB a e ∧ r.now = leadB b e := by
  have key : ∀ (l : List Bits) (st : List Run × Option (Option Str × Option Str)), (∀ r ∈ st.1, ∃ e, r.was = leadB a e ∧ r.now = leadB b e) → ∀ r ∈ (l.foldl (stepR n a b) st).1, ∃ e, r.was = leadB a e ∧ r.now = leadB b e := by
    intro l
    induction l with
    | nil => intro st h; exact h
    | cons x l ih =>
      intro st h
      refine ih _ fun r hr => ?_
      unfold stepR at hr
      dsimp only at hr
      split at hr
      · exact h r hr
      · rcases List.mem_cons.mp hr with e | e
        · rw [e]; exact ⟨x, rfl, rfl⟩
        · split at e
          · exact h r (List.mem_of_mem_drop e)
          · exact h r e
  exact key es _ fun r hr => by cases hr
theorem rd_star {K : Fr} {σ : L2.St} {H : Hp} {te : TE} {t : TA} {S : List V → Hp → Prop} (h : te σ H fun x H1 => ∃ p xs, x = V.ref p ∧ (SqT K H1 p xs ∨ SqL K H1 p xs) ∧ t σ H1 fun ys H2 => S (xs ++ ys) H2) : StX.tStar K te t σ H S := h
end K2
/-! The laws' own side: comprehensions that change objects, the pen, readings. -/
namespace K2
open PySem PySem.Spec PyProof.Rows L2 KH He
section
variable {J : It} {xs : List V} {Keep : Hp → Prop} {g : TG} {tt : TT} {te : TE} {vs : List Nat} {σ : L2.St} {H : Hp} {D : Addr} {Qd : Hp → Prop}
/-- [elt for x in xs if test] by an invariant of the turn, the list so far and the heap -/
theorem lcI (hJ : Src J xs Keep) (Pv : Nat → List V → Hp → Prop) (h0 : Pv 0 [] (upd H D (.lst []))) (hk : ∀ i acc H', i ≤ xs.length → Pv i acc H' → Keep H')
    (hD : ∀ i acc H', Pv i acc H' → H' D = some (.lst acc) ∧ acc.length ≤ 100000)
    (turn : ∀ i x acc H', xs[i]? = some x → Pv i acc H' → ∀ (R : V → Hp → Prop) (S : Hp → Prop), (∀ y H4, H4 D = some (.lst acc) → Pv (i + 1) (acc ++ [y]) (upd H4 D (.lst (acc ++ [y]))) → R y H4) → (∀ H3, Pv (i + 1) acc H3 → S H3) →
      g x (wipe σ vs) H' fun σ2 H2 => wipe σ2 vs = wipe σ vs ∧ tt σ2 H2 fun b H3 => if b = true then te σ2 H3 R else S H3)
    (done : ∀ acc H', Pv xs.length acc H' → Qd H') :
    ∃ W : Nat → Nat → Hp → Prop, (∃ m, W 0 m (upd H D (.lst []))) ∧ ∀ i m H, W i m H → (J.stop i H ∧ Qd H) ∨ (J.go i H ∧ ∃ Nx : Hp → Prop, (∀ H', Nx H' → ∃ m', m' < m ∧ W (i + 1) m' H') ∧
      ∀ x H', J.yld i H x H' → g x (wipe σ vs) H' fun σ2 H2 => wipe σ2 vs = wipe σ vs ∧ tt σ2 H2 fun b H3 =>
        if b = true then te σ2 H3 fun y H4 => ∃ acc, H4 D = some (.lst acc) ∧ acc.length < sizeLine ∧ Nx (upd H4 D (.lst (acc ++ [y]))) else Nx H3) := by
  refine ⟨fun i m H' => m = xs.length - i ∧ i ≤ xs.length ∧ ∃ acc, Pv i acc H', ⟨xs.length, by simp, Nat.zero_le _, [], h0⟩, ?_⟩
  rintro i m H1 ⟨rfl, hi, acc, p1⟩
  have kp := hk i acc H1 hi p1
  obtain ⟨d1, l1⟩ := hD i acc H1 p1
  by_cases hlt : i < xs.length
  · refine .inr ⟨hJ.go i H1 kp hlt, fun H' => ∃ acc, Pv (i + 1) acc H', fun H' p => ⟨xs.length - (i + 1), by omega, rfl, hlt, p⟩, fun x H' y => ?_⟩
    obtain ⟨rfl, ex⟩ := hJ.yld i H1 x H' kp hlt y
    exact turn i x acc _ ex p1 (fun y H4 => ∃ acc, H4 D = some (.lst acc) ∧ acc.length < sizeLine ∧ ∃ acc', Pv (i + 1) acc' (upd H4 D (.lst (acc ++ [y])))) _ (fun y H4 d4 p4 => ⟨acc, d4, szlt (by omega), _, p4⟩) fun H3 p3 => ⟨acc, p3⟩
  · have ei : i = xs.length := by omega
    subst ei
    exact .inl ⟨hJ.stop _ H1 kp (Nat.le_refl _), done acc H1 p1⟩
end
section
variable {σ : L2.St} {H : Hp} {Q : VK} {te to ti : TE} {v : V} {S : L2.St → Hp → Prop}
theorem rd_gSub {t : TSet} (h : to σ H fun o H1 => ti σ H1 fun i H2 => t o i v H2 fun H3 => S σ H3) : gSub to ti t v σ H S := h
theorem rd_m1 {r : V → List V → Hp → VK → Prop} (h : to σ H fun x H1 => (∃ a, x = .str a) ∧ te σ H1 fun y H2 => r x [y] H2 Q) : tM1 r to te σ H Q := h
theorem rd_dnewK (h : ∀ p, H p = none → Q (.ref p) (upd H p (.dK []))) : tDNewK σ H Q := h
end
section
variable {H : Hp} {Q : VK}
theorem rd_modX {i j : Int} (h : 0 < j) (q : ∀ k, 0 ≤ k → k < j → Q (.int k) H) : rI (fun _ j => 0 < j) (fun i j => .int (i % j)) (.int i) (.int j) H Q :=
  ⟨i, j, rfl, rfl, h, q _ (Int.emod_nonneg _ (by omega)) (Int.emod_lt_of_pos _ h)⟩
theorem rd_mulX {i j : Int} (h0 : 0 ≤ i) (h1 : i < 10000000000) (q : Q (.int (i * j)) H) : rI CMul (fun i j => .int (i * j)) (.int i) (.int j) H Q := ⟨i, j, rfl, rfl, .inl ⟨by omega, by omega⟩, q⟩
theorem rd_mulR {i j : Int} (h0 : 0 ≤ j) (h1 : j < 10000000000) (q : Q (.int (i * j)) H) : rI CMul (fun i j => .int (i * j)) (.int i) (.int j) H Q := ⟨i, j, rfl, rfl, .inr ⟨by omega, by omega⟩, q⟩
end
def rDictP (K : Fr) : List V → Hp → VK → Prop := fun xs H Q => ∃ (a : Addr) (ps : List Addr) (kvs : List (Key × V)), xs = [.ref a] ∧ SqL K H a (ps.map V.ref) ∧ Paired (fun p kv => SqT K H p [kV kv.1, kv.2]) ps kvs ∧ ∀ p, H p = none → Q (.ref p) (upd H p (.dK (mergeK [] kvs)))
theorem k_dictP {X : Cx} {K : Fr} (hc : X.calm = true := by rfl) (h : X.K = K := by rfl) : CallR X (.type "dict") (rDictP K) := by
  subst h
  exact call_dictP hc
theorem k_listD {X : Cx} (hc : X.calm = true := by rfl) : CallR X (.type "list") K2.rListD := call_listD hc
/-! the pen: the script's digits, where it stands, the pool -/
def Pen (H : Hp) (p q : Addr) (N : Nat) : Prop := ∃ (ds : List Int) (idx : Nat) (pool : Int) (ex : List V), q ≠ p ∧ H p = some (.lst (.ref q :: .int (idx : Int) :: .int pool :: ex)) ∧ H q = some (.lst (ds.map V.int)) ∧ ds.length ≤ 60 ∧ idx ≤ N ∧ 0 ≤ pool ∧ ex.length ≤ 100
theorem Pen.mono {H : Hp} {p q : Addr} {N M : Nat} (h : Pen H p q N) (l : N ≤ M) : Pen H p q M := by
  obtain ⟨ds, idx, pool, ex, h1, h2, h3, h4, h5, h6⟩ := h
  exact ⟨ds, idx, pool, ex, h1, h2, h3, h4, Nat.le_trans h5 l, h6⟩
theorem Pen.ex {H H' : Hp} {p q : Addr} {N : Nat} (h : Pen H p q N) (e : ∀ a xs, H a = some (.lst xs) → H' a = some (.lst xs)) : Pen H' p q N := by
  obtain ⟨ds, idx, pool, ex, h1, h2, h3, h4⟩ := h
  exact ⟨ds, idx, pool, ex, h1, e _ _ h2, e _ _ h3, h4⟩
theorem Pen.up {H : Hp} {p q a : Addr} {N : Nat} {o : HO} (h : Pen H p q N) (n : H a = none) : Pen (upd H a o) p q N := h.ex fun b xs e => by rw [upd_ne (ne_of_none e n)]; exact e
theorem Pen.upNe {H : Hp} {p q a : Addr} {N : Nat} {o : HO} (h : Pen H p q N) (n1 : p ≠ a) (n2 : q ≠ a) : Pen (upd H a o) p q N := by
  obtain ⟨ds, idx, pool, ex, h1, h2, h3, h4⟩ := h
  exact ⟨ds, idx, pool, ex, h1, by rw [upd_ne n1]; exact h2, by rw [upd_ne n2]; exact h3, h4⟩
theorem Pen.at {H : Hp} {p q : Addr} {N : Nat} (h : Pen H p q N) : ∃ xs, H p = some (.lst xs) := by
  obtain ⟨ds, idx, pool, ex, h1, h2, h3⟩ := h
  exact ⟨_, h2⟩
theorem Pen.atq {H : Hp} {p q : Addr} {N : Nat} (h : Pen H p q N) : ∃ xs, H q = some (.lst xs) := by
  obtain ⟨ds, idx, pool, ex, h1, h2, h3, h4⟩ := h
  exact ⟨_, h3⟩
theorem Pen.nep {H : Hp} {p q a : Addr} {N : Nat} (h : Pen H p q N) (n : H a = none) : p ≠ a := by
  obtain ⟨xs, e⟩ := h.at
  exact ne_of_none e n
theorem Pen.neq {H : Hp} {p q a : Addr} {N : Nat} (h : Pen H p q N) (n : H a = none) : q ≠ a := by
  obtain ⟨xs, e⟩ := h.atq
  exact ne_of_none e n
theorem Ex.pen {H H' : Hp} {p q : Addr} {N : Nat} (e : Ex H H') (h : Pen H p q N) : Pen H' p q N := h.ex fun a xs h => e a _ h
theorem Xp.rfl' {p : Addr} {H : Hp} : Xp p H H := fun _ _ _ h => h
theorem Xp.tr2 {p : Addr} {H H1 H2 : Hp} (a : Xp p H H1) (b : Ex H1 H2) : Xp p H H2 := a.tr b.xp
theorem shaped_ints (ds : List Int) : SeqAt.shaped (.list (ds.map PyData.int)) = true := by
  have h1 : PyData.canLayAll0 (ds.map PyData.int) = true := by
    induction ds with
    | nil => rfl
    | cons d ds ih => simp only [List.map_cons, PyData.canLayAll0, PyData.canLay0, ih, Bool.and_true]
  have h2 : PyData.depthAll (ds.map PyData.int) = 0 := by
    induction ds with
    | nil => rfl
    | cons d ds ih =>
      simp only [List.map_cons, PyData.canLayAll0, Bool.and_eq_true] at h1
      simp only [List.map_cons, PyData.depthAll, PyData.depth, ih h1.2]
      rfl
  unfold SeqAt.shaped
  simp only [PyData.canLay0, h1, PyData.depth, h2]
  rfl
theorem dpAll_ints {K : Fr} {H : Hp} : ∀ ds : List Int, DpAll K H (ds.map V.int) (ds.map PyData.int)
  | [] => .nil
  | d :: ds => .cons (.int d) (dpAll_ints ds)
theorem eqv_nil (ds : List PyData) : PyData.eqv (.list ds) (.list []) = ds.isEmpty := by cases ds <;> rfl
theorem bits_strOk (b : Bits) : PyData.strOk (bstr b) = true := by
  unfold PyData.strOk
  rw [← Array.all_toList, bstr_cps, List.all_map]
  refine List.all_eq_true.mpr fun x _ => ?_
  cases x <;> rfl
theorem shaped_bits (bs : List Bits) : SeqAt.shaped (.list (bs.map fun b => PyData.str (bstr b))) = true := by
  have h1 : PyData.canLayAll0 (bs.map fun b => PyData.str (bstr b)) = true := by
    induction bs with
    | nil => rfl
    | cons d ds ih => simp only [List.map_cons, PyData.canLayAll0, PyData.canLay0, bits_strOk, ih, Bool.and_true]
  have h2 : PyData.depthAll (bs.map fun b => PyData.str (bstr b)) = 0 := by
    clear h1
    induction bs with
    | nil => rfl
    | cons d ds ih =>
      simp only [List.map_cons, PyData.depthAll, PyData.depth, ih]
      rfl
  unfold SeqAt.shaped
  simp only [PyData.canLay0, h1, PyData.depth, h2]
  rfl
theorem dpAll_bits {K : Fr} {H : Hp} : ∀ bs : List Bits, DpAll K H (bs.map vb) (bs.map fun b => PyData.str (bstr b))
  | [] => .nil
  | d :: ds => .cons (.str _) (dpAll_bits ds)
theorem atI_nat {α : Type} {xs : List α} {i : Nat} {x : α} (h : xs[i]? = some x) : atI xs (i : Int) = some x := by
  have hi := (List.getElem?_eq_some_iff.mp h).1
  unfold atI ixN
  rw [if_pos (by omega), if_pos (by omega)]
  simp [h]
theorem ixN_nat {n i : Nat} (h : i < n) : ixN n (i : Int) = some i := by
  unfold ixN
  rw [if_pos (by omega), if_pos (by omega)]
  rfl
theorem at0 {α : Type} {a : α} {xs : List α} : atI (a :: xs) 0 = some a := atI_nat (i := 0) rfl
theorem at1 {α : Type} {a b : α} {xs : List α} : atI (a :: b :: xs) 1 = some b := atI_nat (i := 1) rfl
theorem at2 {α : Type} {a b c : α} {xs : List α} : atI (a :: b :: c :: xs) 2 = some c := atI_nat (i := 2) rfl
theorem ix1 {α : Type} {a b : α} {xs : List α} : ixN (a :: b :: xs).length 1 = some 1 := ixN_nat (i := 1) (by simp)
theorem ix2 {α : Type} {a b c : α} {xs : List α} : ixN (a :: b :: c :: xs).length 2 = some 2 := ixN_nat (i := 2) (by simp)
/-- a place told by an Int -/
theorem atI_int {α : Type} {xs : List α} {d : Int} (h0 : 0 ≤ d) (h1 : d < xs.length) : ∃ x ∈ xs, atI xs d = some x := by
  have hi : d.toNat < xs.length := by omega
  refine ⟨xs[d.toNat], List.getElem_mem hi, ?_⟩
  have := atI_nat (xs := xs) (i := d.toNat) (List.getElem?_eq_getElem hi)
  rwa [Int.toNat_of_nonneg h0] at this
theorem inV_bits (b : Bits) (bs : List Bits) : inV (vb b) (bs.map vb) = decide (b ∈ bs) := by
  rw [Bool.eq_iff_iff, decide_eq_true_eq]
  unfold inV
  rw [List.any_eq_true]
  constructor
  · rintro ⟨x, hx, e⟩
    obtain ⟨c, hc, rfl⟩ := List.mem_map.mp hx
    have e2 : bstr c = bstr b := by simpa [eqV] using e
    rw [← bstr_inj.mp e2]
    exact hc
  · intro h
    exact ⟨_, List.mem_map.mpr ⟨b, h, rfl⟩, by simp [eqV]⟩
theorem flat_bits (bs : List Bits) : (bs.map vb).all flatV = true := by
  rw [List.all_map]
  exact List.all_eq_true.mpr fun _ _ => rfl
/-! rows as pairs -/
def RowsAt (H : Hp) (ts : List Addr) (r : Rows) : Prop := Paired (fun t (x : Bits × Str) => H t = some (.tup [vb x.1, .str x.2])) ts r
theorem RowsAt.ex {H H' : Hp} (e : ∀ a xs, H a = some (.tup xs) → H' a = some (.tup xs)) : ∀ {ts : List Addr} {r : Rows}, RowsAt H ts r → RowsAt H' ts r
  | _, _, .nil => .nil
  | _, _, .cons a t => .cons (e _ _ a) (RowsAt.ex e t)
theorem RowsAt.snoc {H : Hp} {t : Addr} {x : Bits × Str} (h : H t = some (.tup [vb x.1, .str x.2])) : ∀ {ts : List Addr} {r : Rows}, RowsAt H ts r → RowsAt H (ts ++ [t]) (r ++ [x])
  | _, _, .nil => .cons h .nil
  | _, _, .cons a s => .cons a (RowsAt.snoc h s)
theorem RowsAt.pairs {K : Fr} {H : Hp} : ∀ {ts : List Addr} {r : Rows}, RowsAt H ts r → Paired (fun p (kv : Key × V) => SqT K H p [kV kv.1, kv.2]) ts (rK r)
  | _, _, .nil => .nil
  | _, _, .cons a s => .cons (SqT.of a) (RowsAt.pairs s)
theorem mergeK_rK {r : Rows} (nd : (r.map (·.1)).Nodup) : mergeK [] (rK r) = rK r := by
  rw [mergeK_nodup]
  · rfl
  · show ((rK r).map (·.1)).Nodup
    rw [rK_keys, List.Nodup, List.pairwise_map]
    exact nd.imp fun n e => n (bk_inj.mp e)
/-! where an address leads, row by row -/
def longStep (b k : Bits) (o : Option Bits) : Option Bits := if k.isPrefixOf b && (match o with
  | none => true
  | some q => decide (q.length < k.length)) then some k else o
theorem Longest.step {r : Rows} {b k : Bits} {t : Str} {o : Option Bits} (h : Longest r b o) : Longest (r ++ [(k, t)]) b (longStep b k o) := by
  have mem : ∀ q, q ∈ (r ++ [(k, t)]).map (·.1) ↔ q ∈ r.map (·.1) ∨ q = k := fun q => by
    rw [List.map_append, List.mem_append]
    simp
  unfold longStep
  by_cases hp : k <+: b
  · have hp2 : k.isPrefixOf b = true := List.isPrefixOf_iff_prefix.mpr hp
    rw [hp2, Bool.true_and]
    cases o with
    | none =>
      rw [if_pos rfl]
      refine ⟨(mem k).mpr (.inr rfl), hp, fun q hq hqp => ?_⟩
      rcases (mem q).mp hq with z | z
      · exact absurd hqp (h q z)
      · rw [z]; exact Nat.le_refl _
    | some q0 =>
      obtain ⟨h1, h2, h3⟩ := h
      by_cases hl : q0.length < k.length
      · rw [if_pos (decide_eq_true hl)]
        refine ⟨(mem k).mpr (.inr rfl), hp, fun q hq hqp => ?_⟩
        rcases (mem q).mp hq with z | z
        · have := h3 q z hqp
          omega
        · rw [z]; exact Nat.le_refl _
      · rw [if_neg (by simpa using hl)]
        refine ⟨(mem q0).mpr (.inl h1), h2, fun q hq hqp => ?_⟩
        rcases (mem q).mp hq with z | z
        · exact h3 q z hqp
        · rw [z]; omega
  · have hp2 : k.isPrefixOf b = false := by
      cases q : k.isPrefixOf b with
      | false => rfl
      | true => exact absurd (List.isPrefixOf_iff_prefix.mp q) hp
    rw [hp2, Bool.false_and, if_neg (by decide)]
    cases o with
    | none =>
      intro q hq hqp
      rcases (mem q).mp hq with z | z
      · exact h q z hqp
      · rw [z] at hqp; exact hp hqp
    | some q0 =>
      obtain ⟨h1, h2, h3⟩ := h
      refine ⟨(mem q0).mpr (.inl h1), h2, fun q hq hqp => ?_⟩
      rcases (mem q).mp hq with z | z
      · exact h3 q z hqp
      · rw [z] at hqp; exact absurd hqp hp
/-- a set's texts, sorted: the closure -/
theorem closB_strs {bs : List Bits} {ys : List Str} (nd : ys.Nodup) (m : ∀ y, y ∈ ys ↔ y ∈ (clL bs).map bstr) (hs : sortedS ys = true) : ys = (closB bs).map bstr := by
  refine sorted_bits ((List.perm_ext_iff_of_nodup nd ?_).mpr fun y => ?_) hs
  · rw [List.Nodup, List.pairwise_map]
    exact (nubB_nodup _).imp fun n e => n (bstr_inj.mp e)
  · rw [m, List.mem_map, List.mem_map]
    constructor
    · rintro ⟨b, hb, e⟩
      exact ⟨b, nubB_mem.mpr hb, e⟩
    · rintro ⟨b, hb, e⟩
      exact ⟨b, nubB_mem.mp hb, e⟩
theorem longB_sortR (r : Rows) (b : Bits) : longB (sortR r) b = longB r b := by
  unfold longB
  congr 2
  funext n
  rw [sortR_lookup]
theorem leadB_sortR (r : Rows) (b : Bits) : leadB (sortR r) b = leadB r b := by
  unfold leadB
  rw [longB_sortR]
  congr 1
  funext q
  rw [sortR_lookup]
theorem runsB_sortR (n : Nat) (a b : Rows) (es : List Bits) : runsB n (sortR a) (sortR b) es = runsB n a b es := by
  unfold runsB
  congr 1
  funext st e
  unfold stepR
  simp only [leadB_sortR]
theorem movesB_sortR (n : Nat) (a b : Rows) : movesB n (sortR a) (sortR b) = movesB n a b := by
  unfold movesB
  rw [runsB_sortR]
  congr 4
  refine closB_congr fun c => ?_
  rw [List.mem_append, List.mem_append, sortR_keys, sortR_keys, sortB_mem, sortB_mem]
theorem rd_par {i j : Nat} {ta : TA} {σ : L2.St} {H : Hp} {nx bk ct : L2.St → Hp → Prop} {rt : VK} (h : ta σ H fun vs H1 => ∃ v w, vs = [v, w] ∧ nx ((σ.set i (some v)).set j (some w)) H1) : tPar i j ta ⟨nx, rt, bk, ct⟩ σ H := h
end K2
/-! try .. except X as e, and what comes behind it with the exception still known; a def that calls a lambda and asks what it raised; repr of data. -/
namespace K2
open PySem PySem.Spec PyProof.Rows L2 KH He
/-- what the clause wishes of an exception of the body; tx: what comes behind the try, the exception at a -/
def wAsT (K : Fr) (c : Value) (i : Nat) (ts tx : Addr → Value → Option Addr → TS) (Wout : WX) (D : Ends) : WX := fun cls d σ H =>
  ∃ b, PySem.W.exmOne K cls c = some b ∧ (b = true → ∀ a, H a = none → ts a cls d ⟨fun σ' H' => tx a cls d D (σ'.set i none) H', fun _ _ => False, fun _ _ => False, fun _ _ => False⟩ (σ.set i (some (.ref a))) H) ∧ (b = false → Wout cls d σ H)
/-- a try's end, with the exception known -/
def SPT (X : Cx) (pins : List (Addr × Obj)) (tr : TS) (tx : Addr → Value → Option Addr → TS) (D : Ends) (f : Flow) (s' : Shared) : Prop :=
  match f with
  | .next => (∃ σ' H', Inv X pins σ' H' s' ∧ tr D σ' H') ∨ ∃ (a : Addr) (oe : Obj) (cls : Value) (d : Option Addr) (σ' : L2.St) (H' : Hp), Zc cls d oe ∧ (∃ vs, oe.data = .fields vs) ∧ Inv X ((a, oe) :: pins) σ' H' s' ∧ tx a cls d D σ' H'
  | f => SP X pins D f s'
section
variable {X : Cx} {x n : Str} {c : Value} {i : Nat} {body suite rest : List Stmt} {b₀ : Stmt} {np pos pos' : Pos} {tb : WX → TS} {ts tx : Addr → Value → Option Addr → TS} {tr : TS} {Wout : WX}
theorem drop_pin {pins : List (Addr × Obj)} {q : Addr × Obj} {σ : L2.St} {H : Hp} {s : Shared} (I : Inv X (q :: pins) σ H s) : Inv X pins σ H s :=
  ⟨I.ok, I.os, I.bare, I.base, I.loc, I.cell, I.free, I.freeC, fun p hp => I.pin p (by
    rcases List.mem_append.mp hp with z | z
    · exact List.mem_append_left _ z
    · exact List.mem_append_right _ (List.mem_cons_of_mem _ z)), I.hok, I.len⟩
theorem ps_try_t (hs : X.stack = X.env :: X.outer) (hf : X.env.frame = some X.env.locals) (hN : X.N.Nodup) (hi : X.N[i]? = some n) (hln : X.env.kindOf n = some .local) (hc : Names X x c) (tk : Takes X Wout)
    (hb : ∀ (W : WX) (pn : List (Addr × Obj)) (xe : Value → Shared → Prop), Takes (X.tr pn xe) W → PassesOwn (model X.prog X.w) X.A X.env xe → PSs (X.tr pn xe) body (tb W))
    (hsu : ∀ (a : Addr) (oe : Obj) (cls : Value) (d : Option Addr) (pn : List (Addr × Obj)), Zc cls d oe → (∃ vs, oe.data = .fields vs) → PSs (X.suite a ((a, oe) :: pn)) (b₀ :: suite) (ts a cls d))
    {pins : List (Addr × Obj)} {s : Shared} {σ : L2.St} {H : Hp} {D : Ends} (I : Inv X pins σ H s) (h : tb (wAsT X.K c i ts tx Wout D) { D with nx := tr D } σ H) :
    wpAny (model X.prog X.w) X.A (exec (.Try body [.ExceptHandler (some (.Name x np)) (some n) (b₀ :: suite) pos'] [] [] pos) X.env) (SPT X pins tr tx D) X.xe s := by
  have ok := I.ok
  have hfr : X.A.frames = some (X.env :: X.outer) := by rw [ok.frames, hs]
  have hloc : Loc X.env.scope n := .inl hln
  refine wpAny_Try_except ?_
  refine wpAny_mono ((hb (wAsT X.K c i ts tx Wout D) (X.pn ++ pins) (fun e s₁ => wpAny (model X.prog X.w) X.A (noteFrame e X.env) (fun _ s₂ => wpAny (model X.prog X.w) X.A (setFlight e none) (fun _ s₃ =>
    wpAny (model X.prog X.w) X.A (handleBy e X.env [.ExceptHandler (some (.Name x np)) (some n) (b₀ :: suite) pos']) (SPT X pins tr tx D) X.xe s₃) X.xe s₂) X.xe s₁) (fun u s' xx => ?_) PassesOwn.looking).run [] s σ H _ (I.toTry _) h) (fun f s1 hsp => ?_) (fun e s1 he => he)
  · -- the catch
    obtain ⟨a, B, sI, pins', σ', H', cls, d, rfl, J', nb, up, sky, na, os, ag, b, hb1, hyes, hno⟩ := xx
    have J : Inv X pins σ' H' sI := J'.ofTry ok
    have sky' : Sky B (X.env :: X.outer) a (Zc cls d) X.env.locals s'.heap := by rw [← hs]; exact sky
    show wpAny (model X.prog X.w) X.A (noteFrame (.ref a) X.env) _ _ _
    refine Sky.land Zc.steady hfr hf sky' fun h3 fl3 up3 => ?_
    have J3 : Inv X pins σ' H' { s' with heap := h3 } := J.landed nb fl3.1 (up.trans up3) os ag
    obtain ⟨oe3, vs3, he3, hz3, hd3⟩ := fl3.there
    have notFr : ∀ {h : Heap} {o : Obj} {vs : Array Value}, h.FunFrames B (X.env :: X.outer) → h.get? a = some o → o.data = .fields vs → a ∉ frs (X.env :: X.outer) := fun {h o vs} ff e dd hm => by
      obtain ⟨_, o', e', hnf⟩ := ff.mem hm
      rw [e] at e'; cases e'
      exact hnf _ dd
    have nfr := notFr fl3.2.2.1 he3 hd3
    have nL : a ≠ X.env.locals := fun z => nfr (List.mem_filterMap.mpr ⟨X.env, List.mem_cons_self, by rw [hf, z]⟩)
    have nF : a ∉ X.fs := fun hm => by
      obtain ⟨e, he, q⟩ := List.mem_filterMap.mp hm
      exact nfr (List.mem_filterMap.mpr ⟨e, List.mem_cons_of_mem _ he, q⟩)
    have S3 := J3.suite he3 hd3 na nL nF
    refine wpAny_handleBy_cons (codeAny_handlers_test ?_) (by intro q; cases q)
    have LT : PySem.W.Looks (model X.prog X.w) h3 (typeOf (.ref a)) cls := fun A Q E s k q => wpAny_typeOf_ref (k _ _ he3) (by rw [hz3.1]; exact q)
    have LM := PySem.W.exm_one (M := model X.prog X.w) (J3.kIn) LT hb1
    have test : ∀ {Q : Value → Shared → Prop} {E : Value → Shared → Prop}, Q c { s' with heap := h3 } → wpAny (model X.prog X.w) (X.A.mark (some (.ref a))) (eval (.Name x np) X.env) Q E { s' with heap := h3 } := fun {Q E} q => by
      obtain ⟨hg, hdbg, hm | ⟨hm, hv, hnn⟩⟩ := hc
      · exact ld_glob (X := X.suite a ((a, oe3) :: (X.pn ++ pins))) S3 hg hm q hdbg
      · exact ld_blt (X := X.suite a ((a, oe3) :: (X.pn ++ pins))) S3 hg hm hv q hnn hdbg
    refine test (LM.here ?_)
    cases b with
    | true =>
      refine codeAny_handlers_suite_as ?_
      refine HandSPX.lands_againZ fl3 fun h4 fl4 up4 => ?_
      have J4 : Inv X pins σ' H' { s' with heap := h4 } := J.landed nb fl4.1 ((up.trans up3).trans up4) os ag
      obtain ⟨oe4, vs4, he4, hz4, hd4⟩ := fl4.there
      have S4 := J4.suite he4 hd4 na nL nF
      refine store_ok (X := X.suite a ((a, oe4) :: (X.pn ++ pins))) (v := .ref a) S4 hN hi hloc rfl (fun s5 S5 => ?_) (.inr hln)
      refine wpAny_mono ((hsu a oe4 cls d (X.pn ++ pins) hz4 ⟨_, hd4⟩).run [] s5 _ H' _ S5 (hyes rfl a na)) (fun f s6 hsp => ?_) (fun _ _ z => False.elim z)
      cases f with
      | next =>
        obtain ⟨σ6, H6, S6, q6⟩ := hsp
        have J6 : Inv X ((a, oe4) :: pins) σ6 H6 s6 := ⟨ok, S6.os, S6.bare, S6.base, S6.loc, S6.cell, S6.free, S6.freeC, fun p hp => S6.pin p (List.mem_append_left _ (by
          rcases List.mem_append.mp hp with z | z
          · exact List.mem_cons_of_mem _ (List.mem_append_left _ z)
          · rcases List.mem_cons.mp z with z | z
            · rw [z]; exact List.mem_cons_self
            · exact List.mem_cons_of_mem _ (List.mem_append_right _ z))), S6.hok, S6.len⟩
        exact gone_ok J6 hN hi hln fun s7 J7 => .inr ⟨a, oe4, cls, d, _, _, hz4, ⟨_, hd4⟩, J7, q6⟩
      | brk =>
        obtain ⟨_, _, _, q6⟩ := hsp
        exact False.elim q6
      | cont =>
        obtain ⟨_, _, _, q6⟩ := hsp
        exact False.elim q6
      | ret u =>
        obtain ⟨_, _, _, _, _, q6⟩ := hsp
        exact False.elim q6
    | false =>
      show wpAny _ X.A (handleBy (.ref a) X.env []) _ _ _
      refine wpAny_handleBy_nil ?_
      obtain ⟨k1, k2, k3, oe, vs, T, oT, ts', he, hz, hd, h1, hr⟩ := id fl3
      unfold PySem.passOn
      refine wpAny_bind (wpAny_field he hd h1 ?_)
      rw [if_neg (show ¬ ((Value.ref T == Value.none) = true) from by simp)]
      have fin : wpAny (model X.prog X.w) X.A (setFlight (.ref a) X.env.frame) (fun _ s4 => wpAny (model X.prog X.w) X.A (throw (.ref a) : Sem Flow) (SPT X pins tr tx D) X.xe s4) X.xe { s' with heap := h3 } := by
        rw [hf]
        refine HandSPX.setFlight_upZ fl3 fun h4 hh4 up4 => wpAny_throw (tk _ _ ?_)
        exact ⟨a, B, sI, pins, σ', H', cls, d, rfl, J, nb, (up.trans up3).trans up4, .inr (.inr (by rw [hs]; exact hh4)), na, os, ag, hno rfl⟩
      first
        | exact wpAny_bind (wpAny_pure (wpAny_bind fin))
        | exact wpAny_bind fin
  · cases f with
    | next =>
      obtain ⟨σ', H', J', q⟩ := hsp
      exact wpAny_execs_nil (.inl ⟨σ', H', J'.ofTry ok, q⟩)
    | brk =>
      obtain ⟨σ', H', J', q⟩ := hsp
      exact ⟨σ', H', J'.ofTry ok, q⟩
    | cont =>
      obtain ⟨σ', H', J', q⟩ := hsp
      exact ⟨σ', H', J'.ofTry ok, q⟩
    | ret u =>
      obtain ⟨v, σ', H', J', r, q⟩ := hsp
      exact ⟨v, σ', H', J'.ofTry ok, r, q⟩
theorem pss_try_t (hs : X.stack = X.env :: X.outer) (hf : X.env.frame = some X.env.locals) (hN : X.N.Nodup) (hi : X.N[i]? = some n) (hln : X.env.kindOf n = some .local) (hc : Names X x c) (tk : Takes X Wout)
    (hb : ∀ (W : WX) (pn : List (Addr × Obj)) (xe : Value → Shared → Prop), Takes (X.tr pn xe) W → PassesOwn (model X.prog X.w) X.A X.env xe → PSs (X.tr pn xe) body (tb W))
    (hsu : ∀ (a : Addr) (oe : Obj) (cls : Value) (d : Option Addr) (pn : List (Addr × Obj)), Zc cls d oe → (∃ vs, oe.data = .fields vs) → PSs (X.suite a ((a, oe) :: pn)) (b₀ :: suite) (ts a cls d))
    (hr0 : PSs X rest tr) (hrx : ∀ (a : Addr) (oe : Obj) (cls : Value) (d : Option Addr) (pn : List (Addr × Obj)), (a, oe) ∈ pn → Zc cls d oe → (∃ vs, oe.data = .fields vs) → PSs (X.tr pn X.xe) rest (tx a cls d)) :
    PSs X (.Try body [.ExceptHandler (some (.Name x np)) (some n) (b₀ :: suite) pos'] [] [] pos :: rest) (fun D σ H => tb (wAsT X.K c i ts tx Wout D) { D with nx := tr D } σ H) := by
  refine ⟨fun pins s σ H D I h => ?_⟩
  have ok := I.ok
  refine wpAny_execs_cons (thn (ps_try_t hs hf hN hi hln hc tk hb hsu I h) fun f s1 q => ?_)
  cases f with
  | next =>
    rcases q with ⟨σ', H', J, q⟩ | ⟨a, oe, cls, d, σ', H', hz, hd, J, q⟩
    · exact hr0.run pins s1 σ' H' D J q
    · refine thn ((hrx a oe cls d (X.pn ++ ((a, oe) :: pins)) (List.mem_append_right _ List.mem_cons_self) hz hd).run [] s1 σ' H' D (J.toTry X.xe) q) fun f s2 hsp => ?_
      cases f with
      | next =>
        obtain ⟨σ2, H2, J2, q2⟩ := hsp
        exact ⟨σ2, H2, drop_pin (J2.ofTry ok), q2⟩
      | brk =>
        obtain ⟨σ2, H2, J2, q2⟩ := hsp
        exact ⟨σ2, H2, drop_pin (J2.ofTry ok), q2⟩
      | cont =>
        obtain ⟨σ2, H2, J2, q2⟩ := hsp
        exact ⟨σ2, H2, drop_pin (J2.ofTry ok), q2⟩
      | ret u =>
        obtain ⟨v, σ2, H2, J2, r, q2⟩ := hsp
        exact ⟨v, σ2, H2, drop_pin (J2.ofTry ok), r, q2⟩
  | ret v => exact q
  | brk => exact q
  | cont => exact q
end
/-- isinstance(e, c), e an exception that is pinned -/
theorem call_isP {X : Cx} {a D : Addr} {oe : Obj} (hp : (a, oe) ∈ X.pn) (C : ExcC X.K D) (hz : Zc (.ref D) none oe) (hf : ∃ vs, oe.data = .fields vs) : CallR X (.builtin "isinstance") (rIsE X.K D a) := by
  intro pins s σ H xs us Q I r h
  obtain ⟨c, cv, b, rfl, hcv, e, q⟩ := h
  cases r with
  | cons rx rr =>
    cases rr with
    | cons rt rr =>
      cases rr
      cases rx
      have ec := hcv _ rt
      subst ec
      obtain ⟨hget, _⟩ := I.pin (a, oe) (List.mem_append_left _ hp)
      obtain ⟨vs, hv⟩ := hf
      have J : PySem.W.InstAt s.heap a oe D none := by
        obtain ⟨oc, od, oda, osl⟩ := oe
        obtain ⟨h1, h2⟩ := hz
        dsimp only at h1 h2 hv
        subst h1 h2 hv
        exact ⟨hget, rfl, rfl, trivial⟩
      exact PySem.W.kia_one (PySem.W.handS_kitx_exc C.hg C.hk C.hs C.hd C.ha C.hn C.ht C.hm) I.kIn J e (fun z => nomatch z) fun tk => ⟨.bl b, H, I.kept (t' := tk) fun _ _ z => z, rfl, q⟩
section
variable {X : Cx} {CX : CXT} {k : Nat} {f : Addr} {fd : FuncData} {ps ks : List Str} {sp : Sp} {E : XK} {x : Str} {p pos : Pos} {kws : List Keyword} {tk : TA} {g : List Value → List Value → List Value} {gV : List V → List V → List V}
def tKw (sp : Sp) (gV : List V → List V → List V) (E : XK) (tk : TA) : TE := fun σ H Q => tk σ H fun zs H2 => sp (gV [] zs) H2 Q E
/-- f(k = v, ..), nothing by position -/
theorem pe_callKW0 (F : FnOk X.prog X.w X.K X.mg X.base CX k f fd ps sp) (hr : Room k X.A) (hg : Gl X x) (hm : X.mg x = some (.ref f)) (hk : PySem.W.keepIn X.K (.ref f) = true) (hb : KBinds X.K fd ps ks g gV) (hx : Passes CX X E)
    (hkw : PK X kws tk) (hall : (backToKw pos (keywordEach kws X.env)).all (·.1.isSome) = true := by rfl) (hks : (backToKw pos (keywordEach kws X.env)).filterMap (·.1) = ks := by rfl)
    (hdb : (x == ("__debug__" : Str)) = false := by decide)
    (hpl : ((backTo pos (starEach [] X.env)).any (·.1) || (backToKw pos (keywordEach kws X.env)).any (·.1.isNone)) = false := by rfl) :
    PE X (.Call (.Name x p) [] kws pos) (tKw sp gV E tk) := by
  refine ⟨fun pins s σ H Q I h => ?_⟩
  refine wpAny_Call_Name_kw (ld_glob I hg hm ?_ hdb)
  refine PySem.W.callWith_KW0 (h₀ := X.base) I.ok.mod.kin hk hall (thn (hkw.run pos pins s σ H _ I h) fun ws s2 ⟨zs, H2, I2, rz, q2⟩ => ⟨I2.kIn, ?_⟩) hpl
  rw [hks]
  exact run_fnk (us := []) (vs := []) F hr hb hx I2 .nil rz q2
def gKw {α : Type} (us ws : List α) : List α := match us with
  | [] => ws
  | _ => []
/-- two keywords that are the two parameters -/
theorem kb2 {K : Fr} {a b : Str} (h : ∀ (s : Shared) (u v : Value), BindsTo s fd ⟨[], [(a, u), (b, v)]⟩ [(a, u), (b, v)]) : KBinds K fd [a, b] [a, b] gKw gKw where
  to := fun s us ws _ hl => by
    cases us with
    | cons u us => cases hl
    | nil =>
      match ws, hl with
      | [u, v], _ => exact h s u v
  rel := fun {vs us zs ws} r rz => by
    cases r with
    | nil => exact rz
    | cons _ _ => exact .nil
end
theorem rd_kw {σ : L2.St} {H : Hp} {Q : VK} {sp : Sp} {gV : List V → List V → List V} {E : XK} {tk : TA} (h : tk σ H fun zs H2 => sp (gV [] zs) H2 Q E) : tKw sp gV E tk σ H Q := h
/-- what keeps all but tables and p -/
theorem Tabs.xp {T : List (Addr × Str)} {p : Addr} {H H' : Hp} (t : LamX.Tabs T H) (hp : ∃ xs, H p = some (.lst xs)) (e : Xp p H H') : LamX.Tabs T H' := fun x hx => by
  obtain ⟨xs, hp⟩ := hp
  obtain ⟨ps, h1, h2, h3⟩ := t x hx
  refine ⟨ps, e _ _ (fun z => by rw [z, hp] at h1; cases h1) h1, h2, fun pos cv hc => ?_⟩
  obtain ⟨c, e1, e2⟩ := h3 pos cv hc
  exact ⟨c, e1, e _ _ (fun z => by rw [z, hp] at e2; cases e2) e2⟩
end K2
/-! repr of lists of runs and of lists of rows, where nothing else is being shown. -/
namespace K2
open PySem PySem.Spec PyProof.Rows L2 KH He
/-- repr(x), x a list or tuple of data without dicts -/
def rReprD (K : Fr) : List V → Hp → VK → Prop := fun xs H Q => ∃ (a : Addr) (d : PyData), xs = [.ref a] ∧ Dp K H (.ref a) d ∧ d.showable = true ∧ d.hasDict = false ∧ d.depth ≤ 60 ∧ d.shown.length ≤ sizeLine ∧ Q (.str d.shown) H
theorem cr_reprD {X : Cx} (hg : X.A.guards = some []) (hu : X.A.units + 64 < cLine) : CallR X (.builtin "repr") (rReprD X.K) := by
  intro pins s σ H xs us Q I r h
  obtain ⟨a, d, rfl, hd, hs, hn, hdep, hz, q⟩ := h
  obtain ⟨u, rfl, rx⟩ := vals1 r
  obtain ⟨as, rd⟩ := Dp.reads I d _ _ hd rx
  cases rx
  exact repr_of_reads' rd hs (PyData.noDict_hsm hn) hg (by omega) (fun _ _ e => e) (fun h' u tk hk => ⟨.str d.shown, H, I.kept (t' := tk) hk, ⟨u, rfl⟩, q⟩) hz
/-- a list display, its place told -/
def tLstN (t : TA) : TE := fun σ H Q => t σ H fun xs H1 => xs.length ≤ sizeLine ∧ ∀ p, H1 p = none → p ≠ sysModules → Q (.ref p) (upd H1 p (.lst xs))
theorem pe_lstN {X : Cx} {es : List Expr} {t : TA} {pos : Pos} (h : PA X es t) : PE X (.List es pos) (tLstN t) := by
  refine ⟨fun pins s σ H Q I hq => ?_⟩
  refine wpAny_List_spliced (thn (h.run pos pins s σ H _ I hq) fun us s1 ⟨xs, H1, I1, r, z, q⟩ => ⟨by rw [← r.length]; exact z, ?_⟩)
  have hf : H1 s1.heap.objs.size = none := I1.hok.fresh (Nat.le_refl _)
  refine ⟨.ref s1.heap.objs.size, upd H1 s1.heap.objs.size (.lst xs), I1.laid (t' := s1.toks) (fun b u e => Heap.get?_push_of_some _ e) (Nat.le_refl _) ?_, rfl, q _ hf (Ne.symm (Nat.ne_of_lt I1.big))⟩
  exact ⟨z, us, 0, r, Heap.get?_push_size _ rfl⟩
def encK : Key → PyData
  | .inl i => .int i
  | .inr x => .str x
theorem reads_encK {P : Program} {w : World} {h : Heap} (k : Key) (key : Value) (e : (mixKind P w).is k key = true) : Reads h key (encK k) [] := by
  cases k with
  | inl i =>
    cases key <;> first
      | (rename_i j t; have e2 : j = i := eq_of_beq (show (_ == _) = true from e); subst e2; exact .int _ _)
      | (exact absurd (show false = true from e) Bool.false_ne_true)
  | inr x =>
    cases key <;> first
      | (rename_i j t; have e2 : j = x := eq_of_beq (show (_ == _) = true from e); subst e2; exact .str _ _)
      | (exact absurd (show false = true from e) Bool.false_ne_true)
def dRows (r : Rows) : List (PyData × PyData) := r.map fun x => (.str (bstr x.1), .str x.2)
theorem pairs_rows {h : Heap} : ∀ {r : Rows} {vs : List (Key × Value)}, KV (rK r) vs → PyProof.V.PairsRead h encK vs (dRows r) []
  | [], _, .nil => .nil
  | x :: r, _, .cons ⟨hk, hv⟩ t => by
    rename_i y ys
    obtain ⟨y1, y2⟩ := y
    obtain ⟨tk, rfl⟩ := (show ∃ tk, y2 = Value.str x.2 tk from hv)
    obtain rfl : bk x.1 = y1 := hk
    exact PyProof.V.PairsRead.cons (k := bk x.1) (as := []) (.str x.2 tk) (pairs_rows t)
def rReprR : List V → Hp → VK → Prop := fun xs H Q => ∃ (p a b : Addr) (r1 r2 : Rows), xs = [.ref p] ∧ p ≠ sysModules ∧ H p = some (.lst [.ref a, .ref b]) ∧ H a = some (.dK (rK r1)) ∧ H b = some (.dK (rK r2)) ∧
  (PyData.shown (.list [.dict (dRows r1), .dict (dRows r2)])).length ≤ sizeLine ∧ Q (.str (PyData.shown (.list [.dict (dRows r1), .dict (dRows r2)]))) H
theorem show_rows (r : Rows) : PyData.showableKv (dRows r) = true := by
  induction r with
  | nil => rfl
  | cons x r ih => simp only [dRows, List.map_cons, PyData.showableKv, PyData.showable, Bool.true_and]; exact ih
theorem depth_rows (r : Rows) : PyData.depthKv (dRows r) = 0 := by
  induction r with
  | nil => rfl
  | cons x r ih =>
    have e : PyData.depthKv (r.map fun x => (PyData.str (bstr x.1), PyData.str x.2)) = 0 := ih
    simp only [dRows, List.map_cons, PyData.depthKv, PyData.depth, e]
    rfl
theorem cr_reprR {X : Cx} (hg : X.A.guards = some []) (hu : X.A.units + 64 < cLine) : CallR X (.builtin "repr") rReprR := by
  intro pins s σ H xs us Q I r h
  obtain ⟨p, a, b, r1, r2, rfl, hps, hp, ha, hb, hz, q⟩ := h
  rw [Vals.ref1 r]
  obtain ⟨z1, its, n, rv, hl, e⟩ := I.lstM hp
  obtain ⟨_, lo1, vs1, rel1, dd1⟩ := dk_of I.hok ha
  obtain ⟨_, lo2, vs2, rel2, dd2⟩ := dk_of I.hok hb
  have rd1 : Reads s.heap (.ref a) (.dict (dRows r1)) (a :: []) := PyProof.V.reads_dictOf (fun k key e => reads_encK k key e) dd1 (pairs_rows rel1)
  have rd2 : Reads s.heap (.ref b) (.dict (dRows r2)) (b :: []) := PyProof.V.reads_dictOf (fun k key e => reads_encK k key e) dd2 (pairs_rows rel2)
  obtain ⟨u1, u2, eu, q1, q2⟩ := vals2 rv
  subst eu
  cases q1
  cases q2
  have rdl : Reads s.heap (.ref p) (.list [.dict (dRows r1), .dict (dRows r2)]) (p :: ([a] ++ ([b] ++ []))) := .list e rfl rfl (.cons rd1 (.cons rd2 .nil))
  refine repr_of_reads' rdl ?_ (fun _ => ?_) hg ?_ (fun _ _ e => e) (fun h' u tk hk => ⟨.str _, H, I.kept (t' := tk) hk, ⟨u, rfl⟩, q⟩) hz
  · simp only [PyData.showable, PyData.showableAll, show_rows, Bool.and_true]
  · have n1 : a ≠ sysModules := beq_eq_false_iff_ne.mp lo1
    have n2 : b ≠ sysModules := beq_eq_false_iff_ne.mp lo2
    intro hm
    simp only [List.cons_append, List.nil_append, List.mem_cons, List.not_mem_nil, or_false] at hm
    rcases hm with z | z | z
    · exact hps z.symm
    · exact n1 z.symm
    · exact n2 z.symm
  · simp only [PyData.depth, PyData.depthAll, depth_rows]
    omega
/-! sizes -/
theorem bulk_rows {r : Rows} (h : ∀ x ∈ r, x.1.length ≤ 32 ∧ x.2.length ≤ 8) : PyData.bulkKv (dRows r) ≤ 42 * r.length := by
  induction r with
  | nil => exact Nat.le_refl _
  | cons x r ih =>
    have h1 := ih fun y hy => h y (List.mem_cons_of_mem _ hy)
    have h2 := h x List.mem_cons_self
    have e1 : (bstr x.1).cps.size = x.1.length := bstr_len x.1
    have e2 : x.2.cps.size = x.2.length := rfl
    show PyData.bulk (.str (bstr x.1)) + PyData.bulk (.str x.2) + 2 + PyData.bulkKv (dRows r) ≤ _
    simp only [PyData.bulk, List.length_cons]
    omega
theorem leaves_rows {r : Rows} (h : ∀ x ∈ r, PyData.strOk x.2 = true) : PyData.leavesShortKv 8 (dRows r) = true := by
  have one : ∀ z : Str, PyData.strOk z = true → PyData.leavesShort 8 (.str z) = true := fun z hz => by
    unfold PyData.strOk at hz
    rw [← Array.all_toList] at hz
    simp only [PyData.leavesShort, List.all_eq_true, decide_eq_true_eq]
    intro c hc
    have := of_decide_eq_true (List.all_eq_true.mp hz c hc)
    omega
  induction r with
  | nil => rfl
  | cons x r ih =>
    show PyData.leavesShortKv 8 ((.str (bstr x.1), .str x.2) :: dRows r) = true
    simp only [PyData.leavesShortKv, one _ (bits_strOk x.1), one _ (h x List.mem_cons_self), ih fun y hy => h y (List.mem_cons_of_mem _ hy), Bool.and_true]
theorem size_rows2 {r1 r2 : Rows} (h1 : ∀ x ∈ r1, x.1.length ≤ 32 ∧ x.2.length ≤ 8 ∧ PyData.strOk x.2 = true) (h2 : ∀ x ∈ r2, x.1.length ≤ 32 ∧ x.2.length ≤ 8 ∧ PyData.strOk x.2 = true) (l1 : r1.length ≤ 20) (l2 : r2.length ≤ 20) :
    (PyData.shown (.list [.dict (dRows r1), .dict (dRows r2)])).length ≤ sizeLine := by
  have a := PyData.shown_le_bulk 8 (Nat.le_refl _) (.list [.dict (dRows r1), .dict (dRows r2)]) (by
    simp only [PyData.leavesShort, PyData.leavesShortAll, leaves_rows fun x hx => (h1 x hx).2.2, leaves_rows fun x hx => (h2 x hx).2.2, Bool.and_true])
  have b1 := bulk_rows fun x hx => ⟨(h1 x hx).1, (h1 x hx).2.1⟩
  have b2 := bulk_rows fun x hx => ⟨(h2 x hx).1, (h2 x hx).2.1⟩
  have e : PyData.bulk (.list [.dict (dRows r1), .dict (dRows r2)]) = PyData.bulkKv (dRows r1) + 1 + (PyData.bulkKv (dRows r2) + 1 + 0) := by simp only [PyData.bulk, PyData.bulkAll]
  exact szl (by omega)
/-- a run as data -/
def dRun (r : Run) : PyData := .tuple [.str (bstr r.lo), .str (bstr r.hi), dOf r.was, dOf r.now]
theorem dp_run {K : Fr} {H : Hp} {t : Addr} {r : Run} (h : H t = some (.tup (runV r))) : Dp K H (.ref t) (dRun r) := .tup (SqT.of h) (.cons (.str _) (.cons (.str _) (.cons (dp_oV _) (.cons (dp_oV _) .nil))))
theorem dp_runs {K : Fr} {H : Hp} : ∀ {ts : List Addr} {rs : List Run}, RunsAt H ts rs → DpAll K H (ts.map V.ref) (rs.map dRun)
  | _, _, .nil => .nil
  | _, _, .cons a t => .cons (dp_run a) (dp_runs t)
def RunSmall (r : Run) : Prop := r.lo.length ≤ 32 ∧ r.hi.length ≤ 32 ∧ (∀ s, r.was = some s → s.length ≤ 8 ∧ PyData.strOk s = true) ∧ ∀ s, r.now = some s → s.length ≤ 8 ∧ PyData.strOk s = true
theorem runs_data (rs : List Run) (h : ∀ r ∈ rs, RunSmall r) : PyData.showableAll (rs.map dRun) = true ∧ PyData.hasDictAll (rs.map dRun) = false ∧ PyData.depthAll (rs.map dRun) ≤ 1 ∧ PyData.bulkAll (rs.map dRun) ≤ 90 * rs.length ∧ PyData.leavesShortAll 8 (rs.map dRun) = true := by
  have one : ∀ z : Str, PyData.strOk z = true → PyData.leavesShort 8 (.str z) = true := fun z hz => by
    unfold PyData.strOk at hz
    rw [← Array.all_toList] at hz
    simp only [PyData.leavesShort, List.all_eq_true, decide_eq_true_eq]
    intro c hc
    have := of_decide_eq_true (List.all_eq_true.mp hz c hc)
    omega
  have opt : ∀ o : Option Str, (∀ s, o = some s → s.length ≤ 8 ∧ PyData.strOk s = true) → PyData.showable (dOf o) = true ∧ PyData.hasDict (dOf o) = false ∧ PyData.depth (dOf o) = 0 ∧ PyData.bulk (dOf o) ≤ 8 ∧ PyData.leavesShort 8 (dOf o) = true := fun o ho => by
    cases o with
    | none => exact ⟨rfl, rfl, rfl, Nat.zero_le _, rfl⟩
    | some s =>
      obtain ⟨h1, h2⟩ := ho s rfl
      exact ⟨rfl, rfl, rfl, h1, one s h2⟩
  induction rs with
  | nil => exact ⟨rfl, rfl, Nat.zero_le _, Nat.le_refl _, rfl⟩
  | cons r rs ih =>
    obtain ⟨a1, a2, a3, a4, a5⟩ := ih fun x hx => h x (List.mem_cons_of_mem _ hx)
    obtain ⟨s1, s2, s3, s4⟩ := h r List.mem_cons_self
    obtain ⟨b1, b2, b3, b4, b5⟩ := opt r.was s3
    obtain ⟨c1, c2, c3, c4, c5⟩ := opt r.now s4
    have e1 : (bstr r.lo).cps.size = r.lo.length := bstr_len _
    have e2 : (bstr r.hi).cps.size = r.hi.length := bstr_len _
    refine ⟨?_, ?_, ?_, ?_, ?_⟩
    · simp only [List.map_cons, dRun, PyData.showableAll, PyData.showable, b1, c1, Bool.true_and]
      exact a1
    · simp only [List.map_cons, dRun, PyData.hasDictAll, PyData.hasDict, b2, c2, Bool.false_or]
      exact a2
    · simp only [List.map_cons, dRun, PyData.depthAll, PyData.depth, b3, c3]
      have a3' : PyData.depthAll (rs.map dRun) ≤ 1 := a3
      omega
    · simp only [List.map_cons, dRun, PyData.bulkAll, PyData.bulk, List.length_cons]
      have a4' : PyData.bulkAll (rs.map dRun) ≤ 90 * rs.length := a4
      omega
    · simp only [List.map_cons, dRun, PyData.leavesShortAll, PyData.leavesShort, b5, c5, Bool.and_true]
      have o1 := one _ (bits_strOk r.lo)
      have o2 := one _ (bits_strOk r.hi)
      simp only [PyData.leavesShort] at o1 o2
      rw [o1, o2]
      exact a5
theorem rd_reprRuns {K : Fr} {H : Hp} {Q : VK} {a : Addr} {ts : List Addr} {rs : List Run} (h : H a = some (.lst (ts.map V.ref))) (hr : RunsAt H ts rs) (hs : ∀ r ∈ rs, RunSmall r) (hl : rs.length ≤ 5000) (q : Q (.str (PyData.shown (.list (rs.map dRun)))) H) : rReprD K [.ref a] H Q := by
  obtain ⟨a1, a2, a3, a4, a5⟩ := runs_data rs hs
  refine ⟨a, .list (rs.map dRun), rfl, .lst (SqL.of h) (dp_runs hr), ?_, ?_, ?_, ?_, q⟩
  · simp only [PyData.showable]; exact a1
  · simp only [PyData.hasDict]; exact a2
  · simp only [PyData.depth]; omega
  · have b := PyData.shown_le_bulk 8 (Nat.le_refl _) (.list (rs.map dRun)) (by simp only [PyData.leavesShort]; exact a5)
    have e : PyData.bulk (.list (rs.map dRun)) = PyData.bulkAll (rs.map dRun) := by simp only [PyData.bulk]
    exact Nat.le_trans b (by rw [e]; have : sizeLine = sizeLine := rfl; have z : (8 + 2) * PyData.bulkAll (rs.map dRun) + 8 ≤ 4600000 := by omega
                             exact Nat.le_trans z (by rw [sizeLine_eq]; omega))
theorem rd_lstN {t : TA} {σ : L2.St} {H : Hp} {Q : VK} (h : t σ H fun xs H1 => xs.length ≤ sizeLine ∧ ∀ p, H1 p = none → p ≠ sysModules → Q (.ref p) (upd H1 p (.lst xs))) : tLstN t σ H Q := h
end K2
/-! The end of a law row with tables of code objects, the law's def promised at the caller. -/
namespace LamX
open PySem PySem.Spec PyProof.Rows L2
def FnAt (P : Program) (w : World) (K : PySem.W.Frag) (mg : Str → Option Value) (base : Heap) (CX : CXT) (f : Addr) (fd : FuncData) (x : Str) (sp : Sp) : Prop :=
  ∀ (s : Shared) (H : Hp) (us : List Value) (vs : List V) (Q : VK) (E : XK), Env0 P w K mg base callerA [] s H → BindsTo s fd ⟨us, []⟩ ([x].zip us) → Vals vs us → sp vs H Q E →
    codeAny (model P w) callerA (.call (.ref f) ⟨us, []⟩) (CR CX [] P w H s Q E) s
theorem law_callK {P : Program} {w : World} {K : PySem.W.Frag} {mg mb : Str → Option Value} {CX : CXT} {k : Nat} {fa a : Addr} {cs : List (Addr × Addr)} {fd : FuncData} {x : Str} {sp : Sp} {s₁ : Shared} {vs : List Value} {ns : List Int}
    (KX : K.In s₁.heap) (hns : s₁.heap.Ns mainGlobals mg) (hb : s₁.heap.Ns builtinsNs mb) (hbb : ∀ x : Str, x ≠ "__name__" → mb x = bootBuiltins x) (hlim : s₁.heap.NoLimit) (hg : s₁.gens = #[])
    (hT : ∀ p ∈ cs, s₁.heap.get? p.2 = some { cls := .none, data := .fields #[] }) (nT : ∀ p ∈ cs, K.lookup p.2 = none) (C : ∀ p ∈ cs, PySem.W.CodeHd s₁.heap p.1 p.2)
    (hbm : ∃ (bm : Addr) (ob : Obj), mg "__builtins__" = some (.ref bm) ∧ bm ≠ builtinsNs ∧ s₁.heap.get? bm = some ob ∧ ob.cls = .type "module" ∧ ob.dict = some builtinsNs ∧ ob.data = .plain)
    (ha : s₁.heap.get? a = some { cls := .type "list", data := .seq vs.toArray }) (hi : IntsAre vs ns) (hl : ns.length ≤ sizeLine) (hr : Room k callerA)
    (F : ∀ base : Heap, K.In base → base.Ns mainGlobals mg → (∀ p ∈ cs, TabB base mg p.1 p.2) → FnAt P w K mg base CX fa fd x sp) (hbind : ∀ (s : Shared) (u : Value), BindsTo s fd ⟨[u], []⟩ [(x, u)])
    (hsp : ∀ H : Hp, (∀ p ∈ cs, H p.2 = some (.tbl #[])) → SqL K H a (ns.map V.int) → sp [.ref a] H (fun v _ => v = .bl true) fun _ _ _ => False)
    (hCX : ∀ H e s', CX [] H s₁ (fun _ _ _ => False) e s' → False) :
    codeAny (model P w) callerA (.call (.ref fa) ⟨[.ref a], []⟩) (fun r s' => r = .ok (.ret (.bool true)) ∧ OldK s₁.heap s'.heap ∧ s'.os = s₁.os ∧ AllBare s'.gens) s₁ := by
  have rv := vals_ints hi
  have lenV := hi.length
  have isT : ∀ b : Addr, b ∈ cs.map (·.2) → s₁.heap.get? b = some { cls := .none, data := .fields #[] } := fun b hb => by
    obtain ⟨p, hp, e⟩ := List.mem_map.mp hb
    rw [← e]
    exact hT p hp
  have aT : a ∉ cs.map (·.2) := fun z => by
    have q := isT a z
    rw [ha] at q
    have z' : Data.seq vs.toArray _ = Data.fields #[] := congrArg Obj.data (Option.some.inj q)
    cases z'
  have memT : ∀ p ∈ cs, p.2 ∈ cs.map (·.2) := fun p hp => List.mem_map.mpr ⟨p, hp, rfl⟩
  -- from an abstract heap in which nothing but the script and the tables may be tracked
  have core : ∀ H : Hp, (∀ p ∈ cs, H p.2 = some (.tbl #[])) → (∀ b, H b = none ∨ b ∈ cs.map (·.2) ∨ ∃ o xs, H b = some (.frz o (.lst xs))) → SqL K H a (ns.map V.int) → HOk P w H s₁.heap → (∀ b, H b ≠ none → b = a ∨ b ∈ cs.map (·.2)) → (H a ≠ none → K.lookup a = none) →
      codeAny (model P w) callerA (.call (.ref fa) ⟨[.ref a], []⟩) (fun r s' => r = .ok (.ret (.bool true)) ∧ OldK s₁.heap s'.heap ∧ s'.os = s₁.os ∧ AllBare s'.gens) s₁ := by
    intro H hH hO hS hok hA hK
    have base_of : ∀ {b : Addr} {o : Obj}, s₁.heap.get? b = some o → H b = none → (hidT s₁.heap H).get? b = some o := fun e n => hidT_get e n
    have noD : ∀ {b : Addr} {o : Obj}, s₁.heap.get? b = some o → (∀ vs n, o.data ≠ .seq vs n) → o.data ≠ .fields #[] → H b = none := fun {b o} e h1 h2 => by
      cases q : H b with
      | none => rfl
      | some u =>
        rcases hA b (by rw [q]; simp) with e' | e'
        · rw [e', ha] at e
          cases e
          exact (h1 _ _ rfl).elim
        · rw [isT b e'] at e
          cases e
          exact (h2 rfl).elim
    have noA : ∀ {b : Addr} {o : Obj} {es : Array DictEntry} {ep : Nat}, s₁.heap.get? b = some o → o.data = .dict es ep → H b = none := fun {b o es ep} e d => by
      refine noD e (fun vs n z => ?_) fun z => ?_
      · rw [d] at z
        cases z
      · rw [d] at z
        cases z
    have nsK : ∀ {b : Addr} {m : Str → Option Value}, s₁.heap.Ns b m → (hidT s₁.heap H).Ns b m := fun {b m} ⟨o, es, ep, e, d, r⟩ => ⟨o, es, ep, base_of e (noA e d), d, r⟩
    have hKb : K.In (hidT s₁.heap H) := fun b o e => base_of (KX b o e) (by
      cases q : H b with
      | none => rfl
      | some u =>
        rcases hA b (by rw [q]; simp) with e' | e'
        · rw [e'] at e q
          rw [hK (by rw [q]; simp)] at e
          cases e
        · obtain ⟨p, hp, ep⟩ := List.mem_map.mp e'
          rw [← ep, nT p hp] at e
          cases e)
    have hM : L2.Mod K mg (hidT s₁.heap H) := ⟨hKb, nsK hns, ⟨mb, nsK hb, hbb⟩, let ⟨mc, h1, h2⟩ := hlim; ⟨mc, nsK h1, h2⟩⟩
    have TB : ∀ p ∈ cs, TabB (hidT s₁.heap H) mg p.1 p.2 := fun p hp => by
      have hTp := hT p hp
      refine ⟨?_, ?_, fun z => ?_⟩
      · obtain ⟨o, us, file, tf, flags, tg, inF, text, tt, e1, r1, r2, r3, r4, r5, r6, r7, r8, hne⟩ := C p hp
        refine ⟨o, us, file, tf, flags, tg, inF, text, tt, base_of e1 (noD e1 (fun vs n z => ?_) fun z => ?_), r1, r2, r3, r4, r5, r6, r7, r8, hne⟩
        · rw [r2] at z
          cases z
        · rw [r2] at z
          cases z
          simp at r3
      · obtain ⟨bm, ob, b1, b2, b3, b4, b5, b6⟩ := hbm
        have nG : bm ≠ mainGlobals := fun q => by
          obtain ⟨o, es, ep, e, hd, _⟩ := hns
          rw [q, e] at b3
          cases b3
          rw [hd] at b6
          cases b6
        have nP : bm ≠ p.2 := fun q => by
          rw [q, hTp] at b3
          cases b3
          cases b6
        refine ⟨bm, ob, b1, b2, nG, nP, base_of b3 (noD b3 (fun vs n z => ?_) fun z => ?_), b4, b5, b6⟩
        · rw [b6] at z
          cases z
        · rw [b6] at z
          cases z
      · obtain ⟨o, es, ep, e, hd, _⟩ := hns
        rw [z, hTp] at e
        cases e
        cases hd
    have e0 : Env0 P w K mg (hidT s₁.heap H) callerA [] s₁ H := ⟨rfl, hM, fun b o e => of_hidT e, Nat.le_of_eq (hidT_size _ _), trivial, fun b hb => absurd (show b ∈ ([] : List Addr) from hb) (by simp), hok, .of_eq hg⟩
    refine codeAny_mono ((F _ hKb (nsK hns) TB) s₁ H [.ref a] [.ref a] _ _ e0 (hbind s₁ (.ref a)) (.cons rfl .nil) (hsp H hH hS)) fun r s' h => ?_
    cases r with
    | error e => exact (hCX H e s' h).elim
    | ok fl =>
      cases fl with
      | next => exact False.elim h
      | brk => exact False.elim h
      | cont => exact False.elim h
      | ret u =>
        obtain ⟨v, H', os, bare, un, hok', r', q⟩ := h
        have q' : v = .bl true := q
        subst q'
        obtain rfl : u = Value.bool true := r'
        have key : ∀ b o, b ∉ cs.map (·.2) → s₁.heap.get? b = some o → s'.heap.get? b = some o := fun b o nb e => by
          cases q : H b with
          | none => exact un.keep b o e q (by intro z; exact absurd (show b ∈ ([] : List Addr) from z) (by simp)) (by simp)
          | some u =>
            rcases hO b with z | z | ⟨ob, xs, z⟩
            · rw [q] at z; cases z
            · exact absurd z nb
            · have z2 := un.frzs b ob _ z
              obtain ⟨e1, _⟩ := hok b _ z
              obtain ⟨e2, _⟩ := hok' b _ z2
              rw [e] at e1; cases e1
              exact e2
        have grown : ∀ p ∈ cs, ∃ more : Array Value, s'.heap.get? p.2 = some { cls := .none, data := .fields more } := fun p hp => by
          obtain ⟨more, z⟩ := un.tbls p.2 #[] (hH p hp)
          exact ⟨_, hok' p.2 _ z⟩
        refine ⟨rfl, ⟨fun b o e => ?_, fun b o e => ?_⟩, os, bare⟩
        · by_cases hb : b ∈ cs.map (·.2)
          · obtain ⟨p, hp, ep⟩ := List.mem_map.mp hb
            obtain ⟨more, hm⟩ := grown p hp
            rw [← ep] at e ⊢
            rw [hT p hp] at e
            cases e
            exact .inr (.inl ⟨((C p hp).tab (hT p hp)).isCodeTable, rfl, #[], more, rfl, by rw [Array.empty_append]; exact hm⟩)
          · exact .inl (key b o hb e)
        · by_cases hb : b ∈ cs.map (·.2)
          · obtain ⟨p, hp, ep⟩ := List.mem_map.mp hb
            obtain ⟨more, hm⟩ := grown p hp
            rw [← ep]
            exact ⟨_, hm⟩
          · exact ⟨o, key b o hb e⟩
  cases hk : K.lookup a with
  | some o =>
    have e := KX a o hk
    rw [ha] at e
    cases e
    refine core (fun b => if b ∈ cs.map (·.2) then some (.tbl #[]) else none) (fun p hp => if_pos (memT p hp)) (fun b => ?_) (.inr ⟨_, vs.toArray, _, hk, rfl, rfl, rfl, by rw [List.size_toArray, lenV]; exact hl, by simpa using rv⟩) (fun b u z => ?_) (fun b z => ?_) fun z => absurd (show (if a ∈ cs.map (·.2) then some (HO.tbl #[]) else none) = none from if_neg aT) z
    · by_cases hb : b ∈ cs.map (·.2)
      · exact .inr (.inl hb)
      · exact .inl (if_neg hb)
    · by_cases hb : b ∈ cs.map (·.2)
      · have z' := (if_pos hb).symm.trans z
        cases z'
        exact isT b hb
      · have z' := (if_neg hb).symm.trans z
        cases z'
    · by_cases hb : b ∈ cs.map (·.2)
      · exact .inr hb
      · exact absurd (if_neg hb) z
  | none =>
    refine core (fun b => if b = a then some (.frz { cls := .type "list", data := .seq vs.toArray } (.lst (ns.map V.int))) else if b ∈ cs.map (·.2) then some (.tbl #[]) else none) (fun p hp => (if_neg (show ¬ p.2 = a from fun z => aT (by rw [← z]; exact memT p hp))).trans (if_pos (memT p hp))) (fun b => ?_)
      (.inl (.inr ⟨{ cls := .type "list", data := .seq vs.toArray }, if_pos rfl⟩)) (fun b u z => ?_) (fun b z => ?_) fun _ => hk
    · by_cases hb : b = a
      · exact .inr (.inr ⟨_, _, if_pos hb⟩)
      · by_cases hb2 : b ∈ cs.map (·.2)
        · exact .inr (.inl hb2)
        · exact .inl ((if_neg hb).trans (if_neg hb2))
    · by_cases hb : b = a
      · have z' := (if_pos hb).symm.trans z
        cases z'
        rw [hb]
        exact ⟨ha, by rw [List.length_map]; exact hl, vs, _, rv, ha⟩
      · have z1 := (if_neg hb).symm.trans z
        by_cases hb2 : b ∈ cs.map (·.2)
        · have z' := (if_pos hb2).symm.trans z1
          cases z'
          exact isT b hb2
        · have z' := (if_neg hb2).symm.trans z1
          cases z'
    · by_cases hb : b = a
      · exact .inl hb
      · by_cases hb2 : b ∈ cs.map (·.2)
        · exact .inr hb2
        · exact absurd ((if_neg hb).trans (if_neg hb2)) z
def LawAtK (l : PySem.W.OpenLaw) (w : World) (K : PySem.W.Frag) (CX : CXT) (n : Nat) (x : Str) (mg : Str → Option Value) (fa : Addr) (h : Heap) : Prop :=
  ∃ (fd : FuncData) (cs : List (Addr × Addr)) (sp : Sp), (∀ p ∈ cs, h.get? p.2 = some { cls := .none, data := .fields #[] }) ∧ (∀ p ∈ cs, K.lookup p.2 = none) ∧ (∀ p ∈ cs, PySem.W.CodeHd h p.1 p.2) ∧ (∀ (s : Shared) (u : Value), BindsTo s fd ⟨[u], []⟩ [(x, u)]) ∧
    (∀ (H : Hp) (a : Addr) (ns : List Int), ns.length ≤ n → (∀ p ∈ cs, H p.2 = some (.tbl #[])) → SqL K H a (ns.map V.int) → sp [.ref a] H (fun v _ => v = .bl true) fun _ _ _ => False) ∧
    ∀ base : Heap, K.In base → base.Ns mainGlobals mg → (∀ p ∈ cs, TabB base mg p.1 p.2) → FnAt l.prog w K mg base CX fa fd x sp
theorem walk_ofK {l : PySem.W.OpenLaw} {n : Nat} {q : Program} {loose : List Str} {XP : (Str → Option Value) → Heap → Prop} {YP : World → Heap → Prop} {d : DefRec} {CX : World → CXT} {x : Str}
    (hn : l.most = some n) (hn2 : n ≤ sizeLine) (hdf : d.params.defaults = []) (hr : Room 1 callerA)
    (F : ∀ (w : World) (mg : Str → Option Value) (fa : Addr) (h : Heap), YP w h → h.Ns mainGlobals mg → mg d.name = some (.ref fa) → ∃ K : PySem.W.Frag, K.In h ∧ LawAtK l w K (CX w) n x mg fa h)
    (hCX : ∀ (w : World) (H : Hp) (s : Shared) (e : Value) (s' : Shared), CX w [] H s (fun _ _ _ => False) e s' → False) :
    PySem.W.WalkO q loose XP YP l.row.toRowW d [] (fun f vs => PySem.call f vs) := by
  refine Att.attach_callB hn hdf fun w s₀ s₁ mg mb fa o pm cd doc a vs ns G Y ho hd hcd hmg hobj hints hlen hbits hg => ?_
  obtain ⟨K, KX, fd, cs, sp, hT, nT, C, hb, hsp, hF⟩ := F w mg fa _ Y G.T.g hmg
  exact law_callK KX G.T.g G.T.b G.T.builtins G.T.nolimit hg hT nT C G.T.bmain hobj hints (Nat.le_trans hlen hn2) hr hF hb (fun H hH hS => hsp H a ns hlen hH hS) fun H e s' => hCX w H s₁ e s'
end LamX
namespace KP
open PySem PySem.Spec PyProof.Rows L2 He KH K2

def top (i : Nat) : Stmt := PySem.Challenge.pw_keptroutes_k66_runs_that_are_moved.main.body.getD i (.Pass ⟨0, 0, 0, 0⟩)
abbrev s_is_integer : Stmt := top 8
abbrev s_is_prefix : Stmt := top 9
abbrev s_PrefixMap___init__ : Stmt := inClass (top 10) 0
abbrev s_PrefixMap_kept_value : Stmt := inClass (top 10) 2
abbrev s_PrefixMap_width : Stmt := inClass (top 10) 5
abbrev s_PrefixMap_rows : Stmt := inClass (top 10) 6
abbrev s_PrefixMap_longest : Stmt := inClass (top 10) 8
abbrev s_Table_is_target : Stmt := inClass (top 14) 1
abbrev s_Table_is_value : Stmt := inClass (top 14) 2
abbrev s_Table_target_of : Stmt := inClass (top 14) 6
abbrev s_closed : Stmt := top 16
abbrev s_leaves_of : Stmt := top 17
abbrev s_first_address : Stmt := top 18
abbrev s_last_address : Stmt := top 20
abbrev s_check_widths : Stmt := top 21
abbrev s_common_leaves : Stmt := top 22
abbrev s_moved_runs : Stmt := top 24
abbrev s__law_pen : Stmt := top 26
abbrev s__law_next : Stmt := top 27
abbrev s__law_draw : Stmt := top 28
abbrev s__law_bits : Stmt := top 29
abbrev s__law_size : Stmt := top 30
abbrev s__law_prefixes : Stmt := top 31
abbrev s__law_lines : Stmt := top 32
abbrev s__law_match : Stmt := top 33
abbrev s__law_lead : Stmt := top 34
abbrev s__law_closed : Stmt := top 35
abbrev s__law_ends : Stmt := top 36
abbrev s__law_near : Stmt := top 37
abbrev s__law_moves : Stmt := top 38
abbrev s__law_is_pair : Stmt := top 41
abbrev s_law : Stmt := top 42
structure Txt (K : Fr) (mg : Str → Option Value) : Prop where
  free_isinstance : mg "isinstance" = none
  free_int : mg "int" = none
  free_bool : mg "bool" = none
  free_str : mg "str" = none
  free_len : mg "len" = none
  free_all : mg "all" = none
  free_sorted : mg "sorted" = none
  free_dict : mg "dict" = none
  free_list : mg "list" = none
  free_set : mg "set" = none
  free_min : mg "min" = none
  free_range : mg "range" = none
  free_repr : mg "repr" = none
  g_is_integer : mg "is_integer" = some (.ref (ga K "is_integer"))
  g_is_prefix : mg "is_prefix" = some (.ref (ga K "is_prefix"))
  g_closed : mg "closed" = some (.ref (ga K "closed"))
  g_leaves_of : mg "leaves_of" = some (.ref (ga K "leaves_of"))
  g_first_address : mg "first_address" = some (.ref (ga K "first_address"))
  g_last_address : mg "last_address" = some (.ref (ga K "last_address"))
  g_check_widths : mg "check_widths" = some (.ref (ga K "check_widths"))
  g_common_leaves : mg "common_leaves" = some (.ref (ga K "common_leaves"))
  g_moved_runs : mg "moved_runs" = some (.ref (ga K "moved_runs"))
  g__law_pen : mg "_law_pen" = some (.ref (ga K "_law_pen"))
  g__law_next : mg "_law_next" = some (.ref (ga K "_law_next"))
  g__law_draw : mg "_law_draw" = some (.ref (ga K "_law_draw"))
  g__law_bits : mg "_law_bits" = some (.ref (ga K "_law_bits"))
  g__law_size : mg "_law_size" = some (.ref (ga K "_law_size"))
  g__law_prefixes : mg "_law_prefixes" = some (.ref (ga K "_law_prefixes"))
  g__law_lines : mg "_law_lines" = some (.ref (ga K "_law_lines"))
  g__law_match : mg "_law_match" = some (.ref (ga K "_law_match"))
  g__law_lead : mg "_law_lead" = some (.ref (ga K "_law_lead"))
  g__law_closed : mg "_law_closed" = some (.ref (ga K "_law_closed"))
  g__law_ends : mg "_law_ends" = some (.ref (ga K "_law_ends"))
  g__law_near : mg "_law_near" = some (.ref (ga K "_law_near"))
  g__law_moves : mg "_law_moves" = some (.ref (ga K "_law_moves"))
  g__law_is_pair : mg "_law_is_pair" = some (.ref (ga K "_law_is_pair"))
  g_law : mg "law" = some (.ref (ga K "law"))
  c_MAX_WIDTH : ∃ t, mg "MAX_WIDTH" = some (.int 32 t)
  c_LETTERS : ∃ t, mg "LETTERS" = some (.str "abcdefghijklmnopqrstuvwxyz" t)
  c_MAX_TARGET : ∃ t, mg "MAX_TARGET" = some (.int 8 t)
  g_RouteError : mg "RouteError" = some (.ref (ga K "RouteError"))
  g_InvalidMap : mg "InvalidMap" = some (.ref (ga K "InvalidMap"))
  g_InvalidPrefix : mg "InvalidPrefix" = some (.ref (ga K "InvalidPrefix"))
  g_InvalidPair : mg "InvalidPair" = some (.ref (ga K "InvalidPair"))
  g_PrefixMap : mg "PrefixMap" = some (.ref (ga K "PrefixMap"))
  g_Table : mg "Table" = some (.ref (ga K "Table"))
  cls_Table : Cls K (ga K "Table")
  no_Table_bits : NoAttr K (ga K "Table") "bits"
  no_Table_held : NoAttr K (ga K "Table") "held"
  st_Table_is_target : StatOf K (ga K "Table") "is_target" (cA "Table" "is_target" K) (rA "staticmethod" "Table" "is_target" K)
  m_Table_is_value : Meth K (ga K "Table") "is_value" (cA "Table" "is_value" K)
  m_Table_target_of : Meth K (ga K "Table") "target_of" (cA "Table" "target_of" K)
  m_Table___init__ : Meth K (ga K "Table") "__init__" (cA "Table" "__init__" K)
  m_Table_kept_value : Meth K (ga K "Table") "kept_value" (cA "Table" "kept_value" K)
  p_Table_width : PropOf K (ga K "Table") "width" (cA "Table" "width" K) (rA "property" "Table" "width" K)
  p_Table_rows : PropOf K (ga K "Table") "rows" (cA "Table" "rows" K) (rA "property" "Table" "rows" K)
  m_Table_longest : Meth K (ga K "Table") "longest" (cA "Table" "longest" K)
  mk_Table : Mk K (ga K "Table") (cA "Table" "__init__" K)
  x_InvalidPair : XcOf K (ga K "InvalidPair")
  xm_InvalidPair_RouteError : PySem.W.exmOne K (.ref (ga K "InvalidPair")) (.ref (ga K "RouteError")) = some true
  xm_InvalidPair_InvalidPair : PySem.W.exmOne K (.ref (ga K "InvalidPair")) (.ref (ga K "InvalidPair")) = some true
  xc_InvalidPair : ExcC K (ga K "InvalidPair")
  kt_InvalidPair_RouteError : PySem.W.kitOne K (.ref (ga K "InvalidPair")) (.ref (ga K "RouteError")) = some true
  kt_InvalidPair_InvalidPair : PySem.W.kitOne K (.ref (ga K "InvalidPair")) (.ref (ga K "InvalidPair")) = some true
  D_Table_is_target : ∃ fd, FunD K "is_target" "Table.is_target" (defArgs s_Table_is_target) (defBody s_Table_is_target) (defScope s_Table_is_target) [] [] (rA "staticmethod" "Table" "is_target" K) fd
  D_Table_is_value : ∃ fd, FunD K "is_value" "Table.is_value" (defArgs s_Table_is_value) (defBody s_Table_is_value) (defScope s_Table_is_value) [] [] (cA "Table" "is_value" K) fd
  D_Table_target_of : ∃ fd, FunD K "target_of" "Table.target_of" (defArgs s_Table_target_of) (defBody s_Table_target_of) (defScope s_Table_target_of) [] [] (cA "Table" "target_of" K) fd
  D_Table___init__ : ∃ fd, FunD K "__init__" "PrefixMap.__init__" (defArgs s_PrefixMap___init__) (defBody s_PrefixMap___init__) (defScope s_PrefixMap___init__) [] [] (cA "Table" "__init__" K) fd
  D_Table_kept_value : ∃ fd, FunD K "kept_value" "PrefixMap.kept_value" (defArgs s_PrefixMap_kept_value) (defBody s_PrefixMap_kept_value) (defScope s_PrefixMap_kept_value) [] [] (cA "Table" "kept_value" K) fd
  D_Table_width : ∃ fd, FunD K "width" "PrefixMap.width" (defArgs s_PrefixMap_width) (defBody s_PrefixMap_width) (defScope s_PrefixMap_width) [] [] (rA "property" "Table" "width" K) fd
  D_Table_rows : ∃ fd, FunD K "rows" "PrefixMap.rows" (defArgs s_PrefixMap_rows) (defBody s_PrefixMap_rows) (defScope s_PrefixMap_rows) [] [] (rA "property" "Table" "rows" K) fd
  D_Table_longest : ∃ fd, FunD K "longest" "PrefixMap.longest" (defArgs s_PrefixMap_longest) (defBody s_PrefixMap_longest) (defScope s_PrefixMap_longest) [] [] (cA "Table" "longest" K) fd
  D_is_integer : ∃ fd, FunD K "is_integer" "is_integer" (defArgs s_is_integer) (defBody s_is_integer) (defScope s_is_integer) [] [] (gA "is_integer" K) fd
  D_is_prefix : ∃ fd, FunD K "is_prefix" "is_prefix" (defArgs s_is_prefix) (defBody s_is_prefix) (defScope s_is_prefix) [] [] (gA "is_prefix" K) fd
  D_closed : ∃ fd, FunD K "closed" "closed" (defArgs s_closed) (defBody s_closed) (defScope s_closed) [] [] (gA "closed" K) fd
  D_leaves_of : ∃ fd, FunD K "leaves_of" "leaves_of" (defArgs s_leaves_of) (defBody s_leaves_of) (defScope s_leaves_of) [] [] (gA "leaves_of" K) fd
  D_first_address : ∃ fd, FunD K "first_address" "first_address" (defArgs s_first_address) (defBody s_first_address) (defScope s_first_address) [] [] (gA "first_address" K) fd
  D_last_address : ∃ fd, FunD K "last_address" "last_address" (defArgs s_last_address) (defBody s_last_address) (defScope s_last_address) [] [] (gA "last_address" K) fd
  D_check_widths : ∃ fd, FunD K "check_widths" "check_widths" (defArgs s_check_widths) (defBody s_check_widths) (defScope s_check_widths) [] [] (gA "check_widths" K) fd
  D_common_leaves : ∃ fd, FunD K "common_leaves" "common_leaves" (defArgs s_common_leaves) (defBody s_common_leaves) (defScope s_common_leaves) [] [] (gA "common_leaves" K) fd
  D_moved_runs : ∃ fd, FunD K "moved_runs" "moved_runs" (defArgs s_moved_runs) (defBody s_moved_runs) (defScope s_moved_runs) [] [] (gA "moved_runs" K) fd
  D__law_pen : ∃ fd, FunD K "_law_pen" "_law_pen" (defArgs s__law_pen) (defBody s__law_pen) (defScope s__law_pen) [] [] (gA "_law_pen" K) fd
  D__law_next : ∃ fd, FunD K "_law_next" "_law_next" (defArgs s__law_next) (defBody s__law_next) (defScope s__law_next) [] [] (gA "_law_next" K) fd
  D__law_draw : ∃ fd, FunD K "_law_draw" "_law_draw" (defArgs s__law_draw) (defBody s__law_draw) (defScope s__law_draw) [] [] (gA "_law_draw" K) fd
  D__law_bits : ∃ fd, FunD K "_law_bits" "_law_bits" (defArgs s__law_bits) (defBody s__law_bits) (defScope s__law_bits) [] [] (gA "_law_bits" K) fd
  D__law_size : ∃ fd, FunD K "_law_size" "_law_size" (defArgs s__law_size) (defBody s__law_size) (defScope s__law_size) [] [] (gA "_law_size" K) fd
  D__law_prefixes : ∃ fd, FunD K "_law_prefixes" "_law_prefixes" (defArgs s__law_prefixes) (defBody s__law_prefixes) (defScope s__law_prefixes) [] [] (gA "_law_prefixes" K) fd
  D__law_lines : ∃ fd, FunD K "_law_lines" "_law_lines" (defArgs s__law_lines) (defBody s__law_lines) (defScope s__law_lines) [] [] (gA "_law_lines" K) fd
  D__law_match : ∃ fd, FunD K "_law_match" "_law_match" (defArgs s__law_match) (defBody s__law_match) (defScope s__law_match) [] [] (gA "_law_match" K) fd
  D__law_lead : ∃ fd, FunD K "_law_lead" "_law_lead" (defArgs s__law_lead) (defBody s__law_lead) (defScope s__law_lead) [] [] (gA "_law_lead" K) fd
  D__law_closed : ∃ fd, FunD K "_law_closed" "_law_closed" (defArgs s__law_closed) (defBody s__law_closed) (defScope s__law_closed) [] [] (gA "_law_closed" K) fd
  D__law_ends : ∃ fd, FunD K "_law_ends" "_law_ends" (defArgs s__law_ends) (defBody s__law_ends) (defScope s__law_ends) [] [] (gA "_law_ends" K) fd
  D__law_near : ∃ fd, FunD K "_law_near" "_law_near" (defArgs s__law_near) (defBody s__law_near) (defScope s__law_near) [] [] (gA "_law_near" K) fd
  D__law_moves : ∃ fd, FunD K "_law_moves" "_law_moves" (defArgs s__law_moves) (defBody s__law_moves) (defScope s__law_moves) [] [] (gA "_law_moves" K) fd
  D__law_is_pair : ∃ fd, FunD K "_law_is_pair" "_law_is_pair" (defArgs s__law_is_pair) (defBody s__law_is_pair) (defScope s__law_is_pair) [] [] (gA "_law_is_pair" K) fd
  D_law : ∃ fd, FunD K "law" "law" (defArgs s_law) (defBody s_law) (defScope s_law) [] [] (gA "law" K) fd
end KP
namespace KP
open PySem PySem.Spec PyProof.Rows L2 He KH K2
local macro_rules | `(tactic| walk_at "rd") => `(tactic| repeat (first
  | ((with_reducible show tVar _ _ _ _); refine rd_var rfl ?_)
  | with_reducible refine rd_c ?_
  | with_reducible refine rd_yes ?_
  | with_reducible refine rd_kw ?_
  | with_reducible refine rd_lstN ?_
  | with_reducible refine rd_par ?_
  | with_reducible refine rd_gSub ?_
  | with_reducible refine rd_m1 ?_
  | with_reducible refine rd_dnewK ?_
  | with_reducible refine rd_U ?_
  | with_reducible refine rd_iRng3 ?_
  | with_reducible refine rd_seq ?_
  | with_reducible refine rd_asg ?_
  | with_reducible refine rd_gName ?_
  | with_reducible refine rd_ret ?_
  | with_reducible refine rd_op ?_
  | with_reducible refine rd_I0 ?_
  | ((with_reducible show rEq _ _ _ _); refine rd_eq rfl ?_)
  | ((with_reducible show rNe _ _ _ _); refine rd_ne rfl ?_)
  | with_reducible refine rd_cb ?_
  | with_reducible refine rd_isi_int_int ?_
  | with_reducible refine rd_isi_int_bool ?_
  | with_reducible refine rd_isi_int_str ?_
  | with_reducible refine rd_isi_int_list ?_
  | with_reducible refine rd_isi_int_tuple ?_
  | with_reducible refine rd_isi_int_dict ?_
  | with_reducible refine rd_isi_str_int ?_
  | with_reducible refine rd_isi_str_bool ?_
  | with_reducible refine rd_isi_str_str ?_
  | with_reducible refine rd_isi_str_list ?_
  | with_reducible refine rd_isi_str_tuple ?_
  | with_reducible refine rd_isi_str_dict ?_
  | with_reducible refine rd_isi_bool_int ?_
  | with_reducible refine rd_isi_bool_bool ?_
  | with_reducible refine rd_isi_bool_str ?_
  | with_reducible refine rd_isi_bool_list ?_
  | with_reducible refine rd_isi_bool_tuple ?_
  | with_reducible refine rd_isi_bool_dict ?_
  | with_reducible refine rd_cons ?_
  | with_reducible refine rd_star ?_
  | with_reducible refine rd_nil ?_
  | with_reducible refine rd_call ?_
  | with_reducible refine rd_ifs ?_
  | with_reducible refine rd_test ?_
  | with_reducible refine rd_tB ?_
  | with_reducible refine rd_bl ?_
  | with_reducible refine rd_int ?_
  | with_reducible refine iteT ?_
  | with_reducible refine iteF ?_
  | with_reducible refine iteFn ?_
  | with_reducible refine iteTn ?_
  | with_reducible refine rd_andV ?_
  | with_reducible refine rd_orV ?_
  | with_reducible refine rd_notV ?_
  | with_reducible refine rd_and ?_
  | with_reducible refine rd_or ?_
  | with_reducible refine rd_not ?_
  | with_reducible refine rd_if ?_
  | with_reducible refine rd_sl ?_
  | with_reducible refine rd_part ?_
  | with_reducible refine rd_noPart ?_
  | with_reducible refine rd_next ?_
  | with_reducible refine rd_drop ?_
  | with_reducible refine rd_retN ?_
  | with_reducible refine rd_brk ?_
  | with_reducible refine rd_cont ?_
  | with_reducible refine rd_dget ?_
  | with_reducible refine rd_din ?_
  | with_reducible refine rd_dnin ?_
  | with_reducible refine rd_dput ?_
  | with_reducible refine rd_met ?_
  | with_reducible refine rd_make ?_
  | with_reducible refine rd_fld ?_
  | with_reducible refine rd_prop ?_
  | with_reducible refine rd_sm ?_
  | with_reducible refine rd_ref ?_
  | with_reducible refine rd_chain ?_
  | with_reducible refine rd_un ?_
  | with_reducible refine rd_lst ?_
  | with_reducible refine rd_lc ?_
  | with_reducible refine rd_lc2 ?_
  | with_reducible refine rd_sc ?_
  | with_reducible refine rd_dc ?_
  | with_reducible refine rd_for ?_
  | with_reducible refine rd_iStr ?_
  | with_reducible refine rd_strx ?_
  | with_reducible refine rd_iList ?_
  | with_reducible refine rd_iTup ?_
  | with_reducible refine rd_iKeysL ?_
  | with_reducible refine rd_iKeys ?_
  | with_reducible refine rd_iRng1 ?_
  | with_reducible refine rd_iRng2 ?_
  | with_reducible refine rd_isN_str ?_
  | with_reducible refine rd_isN_int ?_
  | with_reducible refine rd_isN_ref ?_
  | with_reducible refine rd_isN_non ?_
  | with_reducible refine rd_notN_str ?_
  | with_reducible refine rd_notN_int ?_
  | with_reducible refine rd_notN_ref ?_
  | with_reducible refine rd_notN_non ?_
  | with_reducible refine rd_min2 ?_
  | with_reducible refine rd_bm ?_
  | with_reducible refine rd_bm0 ?_
  | with_reducible refine rd_setF ?_
  | with_reducible refine rd_tup ?_))

section
variable {P : Program} {w : World} {K : Fr} {mg : Str → Option Value} {base : Heap}
def sp_is_integer : Sp := fun vs H Q _ => vs.length = 3 ∧ ∃ i lo hi : Int, vs = [.int i, .int lo, .int hi] ∧ ∀ b, b = (decide (lo ≤ i) && decide (i ≤ hi)) → Q (.bl b) H
theorem sc_is_integer : FnScope ["thing", "low", "high"] ["thing", "low", "high"] (defScope s_is_integer) := ⟨rfl, rfl, rfl, by decide +kernel, rfl, by decide +kernel, by decide +kernel⟩
theorem ok_is_integer (T : Txt K mg) : OkF P w K mg base 1 "is_integer" ["thing", "low", "high"] sp_is_integer := by
  obtain ⟨fd, F⟩ := T.D_is_integer
  refine ⟨_, fd, T.g_is_integer, F.kp, (F.bindsN fun _ _ _ _ _ _ us hl => match us, hl with | [_, _, _], _ => rfl), (F.ok sc_is_integer (fun vs H Q E h => h.1) fun cdv A outer s H vs Q E hr h => ?_)⟩
  refine ⟨_, (pss_one (ps_ret (pe_and (pe_callB (k_isi (K := K)) (by rfl) T.free_isinstance (by decide +kernel) (pa_cons (pv 0) (pa_cons (pty (n := "int") T.free_int (by rfl) (by decide +kernel)) pa_nil))) (pe_and (pe_not (pe_callB (k_isi (K := K)) (by rfl) T.free_isinstance (by decide +kernel) (pa_cons (pv 0) (pa_cons (pty (n := "bool") T.free_bool (by rfl) (by decide +kernel)) pa_nil)))) (pe_one (pe_chain op_le op_le (pv 1) (pv 0) (pv 2))))))), ?_⟩
  obtain ⟨_, i, lo, hi, rfl, hQ⟩ := h
  walk_at "rd"
  refine iteD (fun h1 => ?_) (fun h1 => ?_)
  · walk_at "rd"
    exact hQ _ (by simp [h1])
  · exact hQ _ (by simp [h1])
def sp_address (c : Bool) : Sp := fun vs H Q _ => vs.length = 2 ∧ ∃ (b : Bits) (n : Nat), vs = [.str (bstr b), .int (n : Int)] ∧ n ≤ 1000 ∧ b.length ≤ n ∧ Q (.str (bstr (b ++ List.replicate (n - b.length) c))) H
theorem sc_first_address : FnScope ["prefix", "width"] ["prefix", "width"] (defScope s_first_address) := ⟨rfl, rfl, rfl, by decide +kernel, rfl, by decide +kernel, by decide +kernel⟩
theorem ok_first_address (T : Txt K mg) : OkF P w K mg base 1 "first_address" ["prefix", "width"] (sp_address false) := by
  obtain ⟨fd, F⟩ := T.D_first_address
  refine ⟨_, fd, T.g_first_address, F.kp, (F.bindsN fun _ _ _ _ _ _ us hl => match us, hl with | [_, _], _ => rfl), (F.ok sc_first_address (fun vs H Q E h => h.1) fun cdv A outer s H vs Q E hr h => ?_)⟩
  refine ⟨_, (pss_one (ps_ret (pe_op k_addZ (pv 0) (pe_op k_mulSI pe_str (pe_op op_sub (pv 1) (pe_callB k_lenS (by rfl) T.free_len (by decide +kernel) (pa_cons (pv 0) pa_nil))))))), ?_⟩
  obtain ⟨_, b, n, rfl, h1, h2, hQ⟩ := h
  walk_at "rd"
  refine rd_lenZ (by rw [bstr_len, sizeLine_eq]; omega) ?_
  walk_at "rd"
  rw [bstr_len, show (n : Int) - (b.length : Int) = ((n - b.length : Nat) : Int) by omega, ← bstr_0]
  refine rd_mulSI (mulOk_bit _ _ (by omega)) ?_
  refine rd_addZ (by rw [mul_bit, bstr_len, bstr_len, List.length_replicate, sizeLine_eq]; omega) ?_
  rw [mul_bit, bstr_app]
  exact hQ
/-- a text of at most so many bits -/
def isBits (z : Str) : Bool := z.cps.toList.all fun c => c == 48 || c == 49
def sp_is_prefix : Sp := fun vs H Q _ => vs.length = 2 ∧ ∃ (z : Str) (i : Int), vs = [.str z, .int i] ∧ z.length ≤ 1000 ∧ ∀ b H', b = (decide ((z.length : Int) ≤ i) && isBits z) → Ex H H' → Q (.bl b) H'
theorem in2 (c : Nat) : inV (.str ⟨#[c]⟩) [.str ("0" : Str), .str ("1" : Str)] = (c == 48 || c == 49) := by
  have e0 : ("0" : Str) = ⟨#[48]⟩ := by decide +kernel
  have e1 : ("1" : Str) = ⟨#[49]⟩ := by decide +kernel
  rw [e0, e1, Bool.eq_iff_iff]
  simp [inV, eqV]
  omega
theorem isBits_bstr (b : Bits) : isBits (bstr b) = true := by
  unfold isBits
  rw [bstr_cps, List.all_eq_true]
  intro c hc
  obtain ⟨x, _, rfl⟩ := List.mem_map.mp hc
  cases x <;> rfl
theorem isBits_ex {z : Str} (h : isBits z = true) : ∃ b, z = bstr b := by
  refine ⟨z.cps.toList.map fun c => c == 49, str_ext ?_⟩
  rw [bstr_cps, List.map_map]
  have h2 := List.all_eq_true.mp h
  conv => lhs; rw [← List.map_id z.cps.toList]
  refine List.map_congr_left fun c hc => ?_
  have := h2 c hc
  simp only [Bool.or_eq_true, beq_iff_eq] at this
  rcases this with e | e <;> subst e <;> rfl
theorem sc_is_prefix : FnScope ["thing", "width", "bit"] ["thing", "width"] (defScope s_is_prefix) := ⟨rfl, rfl, rfl, by decide +kernel, rfl, by decide +kernel, by decide +kernel⟩
theorem ok_is_prefix (T : Txt K mg) : OkF P w K mg base 1 "is_prefix" ["thing", "width"] sp_is_prefix := by
  obtain ⟨fd, F⟩ := T.D_is_prefix
  refine ⟨_, fd, T.g_is_prefix, F.kp, (F.bindsN fun _ _ _ _ _ _ us hl => match us, hl with | [_, _], _ => rfl), (F.ok sc_is_prefix (fun vs H Q E h => h.1) fun cdv A outer s H vs Q E hr h => ?_)⟩
  refine ⟨_, (pss_one (ps_ret (pe_and (pe_callB (k_isi (K := K)) (by rfl) T.free_isinstance (by decide +kernel) (pa_cons (pv 0) (pa_cons (pty (n := "str") T.free_str (by rfl) (by decide +kernel)) pa_nil))) (pe_and (pe_cmpR op_le (pe_callB k_lenS (by rfl) T.free_len (by decide +kernel) (pa_cons (pv 0) pa_nil)) (pv 1) (nomark _)) (pe_one (pe_callB (k_all (K := K)) (by rfl) T.free_all (by decide +kernel) (pa_cons (pe_lc rfl sc_is_prefix.nd (pi_str (pv 0)) (blkOk_by (N := ["thing", "width", "bit"]) (sc := defScope s_is_prefix) (own := [("bit", 2)]) (by decide +kernel)) (fun _ _ _ _ _ => (pg_name (i := 2) sc_is_prefix.nd rfl (by first | exact Or.inl rfl | exact Or.inr rfl))) (fun _ _ _ _ _ => pts_nil) (fun _ _ _ _ _ => (pe_cmpR (k_in (K := K)) (pv 2) (pe_tup (pa_cons pe_str (pa_cons pe_str pa_nil))) rfl))) pa_nil))))))), ?_⟩
  obtain ⟨_, z, i, rfl, hz, hQ⟩ := h
  walk_at "rd"
  refine rd_lenZ (szl (by omega)) ?_
  walk_at "rd"
  refine iteD (fun h1 => ?_) (fun h1 => ?_)
  · walk_at "rd"
    refine fun D hD => lcG src_str (fun _ _ => trivial) (fun x => some (.bl (inV x [.str ("0" : Str), .str ("1" : Str)]))) hD (by rw [K2.signs, List.length_map]; exact Nat.le_trans hz (by decide)) (fun x hx H' e R S hR _ => ?_) fun H' e hl => ?_
    · obtain ⟨c, _, rfl⟩ := List.mem_map.mp hx
      refine ⟨rfl, ?_⟩
      walk_at "rd"
      refine ⟨by show 2 ≤ sizeLine; decide, fun p hp => ⟨p, _, rfl, .inr (SqT.of upd_same), rfl, rfl, hR _ _ rfl (Ex.nw hp)⟩⟩
    · have el : (K2.signs z).filterMap (fun x => some (V.bl (inV x [.str ("0" : Str), .str ("1" : Str)]))) = ((z.cps.toList.map fun c => (c == 48 || c == 49)).map V.bl) := by
        rw [List.filterMap_eq_map', K2.signs, List.map_map, List.map_map]
        refine List.map_congr_left fun c _ => ?_
        show V.bl _ = V.bl _
        rw [in2]
      rw [el] at hl
      refine ⟨_, _, rfl, .inl (.inl hl), hQ _ _ ?_ e⟩
      rw [decide_eq_true h1, Bool.true_and, isBits, List.all_map]
      rfl
  · exact hQ _ _ (by simp [h1]) Ex.rfl'
def isTgt (z : Str) : Bool := decide (1 ≤ z.length) && (decide (z.length ≤ 8) && z.cps.toList.all fun c => decide (c ∈ ("abcdefghijklmnopqrstuvwxyz" : Str).cps.toList))
def sp_is_target : Sp := fun vs H Q _ => vs.length = 1 ∧ ∃ (z : Str), vs = [.str z] ∧ isTgt z = true ∧ ∀ H', Ex H H' → Q (.bl true) H'
theorem isTgt_len {z : Str} (h : isTgt z = true) : 1 ≤ z.length ∧ z.length ≤ 8 := by
  unfold isTgt at h
  simp only [Bool.and_eq_true, decide_eq_true_eq] at h
  exact ⟨h.1, h.2.1⟩
theorem sc_Table_is_target : FnScope ["thing", "sign"] ["thing"] (defScope s_Table_is_target) := ⟨rfl, rfl, rfl, by decide +kernel, rfl, by decide +kernel, by decide +kernel⟩
theorem ok_Table_is_target (T : Txt K mg) : OkS P w K mg base 1 (ga K "Table") "is_target" ["thing"] sp_is_target := by
  obtain ⟨fd, F⟩ := T.D_Table_is_target
  refine ⟨_, _, fd, T.st_Table_is_target, F.kp, (F.bindsN fun _ _ _ _ _ _ us hl => match us, hl with | [_], _ => rfl), (F.ok sc_Table_is_target (fun vs H Q E h => h.1) fun cdv A outer s H vs Q E hr h => ?_)⟩
  refine ⟨_, (pss_one (ps_ret (pe_and (pe_callB (k_isi (K := K)) (by rfl) T.free_isinstance (by decide +kernel) (pa_cons (pv 0) (pa_cons (pty (n := "str") T.free_str (by rfl) (by decide +kernel)) pa_nil))) (pe_and (pe_chain op_le op_le pe_int (pe_callB k_lenS (by rfl) T.free_len (by decide +kernel) (pa_cons (pv 0) pa_nil)) (pci T.c_MAX_TARGET rfl)) (pe_one (pe_callB (k_all (K := K)) (by rfl) T.free_all (by decide +kernel) (pa_cons (pe_lc rfl sc_Table_is_target.nd (pi_str (pv 0)) (blkOk_by (N := ["thing", "sign"]) (sc := defScope s_Table_is_target) (own := [("sign", 1)]) (by decide +kernel)) (fun _ _ _ _ _ => (pg_name (i := 1) sc_Table_is_target.nd rfl (by first | exact Or.inl rfl | exact Or.inr rfl))) (fun _ _ _ _ _ => pts_nil) (fun _ _ _ _ _ => (pe_cmpR op_in_sign (pv 1) (pcs T.c_LETTERS rfl) rfl))) pa_nil))))))), ?_⟩
  obtain ⟨_, z, rfl, ht, hQ⟩ := h
  obtain ⟨h1, h2⟩ := isTgt_len ht
  walk_at "rd"
  refine rd_lenZ (szl (by omega)) ?_
  walk_at "rd"
  rw [show decide ((1 : Int) ≤ (z.length : Int)) = true from decide_eq_true (by omega)]
  walk_at "rd"
  rw [show decide ((z.length : Int) ≤ 8) = true from decide_eq_true (by omega)]
  walk_at "rd"
  refine fun D hD => lcG src_str (fun _ _ => trivial) (fun x => some (.bl (match x with | .str s => (s.cps.toList.all fun c => decide (c ∈ ("abcdefghijklmnopqrstuvwxyz" : Str).cps.toList)) | _ => false))) hD (by rw [K2.signs, List.length_map]; exact Nat.le_trans (show z.length ≤ 8 by omega) (by decide)) (fun x hx H' e R S hR _ => ?_) fun H' e hl => ?_
  · obtain ⟨c, _, rfl⟩ := List.mem_map.mp hx
    refine ⟨rfl, ?_⟩
    walk_at "rd"
    exact ⟨c, _, rfl, rfl, hR _ _ (by simp) Ex.rfl'⟩
  · have el : (K2.signs z).filterMap (fun x => some (V.bl (match x with | .str s => (s.cps.toList.all fun c => decide (c ∈ ("abcdefghijklmnopqrstuvwxyz" : Str).cps.toList)) | _ => false))) = ((z.cps.toList.map fun c => decide (c ∈ ("abcdefghijklmnopqrstuvwxyz" : Str).cps.toList)).map V.bl) := by
      rw [List.filterMap_eq_map', K2.signs, List.map_map, List.map_map]
      refine List.map_congr_left fun c _ => ?_
      show V.bl _ = V.bl _
      simp
    rw [el] at hl
    refine ⟨_, _, rfl, .inl (.inl hl), ?_⟩
    have e3 : (List.map (fun c => decide (c ∈ ("abcdefghijklmnopqrstuvwxyz" : Str).cps.toList)) z.cps.toList).all id = true := by
      unfold isTgt at ht
      simp only [Bool.and_eq_true] at ht
      rw [List.all_map]
      exact ht.2.2
    rw [e3]
    exact hQ _ e
def sp_is_value (C : Addr) : Sp := fun vs H Q _ => vs.length = 2 ∧ ∃ (p : Addr) (z : Str), vs = [.ref p, .str z] ∧ isTgt z = true ∧ ∀ H', Ex H H' → Q (.bl true) H'
theorem sc_Table_is_value : FnScope ["self", "thing"] ["self", "thing"] (defScope s_Table_is_value) := ⟨rfl, rfl, rfl, by decide +kernel, rfl, by decide +kernel, by decide +kernel⟩
theorem ok_Table_is_value (T : Txt K mg) : OkM P w K mg base 2 (ga K "Table") "is_value" ["self", "thing"] (sp_is_value (ga K "Table")) := by
  obtain ⟨fd, F⟩ := T.D_Table_is_value
  refine ⟨_, fd, T.m_Table_is_value, (F.bindsN fun _ _ _ _ _ _ us hl => match us, hl with | [_, _], _ => rfl), (F.ok sc_Table_is_value (fun vs H Q E h => h.1) fun cdv A outer s H vs Q E hr h => ?_)⟩
  refine ⟨_, (pss_one (ps_ret (psm (ok_Table_is_target T) (hr.mono (by decide)) (pcc T.g_Table rfl) (pa_cons (pv 1) pa_nil)))), ?_⟩
  obtain ⟨_, p, z, rfl, ht, hQ⟩ := h
  walk_at "rd"
  refine ⟨rfl, ?_⟩
  walk_at "rd"
  exact ⟨rfl, z, rfl, ht, hQ⟩
def sp_kept_value (C : Addr) : Sp := fun vs H Q _ => vs.length = 2 ∧ ∃ (p : Addr) (z : Str), vs = [.ref p, .str z] ∧ Q (.str z) H
theorem sc_Table_kept_value : FnScope ["self", "thing"] ["self", "thing"] (defScope s_PrefixMap_kept_value) := ⟨rfl, rfl, rfl, by decide +kernel, rfl, by decide +kernel, by decide +kernel⟩
theorem ok_Table_kept_value (T : Txt K mg) : OkM P w K mg base 1 (ga K "Table") "kept_value" ["self", "thing"] (sp_kept_value (ga K "Table")) := by
  obtain ⟨fd, F⟩ := T.D_Table_kept_value
  refine ⟨_, fd, T.m_Table_kept_value, (F.bindsN fun _ _ _ _ _ _ us hl => match us, hl with | [_, _], _ => rfl), (F.ok sc_Table_kept_value (fun vs H Q E h => h.1) fun cdv A outer s H vs Q E hr h => ?_)⟩
  refine ⟨_, (pss_one (ps_ret (pv 1))), ?_⟩
  obtain ⟨_, p, z, rfl, hQ⟩ := h
  walk_at "rd"
  exact hQ
def TOk (n : Nat) (r : Rows) : Prop := 1 ≤ n ∧ n ≤ 32 ∧ (r.map (·.1)).Nodup ∧ (∀ x ∈ r, x.1.length ≤ n ∧ isTgt x.2 = true) ∧ r.length ≤ 20
def tFs (n : Nat) (d : Addr) : List (Str × V) := [("bits", .int (n : Int)), ("held", .ref d)]
def IsT (C : Addr) (H : Hp) (p d : Addr) (n : Nat) (r : Rows) : Prop := (∃ dx, H p = some (.ins C dx (tFs n d))) ∧ H d = some (.dK (rK r))
def sp_init (C : Addr) : Sp := fun vs H Q _ => vs.length = 3 ∧ ∃ (p dx d : Addr) (n : Nat) (r : Rows), vs = [.ref p, .int (n : Int), .ref d] ∧ H p = some (.ins C dx []) ∧ H d = some (.dK (rK r)) ∧ TOk n r ∧
  ∀ H' d', Xp p H H' → H' p = some (.ins C dx (tFs n d')) → H' d' = some (.dK (rK (sortR r))) → H d' = none → Q .non H'
theorem fm_congr {α β : Type} {f g : α → Option β} : ∀ {l : List α}, (∀ x ∈ l, f x = g x) → l.filterMap f = l.filterMap g
  | [], _ => rfl
  | x :: l, h => by
    rw [List.filterMap_cons, List.filterMap_cons, h x List.mem_cons_self, fm_congr fun y hy => h y (List.mem_cons_of_mem _ hy)]
theorem nodup_bk {l : List Bits} (h : l.Nodup) : (l.map bk).Nodup := by
  rw [List.Nodup, List.pairwise_map]
  exact h.imp fun n e => n (bk_inj.mp e)
def fSel (r : Rows) : V → Option (Key × V) := fun x => match x with
  | .str z => (valV (rK r) (Sum.inr z)).map fun v => (Sum.inr z, v)
  | _ => none
theorem fSel_bits (r : Rows) (b : Bits) : fSel r (.str (bstr b)) = (r.lookup b).map fun t => (bk b, V.str t) := by
  show (valV (rK r) (bk b)).map _ = _
  rw [valV_rK, Option.map_map]
  rfl
theorem fSel_sorted (r : Rows) (nd : (r.map (·.1)).Nodup) : mergeK [] (((sortB (r.map (·.1))).map fun b => V.str (bstr b)).filterMap (fSel r)) = rK (sortR r) := by
  have e : ((sortB (r.map (·.1))).map fun b => V.str (bstr b)).filterMap (fSel r) = rK (sortR r) := by
    rw [List.filterMap_map, sortR, rK, List.map_filterMap]
    refine fm_congr fun b _ => ?_
    show fSel r (.str (bstr b)) = _
    rw [fSel_bits, Option.map_map]
    rfl
  rw [e, mergeK_nodup]
  · rfl
  · show ((rK (sortR r)).map (·.1)).Nodup
    rw [rK_keys, sortR_keys]
    exact nodup_bk (sortB_nodup nd)
theorem sc_Table___init__ : FnScope ["self", "width", "rows", "prefix"] ["self", "width", "rows"] (defScope s_PrefixMap___init__) := ⟨rfl, rfl, rfl, by decide +kernel, rfl, by decide +kernel, by decide +kernel⟩
theorem ok_Table (T : Txt K mg) : OkC P w K mg base 3 "Table" (ga K "Table") ["self", "width", "rows"] (sp_init (ga K "Table")) := by
  obtain ⟨fd, F⟩ := T.D_Table___init__
  refine ⟨_, fd, T.g_Table, T.mk_Table, (F.bindsN fun _ _ _ _ _ _ us hl => match us, hl with | [_, _, _], _ => rfl), (F.ok sc_Table___init__ (fun vs H Q E h => h.1) fun cdv A outer s H vs Q E hr h => ?_)⟩
  refine ⟨_, (pss_cons (ps_if (PW.pt (pw_or (pt_not (pt_val (pcl (ok_is_integer T) (hr.mono (by decide)) rfl (pa_cons (pv 1) (pa_cons pe_int (pa_cons (pci T.c_MAX_WIDTH rfl) pa_nil)))))) (pw_or1 (pt_not (pt_val (pe_callB (k_isi (K := K)) (by rfl) T.free_isinstance (by decide +kernel) (pa_cons (pv 2) (pa_cons (pty (n := "dict") T.free_dict (by rfl) (by decide +kernel)) pa_nil))))))))
    (pss_one ps_never)
    pss_nil)
    (pss_cons (ps_if (pt_not (pt_val (pe_callB (k_all (K := K)) (by rfl) T.free_all (by decide +kernel) (pa_cons (pe_lock (pe_lc rfl sc_Table___init__.nd (pi_keys (pv 2)) (blkOk_by (N := ["self", "width", "rows", "prefix"]) (sc := defScope s_PrefixMap___init__) (own := [("prefix", 3)]) (by decide +kernel)) (fun _ _ _ _ _ => (pg_name (i := 3) sc_Table___init__.nd rfl (by first | exact Or.inl rfl | exact Or.inr rfl))) (fun _ _ _ _ _ => pts_nil) (fun _ _ _ _ _ => (pe_and (pcl (ok_is_prefix T) (hr.mono (by decide)) rfl (pa_cons (pv 3) (pa_cons (pv 1) pa_nil))) (pe_one (pmt T.cls_Table (ok_Table_is_value T) (hr.mono (by decide)) (pv 0) (pa_cons (pe_dget (hu_of hr) (pv 2) (pv 3) (fun _ _ => rfl)) pa_nil))))))) pa_nil))))
    (pss_one ps_never)
    pss_nil)
    (pss_cons (k_setF (K := K) (pv 0) (pv 1))
    (pss_one (k_setF (K := K) (pv 0) (pe_dc rfl sc_Table___init__.nd (k_itL (K := K) (pe_callB k_sortD (by rfl) T.free_sorted (by decide +kernel) (pa_cons (pv 2) pa_nil))) (blkOk_by (N := ["self", "width", "rows", "prefix"]) (sc := defScope s_PrefixMap___init__) (own := [("prefix", 3)]) (by decide +kernel)) (fun _ _ _ _ _ => (pg_name (i := 3) sc_Table___init__.nd rfl (by first | exact Or.inl rfl | exact Or.inr rfl))) (fun _ _ _ _ _ => pts_nil) (fun _ _ _ _ _ => (pv 3)) (fun _ _ _ _ _ => (pmt T.cls_Table (ok_Table_kept_value T) (hr.mono (by decide)) (pv 0) (pa_cons (pe_dget (hu_of hr) (pv 2) (pv 3) (fun _ _ => rfl)) pa_nil))))))))), ?_⟩
  obtain ⟨_, p, dx, d, n, r, rfl, hp, hd, ⟨n1, n2, nd, ok, sz⟩, hQ⟩ := h
  walk_at "rd"
  refine ⟨rfl, (n : Int), 1, 32, rfl, fun b eb => ?_⟩
  have eb : b = true := by rw [eb, decide_eq_true (show (1 : Int) ≤ (n : Int) by omega), decide_eq_true (show (n : Int) ≤ 32 by omega)]; rfl
  subst eb
  walk_at "rd"
  refine rd_isi (.base (.dK hd)) (b := true) (by decide +kernel) ?_
  walk_at "rd"
  refine rd_lockE hd trivial fun od => ?_
  walk_at "rd"
  refine ⟨d, od, rfl, .inl ⟨rK r, upd_same, ?_⟩⟩
  have npd : p ≠ d := fun z => by rw [z, hd] at hp; cases hp
  refine fun D hD => lcG src_keys (fun H' e => e _ _ upd_same) (fun _ => some (.bl true)) hD (by rw [List.length_map, rK_len]; omega) (fun x hx H' e R S hR _ => ?_) fun H' e hl => ?_
  · obtain ⟨q, hq, rfl⟩ := List.mem_map.mp hx
    obtain ⟨y, hy, rfl⟩ := List.mem_map.mp hq
    refine ⟨rfl, ?_⟩
    have ly : r.lookup y.1 = some y.2 := lookup_mem nd hy
    walk_at "rd"
    refine ⟨rfl, _, (n : Int), rfl, by rw [bstr_len]; have := (ok y hy).1; omega, fun b H2 eb e2 => ?_⟩
    have eb : b = true := by rw [eb, isBits_bstr, bstr_len, decide_eq_true (show ((y.1.length : Nat) : Int) ≤ (n : Int) by have := (ok y hy).1; omega)]; rfl
    subst eb
    walk_at "rd"
    refine ⟨p, dx, [], rfl, e2 _ _ (e _ _ (by rw [upd_ne npd]; exact hp)), rfl, ?_⟩
    walk_at "rd"
    refine ⟨d, _, rfl, DG (.inr ⟨od, e2 _ _ (e _ _ upd_same)⟩) ly, ?_⟩
    walk_at "rd"
    exact ⟨rfl, p, y.2, rfl, (ok y hy).2, fun H3 e3 => hR _ _ rfl (e2.tr e3)⟩
  · refine ⟨e _ _ upd_same, ?_⟩
    have hDd : D ≠ d := fun z => by rw [z, upd_same] at hD; cases hD
    have e1 : Ex H (upd H' d (.dK (rK r))) := Ex.unlock hd e
    walk_at "rd"
    refine ⟨D, (rK r).map fun _ => true, rfl, .inl (.inl ?_), ?_⟩
    · rw [upd_ne hDd, hl, List.filterMap_map, List.map_map]
      rw [show ((fun _ => some (V.bl true)) ∘ fun (q : Key × V) => kV q.1) = fun q => some (V.bl true) from rfl, List.filterMap_eq_map']
      rfl
    rw [show ((rK r).map fun _ => true).all id = true by rw [List.all_map]; exact List.all_eq_true.mpr fun _ _ => rfl]
    walk_at "rd"
    refine ⟨p, _, dx, [], rfl, e1 _ _ hp, T.cls_Table, T.no_Table_bits, by decide, ?_⟩
    generalize hH2 : upd H' d (.dK (rK r)) = H2 at e1
    walk_at "rd"
    have h2d : (upd H2 p (.ins (ga K "Table") dx (putF "bits" (.int (n : Int)) []))) d = some (.dK (rK r)) := by rw [upd_ne (Ne.symm npd)]; exact e1 _ _ hd
    refine ⟨d, rK r, (r.map (·.1)).map bstr, rfl, .inl h2d, rK_strs r, fun ys q hys hs hq => ?_⟩
    have hys2 := sorted_bits hys hs
    subst hys2
    rw [List.map_map]
    refine ⟨q, rfl, ⟨_, SqL.of upd_same⟩, ?_⟩
    refine fun D2 hD2 => dcG src_list (fun H' e => e.sq (SqL.of upd_same)) (fSel r) hD2 (by rw [List.length_map, sortB_len, List.length_map]; omega) (fun x hx H3 e R S hR _ => ?_) fun H3 e hl => ?_
    · obtain ⟨b, hb, rfl⟩ := List.mem_map.mp hx
      obtain ⟨t, ht⟩ := lookup_some_of_mem (sortB_mem.mp hb)
      refine ⟨rfl, ?_⟩
      walk_at "rd"
      refine ⟨p, dx, _, rfl, e _ _ (by rw [upd_ne (ne_of_none upd_same hq)]; exact upd_same), rfl, ?_⟩
      walk_at "rd"
      refine ⟨d, _, rfl, DG (.inl (e _ _ (by rw [upd_ne (ne_of_none h2d hq)]; exact h2d))) ht, ?_⟩
      walk_at "rd"
      exact ⟨rfl, p, t, rfl, hR (bk b) _ _ (by show fSel r (.str (bstr b)) = _; rw [fSel_bits, ht]; rfl) Ex.rfl'⟩
    · walk_at "rd"
      have hp3 := e _ _ (show (upd (upd H2 p (.ins (ga K "Table") dx (putF "bits" (.int (n : Int)) []))) q (.lst ((sortB (r.map (·.1))).map (V.str ∘ bstr)))) p = _ by rw [upd_ne (ne_of_none upd_same hq)]; exact upd_same)
      refine ⟨p, _, dx, _, rfl, hp3, T.cls_Table, T.no_Table_held, by show 1 < 1000; decide, ?_⟩
      have npD : D2 ≠ p := fun z => by rw [z, upd_ne (ne_of_none upd_same hq), upd_same] at hD2; cases hD2
      have hqH : H q = none := by
        cases h0 : H q with
        | none => rfl
        | some o =>
          by_cases hqp : q = p
          · rw [hqp, upd_same] at hq; cases hq
          · rw [upd_ne hqp, e1 _ _ h0] at hq; cases hq
      have hDH : H D2 = none := by
        cases h0 : H D2 with
        | none => rfl
        | some o =>
          have hne : D2 ≠ q := fun z => by rw [z, hqH] at h0; cases h0
          rw [upd_ne hne, upd_ne npD, e1 _ _ h0] at hD2; cases hD2
      refine hQ _ D2 (fun a o ha h0 => ?_) upd_same ?_ hDH
      · rw [upd_ne ha]
        refine e _ _ ?_
        rw [upd_ne (ne_of_none h0 hqH), upd_ne ha]
        exact e1 _ _ h0
      · rw [upd_ne npD, hl, show (V.str ∘ bstr) = (fun b => V.str (bstr b)) from rfl, fSel_sorted r nd]
def sp_width (C : Addr) : Sp := fun vs H Q _ => vs.length = 1 ∧ ∃ (p d : Addr) (n : Nat) (r : Rows), vs = [.ref p] ∧ IsT C H p d n r ∧ Q (.int (n : Int)) H
theorem sc_Table_width : FnScope ["self"] ["self"] (defScope s_PrefixMap_width) := ⟨rfl, rfl, rfl, by decide +kernel, rfl, by decide +kernel, by decide +kernel⟩
theorem ok_Table_width (T : Txt K mg) : OkP P w K mg base 1 (ga K "Table") "width" (sp_width (ga K "Table")) := by
  obtain ⟨fd, F⟩ := T.D_Table_width
  refine ⟨_, _, fd, T.p_Table_width, (F.bindsN fun _ _ _ _ _ _ us hl => match us, hl with | [_], _ => rfl), (F.ok sc_Table_width (fun vs H Q E h => h.1) fun cdv A outer s H vs Q E hr h => ?_)⟩
  refine ⟨_, (pss_one (ps_ret (k_fld (K := K) (pv 0)))), ?_⟩
  obtain ⟨_, p, d, n, r, rfl, ⟨⟨dx, hp⟩, hd⟩, hQ⟩ := h
  walk_at "rd"
  exact rd_fldV hp T.cls_Table T.no_Table_bits rfl hQ
def sp_rows (C : Addr) : Sp := fun vs H Q _ => vs.length = 1 ∧ ∃ (p d : Addr) (n : Nat) (r : Rows), vs = [.ref p] ∧ IsT C H p d n r ∧ ∀ q, H q = none → Q (.ref q) (upd H q (.dK (rK r)))
theorem sc_Table_rows : FnScope ["self"] ["self"] (defScope s_PrefixMap_rows) := ⟨rfl, rfl, rfl, by decide +kernel, rfl, by decide +kernel, by decide +kernel⟩
theorem ok_Table_rows (T : Txt K mg) : OkP P w K mg base 1 (ga K "Table") "rows" (sp_rows (ga K "Table")) := by
  obtain ⟨fd, F⟩ := T.D_Table_rows
  refine ⟨_, _, fd, T.p_Table_rows, (F.bindsN fun _ _ _ _ _ _ us hl => match us, hl with | [_], _ => rfl), (F.ok sc_Table_rows (fun vs H Q E h => h.1) fun cdv A outer s H vs Q E hr h => ?_)⟩
  refine ⟨_, (pss_one (ps_ret (pe_callTy k_dictD (by rfl) T.free_dict (by decide +kernel) (pa_cons (k_fld (K := K) (pv 0)) pa_nil)))), ?_⟩
  obtain ⟨_, p, d, n, r, rfl, ⟨⟨dx, hp⟩, hd⟩, hQ⟩ := h
  walk_at "rd"
  refine ⟨p, _, dx, _, _, rfl, hp, T.cls_Table, T.no_Table_held, rfl, ?_⟩
  walk_at "rd"
  exact ⟨d, rK r, rfl, .inl hd, hQ⟩
def oB : Option Bits → V
  | none => .non
  | some b => .str (bstr b)
def sp_longest (C : Addr) : Sp := fun vs H Q _ => vs.length = 2 ∧ ∃ (p d : Addr) (n : Nat) (r : Rows) (b : Bits), vs = [.ref p, .str (bstr b)] ∧ IsT C H p d n r ∧ b.length ≤ n ∧ n ≤ 1000 ∧ ∀ H', Ex H H' → Q (oB (longB r b)) H'
theorem sc_Table_longest : FnScope ["self", "prefix", "size"] ["self", "prefix"] (defScope s_PrefixMap_longest) := ⟨rfl, rfl, rfl, by decide +kernel, rfl, by decide +kernel, by decide +kernel⟩
theorem ok_Table_longest (T : Txt K mg) : OkM P w K mg base 2 (ga K "Table") "longest" ["self", "prefix"] (sp_longest (ga K "Table")) := by
  obtain ⟨fd, F⟩ := T.D_Table_longest
  refine ⟨_, fd, T.m_Table_longest, (F.bindsN fun _ _ _ _ _ _ us hl => match us, hl with | [_, _], _ => rfl), (F.ok sc_Table_longest (fun vs H Q E h => h.1) fun cdv A outer s H vs Q E hr h => ?_)⟩
  refine ⟨_, (pss_cons (ps_if (pt_not (pt_val (pcl (ok_is_prefix T) (hr.mono (by decide)) rfl (pa_cons (pv 1) (pa_cons (k_fld (K := K) (pv 0)) pa_nil)))))
    (pss_one ps_never)
    pss_nil)
    (pss_cons (ps_for (passes_of rfl) rfl (pi_range3 (by rfl) T.free_range (pa_cons (pe_callB k_lenS (by rfl) T.free_len (by decide +kernel) (pa_cons (pv 1) pa_nil)) (pa_cons (pe_un un_neg pe_int) (pa_cons (pe_un un_neg pe_int) pa_nil)))) (pg_name (i := 2) sc_Table_longest.nd rfl (by first | exact Or.inl rfl | exact Or.inr rfl))
    (pss_one (ps_if (pt_cmp (pc_din (hu_of hr) (pe_slice sl_str (pv 1) po_none (po_some (pv 2))) (k_fld (K := K) (pv 0))))
    (pss_one (ps_ret (pe_slice sl_str (pv 1) po_none (po_some (pv 2)))))
    pss_nil)))
    (pss_one (ps_ret pe_non)))), ?_⟩
  obtain ⟨_, p, d, n, r, b, rfl, ⟨⟨dx, hp⟩, hd⟩, hb, hn, hQ⟩ := h
  walk_at "rd"
  refine ⟨p, _, dx, _, _, rfl, hp, T.cls_Table, T.no_Table_bits, rfl, ?_⟩
  walk_at "rd"
  refine ⟨rfl, _, (n : Int), rfl, by rw [bstr_len]; omega, fun c H1 ec e1 => ?_⟩
  have ec : c = true := by rw [ec, isBits_bstr, bstr_len, decide_eq_true (show ((b.length : Nat) : Int) ≤ (n : Int) by omega)]; rfl
  subst ec
  walk_at "rd"
  refine rd_lenZ (by rw [bstr_len]; exact szl (by omega)) ?_
  rw [bstr_len]
  walk_at "rd"
  refine ⟨(b.length : Int), -1, -1, _, rfl, RgC.neg (by omega) (by omega) (by decide) (by decide), ?_⟩
  have en : ((b.length : Int) - -1).toNat = b.length + 1 := by omega
  rw [en]
  refine forG src_rangeC (fun i σ' H' => (∃ z, σ' = [some (.ref p), some (.str (bstr b)), z]) ∧ H' = H1 ∧ ∀ j, j < i → (r.lookup (b.take (b.length - j))).isSome = false) ⟨⟨none, rfl⟩, rfl, fun j hj => absurd hj (Nat.not_lt_zero _)⟩ (fun _ _ _ _ _ => trivial) (fun i x σ' H' hx ⟨⟨z, eσ⟩, eH, hn⟩ => ?_) fun σ' H' ⟨⟨z, eσ⟩, eH, hn⟩ => ?_
  · have hi : i < b.length + 1 := by
      have := (List.getElem?_eq_some_iff.mp hx).1
      simpa using this
    rw [List.getElem?_map, List.getElem?_range hi] at hx
    have ex : x = V.int ((b.length - i : Nat) : Int) := by
      rw [← Option.some.inj hx]
      exact congrArg V.int (by omega)
    subst ex eσ eH
    walk_at "rd"
    refine rd_slS (by rw [bstr_len]; exact szl (by omega)) ?_
    rw [cut_to]
    walk_at "rd"
    refine ⟨p, _, dx, _, _, rfl, e1 _ _ hp, T.cls_Table, T.no_Table_held, rfl, ?_⟩
    refine ⟨d, _, rfl, DI (.inl (e1 _ _ hd)), ?_⟩
    rw [Option.isSome_map]
    cases hl : (r.lookup (b.take (b.length - i))).isSome with
    | true =>
      walk_at "rd"
      refine rd_slS (by rw [bstr_len]; exact szl (by omega)) ?_
      rw [cut_to]
      have el : longB r b = some (b.take (b.length - i)) := longB_some hn hl
      have := hQ _ e1
      rw [el] at this
      exact this
    | false =>
      walk_at "rd"
      refine ⟨⟨_, rfl⟩, rfl, fun j hj => ?_⟩
      by_cases e : j = i
      · rw [e]; exact hl
      · exact hn j (by omega)
  · subst eσ eH
    walk_at "rd"
    have el : longB r b = none := longB_none fun j hj => hn j (by simpa using hj)
    have := hQ _ e1
    rw [el] at this
    exact this
def sp_target_of (C : Addr) : Sp := fun vs H Q _ => vs.length = 2 ∧ ∃ (p d : Addr) (n : Nat) (r : Rows) (b : Bits), vs = [.ref p, .str (bstr b)] ∧ IsT C H p d n r ∧ b.length ≤ n ∧ n ≤ 1000 ∧ ∀ H', Ex H H' → Q (oV (leadB r b)) H'
theorem sc_Table_target_of : FnScope ["self", "prefix", "found"] ["self", "prefix"] (defScope s_Table_target_of) := ⟨rfl, rfl, rfl, by decide +kernel, rfl, by decide +kernel, by decide +kernel⟩
theorem ok_Table_target_of (T : Txt K mg) : OkM P w K mg base 3 (ga K "Table") "target_of" ["self", "prefix"] (sp_target_of (ga K "Table")) := by
  obtain ⟨fd, F⟩ := T.D_Table_target_of
  refine ⟨_, fd, T.m_Table_target_of, (F.bindsN fun _ _ _ _ _ _ us hl => match us, hl with | [_, _], _ => rfl), (F.ok sc_Table_target_of (fun vs H Q E h => h.1) fun cdv A outer s H vs Q E hr h => ?_)⟩
  refine ⟨_, (pss_cons (ps_set (i := 2) sc_Table_target_of.nd rfl (by first | exact Or.inl rfl | exact Or.inr rfl) (pmt T.cls_Table (ok_Table_longest T) (hr.mono (by decide)) (pv 0) (pa_cons (pv 1) pa_nil)))
    (pss_one (ps_ret (pe_ifExp (pt_cmpR k_isN (pv 2) pe_non (nomark _)) pe_non (pe_dget (hu_of hr) (k_fld (K := K) (pv 0)) (pv 2) (fun _ _ => rfl)))))), ?_⟩
  obtain ⟨_, p, d, n, r, b, rfl, ⟨⟨dx, hp⟩, hd⟩, hb, hn, hQ⟩ := h
  walk_at "rd"
  refine ⟨p, dx, _, rfl, hp, rfl, ?_⟩
  walk_at "rd"
  refine ⟨rfl, p, d, n, r, b, rfl, ⟨⟨dx, hp⟩, hd⟩, hb, hn, fun H1 e1 => ?_⟩
  cases q : longB r b with
  | none =>
    unfold oB
    walk_at "rd"
    have el : leadB r b = none := by rw [leadB, q]; rfl
    have := hQ _ e1
    rw [el] at this
    exact this
  | some c =>
    unfold oB
    walk_at "rd"
    refine ⟨p, _, dx, _, _, rfl, e1 _ _ hp, T.cls_Table, T.no_Table_held, rfl, ?_⟩
    walk_at "rd"
    have hc := longB_longest r b
    rw [q] at hc
    obtain ⟨t, ht⟩ := lookup_some_of_mem hc.1
    refine ⟨d, _, rfl, DG (.inl (e1 _ _ hd)) ht, ?_⟩
    have el : leadB r b = some t := by rw [leadB, q]; exact ht
    have := hQ _ e1
    rw [el] at this
    exact this
def sp_closed : Sp := fun vs H Q _ => vs.length = 1 ∧ ∃ (a : Addr) (bs : List Bits), vs = [.ref a] ∧ H a = some (.lst (bs.map vb)) ∧ (∀ b ∈ bs, b.length ≤ 32) ∧ bs.length ≤ 100 ∧ ∀ H' q, Ex H H' → H q = none → H' q = some (.lst ((closB bs).map vb)) → Q (.ref q) H'
theorem sc_closed : FnScope ["prefixes", "found", "prefix", "size"] ["prefixes"] (defScope s_closed) := ⟨rfl, rfl, rfl, by decide +kernel, rfl, by decide +kernel, by decide +kernel⟩
theorem ok_closed (T : Txt K mg) : OkF P w K mg base 1 "closed" ["prefixes"] sp_closed := by
  obtain ⟨fd, F⟩ := T.D_closed
  refine ⟨_, fd, T.g_closed, F.kp, (F.bindsN fun _ _ _ _ _ _ us hl => match us, hl with | [_], _ => rfl), (F.ok sc_closed (fun vs H Q E h => h.1) fun cdv A outer s H vs Q E hr h => ?_)⟩
  refine ⟨_, (pss_cons (ps_set (i := 1) sc_closed.nd rfl (by first | exact Or.inl rfl | exact Or.inr rfl) (pe_disp (pps_cons pe_str pe_bl pps_nil) (by rfl) (by rfl) (fun z => by cases z) (by decide)))
    (pss_cons (ps_for (passes_of rfl) rfl (k_itL (K := K) (pv 0)) (pg_name (i := 2) sc_closed.nd rfl (by first | exact Or.inl rfl | exact Or.inr rfl))
    (pss_one (ps_for (passes_of rfl) rfl (pi_range2 (by rfl) T.free_range (pa_cons pe_int (pa_cons (pe_op op_add (pe_callB k_lenS (by rfl) T.free_len (by decide +kernel) (pa_cons (pv 2) pa_nil)) pe_int) pa_nil))) (pg_name (i := 3) sc_closed.nd rfl (by first | exact Or.inl rfl | exact Or.inr rfl))
    (pss_cons (ps_dput (hu_of hr) (pv 1) (pe_op k_addZ (pe_slice sl_str (pv 2) po_none (po_some (pe_op op_sub (pv 3) pe_int))) pe_str) pe_bl rfl)
    (pss_one (ps_dput (hu_of hr) (pv 1) (pe_op k_addZ (pe_slice sl_str (pv 2) po_none (po_some (pe_op op_sub (pv 3) pe_int))) pe_str) pe_bl rfl))))))
    (pss_one (ps_ret (pe_callB k_sortD (by rfl) T.free_sorted (by decide +kernel) (pa_cons (pv 1) pa_nil)))))), ?_⟩
  obtain ⟨_, a, bs, rfl, ha, hb, hz, hQ⟩ := h
  walk_at "rd"
  intro p hp
  refine ⟨upd_same, [(bk [], .bl true)], by simp only [List.map_cons, List.map_nil]; rw [← bstr_nil]; rfl, by decide, ?_⟩
  rw [upd_upd]
  walk_at "rd"
  refine ⟨a, rfl, ⟨_, SqL.of (by rw [upd_ne (ne_of_none ha hp)]; exact ha)⟩, ?_⟩
  refine forG src_list (fun i σ' H' => (∃ z1 z2, σ' = [some (.ref a), some (.ref p), z1, z2]) ∧ Ex H H' ∧ ∃ l : List (Bits × V), H' p = some (.dK (eK l)) ∧ (l.map (·.1)).Nodup ∧ (∀ c, c ∈ l.map (·.1) ↔ c ∈ clL (bs.take i)) ∧ l.length ≤ 1 + 64 * i)
    ⟨⟨none, none, rfl⟩, Ex.nw hp, [([], .bl true)], upd_same, by simp, fun c => by simp [clL], by simp⟩ (fun i σ' H' _ h => h.2.1.sq (SqL.of ha)) (fun i x σ' H' hx ⟨⟨z1, z2, eσ⟩, e, l, hl, nd, hm, hlen⟩ => ?_) fun σ' H' ⟨⟨z1, z2, eσ⟩, e, l, hl, nd, hm, hlen⟩ => ?_
  · have hi : i < bs.length := by
      have := (List.getElem?_eq_some_iff.mp hx).1
      simpa using this
    rw [List.getElem?_map, List.getElem?_eq_getElem hi] at hx
    obtain ⟨b, eb⟩ : ∃ b, b = bs[i] := ⟨_, rfl⟩
    rw [← eb] at hx
    obtain rfl : vb b = x := Option.some.inj hx
    have hbl := hb b (by rw [eb]; exact List.getElem_mem hi)
    have et : bs.take (i + 1) = bs.take i ++ [b] := by rw [List.take_succ, List.getElem?_eq_getElem hi, ← eb]; rfl
    subst eσ
    walk_at "rd"
    refine rd_lenZ (by rw [bstr_len]; exact szl (by omega)) ?_
    rw [bstr_len]
    walk_at "rd"
    refine ⟨1, (b.length : Int) + 1, rfl, by omega, ?_⟩
    rw [show ((b.length : Int) + 1 - 1).toNat = b.length by omega]
    refine forR (fun j σ' H' => (∃ z, σ' = [some (.ref a), some (.ref p), some (vb b), z]) ∧ Ex H H' ∧ ∃ l : List (Bits × V), H' p = some (.dK (eK l)) ∧ (l.map (·.1)).Nodup ∧ (∀ c, c ∈ l.map (·.1) ↔ c ∈ clL (bs.take i) ++ cl1 b j) ∧ l.length ≤ 1 + 64 * i + 2 * j)
      ⟨⟨_, rfl⟩, e, l, hl, nd, fun c => (hm c).trans (by simp [cl1]), by omega⟩ (fun j σ2 H2 hj ⟨⟨z, eσ⟩, e2, l2, hl2, nd2, hm2, hlen2⟩ => ?_) fun σ2 H2 ⟨⟨z, eσ⟩, e2, l2, hl2, nd2, hm2, hlen2⟩ => ?_
    · subst eσ
      walk_at "rd"
      refine rd_slS (by rw [bstr_len]; exact szl (by omega)) ?_
      rw [show (1 + (j : Int) - 1) = ((j : Nat) : Int) by omega, cut_to, ← bstr_0]
      walk_at "rd"
      refine rd_addZ (by rw [bstr_len, bstr_len, List.length_take, List.length_singleton]; exact szl (by omega)) ?_
      rw [bstr_app]
      refine ⟨p, _, rfl, DPe hl2 (by omega), ?_⟩
      walk_at "rd"
      refine rd_slS (by rw [bstr_len]; exact szl (by omega)) ?_
      rw [show (1 + (j : Int) - 1) = ((j : Nat) : Int) by omega, cut_to, ← bstr_1]
      walk_at "rd"
      refine rd_addZ (by rw [bstr_len, bstr_len, List.length_take, List.length_singleton]; exact szl (by omega)) ?_
      rw [bstr_app]
      have l1 := putR_len l2 (b.take j ++ [false]) (.bl true)
      refine ⟨p, _, rfl, DPe upd_same (by omega), ?_⟩
      have l3 := putR_len (putR l2 (b.take j ++ [false]) (.bl true)) (b.take j ++ [true]) (.bl true)
      refine ⟨⟨_, rfl⟩, (e2.up hp).up hp, _, upd_same, putR_nodup (putR_nodup nd2), fun c => ?_, by omega⟩
      rw [putR_mem, putR_mem, hm2, cl1_succ, ← List.append_assoc, List.mem_append, List.mem_append, List.mem_append]
      simp only [List.mem_cons, List.not_mem_nil, or_false, or_assoc]
    · exact ⟨⟨_, _, eσ⟩, e2, l2, hl2, nd2, fun c => by rw [hm2, et, clL_snoc], by omega⟩
  · subst eσ
    walk_at "rd"
    rw [List.length_map] at hm
    rw [List.take_length] at hm
    refine ⟨p, eK l, (l.map (·.1)).map bstr, rfl, .inl hl, eK_strs l, fun ys q hys hs hq => ?_⟩
    have e4 := sorted_bits hys hs
    subst e4
    rw [List.map_map, closB_of nd hm]
    exact hQ _ q (e.up (e.fr hq)) (e.fr hq) upd_same
theorem valV_unit (ns : List Bits) (c : Bits) : (valV (eK (ns.map fun b => (b, V.bl true))) (bk c)).isSome = decide (c ∈ ns) := by
  rw [valV_eK]
  cases q : (ns.map fun b => (b, V.bl true)).lookup c with
  | none =>
    have := lookup_none_iff.mp q
    rw [List.map_map, show ((fun x : Bits × V => x.1) ∘ fun b => (b, V.bl true)) = id from rfl, List.map_id] at this
    rw [decide_eq_false this]
    rfl
  | some v =>
    obtain ⟨b, hb, e⟩ := List.mem_map.mp (mem_of_lookup' q)
    have e2 : b = c := congrArg Prod.fst e
    rw [decide_eq_true (e2 ▸ hb)]
    rfl
def leafF (ns : List Bits) : V → Option V := fun x => match x with
  | .str z => if (valV (eK (ns.map fun b => (b, V.bl true))) (Sum.inr (z ++ bstr [false]))).isSome = true then none else some (V.str z)
  | _ => none
theorem leafF_eq (ns : List Bits) (b : Bits) : leafF ns (vb b) = if b ++ [false] ∈ ns then none else some (vb b) := by
  show (if (valV (eK (ns.map fun b => (b, V.bl true))) (Sum.inr (bstr b ++ bstr [false]))).isSome = true then none else some (V.str (bstr b))) = _
  rw [bstr_app, valV_unit]
  by_cases h : b ++ [false] ∈ ns <;> simp [h]
theorem leaf_filter (ns : List Bits) : (ns.map vb).filterMap (leafF ns) = (leafB ns).map vb := by
  have key : ∀ l : List Bits, (l.map vb).filterMap (leafF ns) = (l.filter fun b => !decide (b ++ [false] ∈ ns)).map vb := by
    intro l
    induction l with
    | nil => rfl
    | cons b l ih =>
      rw [List.map_cons, List.filterMap_cons, leafF_eq, List.filter_cons, ih]
      by_cases h : b ++ [false] ∈ ns
      · simp [h]
      · simp [h]
  exact key ns
def keyTrue : V → Option (Key × V) := fun x => match x with
  | .str z => some (Sum.inr z, .bl true)
  | _ => none
theorem keyTrue_map {ns : List Bits} (nd : ns.Nodup) : mergeK [] ((ns.map vb).filterMap keyTrue) = eK (ns.map fun b => (b, V.bl true)) := by
  rw [List.filterMap_map, show keyTrue ∘ vb = fun b => some (bk b, V.bl true) from rfl, List.filterMap_eq_map', mergeK_nodup]
  · simp [eK]
  · show ((ns.map fun b => (bk b, V.bl true)).map (·.1)).Nodup
    rw [List.map_map]
    exact nodup_bk nd
def sp_leaves : Sp := fun vs H Q _ => vs.length = 1 ∧ ∃ (a : Addr) (ns : List Bits), vs = [.ref a] ∧ H a = some (.lst (ns.map vb)) ∧ ns.Nodup ∧ (∀ b ∈ ns, b.length ≤ 1000) ∧ ns.length ≤ 10000 ∧ ∀ H' q, Ex H H' → H q = none → H' q = some (.lst ((leafB ns).map vb)) → Q (.ref q) H'
theorem sc_leaves_of : FnScope ["nodes", "known", "node"] ["nodes"] (defScope s_leaves_of) := ⟨rfl, rfl, rfl, by decide +kernel, rfl, by decide +kernel, by decide +kernel⟩
theorem ok_leaves_of (T : Txt K mg) : OkF P w K mg base 1 "leaves_of" ["nodes"] sp_leaves := by
  obtain ⟨fd, F⟩ := T.D_leaves_of
  refine ⟨_, fd, T.g_leaves_of, F.kp, (F.bindsN fun _ _ _ _ _ _ us hl => match us, hl with | [_], _ => rfl), (F.ok sc_leaves_of (fun vs H Q E h => h.1) fun cdv A outer s H vs Q E hr h => ?_)⟩
  refine ⟨_, (pss_cons (ps_set (i := 1) sc_leaves_of.nd rfl (by first | exact Or.inl rfl | exact Or.inr rfl) (pe_dc rfl sc_leaves_of.nd (k_itL (K := K) (pv 0)) (blkOk_by (N := ["nodes", "known", "node"]) (sc := defScope s_leaves_of) (own := [("node", 2)]) (by decide +kernel)) (fun _ _ _ _ _ => (pg_name (i := 2) sc_leaves_of.nd rfl (by first | exact Or.inl rfl | exact Or.inr rfl))) (fun _ _ _ _ _ => pts_nil) (fun _ _ _ _ _ => (pv 2)) (fun _ _ _ _ _ => pe_bl)))
    (pss_one (ps_ret (pe_lc rfl sc_leaves_of.nd (k_itL (K := K) (pv 0)) (blkOk_by (N := ["nodes", "known", "node"]) (sc := defScope s_leaves_of) (own := [("node", 2)]) (by decide +kernel)) (fun _ _ _ _ _ => (pg_name (i := 2) sc_leaves_of.nd rfl (by first | exact Or.inl rfl | exact Or.inr rfl))) (fun _ _ _ _ _ => (pts_one (pt_cmp (pc_dnotin (hu_of hr) (pe_op k_addZ (pv 2) pe_str) (pv 1))))) (fun _ _ _ _ _ => (pv 2)))))), ?_⟩
  obtain ⟨_, a, ns, rfl, ha, nd, hb, hz, hQ⟩ := h
  walk_at "rd"
  refine ⟨a, rfl, ⟨_, SqL.of ha⟩, ?_⟩
  refine fun D hD => dcG src_list (fun H' e => e.sq (SqL.of ha)) keyTrue hD (by rw [List.length_map]; omega) (fun x hx H' e R S hR _ => ?_) fun H' e hl => ?_
  · obtain ⟨b, hb, rfl⟩ := List.mem_map.mp hx
    refine ⟨rfl, ?_⟩
    walk_at "rd"
    exact hR (bk b) _ _ rfl Ex.rfl'
  · rw [keyTrue_map nd] at hl
    walk_at "rd"
    refine ⟨a, rfl, ⟨_, SqL.of (e _ _ ha)⟩, ?_⟩
    refine fun D2 hD2 => lcG src_list (fun H' e2 => (e.tr e2).sq (SqL.of ha)) (leafF ns) hD2 (by rw [List.length_map]; omega) (fun x hx H3 e3 R S hR hS => ?_) fun H3 e3 hl3 => ?_
    · obtain ⟨b, hb2, rfl⟩ := List.mem_map.mp hx
      refine ⟨rfl, ?_⟩
      walk_at "rd"
      rw [← bstr_0]
      refine rd_addZ (by rw [bstr_len, bstr_len, List.length_singleton]; have := hb b hb2; exact szl (by omega)) ?_
      walk_at "rd"
      refine ⟨D, _, rfl, .inl ⟨_, Sum.inr (bstr b ++ bstr [false]), .inl (e3 _ _ hl), rfl, rfl⟩, ?_⟩
      cases hv : (valV (eK (ns.map fun b => (b, V.bl true))) (Sum.inr (bstr b ++ bstr [false]))).isSome with
      | true =>
        walk_at "rd"
        exact hS _ (by show (if _ then _ else _) = none; rw [hv]; rfl) Ex.rfl'
      | false =>
        walk_at "rd"
        exact hR _ _ (by show (if _ then _ else _) = some _; rw [hv]; rfl) Ex.rfl'
    · have e4 : Ex H H3 := e.tr e3
      exact hQ H3 D2 e4 (e.fr hD2) (by rw [hl3, leaf_filter])
theorem sc_last_address : FnScope ["prefix", "width"] ["prefix", "width"] (defScope s_last_address) := ⟨rfl, rfl, rfl, by decide +kernel, rfl, by decide +kernel, by decide +kernel⟩
theorem ok_last_address (T : Txt K mg) : OkF P w K mg base 1 "last_address" ["prefix", "width"] (sp_address true) := by
  obtain ⟨fd, F⟩ := T.D_last_address
  refine ⟨_, fd, T.g_last_address, F.kp, (F.bindsN fun _ _ _ _ _ _ us hl => match us, hl with | [_, _], _ => rfl), (F.ok sc_last_address (fun vs H Q E h => h.1) fun cdv A outer s H vs Q E hr h => ?_)⟩
  refine ⟨_, (pss_one (ps_ret (pe_op k_addZ (pv 0) (pe_op k_mulSI pe_str (pe_op op_sub (pv 1) (pe_callB k_lenS (by rfl) T.free_len (by decide +kernel) (pa_cons (pv 0) pa_nil))))))), ?_⟩
  obtain ⟨_, b, n, rfl, h1, h2, hQ⟩ := h
  walk_at "rd"
  refine rd_lenZ (by rw [bstr_len, sizeLine_eq]; omega) ?_
  walk_at "rd"
  rw [bstr_len, show (n : Int) - (b.length : Int) = ((n - b.length : Nat) : Int) by omega, ← bstr_1]
  refine rd_mulSI (mulOk_bit _ _ (by omega)) ?_
  refine rd_addZ (by rw [mul_bit, bstr_len, bstr_len, List.length_replicate, sizeLine_eq]; omega) ?_
  rw [mul_bit, bstr_app]
  exact hQ
def sb_widths (C D : Addr) : Sp := fun vs H Q E => ∃ (t p1 d1 p2 d2 : Addr) (n1 n2 : Nat) (r1 r2 : Rows), vs = [.ref t] ∧ H t = some (.tup [.ref p1, .ref p2]) ∧ IsT C H p1 d1 n1 r1 ∧ IsT C H p2 d2 n2 r2 ∧ (n1 = n2 → ∀ H', Ex H H' → Q .non H') ∧ (n1 ≠ n2 → ∀ H', Ex H H' → E (.ref D) none H')
def wiF (n1 n2 : Nat) (p1 p2 : Addr) : V → Key := fun x => match x with
  | .ref a => if a = p1 then Sum.inl (n1 : Int) else Sum.inl (n2 : Int)
  | _ => Sum.inl 0
theorem sc_check_widths : FnScope ["some", "table"] ["some"] (defScope s_check_widths) := ⟨rfl, rfl, rfl, by decide +kernel, rfl, by decide +kernel, by decide +kernel⟩
theorem ok_check_widths (T : Txt K mg) : OkR P w K mg base 3 "check_widths" (spStar 2 (sb_widths (ga K "Table") (ga K "InvalidPair"))) := by
  obtain ⟨fd, F⟩ := T.D_check_widths
  obtain ⟨oc, od, dV, kV, doc, pm, an, cdv, ct, osl, rfl, lk, hcd, hD, _⟩ := F.ex
  obtain rfl : dV = .none := hD.elim (fun z => z.2) (fun z => absurd rfl z.1)
  refine ⟨_, T.g_check_widths, F.kp, FnR.imp (StX.fn_star (ps := []) (pv := "some") (sp := (sb_widths (ga K "Table") (ga K "InvalidPair"))) lk hcd sc_check_widths StX.cxUp (fun us rest hl => by cases us with | nil => (cases rest <;> rfl) | cons _ _ => cases hl) fun A outer s H vs Q E hr h => ?_) (spStar_imp (by decide))⟩
  refine ⟨_, (pss_one (ps_if (pt_cmpR op_gt (pe_callB k_lenX (by rfl) T.free_len (by decide +kernel) (pa_cons (pe_sx rfl sc_check_widths.nd (k_itT (K := K) (pv 0)) (blkOk_by (N := ["some", "table"]) (sc := defScope s_check_widths) (own := [("table", 1)]) (by decide +kernel)) (fun _ _ _ _ _ => (pg_name (i := 1) sc_check_widths.nd rfl (by first | exact Or.inl rfl | exact Or.inr rfl))) (fun _ _ _ _ _ => pts_nil) (fun _ _ _ _ _ => (ppr T.cls_Table (ok_Table_width T) (hr.mono (by decide)) (pv 1)))) pa_nil)) pe_int (nomark _))
    (pss_one (ps_raise rfl (takes_of rfl rfl rfl rfl) (pmk_exc T.x_InvalidPair T.g_InvalidPair)))
    pss_nil)), ?_⟩
  obtain ⟨t, p1, d1, p2, d2, n1, n2, r1, r2, rfl, ht, ⟨⟨dx1, hp1⟩, hd1⟩, ⟨⟨dx2, hp2⟩, hd2⟩, hQ, hE⟩ := h
  walk_at "rd"
  refine ⟨t, rfl, ⟨_, SqT.of ht⟩, ?_⟩
  have hpp : p1 = p2 → n1 = n2 := fun z => by
    subst z
    rw [hp1] at hp2
    have e1 := HO.ins.inj (Option.some.inj hp2)
    have e2 : tFs n1 d1 = tFs n2 d2 := e1.2.2
    unfold tFs at e2
    have e3 := (List.cons.inj e2).1
    have e4 : V.int (n1 : Int) = V.int (n2 : Int) := congrArg Prod.snd e3
    have e5 := V.int.inj e4
    omega
  have hw2 : wiF n1 n2 p1 p2 (.ref p2) = Sum.inl (n2 : Int) := by
    show (if p2 = p1 then _ else _) = _
    by_cases z : p2 = p1
    · rw [if_pos z, hpp z.symm]
    · rw [if_neg z]
  have hw1 : wiF n1 n2 p1 p2 (.ref p1) = Sum.inl (n1 : Int) := if_pos rfl
  refine fun D hD => scG src_tup (fun H' e => e.sqT (SqT.of ht)) (wiF n1 n2 p1 p2) hD (by show 2 ≤ 1000; decide) (fun x hx H' e R S hR => ?_) fun H' e hl => ?_
  · refine ⟨rfl, ?_⟩
    rcases List.mem_cons.mp hx with z | z
    · subst z
      walk_at "rd"
      refine ⟨p1, dx1, _, rfl, e _ _ hp1, rfl, p1, d1, n1, r1, rfl, ⟨⟨dx1, e _ _ hp1⟩, e _ _ hd1⟩, ?_⟩
      have := hR H' Ex.rfl'
      rw [hw1] at this
      exact this
    · obtain rfl := List.mem_singleton.mp z
      walk_at "rd"
      refine ⟨p2, dx2, _, rfl, e _ _ hp2, rfl, p2, d2, n2, r2, rfl, ⟨⟨dx2, e _ _ hp2⟩, e _ _ hd2⟩, ?_⟩
      have := hR H' Ex.rfl'
      rw [hw2] at this
      exact this
  · walk_at "rd"
    refine rd_lenX hl ?_
    walk_at "rd"
    rw [show List.map (wiF n1 n2 p1 p2) [V.ref p1, V.ref p2] = [Sum.inl (n1 : Int), Sum.inl (n2 : Int)] by rw [List.map_cons, List.map_cons, hw1, hw2]; rfl]
    by_cases hn : n1 = n2
    · rw [show (setFold [Sum.inl (n1 : Int), Sum.inl (n2 : Int)]).2 = 1 by simp [setFold, setStep, hn]]
      walk_at "rd"
      exact hQ hn _ e
    · rw [show (setFold [Sum.inl (n1 : Int), Sum.inl (n2 : Int)]).2 = 2 by
        have h2 : ¬ (n2 : Int) = n1 := fun z => hn (by omega)
        simp [setFold, setStep, h2]]
      walk_at "rd"
      exact hE hn _ e
def sb_common (C : Addr) : Sp := fun vs H Q _ => ∃ (t p1 d1 p2 d2 : Addr) (n1 n2 : Nat) (r1 r2 : Rows), vs = [.ref t] ∧ H t = some (.tup [.ref p1, .ref p2]) ∧ IsT C H p1 d1 n1 r1 ∧ IsT C H p2 d2 n2 r2 ∧ TOk n1 r1 ∧ TOk n2 r2 ∧
  ∀ H' q, Ex H H' → H q = none → H' q = some (.lst ((leafB (closB (r1.map (·.1) ++ r2.map (·.1)))).map vb)) → Q (.ref q) H'
def coF (r1 r2 : Rows) (p1 : Addr) : V → List V := fun x => match x with
  | .ref a => if a = p1 then (r1.map (·.1)).map vb else (r2.map (·.1)).map vb
  | _ => []
theorem sc_common_leaves : FnScope ["some", "table", "prefix"] ["some"] (defScope s_common_leaves) := ⟨rfl, rfl, rfl, by decide +kernel, rfl, by decide +kernel, by decide +kernel⟩
theorem ok_common_leaves (T : Txt K mg) : OkR P w K mg base 3 "common_leaves" (spStar 2 (sb_common (ga K "Table"))) := by
  obtain ⟨fd, F⟩ := T.D_common_leaves
  obtain ⟨oc, od, dV, kV, doc, pm, an, cdv, ct, osl, rfl, lk, hcd, hD, _⟩ := F.ex
  obtain rfl : dV = .none := hD.elim (fun z => z.2) (fun z => absurd rfl z.1)
  refine ⟨_, T.g_common_leaves, F.kp, FnR.imp (StX.fn_star (ps := []) (pv := "some") (sp := (sb_common (ga K "Table"))) lk hcd sc_common_leaves StX.cxUp (fun us rest hl => by cases us with | nil => (cases rest <;> rfl) | cons _ _ => cases hl) fun A outer s H vs Q E hr h => ?_) (spStar_imp (by decide))⟩
  refine ⟨_, (pss_one (ps_ret (pcl (ok_leaves_of T) (hr.mono (by decide)) rfl (pa_cons (pcl (ok_closed T) (hr.mono (by decide)) rfl (pa_cons (pe_lc2 rfl sc_common_leaves.nd (k_itT (K := K) (pv 0)) (blkOk_by (N := ["some", "table", "prefix"]) (sc := defScope s_common_leaves) (own := [("table", 1), ("prefix", 2)]) (by decide +kernel)) (vs1 := [2]) (by decide) (fun _ _ _ _ _ => (pg_name (i := 1) sc_common_leaves.nd rfl (by first | exact Or.inl rfl | exact Or.inr rfl))) (fun _ _ _ _ _ => pts_nil) (fun _ _ _ _ _ => (pi_keysL (ppr T.cls_Table (ok_Table_rows T) (hr.mono (by decide)) (pv 1)))) (fun _ _ _ _ _ => (pg_name (i := 2) sc_common_leaves.nd rfl (by first | exact Or.inl rfl | exact Or.inr rfl))) (fun _ _ _ _ _ => pts_nil) (fun _ _ _ _ _ => (pv 2))) pa_nil)) pa_nil)))), ?_⟩
  obtain ⟨t, p1, d1, p2, d2, n1, n2, r1, r2, rfl, ht, ⟨⟨dx1, hp1⟩, hd1⟩, ⟨⟨dx2, hp2⟩, hd2⟩, o1, o2, hQ⟩ := h
  walk_at "rd"
  have hpp : p1 = p2 → r1 = r2 := fun z => by
    subst z
    rw [hp1] at hp2
    have e1 := HO.ins.inj (Option.some.inj hp2)
    have e2 : tFs n1 d1 = tFs n2 d2 := e1.2.2
    unfold tFs at e2
    have e3 := (List.cons.inj (List.cons.inj e2).2).1
    have e5 := V.ref.inj (congrArg Prod.snd e3)
    subst e5
    rw [hd1] at hd2
    exact rK_inj (HO.dK.inj (Option.some.inj hd2))
  have hf1 : coF r1 r2 p1 (.ref p1) = (r1.map (·.1)).map vb := if_pos rfl
  have hf2 : coF r1 r2 p1 (.ref p2) = (r2.map (·.1)).map vb := by
    show (if p2 = p1 then _ else _) = _
    by_cases z : p2 = p1
    · rw [if_pos z, hpp z.symm]
    · rw [if_neg z]
  have one : ∀ (p d dx : Addr) (n : Nat) (r : Rows) (H' : Hp), H' p = some (.ins (ga K "Table") dx (tFs n d)) → H' d = some (.dK (rK r)) → ∀ (D : Addr) (R : It → Hp → Prop), (∃ acc, H' D = some (.lst acc)) →
      (∀ q o, H' q = none → R (Itk q o (rK r)) (upd (upd H' q (.dK (rK r))) q (.frz o (.dK (rK r))))) →
      sp_rows (ga K "Table") [.ref p] H' (fun x H1 => ∃ d kvs, x = .ref d ∧ H1 d = some (.dK kvs) ∧ ∀ o, R (Itk d o kvs) (upd H1 d (.frz o (.dK kvs)))) E0 := fun p d dx n r H' hp hd D R _ hR => ⟨rfl, p, d, n, r, rfl, ⟨⟨dx, hp⟩, hd⟩, fun q hq => ⟨q, rK r, rfl, upd_same, fun o => hR q o hq⟩⟩
  refine ⟨t, rfl, ⟨_, SqT.of ht⟩, ?_⟩
  refine fun D hD => lc2G src_tup (fun H' e => e.sqT (SqT.of ht)) (coF r1 r2 p1) hD (by show 2 ≤ 1000; decide) (fun x hx => ?_) (fun x hx H' e hacc R S hR => ?_) fun H' e hl => ?_
  · rcases List.mem_cons.mp hx with z | z
    · subst z
      rw [hf1, List.length_map, List.length_map]
      have := o1.2.2.2.2
      omega
    · obtain rfl := List.mem_singleton.mp z
      rw [hf2, List.length_map, List.length_map]
      have := o2.2.2.2.2
      omega
  · refine ⟨rfl, ?_⟩
    obtain ⟨p, d, dx, n, r, ex, hp, hd, hfr⟩ : ∃ p d dx n r, x = V.ref p ∧ H' p = some (.ins (ga K "Table") dx (tFs n d)) ∧ H' d = some (.dK (rK r)) ∧ coF r1 r2 p1 x = (r.map (·.1)).map vb := by
      rcases List.mem_cons.mp hx with z | z
      · exact ⟨p1, d1, dx1, n1, r1, z, e _ _ hp1, e _ _ hd1, by rw [z, hf1]⟩
      · obtain rfl := List.mem_singleton.mp z
        exact ⟨p2, d2, dx2, n2, r2, rfl, e _ _ hp2, e _ _ hd2, hf2⟩
    subst ex
    walk_at "rd"
    refine ⟨p, dx, _, rfl, hp, one p d dx n r H' hp hd D _ hacc fun q o hq => ?_⟩
    have hqD : q ≠ D := fun z => by
      obtain ⟨acc, ha⟩ := hacc
      rw [z, ha] at hq
      cases hq
    refine hR _ _ _ _ (Ex.nw2 hq) (by rw [hfr]; exact src_rows) (fun H5 e5 => e5 q _ hqD upd_same) fun z hz H5 e5 R1 S1 hR1 => ?_
    refine ⟨rfl, ?_⟩
    walk_at "rd"
    exact hR1 _ Ex.rfl'
  · have el : List.flatMap (coF r1 r2 p1) [V.ref p1, V.ref p2] = (r1.map (·.1) ++ r2.map (·.1)).map vb := by
      rw [List.flatMap_cons, List.flatMap_cons, hf1, hf2, List.map_append]
      simp
    rw [el] at hl
    have hb : ∀ b ∈ r1.map (·.1) ++ r2.map (·.1), b.length ≤ 32 := fun b hb => by
      rcases List.mem_append.mp hb with z | z
      · obtain ⟨x, hx, rfl⟩ := List.mem_map.mp z
        have := (o1.2.2.2.1 x hx).1
        have := o1.2.1
        omega
      · obtain ⟨x, hx, rfl⟩ := List.mem_map.mp z
        have := (o2.2.2.2.1 x hx).1
        have := o2.2.1
        omega
    walk_at "rd"
    refine ⟨rfl, D, _, rfl, hl, hb, by have := o1.2.2.2.2; have := o2.2.2.2.2; simp only [List.length_append, List.length_map]; omega, fun H3 q e3 hq hl3 => ?_⟩
    walk_at "rd"
    refine ⟨rfl, q, _, rfl, hl3, closB_nodup _, fun b hb2 => ?_, ?_, fun H4 q2 e4 hq2 hl4 => ?_⟩
    · have := clL_mem_len hb (closB_mem.mp hb2)
      omega
    · have h1 := closB_len _ hb
      have := o1.2.2.2.2
      have := o2.2.2.2.2
      simp only [List.length_append, List.length_map] at h1
      omega
    · exact hQ H4 q2 ((e.tr e3).tr e4) ((e.tr e3).fr hq2) hl4
theorem tgt_ok {z : Str} (h : isTgt z = true) : PyData.strOk z = true := by
  unfold isTgt at h
  simp only [Bool.and_eq_true] at h
  have h2 := List.all_eq_true.mp h.2.2
  unfold PyData.strOk
  rw [← Array.all_toList]
  refine List.all_eq_true.mpr fun c hc => ?_
  have h3 := of_decide_eq_true (h2 c hc)
  have h4 : ∀ c ∈ ("abcdefghijklmnopqrstuvwxyz" : Str).cps.toList, decide (c < 0x110000) = true := by decide +kernel
  exact h4 c h3
theorem lead_ok {n : Nat} {r : Rows} (o : TOk n r) (b : Bits) : oOk (leadB r b) := by
  intro s hs
  unfold leadB at hs
  cases q : longB r b with
  | none => rw [q] at hs; cases hs
  | some c =>
    rw [q] at hs
    exact tgt_ok (o.2.2.2.1 _ (mem_of_lookup' hs)).2
def sp_moved (C D : Addr) : Sp := fun vs H Q E => vs.length = 2 ∧ ∃ (p1 d1 p2 d2 : Addr) (n1 n2 : Nat) (r1 r2 : Rows), vs = [.ref p1, .ref p2] ∧ IsT C H p1 d1 n1 r1 ∧ IsT C H p2 d2 n2 r2 ∧ TOk n1 r1 ∧ TOk n2 r2 ∧
  (n1 = n2 → ∀ H' q ts, Ex H H' → H q = none → H' q = some (.lst (ts.map V.ref)) → RunsAt H' ts (movesB n1 r1 r2) → Q (.ref q) H') ∧ (n1 ≠ n2 → ∀ H', Ex H H' → E (.ref D) none H')
theorem sc_moved_runs : FnScope ["before", "after", "found", "joined", "leaf", "pair", "first"] ["before", "after"] (defScope s_moved_runs) := ⟨rfl, rfl, rfl, by decide +kernel, rfl, by decide +kernel, by decide +kernel⟩
theorem fnok_moved_runs (T : Txt K mg) : ∃ fd, FunD K "moved_runs" "moved_runs" (defArgs s_moved_runs) (defBody s_moved_runs) (defScope s_moved_runs) [] [] (gA "moved_runs" K) fd ∧ FnOk P w K mg base (L2.CX P w) 4 (ga K "moved_runs") fd ["before", "after"] (sp_moved (ga K "Table") (ga K "InvalidPair")) := by
  obtain ⟨fd, F⟩ := T.D_moved_runs
  refine ⟨fd, F, (F.ok sc_moved_runs (fun vs H Q E h => h.1) fun cdv A outer s H vs Q E hr h => ?_)⟩
  refine ⟨_, (pss_cons (ps_expr (pcR (ok_check_widths T) (hr.mono (by decide)) rfl passE (pa_cons (pv 0) (pa_cons (pv 1) pa_nil))))
    (pss_cons (ps_set (i := 2) sc_moved_runs.nd rfl (by first | exact Or.inl rfl | exact Or.inr rfl) (pe_lst pa_nil))
    (pss_cons (ps_set (i := 3) sc_moved_runs.nd rfl (by first | exact Or.inl rfl | exact Or.inr rfl) pe_bl)
    (pss_cons (ps_for (passes_of rfl) rfl (k_itL (K := K) (pcR (ok_common_leaves T) (hr.mono (by decide)) rfl passE (pa_cons (pv 0) (pa_cons (pv 1) pa_nil)))) (pg_name (i := 4) sc_moved_runs.nd rfl (by first | exact Or.inl rfl | exact Or.inr rfl))
    (pss_cons (ps_set (i := 5) sc_moved_runs.nd rfl (by first | exact Or.inl rfl | exact Or.inr rfl) (pe_tup (pa_cons (pmt T.cls_Table (ok_Table_target_of T) (hr.mono (by decide)) (pv 0) (pa_cons (pv 4) pa_nil)) (pa_cons (pmt T.cls_Table (ok_Table_target_of T) (hr.mono (by decide)) (pv 1) (pa_cons (pv 4) pa_nil)) pa_nil))))
    (pss_cons (ps_if (pt_cmpR op_ne (pe_ix (k_ixT (K := K)) (pv 5) pe_int (fun _ _ => rfl)) (pe_ix (k_ixT (K := K)) (pv 5) pe_int (fun _ _ => rfl)) (nomark _))
    (pss_cons (ps_set (i := 6) sc_moved_runs.nd rfl (by first | exact Or.inl rfl | exact Or.inr rfl) (pcl (ok_first_address T) (hr.mono (by decide)) rfl (pa_cons (pv 4) (pa_cons (ppr T.cls_Table (ok_Table_width T) (hr.mono (by decide)) (pv 0)) pa_nil))))
    (pss_cons (ps_if (PW.pt (pw_and (pt_val (pv 3)) (pw_and1 (pt_cmpR (k_eqD (K := K) hr.units) (pe_slice (k_slT (K := K)) (pe_ix (k_ixL (K := K)) (pv 2) (pe_un un_neg pe_int) (fun _ _ => rfl)) (po_some pe_int) po_none) (pv 5) (nomark _)))))
    (pss_one (ps_set (i := 6) sc_moved_runs.nd rfl (by first | exact Or.inl rfl | exact Or.inr rfl) (pe_ix (k_ixT (K := K)) (k_bm0 (K := K) PySem.F.plainAttrs_list PySem.F.slot_list_pop PySem.F.type_list_pop mt_pop (pv 2)) pe_int (fun _ _ => rfl))))
    pss_nil)
    (pss_one (ps_expr (k_bm (K := K) PySem.F.plainAttrs_list PySem.F.slot_list_append PySem.F.type_list_append mt_append (pv 2) (pa_cons (pe_tup (pa_cons (pv 6) (pa_cons (pcl (ok_last_address T) (hr.mono (by decide)) rfl (pa_cons (pv 4) (pa_cons (ppr T.cls_Table (ok_Table_width T) (hr.mono (by decide)) (pv 0)) pa_nil))) (StX.pa_star (pv 5) pa_nil)))) pa_nil))))))
    pss_nil)
    (pss_one (ps_set (i := 3) sc_moved_runs.nd rfl (by first | exact Or.inl rfl | exact Or.inr rfl) (pe_cmpR op_ne (pe_ix (k_ixT (K := K)) (pv 5) pe_int (fun _ _ => rfl)) (pe_ix (k_ixT (K := K)) (pv 5) pe_int (fun _ _ => rfl)) (nomark _)))))))
    (pss_one (ps_ret (pv 2))))))), ?_⟩
  obtain ⟨_, p1, d1, p2, d2, n1, n2, r1, r2, rfl, ht1, ht2, o1, o2, hQ, hE⟩ := h
  have ex : ∀ {H H' : Hp} {p d : Addr} {n : Nat} {r : Rows}, Ex H H' → IsT (ga K "Table") H p d n r → IsT (ga K "Table") H' p d n r := fun e h => ⟨⟨_, e _ _ h.1.choose_spec⟩, e _ _ h.2⟩
  walk_at "rd"
  refine ⟨rfl, fun t ht => ⟨t, p1, d1, p2, d2, n1, n2, r1, r2, rfl, upd_same, ex (Ex.nw ht) ht1, ex (Ex.nw ht) ht2, fun hn H1 e1 => ?_, fun hn H1 e1 => hE hn H1 ((Ex.nw ht).tr e1)⟩⟩
  subst hn
  have e1 := (Ex.nw ht).tr e1
  walk_at "rd"
  refine ⟨Nat.zero_le _, fun q hq0 => ?_⟩
  have hq : H q = none := e1.fr hq0
  walk_at "rd"
  refine ⟨rfl, fun t2 ht2' => ⟨t2, p1, d1, p2, d2, n1, n1, r1, r2, rfl, upd_same, ex ((e1.up hq).up (by rw [upd_ne (fun z => by rw [z, upd_same] at ht2'; cases ht2')] at ht2'; exact e1.fr ht2')) ht1, ex ((e1.up hq).up (by rw [upd_ne (fun z => by rw [z, upd_same] at ht2'; cases ht2')] at ht2'; exact e1.fr ht2')) ht2, o1, o2, fun H2 l e2 hl0 hl => ?_⟩⟩
  have hqt : q ≠ t2 := fun z => by rw [← z, upd_same] at ht2'; cases ht2'
  have ht2H : H t2 = none := by rw [upd_ne (Ne.symm hqt)] at ht2'; exact e1.fr ht2'
  have hq2 : H2 q = some (.lst []) := e2 _ _ (by rw [upd_ne hqt]; exact upd_same)
  have hlq : l ≠ q := fun z => by rw [z, upd_ne hqt, upd_same] at hl0; cases hl0
  have e2 : Ex H H2 := fun a o h => e2 a o (((e1.up hq).up ht2H) a o h)
  obtain ⟨es, ees⟩ : ∃ es, es = leafB (closB (r1.map (·.1) ++ r2.map (·.1))) := ⟨_, rfl⟩
  rw [← ees] at hl
  have hb1 : ∀ b ∈ r1.map (·.1) ++ r2.map (·.1), b.length ≤ n1 := fun b hb => by
    rcases List.mem_append.mp hb with z | z
    · obtain ⟨x, hx, rfl⟩ := List.mem_map.mp z
      exact (o1.2.2.2.1 x hx).1
    · obtain ⟨x, hx, rfl⟩ := List.mem_map.mp z
      exact (o2.2.2.2.1 x hx).1
  have hbes : ∀ b ∈ es, b.length ≤ n1 := fun b hb => clL_mem_len hb1 (closB_mem.mp (leafB_mem (by rw [← ees]; exact hb)))
  have hn1 := o1.2.1
  have hesl : es.length ≤ 5000 := by
    have h1 := leafB_len (closB (r1.map (·.1) ++ r2.map (·.1)))
    have h2 := closB_len (r1.map (·.1) ++ r2.map (·.1)) fun b hb => Nat.le_trans (hb1 b hb) o1.2.1
    have := o1.2.2.2.2
    have := o2.2.2.2.2
    simp only [List.length_append, List.length_map] at h2
    rw [← ees] at h1
    omega
  refine ⟨l, rfl, ⟨_, SqL.of hl⟩, ?_⟩
  refine forG src_list (fun i σ' H' => (∃ z1 z2 z3, σ' = [some (.ref p1), some (.ref p2), some (.ref q), some (.bl (joinB (runsB n1 r1 r2 (es.take i)))), z1, z2, z3]) ∧ Ex H H' ∧ H' l = some (.lst (es.map vb)) ∧
      ∃ ts : List Addr, H' q = some (.lst (ts.map V.ref)) ∧ RunsAt H' ts (runsB n1 r1 r2 (es.take i)).1.reverse)
    ⟨⟨none, none, none, rfl⟩, e2, hl, [], hq2, .nil⟩ (fun i σ' H' _ h => SqL.of h.2.2.1) (fun i x σ' H3 hx ⟨⟨z1, z2, z3, eσ⟩, e3, hl3, ts, hts, hrs⟩ => ?_) fun σ' H3 ⟨⟨z1, z2, z3, eσ⟩, e3, hl3, ts, hts, hrs⟩ => ?_
  · have hi : i < es.length := by
      have := (List.getElem?_eq_some_iff.mp hx).1
      simpa using this
    rw [List.getElem?_map, List.getElem?_eq_getElem hi] at hx
    obtain ⟨b, eb⟩ : ∃ b, b = es[i] := ⟨_, rfl⟩
    rw [← eb] at hx
    obtain rfl : vb b = x := Option.some.inj hx
    have hbl := hbes b (by rw [eb]; exact List.getElem_mem hi)
    have et : es.take (i + 1) = es.take i ++ [b] := by rw [List.take_succ, List.getElem?_eq_getElem hi, ← eb]; rfl
    rw [et, runsB_snoc]
    have hok := runsB_ok n1 r1 r2 (es.take i)
    have hsl := runsB_len n1 r1 r2 (es.take i)
    rw [List.length_take] at hsl
    generalize hst : runsB n1 r1 r2 (es.take i) = st at hok hsl hrs eσ
    subst eσ
    walk_at "rd"
    obtain ⟨⟨dx1, hp1⟩, hd1⟩ := ex e3 ht1
    refine ⟨p1, dx1, _, rfl, hp1, rfl, ?_⟩
    walk_at "rd"
    refine ⟨rfl, p1, d1, n1, r1, b, rfl, ex e3 ht1, hbl, by omega, fun H4 e4 => ?_⟩
    walk_at "rd"
    refine ⟨p2, _, _, rfl, e4 _ _ (e3 _ _ ht2.1.choose_spec), rfl, ?_⟩
    walk_at "rd"
    refine ⟨rfl, p2, d2, n1, r2, b, rfl, ex (e3.tr e4) ht2, hbl, by omega, fun H5 e5 => ?_⟩
    walk_at "rd"
    refine ⟨by show 2 ≤ sizeLine; exact szl (by decide), fun tp htp => ?_⟩
    have e35 : Ex H3 (upd H5 tp (.tup [oV (leadB r1 b), oV (leadB r2 b)])) := (e4.tr e5).up ((e4.tr e5).fr htp)
    have h6t : (upd H5 tp (.tup [oV (leadB r1 b), oV (leadB r2 b)])) tp = some (.tup [oV (leadB r1 b), oV (leadB r2 b)]) := upd_same
    show gName 5 (.ref tp) _ (upd H5 tp (.tup [oV (leadB r1 b), oV (leadB r2 b)])) _
    generalize upd H5 tp (.tup [oV (leadB r1 b), oV (leadB r2 b)]) = H6 at e35 h6t
    walk_at "rd"
    refine ⟨tp, _, 0, _, rfl, rfl, SqT.of h6t, rfl, ?_⟩
    walk_at "rd"
    refine ⟨tp, _, 1, _, rfl, rfl, SqT.of h6t, rfl, ?_⟩
    refine ⟨oV_scal _ _, ?_⟩
    rw [dec_oV]
    have e6 : Ex H H6 := e3.tr e35
    have hts6 := e35 _ _ hts
    have hl6 := e35 _ _ hl3
    have hrs6 := e35.runs hrs
    have hqtp : tp ≠ q := fun z => by rw [z, hts6] at h6t; cases h6t
    by_cases hne : leadB r1 b = leadB r2 b
    · rw [decide_eq_true hne]
      walk_at "rd"
      refine ⟨tp, _, 0, _, rfl, rfl, SqT.of h6t, rfl, ?_⟩
      walk_at "rd"
      refine ⟨tp, _, 1, _, rfl, rfl, SqT.of h6t, rfl, ?_⟩
      refine ⟨oV_scal _ _, ?_⟩
      rw [dec_oV, decide_eq_true hne]
      walk_at "rd"
      rw [stepR_same hne]
      refine ⟨⟨_, _, _, by show _ = [_, _, _, some (V.bl (!decide (leadB r1 b = leadB r2 b))), _, _, _]; rw [decide_eq_true hne]; rfl⟩, e6, hl6, ts, hts6, hrs6⟩
    · rw [decide_eq_false hne]
      walk_at "rd"
      refine ⟨p1, _, _, rfl, e6 _ _ ht1.1.choose_spec, rfl, p1, d1, n1, r1, rfl, ex e6 ht1, ?_⟩
      walk_at "rd"
      refine ⟨rfl, b, n1, rfl, by omega, hbl, ?_⟩
      walk_at "rd"
      cases hj : joinB st with
      | false =>
        have hnj : ¬ st.2 = some (leadB r1 b, leadB r2 b) := fun z => by
          unfold joinB at hj
          rw [z] at hj
          simp only [Bool.not_eq_false', decide_eq_true_eq] at hj
          exact hne hj
        walk_at "rd"
        refine ⟨tyL hts6, ?_⟩
        walk_at "rd"
        refine ⟨p1, _, _, rfl, e6 _ _ ht1.1.choose_spec, rfl, p1, d1, n1, r1, rfl, ex e6 ht1, ?_⟩
        walk_at "rd"
        refine ⟨rfl, b, n1, rfl, by omega, hbl, ?_⟩
        walk_at "rd"
        refine ⟨tp, _, rfl, .inl (SqT.of h6t), ?_⟩
        walk_at "rd"
        refine ⟨by show 4 ≤ sizeLine; exact szl (by decide), fun u hu => ?_⟩
        walk_at "rd"
        have hqu : q ≠ u := ne_of_none hts6 hu
        refine ⟨q, ts.map V.ref, .ref u, rfl, rfl, by rw [upd_ne hqu]; exact hts6, by rw [List.length_map]; exact szlt (by have := RunsAt.len hrs6; rw [List.length_reverse] at this; omega), ?_⟩
        walk_at "rd"
        have hup : tp ≠ u := ne_of_none h6t hu
        have htp2 : (upd (upd H6 u (.tup (runV ⟨(b ++ List.replicate (n1 - b.length) false), b ++ List.replicate (n1 - b.length) true, leadB r1 b, leadB r2 b⟩))) q (.lst (ts.map V.ref ++ [V.ref u]))) tp = some (.tup [oV (leadB r1 b), oV (leadB r2 b)]) := by
          rw [upd_ne hqtp, upd_ne hup]
          exact h6t
        refine ⟨tp, _, 0, _, rfl, rfl, SqT.of htp2, rfl, ?_⟩
        walk_at "rd"
        refine ⟨tp, _, 1, _, rfl, rfl, SqT.of htp2, rfl, ?_⟩
        refine ⟨oV_scal _ _, ?_⟩
        rw [dec_oV, decide_eq_false hne]
        walk_at "rd"
        have hH : Ex H H6 := e6
        refine ⟨⟨_, _, _, by rw [stepR_new hne hnj]; show _ = [_, _, _, some (V.bl (!decide (leadB r1 b = leadB r2 b))), _, _, _]; rw [decide_eq_false hne]; rfl⟩, (hH.up (hH.fr hu)).up hq, ?_, ts ++ [u], ?_, ?_⟩
        · rw [upd_ne hlq, upd_ne (ne_of_none hl6 hu)]
          exact hl6
        · rw [upd_same]
          simp only [List.map_append, List.map_cons, List.map_nil]
        · rw [stepR_new hne hnj]
          show RunsAt _ _ ((_ :: _).reverse)
          rw [List.reverse_cons]
          refine RunsAt.snoc ?_ (hrs6.ex fun a xs h => ?_)
          · rw [upd_ne (Ne.symm hqu), upd_same]
            rfl
          · rw [upd_ne (fun z => by rw [z, hts6] at h; cases h), upd_ne (ne_of_none h hu)]
            exact h
      | true =>
        obtain ⟨p', ep', hp'⟩ : ∃ p' : Option Str × Option Str, st.2 = some p' ∧ p'.1 ≠ p'.2 := by
          unfold joinB at hj
          cases q2 : st.2 with
          | none => rw [q2] at hj; cases hj
          | some p' =>
            rw [q2] at hj
            simp only [Bool.not_eq_true', decide_eq_false_iff_not] at hj
            exact ⟨p', rfl, hj⟩
        obtain ⟨r, rest, er, ewn⟩ := hok p' ep' hp'
        rw [er, List.reverse_cons] at hrs6
        obtain ⟨ts', tl, ets, htl, hrs7⟩ := hrs6.unsnoc
        subst ets
        walk_at "rd"
        rw [List.map_append] at hts6
        refine ⟨q, _, -1, _, rfl, rfl, SqL.of hts6, atI_last _ _, ?_⟩
        walk_at "rd"
        refine ⟨tl, _, rfl, SqT.of htl, fun z => absurd z.1 (by show ¬ HT.sIx 4 0 (some 2) = 0; decide), fun w1 hw1 => ?_⟩
        walk_at "rd"
        have hro := runs_lead n1 r1 r2 (es.take i) r (by rw [hst, er]; exact List.mem_cons_self)
        obtain ⟨e0, hw0, hn0⟩ := hro
        have h7t : (upd H6 w1 (.tup (cutV (runV r) (some 2) none))) tp = some (.tup [oV (leadB r1 b), oV (leadB r2 b)]) := by rw [upd_ne (ne_of_none h6t hw1)]; exact h6t
        refine ⟨_, _, dp_pair (x := r.was) (y := r.now) upd_same, dp_pair h7t, shaped_pair (by rw [hw0]; exact lead_ok o1 _) (by rw [hn0]; exact lead_ok o2 _), shaped_pair (lead_ok o1 _) (lead_ok o2 _), ?_⟩
        rw [eqv_pair]
        have e67 : Ex H6 (upd H6 w1 (.tup (cutV (runV r) (some 2) none))) := Ex.nw hw1
        have htl7 := e67 _ _ htl
        have hts7 := e67 _ _ hts6
        have hl7 := e67 _ _ hl6
        have hrs8 := e67.runs hrs7
        have e7 := e6.tr e67
        generalize upd H6 w1 (.tup (cutV (runV r) (some 2) none)) = H7 at h7t htl7 hts7 hl7 hrs8 e7 e67
        by_cases hpp : (r.was, r.now) = (leadB r1 b, leadB r2 b)
        · rw [decide_eq_true hpp]
          walk_at "rd"
          refine ⟨tyL hts7, q, _, .ref tl, rfl, rfl, hts7, by simp, ?_⟩
          rw [show (ts'.map V.ref ++ [tl].map V.ref).dropLast = ts'.map V.ref by simp]
          have hqtl : tl ≠ q := fun z => by rw [z, hts7] at htl7; cases htl7
          walk_at "rd"
          refine ⟨tl, _, 0, _, rfl, rfl, SqT.of (by rw [upd_ne hqtl]; exact htl7), rfl, ?_⟩
          have e8 : Ex H (upd H7 q (.lst (ts'.map V.ref))) := e7.up hq
          have h8t : (upd H7 q (.lst (ts'.map V.ref))) tp = some (.tup [oV (leadB r1 b), oV (leadB r2 b)]) := by rw [upd_ne hqtp]; exact h7t
          have hl8 : (upd H7 q (.lst (ts'.map V.ref))) l = some (.lst (es.map vb)) := by rw [upd_ne hlq]; exact hl7
          have hts8 : (upd H7 q (.lst (ts'.map V.ref))) q = some (.lst (ts'.map V.ref)) := upd_same
          have hrs9 : RunsAt (upd H7 q (.lst (ts'.map V.ref))) ts' rest.reverse := hrs8.ex fun a xs h => by rw [upd_ne (fun z => by rw [z, hts7] at h; cases h)]; exact h
          have hlen : rest.length < 100000 := by rw [er, List.length_cons] at hsl; omega
          show gName 6 (vb r.lo) _ (upd H7 q (.lst (ts'.map V.ref))) _
          generalize upd H7 q (.lst (ts'.map V.ref)) = H8 at e8 h8t hl8 hts8 hrs9
          walk_at "rd"
          refine ⟨tyL hts8, ?_⟩
          walk_at "rd"
          refine ⟨p1, _, _, rfl, e8 _ _ ht1.1.choose_spec, rfl, p1, d1, n1, r1, rfl, ex e8 ht1, ?_⟩
          walk_at "rd"
          refine ⟨rfl, b, n1, rfl, by omega, hbl, ?_⟩
          walk_at "rd"
          refine ⟨tp, _, rfl, .inl (SqT.of h8t), ?_⟩
          walk_at "rd"
          refine ⟨by show 4 ≤ sizeLine; exact szl (by decide), fun u hu => ?_⟩
          walk_at "rd"
          have hqu : q ≠ u := ne_of_none hts8 hu
          refine ⟨q, ts'.map V.ref, .ref u, rfl, rfl, by rw [upd_ne hqu]; exact hts8, by rw [List.length_map]; exact szlt (by have := RunsAt.len hrs9; rw [List.length_reverse] at this; omega), ?_⟩
          walk_at "rd"
          have hup : tp ≠ u := ne_of_none h8t hu
          have htp2 : (upd (upd H8 u (.tup (runV ⟨r.lo, b ++ List.replicate (n1 - b.length) true, leadB r1 b, leadB r2 b⟩))) q (.lst (ts'.map V.ref ++ [V.ref u]))) tp = some (.tup [oV (leadB r1 b), oV (leadB r2 b)]) := by
            rw [upd_ne hqtp, upd_ne hup]
            exact h8t
          refine ⟨tp, _, 0, _, rfl, rfl, SqT.of htp2, rfl, ?_⟩
          walk_at "rd"
          refine ⟨tp, _, 1, _, rfl, rfl, SqT.of htp2, rfl, ?_⟩
          refine ⟨oV_scal _ _, ?_⟩
          rw [dec_oV, decide_eq_false hne]
          walk_at "rd"
          have hH : Ex H H8 := e8
          refine ⟨⟨_, _, _, by rw [stepR_join hne (by rw [ep', ← ewn, hpp]) er]; show _ = [_, _, _, some (V.bl (!decide (leadB r1 b = leadB r2 b))), _, _, _]; rw [decide_eq_false hne]; rfl⟩, (hH.up (hH.fr hu)).up hq, ?_, ts' ++ [u], ?_, ?_⟩
          · rw [upd_ne hlq, upd_ne (ne_of_none hl8 hu)]
            exact hl8
          · rw [upd_same]
            simp only [List.map_append, List.map_cons, List.map_nil]
          · rw [stepR_join hne (by rw [ep', ← ewn, hpp]) er]
            show RunsAt _ _ ((_ :: _).reverse)
            rw [List.reverse_cons]
            refine RunsAt.snoc ?_ (hrs9.ex fun a xs h => ?_)
            · rw [upd_ne (Ne.symm hqu), upd_same]
              rfl
            · rw [upd_ne (fun z => by rw [z, hts8] at h; cases h), upd_ne (ne_of_none h hu)]
              exact h
        · rw [decide_eq_false hpp]
          have hnj : ¬ st.2 = some (leadB r1 b, leadB r2 b) := fun z => by
            rw [ep'] at z
            rw [← ewn] at z
            exact hpp (Option.some.inj z)
          have hrs9 : RunsAt H7 (ts' ++ [tl]) st.1.reverse := by
            rw [er, List.reverse_cons]
            exact RunsAt.snoc htl7 hrs8
          have hts9 : H7 q = some (.lst ((ts' ++ [tl]).map V.ref)) := by rw [List.map_append]; exact hts7
          walk_at "rd"
          refine ⟨tyL hts9, ?_⟩
          walk_at "rd"
          refine ⟨p1, _, _, rfl, e7 _ _ ht1.1.choose_spec, rfl, p1, d1, n1, r1, rfl, ex e7 ht1, ?_⟩
          walk_at "rd"
          refine ⟨rfl, b, n1, rfl, by omega, hbl, ?_⟩
          walk_at "rd"
          refine ⟨tp, _, rfl, .inl (SqT.of h7t), ?_⟩
          walk_at "rd"
          refine ⟨by show 4 ≤ sizeLine; exact szl (by decide), fun u hu => ?_⟩
          walk_at "rd"
          have hqu : q ≠ u := ne_of_none hts9 hu
          refine ⟨q, (ts' ++ [tl]).map V.ref, .ref u, rfl, rfl, by rw [upd_ne hqu]; exact hts9, by rw [List.length_map]; exact szlt (by have := RunsAt.len hrs9; rw [List.length_reverse] at this; omega), ?_⟩
          walk_at "rd"
          have hup : tp ≠ u := ne_of_none h7t hu
          have htp2 : (upd (upd H7 u (.tup (runV ⟨(b ++ List.replicate (n1 - b.length) false), b ++ List.replicate (n1 - b.length) true, leadB r1 b, leadB r2 b⟩))) q (.lst ((ts' ++ [tl]).map V.ref ++ [V.ref u]))) tp = some (.tup [oV (leadB r1 b), oV (leadB r2 b)]) := by
            rw [upd_ne hqtp, upd_ne hup]
            exact h7t
          refine ⟨tp, _, 0, _, rfl, rfl, SqT.of htp2, rfl, ?_⟩
          walk_at "rd"
          refine ⟨tp, _, 1, _, rfl, rfl, SqT.of htp2, rfl, ?_⟩
          refine ⟨oV_scal _ _, ?_⟩
          rw [dec_oV, decide_eq_false hne]
          walk_at "rd"
          have hH : Ex H H7 := e7
          refine ⟨⟨_, _, _, by rw [stepR_new hne hnj]; show _ = [_, _, _, some (V.bl (!decide (leadB r1 b = leadB r2 b))), _, _, _]; rw [decide_eq_false hne]; rfl⟩, (hH.up (hH.fr hu)).up hq, ?_, (ts' ++ [tl]) ++ [u], ?_, ?_⟩
          · rw [upd_ne hlq, upd_ne (ne_of_none hl7 hu)]
            exact hl7
          · rw [upd_same]
            simp only [List.map_append, List.map_cons, List.map_nil]
          · rw [stepR_new hne hnj]
            show RunsAt _ _ ((_ :: _).reverse)
            rw [List.reverse_cons]
            refine RunsAt.snoc ?_ (hrs9.ex fun a xs h => ?_)
            · rw [upd_ne (Ne.symm hqu), upd_same]
              rfl
            · rw [upd_ne (fun z => by rw [z, hts9] at h; cases h), upd_ne (ne_of_none h hu)]
              exact h
  · subst eσ
    walk_at "rd"
    rw [List.length_map, List.take_length] at hrs
    refine hQ rfl H3 q ts e3 hq hts ?_
    rw [movesB, ← ees]
    exact hrs
theorem ok_moved_runs (T : Txt K mg) : OkF P w K mg base 4 "moved_runs" ["before", "after"] (sp_moved (ga K "Table") (ga K "InvalidPair")) := by
  obtain ⟨fd, F, h⟩ := fnok_moved_runs T
  exact ⟨_, fd, T.g_moved_runs, F.kp, (F.bindsN fun _ _ _ _ _ _ us hl => match us, hl with | [_, _], _ => rfl), h⟩
def sp_pen (K : Fr) : Sp := fun vs H Q _ => vs.length = 1 ∧ ∃ (a : Addr) (ns : List Int), vs = [.ref a] ∧ SqL K H a (ns.map V.int) ∧ ∀ H' p q, Ex H H' → H p = none → H q = none → Pen H' p q 0 → Q (.ref p) H'
theorem sc__law_pen : FnScope ["script"] ["script"] (defScope s__law_pen) := ⟨rfl, rfl, rfl, by decide +kernel, rfl, by decide +kernel, by decide +kernel⟩
theorem ok__law_pen (T : Txt K mg) : OkF P w K mg base 1 "_law_pen" ["script"] (sp_pen K) := by
  obtain ⟨fd, F⟩ := T.D__law_pen
  refine ⟨_, fd, T.g__law_pen, F.kp, (F.bindsN fun _ _ _ _ _ _ us hl => match us, hl with | [_], _ => rfl), (F.ok sc__law_pen (fun vs H Q E h => h.1) fun cdv A outer s H vs Q E hr h => ?_)⟩
  refine ⟨_, (pss_one (ps_ret (pe_lst (pa_cons (pe_callTy (k_listO (K := K)) (by rfl) T.free_list (by decide +kernel) (pa_cons (pe_slice (k_slL (K := K)) (pv 0) po_none (po_some pe_int)) pa_nil)) (pa_cons pe_int (pa_cons pe_int pa_nil)))))), ?_⟩
  obtain ⟨_, a, ns, rfl, ha, hQ⟩ := h
  walk_at "rd"
  refine ⟨a, _, rfl, ha, fun p hp => ?_⟩
  walk_at "rd"
  refine ⟨p, _, rfl, .inl (SqL.of upd_same), fun q hq => ?_⟩
  walk_at "rd"
  refine ⟨by show 3 ≤ sizeLine; exact szl (by decide), fun u hu => ?_⟩
  have hqp : q ≠ p := fun z => by rw [z, upd_same] at hq; cases hq
  have huq : u ≠ q := fun z => by rw [z, upd_same] at hu; cases hu
  have hup : u ≠ p := fun z => by rw [z, upd_ne (Ne.symm hqp), upd_same] at hu; cases hu
  have hq0 : H q = none := by rw [upd_ne hqp] at hq; exact hq
  have hu0 : H u = none := by rw [upd_ne huq, upd_ne hup] at hu; exact hu
  have ec : cutV (ns.map V.int) none (some (60 : Int)) = (ns.take (min 60 ns.length)).map V.int := by
    unfold cutV
    rw [List.length_map]
    have e1 : HT.sIx ns.length 0 none = 0 := rfl
    have e2 : HT.sIx ns.length ns.length (some 60) = min 60 ns.length := by
      unfold HT.sIx
      simp
    rw [e1, e2, List.drop_zero, Nat.sub_zero, List.map_take]
  refine hQ _ u q (((Ex.nw hp).up hq0).up hu0) hu0 hq0 ⟨ns.take (min 60 ns.length), 0, 0, [], Ne.symm huq, upd_same, ?_, ?_, Nat.le_refl _, Int.le_refl _, Nat.zero_le _⟩
  · rw [upd_ne (Ne.symm huq), upd_same, ec]
  · rw [List.length_take]
    omega
def sp_next : Sp := fun vs H Q _ => vs.length = 1 ∧ ∃ (p : Addr) (N : Nat), vs = [.ref p] ∧ (∃ (q : Addr) (ds : List Int) (idx : Nat) (pool : Int) (ex : List V), q ≠ p ∧ H p = some (.lst (.ref q :: .int (idx : Int) :: .int pool :: ex)) ∧ H q = some (.lst (ds.map V.int)) ∧ ds.length ≤ 60 ∧ idx ≤ N ∧ N ≤ 100000 ∧ ex.length ≤ 100 ∧
  ∀ d H', 0 ≤ d → Ex (upd H p (.lst (.ref q :: .int ((idx : Int) + 1) :: .int pool :: ex))) H' → Q (.int d) H')
theorem sc__law_next : FnScope ["pen", "index", "cell", "low", "mid", "top"] ["pen"] (defScope s__law_next) := ⟨rfl, rfl, rfl, by decide +kernel, rfl, by decide +kernel, by decide +kernel⟩
theorem ok__law_next (T : Txt K mg) : OkF P w K mg base 1 "_law_next" ["pen"] sp_next := by
  obtain ⟨fd, F⟩ := T.D__law_next
  refine ⟨_, fd, T.g__law_next, F.kp, (F.bindsN fun _ _ _ _ _ _ us hl => match us, hl with | [_], _ => rfl), (F.ok sc__law_next (fun vs H Q E h => h.1) fun cdv A outer s H vs Q E hr h => ?_)⟩
  refine ⟨_, (pss_cons (ps_set (i := 1) sc__law_next.nd rfl (by first | exact Or.inl rfl | exact Or.inr rfl) (pe_ix (k_ixL (K := K)) (pv 0) pe_int (fun _ _ => rfl)))
    (pss_cons (ps_asg (pe_op op_add (pv 1) pe_int) (pg_sub (pv 0) pe_int set_list))
    (pss_cons (ps_set (i := 2) sc__law_next.nd rfl (by first | exact Or.inl rfl | exact Or.inr rfl) (pe_op op_add (pe_op op_mul (pv 1) pe_int) pe_int))
    (pss_cons (ps_if (pt_cmpR (k_neD (K := K) hr.units) (pe_ix (k_ixL (K := K)) (pv 0) pe_int (fun _ _ => rfl)) (pe_lst pa_nil) (nomark _))
    (pss_one (ps_set (i := 2) sc__law_next.nd rfl (by first | exact Or.inl rfl | exact Or.inr rfl) (pe_ix (k_ixL (K := K)) (pe_ix (k_ixL (K := K)) (pv 0) pe_int (fun _ _ => rfl)) (pe_op op_mod (pv 1) (pe_callB (k_len (K := K)) (by rfl) T.free_len (by decide +kernel) (pa_cons (pe_ix (k_ixL (K := K)) (pv 0) pe_int (fun _ _ => rfl)) pa_nil))) (fun _ _ => rfl))))
    pss_nil)
    (pss_cons (ps_if (PW.pt (pw_and (pt_cmpR op_lt (pv 1) (pe_callB (k_len (K := K)) (by rfl) T.free_len (by decide +kernel) (pa_cons (pe_ix (k_ixL (K := K)) (pv 0) pe_int (fun _ _ => rfl)) pa_nil)) (nomark _)) (pw_and1 (pt_cmpR op_ge (pv 2) (pe_op op_pow pe_int pe_int) (nomark _)))))
    (pss_one (ps_ret (pv 2)))
    pss_nil)
    (pss_cons (ps_set (i := 3) sc__law_next.nd rfl (by first | exact Or.inl rfl | exact Or.inr rfl) (pe_op op_mod (pe_op op_add (pe_op op_add (pe_op op_mod (pv 2) pe_int) (pe_op op_mul (pv 1) pe_int)) pe_int) pe_int))
    (pss_cons (ps_set (i := 4) sc__law_next.nd rfl (by first | exact Or.inl rfl | exact Or.inr rfl) (pe_op op_mod (pe_op op_add (pe_op op_add (pe_op op_mul (pv 3) (pv 3)) (pe_op op_mul (pv 1) pe_int)) pe_int) pe_int))
    (pss_cons (ps_set (i := 5) sc__law_next.nd rfl (by first | exact Or.inl rfl | exact Or.inr rfl) (pe_op op_mod (pe_op op_add (pe_op op_add (pe_op op_mul (pv 4) (pv 4)) (pv 3)) (pe_op op_mul (pe_op op_mul (pv 1) (pv 1)) pe_int)) pe_int))
    (pss_one (ps_ret (pe_op op_add (pe_op op_mul (pe_op op_add (pe_op op_mul (pv 5) pe_int) (pv 4)) pe_int) (pv 3)))))))))))), ?_⟩
  obtain ⟨_, p, N, rfl, q, ds, idx, pool, ex, hqp, hp, hq, hds, hidx, hN, hex, hQ⟩ := h
  walk_at "rd"
  refine ⟨p, _, 1, _, rfl, rfl, SqL.of hp, at1, ?_⟩
  walk_at "rd"
  refine ⟨p, _, 1, 1, rfl, rfl, hp, ix1, ?_⟩
  have h2p : (upd H p (.lst (.ref q :: .int ((idx : Int) + 1) :: .int pool :: ex))) p = some (.lst (.ref q :: .int ((idx : Int) + 1) :: .int pool :: ex)) := upd_same
  have h2q : (upd H p (.lst (.ref q :: .int ((idx : Int) + 1) :: .int pool :: ex))) q = some (.lst (ds.map V.int)) := by rw [upd_ne hqp]; exact hq
  show tSeq _ _ _ _ (upd H p (.lst (.ref q :: .int ((idx : Int) + 1) :: .int pool :: ex)))
  generalize upd H p (.lst (.ref q :: .int ((idx : Int) + 1) :: .int pool :: ex)) = H2 at h2p h2q hQ
  walk_at "rd"
  refine rd_mulX (by omega) (by omega) ?_
  walk_at "rd"
  refine ⟨p, _, 0, _, rfl, rfl, SqL.of h2p, at0, ?_⟩
  walk_at "rd"
  refine ⟨Nat.zero_le _, fun l hl => ?_⟩
  have h3p : (upd H2 l (.lst [])) p = some (.lst (.ref q :: .int ((idx : Int) + 1) :: .int pool :: ex)) := by rw [upd_ne (ne_of_none h2p hl)]; exact h2p
  have h3q : (upd H2 l (.lst [])) q = some (.lst (ds.map V.int)) := by rw [upd_ne (ne_of_none h2q hl)]; exact h2q
  have hQ3 : ∀ d, 0 ≤ d → Q (.int d) (upd H2 l (.lst [])) := fun d hd => hQ d _ hd (Ex.nw hl)
  refine ⟨_, _, .lst (SqL.of h3q) (dpAll_ints ds), .lst (SqL.of upd_same) .nil, shaped_ints ds, rfl, ?_⟩
  rw [eqv_nil]
  generalize upd H2 l (.lst []) = H3 at h3p h3q hQ3
  cases he : (ds.map PyData.int).isEmpty with
  | true =>
    walk_at "rd"
    walk_at "rd"
    refine ⟨p, _, 0, _, rfl, rfl, SqL.of h3p, at0, ?_⟩
    walk_at "rd"
    refine rd_lenL (SqL.of h3q) ?_
    walk_at "rd"
    refine iteD (fun h1 => ?_) (fun h1 => ?_)
    · walk_at "rd"
      refine ⟨10, 18, rfl, rfl, ⟨by decide, by decide, by decide⟩, ?_⟩
      walk_at "rd"
      refine iteD (fun h2 => ?_) (fun h2 => ?_)
      · walk_at "rd"
        exact hQ3 _ (Int.le_trans (by decide) h2)
      · walk_at "rd"
        refine rd_modX (by decide) fun a1 ha1 ha2 => ?_
        walk_at "rd"
        refine rd_mulX (by omega) (by omega) ?_
        walk_at "rd"
        refine rd_modX (by decide) fun low hl1 hl2 => ?_
        walk_at "rd"
        refine rd_mulX (by omega) (by omega) ?_
        walk_at "rd"
        refine rd_mulX (by omega) (by omega) ?_
        walk_at "rd"
        refine rd_modX (by decide) fun mid hm1 hm2 => ?_
        walk_at "rd"
        refine rd_mulX (by omega) (by omega) ?_
        walk_at "rd"
        refine rd_mulX (by omega) (by omega) ?_
        walk_at "rd"
        refine rd_mulR (by omega) (by omega) ?_
        walk_at "rd"
        refine rd_modX (by decide) fun top ht1 ht2 => ?_
        walk_at "rd"
        refine rd_mulX (by omega) (by omega) ?_
        walk_at "rd"
        refine rd_mulR (by omega) (by omega) ?_
        walk_at "rd"
        exact hQ3 _ (by omega)
    · walk_at "rd"
      refine rd_modX (by decide) fun a1 ha1 ha2 => ?_
      walk_at "rd"
      refine rd_mulX (by omega) (by omega) ?_
      walk_at "rd"
      refine rd_modX (by decide) fun low hl1 hl2 => ?_
      walk_at "rd"
      refine rd_mulX (by omega) (by omega) ?_
      walk_at "rd"
      refine rd_mulX (by omega) (by omega) ?_
      walk_at "rd"
      refine rd_modX (by decide) fun mid hm1 hm2 => ?_
      walk_at "rd"
      refine rd_mulX (by omega) (by omega) ?_
      walk_at "rd"
      refine rd_mulX (by omega) (by omega) ?_
      walk_at "rd"
      refine rd_mulR (by omega) (by omega) ?_
      walk_at "rd"
      refine rd_modX (by decide) fun top ht1 ht2 => ?_
      walk_at "rd"
      refine rd_mulX (by omega) (by omega) ?_
      walk_at "rd"
      refine rd_mulR (by omega) (by omega) ?_
      walk_at "rd"
      exact hQ3 _ (by omega)
  | false =>
    have hne : 0 < ds.length := by
      cases ds with
      | nil => cases he
      | cons _ _ => simp
    walk_at "rd"
    refine ⟨p, _, 0, _, rfl, rfl, SqL.of h3p, at0, ?_⟩
    walk_at "rd"
    refine ⟨p, _, 0, _, rfl, rfl, SqL.of h3p, at0, ?_⟩
    walk_at "rd"
    refine rd_lenL (SqL.of h3q) ?_
    rw [List.length_map]
    refine rd_modX (by omega) fun j hj1 hj2 => ?_
    obtain ⟨x, hx, hat⟩ := atI_int (xs := ds.map V.int) hj1 (by rw [List.length_map]; exact hj2)
    obtain ⟨cell, _, rfl⟩ := List.mem_map.mp hx
    refine ⟨q, _, j, _, rfl, rfl, SqL.of h3q, hat, ?_⟩
    walk_at "rd"
    refine ⟨p, _, 0, _, rfl, rfl, SqL.of h3p, at0, ?_⟩
    walk_at "rd"
    refine rd_lenL (SqL.of h3q) ?_
    walk_at "rd"
    refine iteD (fun h1 => ?_) (fun h1 => ?_)
    · walk_at "rd"
      refine ⟨10, 18, rfl, rfl, ⟨by decide, by decide, by decide⟩, ?_⟩
      walk_at "rd"
      refine iteD (fun h2 => ?_) (fun h2 => ?_)
      · walk_at "rd"
        exact hQ3 _ (Int.le_trans (by decide) h2)
      · walk_at "rd"
        refine rd_modX (by decide) fun a1 ha1 ha2 => ?_
        walk_at "rd"
        refine rd_mulX (by omega) (by omega) ?_
        walk_at "rd"
        refine rd_modX (by decide) fun low hl1 hl2 => ?_
        walk_at "rd"
        refine rd_mulX (by omega) (by omega) ?_
        walk_at "rd"
        refine rd_mulX (by omega) (by omega) ?_
        walk_at "rd"
        refine rd_modX (by decide) fun mid hm1 hm2 => ?_
        walk_at "rd"
        refine rd_mulX (by omega) (by omega) ?_
        walk_at "rd"
        refine rd_mulX (by omega) (by omega) ?_
        walk_at "rd"
        refine rd_mulR (by omega) (by omega) ?_
        walk_at "rd"
        refine rd_modX (by decide) fun top ht1 ht2 => ?_
        walk_at "rd"
        refine rd_mulX (by omega) (by omega) ?_
        walk_at "rd"
        refine rd_mulR (by omega) (by omega) ?_
        walk_at "rd"
        exact hQ3 _ (by omega)
    · walk_at "rd"
      refine rd_modX (by decide) fun a1 ha1 ha2 => ?_
      walk_at "rd"
      refine rd_mulX (by omega) (by omega) ?_
      walk_at "rd"
      refine rd_modX (by decide) fun low hl1 hl2 => ?_
      walk_at "rd"
      refine rd_mulX (by omega) (by omega) ?_
      walk_at "rd"
      refine rd_mulX (by omega) (by omega) ?_
      walk_at "rd"
      refine rd_modX (by decide) fun mid hm1 hm2 => ?_
      walk_at "rd"
      refine rd_mulX (by omega) (by omega) ?_
      walk_at "rd"
      refine rd_mulX (by omega) (by omega) ?_
      walk_at "rd"
      refine rd_mulR (by omega) (by omega) ?_
      walk_at "rd"
      refine rd_modX (by decide) fun top ht1 ht2 => ?_
      walk_at "rd"
      refine rd_mulX (by omega) (by omega) ?_
      walk_at "rd"
      refine rd_mulR (by omega) (by omega) ?_
      walk_at "rd"
      exact hQ3 _ (by omega)
def sp_draw : Sp := fun vs H Q _ => vs.length = 2 ∧ ∃ (p q : Addr) (N : Nat) (n : Int), vs = [.ref p, .int n] ∧ Pen H p q N ∧ N < 100000 ∧ 1 ≤ n ∧ n ≤ 1000 ∧ ∀ d H', 0 ≤ d → d < n → Xp p H H' → Pen H' p q (N + 1) → Q (.int d) H'
theorem sc__law_draw : FnScope ["pen", "below", "digit"] ["pen", "below"] (defScope s__law_draw) := ⟨rfl, rfl, rfl, by decide +kernel, rfl, by decide +kernel, by decide +kernel⟩
theorem ok__law_draw (T : Txt K mg) : OkF P w K mg base 2 "_law_draw" ["pen", "below"] sp_draw := by
  obtain ⟨fd, F⟩ := T.D__law_draw
  refine ⟨_, fd, T.g__law_draw, F.kp, (F.bindsN fun _ _ _ _ _ _ us hl => match us, hl with | [_, _], _ => rfl), (F.ok sc__law_draw (fun vs H Q E h => h.1) fun cdv A outer s H vs Q E hr h => ?_)⟩
  refine ⟨_, (pss_cons (ps_if (pt_cmpR op_lt (pe_ix (k_ixL (K := K)) (pv 0) pe_int (fun _ _ => rfl)) (pv 1) (nomark _))
    (pss_one (ps_asg (pcl (ok__law_next T) (hr.mono (by decide)) rfl (pa_cons (pv 0) pa_nil)) (pg_sub (pv 0) pe_int set_list)))
    pss_nil)
    (pss_cons (ps_set (i := 2) sc__law_draw.nd rfl (by first | exact Or.inl rfl | exact Or.inr rfl) (pe_op op_mod (pe_ix (k_ixL (K := K)) (pv 0) pe_int (fun _ _ => rfl)) (pv 1)))
    (pss_cons (ps_asg (pe_op op_fdiv (pe_ix (k_ixL (K := K)) (pv 0) pe_int (fun _ _ => rfl)) (pv 1)) (pg_sub (pv 0) pe_int set_list))
    (pss_one (ps_ret (pv 2)))))), ?_⟩
  obtain ⟨_, p, q, N, n, rfl, ⟨ds, idx, pool, ex, hqp, hp, hq, hds, hidx, hpool, hex⟩, hN, n1, n2, hQ⟩ := h
  walk_at "rd"
  refine ⟨p, _, 2, _, rfl, rfl, SqL.of hp, at2, ?_⟩
  walk_at "rd"
  refine iteD (fun h1 => ?_) (fun h1 => ?_)
  · walk_at "rd"
    refine ⟨rfl, p, N, rfl, q, ds, idx, pool, ex, hqp, hp, hq, hds, hidx, by omega, hex, fun d H' hd e => ?_⟩
    walk_at "rd"
    have h2p := e _ _ upd_same
    have h2q := e q _ (by rw [upd_ne hqp]; exact hq)
    refine ⟨p, _, 2, 2, rfl, rfl, h2p, ix2, ?_⟩
    have e2 : Xp p H H' := fun a o ha h => e a o (by rw [upd_ne ha]; exact h)
    have e3 : Xp p H (upd H' p (.lst (.ref q :: .int ((idx : Int) + 1) :: .int d :: ex))) := e2.up
    have h3p : (upd H' p (.lst (.ref q :: .int ((idx : Int) + 1) :: .int d :: ex))) p = some (.lst (.ref q :: .int ((idx : Int) + 1) :: .int d :: ex)) := upd_same
    have h3q : (upd H' p (.lst (.ref q :: .int ((idx : Int) + 1) :: .int d :: ex))) q = some (.lst (ds.map V.int)) := by rw [upd_ne hqp]; exact h2q
    show tSeq _ _ _ _ (upd H' p (.lst (.ref q :: .int ((idx : Int) + 1) :: .int d :: ex)))
    generalize upd H' p (.lst (.ref q :: .int ((idx : Int) + 1) :: .int d :: ex)) = H3 at e3 h3p h3q
    walk_at "rd"
    refine ⟨p, _, 2, _, rfl, rfl, SqL.of h3p, at2, ?_⟩
    walk_at "rd"
    refine rd_modX (by omega) fun k hk1 hk2 => ?_
    walk_at "rd"
    refine ⟨p, _, 2, _, rfl, rfl, SqL.of h3p, at2, ?_⟩
    walk_at "rd"
    refine ⟨d, n, rfl, rfl, ⟨by omega, by omega⟩, ?_⟩
    walk_at "rd"
    refine ⟨p, _, 2, 2, rfl, rfl, h3p, ix2, ?_⟩
    walk_at "rd"
    refine hQ k _ hk1 hk2 e3.up ⟨ds, idx + 1, d / n, ex, hqp, ?_, ?_, hds, by omega, Int.ediv_nonneg hd (by omega), hex⟩
    · rw [upd_same]
      rfl
    · rw [upd_ne hqp]
      exact h3q
  · walk_at "rd"
    refine ⟨p, _, 2, _, rfl, rfl, SqL.of hp, at2, ?_⟩
    walk_at "rd"
    refine rd_modX (by omega) fun k hk1 hk2 => ?_
    walk_at "rd"
    refine ⟨p, _, 2, _, rfl, rfl, SqL.of hp, at2, ?_⟩
    walk_at "rd"
    refine ⟨pool, n, rfl, rfl, ⟨by omega, by omega⟩, ?_⟩
    walk_at "rd"
    refine ⟨p, _, 2, 2, rfl, rfl, hp, ix2, ?_⟩
    walk_at "rd"
    refine hQ k _ hk1 hk2 Xp.rfl'.up ⟨ds, idx, pool / n, ex, hqp, ?_, ?_, hds, by omega, Int.ediv_nonneg hpool (by omega), hex⟩
    · rw [upd_same]
      rfl
    · rw [upd_ne hqp]
      exact hq
theorem pick01 {d : Int} (h0 : 0 ≤ d) (h1 : d < 2) : ∃ c : Bool, rIxS (.str ("01" : Str)) (.int d) = rIxS (.str ("01" : Str)) (.int (if c then 1 else 0)) ∧ d = if c then 1 else 0 := by
  by_cases e : d = 0
  · exact ⟨false, by rw [e]; rfl, e⟩
  · have e2 : d = 1 := by omega
    exact ⟨true, by rw [e2]; rfl, e2⟩
theorem rd_01 {d : Int} {H : Hp} {Q : VK} (h0 : 0 ≤ d) (h1 : d < 2) (q : ∀ c : Bool, Q (vb [c]) H) : rIxS (.str ("01" : Str)) (.int d) H Q := by
  by_cases e : d = 0
  · subst e
    exact ⟨_, 0, 48, rfl, rfl, by decide +kernel, by decide +kernel, q false⟩
  · obtain rfl : d = 1 := by omega
    exact ⟨_, 1, 49, rfl, rfl, by decide +kernel, by decide +kernel, q true⟩
theorem join_bits0 : ∀ (b : Bits), Str.join ("" : Str) (b.map fun c => bstr [c]) = bstr b
  | [] => by rw [bstr_nil]; rfl
  | [c] => rfl
  | c :: d :: b => by
    have ih : Str.join ("" : Str) (bstr [d] :: b.map fun c => bstr [c]) = bstr (d :: b) := join_bits0 (d :: b)
    show bstr [c] ++ ("" : Str) ++ Str.join ("" : Str) (bstr [d] :: b.map fun c => bstr [c]) = _
    rw [ih, ← bstr_nil, bstr_app, bstr_app]
    simp
theorem join_bits (b : Bits) : Txt.join ("" : Str) (b.map fun c => bstr [c]) = bstr b := by
  show Builtin.Str.glued _ _ = _
  rw [StrLaws.glued_eq_join, join_bits0]
theorem sum_one : ∀ b : Bits, ((b.map fun c => bstr [c]).map (·.length)).sum = b.length
  | [] => rfl
  | c :: b => by
    rw [List.map_cons, List.map_cons, List.sum_cons, sum_one b, bstr_len]
    exact Nat.add_comm 1 b.length
def sp_bits : Sp := fun vs H Q _ => vs.length = 2 ∧ ∃ (p q : Addr) (N n : Nat), vs = [.ref p, .int (n : Int)] ∧ Pen H p q N ∧ N + 50 < 100000 ∧ n ≤ 40 ∧ ∀ (b : Bits) H', b.length ≤ n → Xp p H H' → Pen H' p q (N + n + 1) → Q (.str (bstr b)) H'
theorem sc__law_bits : FnScope ["pen", "size", "turn"] ["pen", "size"] (defScope s__law_bits) := ⟨rfl, rfl, rfl, by decide +kernel, rfl, by decide +kernel, by decide +kernel⟩
theorem ok__law_bits (T : Txt K mg) : OkF P w K mg base 3 "_law_bits" ["pen", "size"] sp_bits := by
  obtain ⟨fd, F⟩ := T.D__law_bits
  refine ⟨_, fd, T.g__law_bits, F.kp, (F.bindsN fun _ _ _ _ _ _ us hl => match us, hl with | [_, _], _ => rfl), (F.ok sc__law_bits (fun vs H Q E h => h.1) fun cdv A outer s H vs Q E hr h => ?_)⟩
  refine ⟨_, (pss_one (ps_ret (pe_join pe_str (pe_lc rfl sc__law_bits.nd (pi_range1 (by rfl) T.free_range (pa_cons (pcl (ok__law_draw T) (hr.mono (by decide)) rfl (pa_cons (pv 0) (pa_cons (pe_op op_add (pv 1) pe_int) pa_nil))) pa_nil)) (blkOk_by (N := ["pen", "size", "turn"]) (sc := defScope s__law_bits) (own := [("turn", 2)]) (by decide +kernel)) (fun _ _ _ _ _ => (pg_name (i := 2) sc__law_bits.nd rfl (by first | exact Or.inl rfl | exact Or.inr rfl))) (fun _ _ _ _ _ => pts_nil) (fun _ _ _ _ _ => (pe_ix ix_str pe_str (pcl (ok__law_draw T) (hr.mono (by decide)) rfl (pa_cons (pv 0) (pa_cons pe_int pa_nil))) (fun _ _ => rfl))))))), ?_⟩
  obtain ⟨_, p, q, N, n, rfl, hpen, hN, hn, hQ⟩ := h
  walk_at "rd"
  refine ⟨⟨_, rfl⟩, ?_⟩
  walk_at "rd"
  refine ⟨rfl, p, q, N, _, rfl, hpen, by omega, by omega, by omega, fun d H1 hd1 hd2 e1 hp1 => ?_⟩
  walk_at "rd"
  refine ⟨d, rfl, by omega, by omega, ?_⟩
  intro D hD
  have hpD := hp1.nep hD
  have hqD := hp1.neq hD
  refine lcI src_range (fun i acc H' => ∃ b : Bits, acc = b.map (fun c => vb [c]) ∧ b.length = i ∧ i ≤ n ∧ H' D = some (.lst acc) ∧ Pen H' p q (N + 1 + i) ∧ ∀ a o, a ≠ p → a ≠ D → H1 a = some o → H' a = some o)
    ⟨[], rfl, rfl, Nat.zero_le _, upd_same, hp1.up hD, fun a o _ ha h => by rw [upd_ne ha]; exact h⟩ (fun _ _ _ _ _ => trivial) (fun i acc H' ⟨b, eb, hl, hin, hd, _⟩ => ⟨hd, by rw [eb, List.length_map]; omega⟩) (fun i x acc H' hx ⟨b, eb, hl, hin, hacc, hpen', hk⟩ R S hR _ => ?_) fun acc H' ⟨b, eb, hl, hin, hacc, hpen', hk⟩ => ?_
  · refine ⟨rfl, ?_⟩
    have hi : i < d.toNat := by
      have := (List.getElem?_eq_some_iff.mp hx).1
      simpa using this
    walk_at "rd"
    refine ⟨rfl, p, q, N + 1 + i, 2, rfl, hpen', by omega, by decide, by decide, fun k H2 hk1 hk2 e2 hp2 => ?_⟩
    have h2D := e2 D _ (Ne.symm hpD) hacc
    refine rd_01 hk1 hk2 fun c => hR _ _ h2D ⟨b ++ [c], by rw [eb, List.map_append]; rfl, by rw [List.length_append, hl]; rfl, by omega, upd_same, ?_, fun a o ha1 ha2 h => ?_⟩
    · exact hp2.upNe hpD hqD
    · rw [upd_ne ha2]
      exact e2 a o ha1 (hk a o ha1 ha2 h)
  · rw [List.length_map, List.length_range] at hl
    walk_at "rd"
    refine ⟨_, D, b.map (fun c => bstr [c]), rfl, rfl, .inl (SqL.of (by rw [hacc, eb, List.map_map]; rfl)), ?_, ?_⟩
    · rw [sum_one, List.length_map]
      show b.length + b.length * 0 ≤ _
      omega
    · rw [join_bits]
      refine hQ b H' (by omega) (fun a o ha h => ?_) (hpen'.mono (by omega))
      have h1 := e1 a o ha h
      exact hk a o ha (ne_of_none h1 hD) h1
def sp_size : Sp := fun vs H Q _ => vs.length = 1 ∧ ∃ (p q : Addr) (N : Nat), vs = [.ref p] ∧ Pen H p q N ∧ N < 90000 ∧ ∀ (n : Nat) H', 1 ≤ n → n ≤ 32 → Xp p H H' → Pen H' p q (N + 1) → Q (.int (n : Int)) H'
theorem sc__law_size : FnScope ["pen", "size"] ["pen"] (defScope s__law_size) := ⟨rfl, rfl, rfl, by decide +kernel, rfl, by decide +kernel, by decide +kernel⟩
theorem ok__law_size (T : Txt K mg) : OkF P w K mg base 3 "_law_size" ["pen"] sp_size := by
  obtain ⟨fd, F⟩ := T.D__law_size
  refine ⟨_, fd, T.g__law_size, F.kp, (F.bindsN fun _ _ _ _ _ _ us hl => match us, hl with | [_], _ => rfl), (F.ok sc__law_size (fun vs H Q E h => h.1) fun cdv A outer s H vs Q E hr h => ?_)⟩
  refine ⟨_, (pss_cons (ps_set (i := 1) sc__law_size.nd rfl (by first | exact Or.inl rfl | exact Or.inr rfl) (pe_ix (k_ixL (K := K)) (pe_lst (pa_cons pe_int (pa_cons pe_int (pa_cons pe_int (pa_cons pe_int (pa_cons pe_int (pa_cons pe_int pa_nil))))))) (pcl (ok__law_draw T) (hr.mono (by decide)) rfl (pa_cons (pv 0) (pa_cons pe_int pa_nil))) (fun _ _ => rfl)))
    (pss_cons (ps_if (PW.pt (pw_and (pt_cmpR op_eq (pv 1) pe_int (nomark _)) (pw_and1 (pt_cmpR op_gt (pe_callB (k_len (K := K)) (by rfl) T.free_len (by decide +kernel) (pa_cons (pv 0) pa_nil)) pe_int (nomark _)))))
    (pss_one (ps_ret pe_int))
    pss_nil)
    (pss_cons (ps_if (pt_cmpR op_eq (pv 1) pe_int (nomark _))
    (pss_one (ps_expr (k_bm (K := K) PySem.F.plainAttrs_list PySem.F.slot_list_append PySem.F.type_list_append mt_append (pv 0) (pa_cons pe_int pa_nil))))
    pss_nil)
    (pss_one (ps_ret (pv 1)))))), ?_⟩
  obtain ⟨_, p, q, N, rfl, hpen, hN, hQ⟩ := h
  walk_at "rd"
  refine ⟨by show 6 ≤ sizeLine; exact szl (by decide), fun l hl => ?_⟩
  walk_at "rd"
  refine ⟨rfl, p, q, N, 6, rfl, hpen.up hl, by omega, by decide, by decide, fun d H1 hd1 hd2 e1 hp1 => ?_⟩
  have hlp : l ≠ p := Ne.symm (hpen.nep hl)
  have h1l := e1 l _ hlp upd_same
  have x1 : Xp p H H1 := fun a o ha h => e1 a o ha (by rw [upd_ne (ne_of_none h hl)]; exact h)
  obtain ⟨x, hx, hat⟩ := atI_int (xs := [V.int 1, .int 2, .int 3, .int 3, .int 4, .int 32]) hd1 hd2
  obtain ⟨n, rfl, n1, n2⟩ : ∃ n : Nat, x = .int (n : Int) ∧ 1 ≤ n ∧ n ≤ 32 := by
    simp only [List.mem_cons, List.not_mem_nil, or_false] at hx
    rcases hx with rfl | rfl | rfl | rfl | rfl | rfl
    · exact ⟨1, rfl, by decide, by decide⟩
    · exact ⟨2, rfl, by decide, by decide⟩
    · exact ⟨3, rfl, by decide, by decide⟩
    · exact ⟨3, rfl, by decide, by decide⟩
    · exact ⟨4, rfl, by decide, by decide⟩
    · exact ⟨32, rfl, by decide, by decide⟩
  refine ⟨l, _, d, _, rfl, rfl, SqL.of h1l, hat, ?_⟩
  obtain ⟨ds, idx, pool, ex, hqp, hp, hq, hds, hidx, hpool, hex⟩ := hp1
  walk_at "rd"
  refine iteD (fun h32 => ?_) (fun h32 => ?_)
  · walk_at "rd"
    refine rd_lenL (SqL.of hp) ?_
    walk_at "rd"
    refine iteD (fun h3 => ?_) (fun h3 => ?_)
    · walk_at "rd"
      exact hQ 5 H1 (by decide) (by decide) x1 ⟨ds, idx, pool, ex, hqp, hp, hq, hds, hidx, hpool, hex⟩
    · walk_at "rd"
      rw [decide_eq_true h32]
      walk_at "rd"
      refine ⟨tyL hp, p, _, .int 1, rfl, rfl, hp, szlt (by simp only [List.length_cons]; omega), ?_⟩
      walk_at "rd"
      refine hQ n _ n1 n2 x1.up ⟨ds, idx, pool, ex ++ [.int 1], hqp, by rw [upd_same]; rfl, by rw [upd_ne hqp]; exact hq, hds, hidx, hpool, ?_⟩
      simp only [List.length_cons] at h3
      rw [List.length_append, List.length_singleton]
      omega
  · walk_at "rd"
    rw [decide_eq_false h32]
    walk_at "rd"
    exact hQ n H1 n1 n2 x1 ⟨ds, idx, pool, ex, hqp, hp, hq, hds, hidx, hpool, hex⟩
theorem min5 (n : Nat) : (if (5 : Int) < (n : Int) then 5 else (n : Int)) = ((min 5 n : Nat) : Int) := by
  split <;> omega
def sp_prefixes : Sp := fun vs H Q _ => vs.length = 3 ∧ ∃ (p q : Addr) (N n m : Nat), vs = [.ref p, .int (n : Int), .int (m : Int)] ∧ Pen H p q N ∧ N + 1000 < 90000 ∧ n ≤ 32 ∧ m ≤ 7 ∧
  ∀ (H' : Hp) (f : Addr) (bs : List Bits), Xp p H H' → H f = none → Pen H' p q (N + 100) → H' f = some (.lst (bs.map vb)) → bs.Nodup → (∀ b ∈ bs, b.length ≤ n) → bs.length ≤ m → Q (.ref f) H'
theorem sc__law_prefixes : FnScope ["pen", "size", "most", "found", "turn", "start", "prefix"] ["pen", "size", "most"] (defScope s__law_prefixes) := ⟨rfl, rfl, rfl, by decide +kernel, rfl, by decide +kernel, by decide +kernel⟩
theorem ok__law_prefixes (T : Txt K mg) : OkF P w K mg base 4 "_law_prefixes" ["pen", "size", "most"] sp_prefixes := by
  obtain ⟨fd, F⟩ := T.D__law_prefixes
  refine ⟨_, fd, T.g__law_prefixes, F.kp, (F.bindsN fun _ _ _ _ _ _ us hl => match us, hl with | [_, _, _], _ => rfl), (F.ok sc__law_prefixes (fun vs H Q E h => h.1) fun cdv A outer s H vs Q E hr h => ?_)⟩
  refine ⟨_, (pss_cons (ps_set (i := 3) sc__law_prefixes.nd rfl (by first | exact Or.inl rfl | exact Or.inr rfl) (pe_lst pa_nil))
    (pss_cons (ps_for (passes_of rfl) rfl (pi_range1 (by rfl) T.free_range (pa_cons (pcl (ok__law_draw T) (hr.mono (by decide)) rfl (pa_cons (pv 0) (pa_cons (pe_op op_add (pv 2) pe_int) pa_nil))) pa_nil)) (pg_name (i := 4) sc__law_prefixes.nd rfl (by first | exact Or.inl rfl | exact Or.inr rfl))
    (pss_cons (ps_set (i := 5) sc__law_prefixes.nd rfl (by first | exact Or.inl rfl | exact Or.inr rfl) (pe_ifExp (PW.pt (pw_and (pt_cmpR (k_neD (K := K) hr.units) (pv 3) (pe_lst pa_nil) (nomark _)) (pw_and1 (pt_cmpR op_eq (pcl (ok__law_draw T) (hr.mono (by decide)) rfl (pa_cons (pv 0) (pa_cons pe_int pa_nil))) pe_int (nomark _))))) (pe_ix (k_ixL (K := K)) (pv 3) (pcl (ok__law_draw T) (hr.mono (by decide)) rfl (pa_cons (pv 0) (pa_cons (pe_callB (k_len (K := K)) (by rfl) T.free_len (by decide +kernel) (pa_cons (pv 3) pa_nil)) pa_nil))) (fun _ _ => rfl)) pe_str))
    (pss_cons (ps_set (i := 6) sc__law_prefixes.nd rfl (by first | exact Or.inl rfl | exact Or.inr rfl) (pe_slice sl_str (pe_op k_addZ (pv 5) (pcl (ok__law_bits T) (hr.mono (by decide)) rfl (pa_cons (pv 0) (pa_cons (pe_callB k_min2 (by rfl) T.free_min (by decide +kernel) (pa_cons (pv 1) (pa_cons pe_int pa_nil))) pa_nil)))) po_none (po_some (pv 1))))
    (pss_one (ps_if (pt_cmpR (k_notIn (K := K)) (pv 6) (pv 3) rfl)
    (pss_one (ps_expr (k_bm (K := K) PySem.F.plainAttrs_list PySem.F.slot_list_append PySem.F.type_list_append mt_append (pv 3) (pa_cons (pv 6) pa_nil))))
    pss_nil)))))
    (pss_one (ps_ret (pv 3))))), ?_⟩
  obtain ⟨_, p, q, N, n, m, rfl, hpen, hN, hn, hm, hQ⟩ := h
  walk_at "rd"
  refine ⟨Nat.zero_le _, fun f hf0 => ?_⟩
  have hfp : f ≠ p := Ne.symm (hpen.nep hf0)
  have hfq : q ≠ f := hpen.neq hf0
  walk_at "rd"
  refine ⟨rfl, p, q, N, _, rfl, hpen.up hf0, by omega, by omega, by omega, fun d H1 hd1 hd2 e1 hp1 => ?_⟩
  have x1 : Xp p H H1 := fun a o ha h => e1 a o ha (by rw [upd_ne (ne_of_none h hf0)]; exact h)
  have h1f : H1 f = some (.lst (([] : List Bits).map vb)) := e1 f _ hfp upd_same
  walk_at "rd"
  refine ⟨d, rfl, by omega, by omega, ?_⟩
  refine forR (fun i σ' H' => (∃ z1 z2 z3, σ' = [some (.ref p), some (.int (n : Int)), some (.int (m : Int)), some (.ref f), z1, z2, z3]) ∧ Pen H' p q (N + 1 + 10 * i) ∧ Xp p H H' ∧
      ∃ bs : List Bits, H' f = some (.lst (bs.map vb)) ∧ bs.Nodup ∧ (∀ b ∈ bs, b.length ≤ n) ∧ bs.length ≤ i)
    ⟨⟨none, none, none, rfl⟩, hp1, x1, [], h1f, List.Pairwise.nil, (fun b hb => by cases hb), Nat.le_refl _⟩ (fun i σ' H2 hi ⟨⟨z1, z2, z3, eσ⟩, hp2, x2, bs, hf2, nd, hbl, hlen⟩ => ?_) fun σ' H2 ⟨⟨z1, z2, z3, eσ⟩, hp2, x2, bs, hf2, nd, hbl, hlen⟩ => ?_
  · have him : i < m + 1 := by omega
    subst eσ
    walk_at "rd"
    refine ⟨Nat.zero_le _, fun l hl => ?_⟩
    have h3f : (upd H2 l (.lst [])) f = some (.lst (bs.map vb)) := by rw [upd_ne (ne_of_none hf2 hl)]; exact hf2
    refine ⟨_, _, .lst (SqL.of h3f) (dpAll_bits bs), .lst (SqL.of upd_same) .nil, shaped_bits bs, rfl, ?_⟩
    rw [eqv_nil]
    have hp3 : Pen (upd H2 l (.lst [])) p q (N + 1 + 10 * i) := hp2.up hl
    have x3 : Xp p H (upd H2 l (.lst [])) := fun a o ha h => by
      have h2 := x2 a o ha h
      rw [upd_ne (ne_of_none h2 hl)]
      exact h2
    generalize upd H2 l (.lst []) = H3 at h3f hp3 x3
    cases he : (bs.map fun b => PyData.str (bstr b)).isEmpty with
    | true =>
      walk_at "rd"
      rw [show V.str (Str.ofString "") = vb [] from by show V.str _ = V.str _; rw [bstr_nil]]
      have hsl : ([] : Bits).length ≤ n := Nat.zero_le _
      walk_at "rd"
      rw [min5]
      refine ⟨rfl, p, q, N + 1 + 10 * i, min 5 n, rfl, hp3, by omega, by omega, fun b2 H5 hb2 e5 hp5 => ?_⟩
      refine rd_addZ (by rw [bstr_len, bstr_len]; exact szl (by omega)) ?_
      rw [bstr_app]
      walk_at "rd"
      refine rd_slS (by rw [bstr_len, List.length_append]; exact szl (by omega)) ?_
      rw [cut_to]
      have hpl : ((([] : Bits) ++ b2).take n).length ≤ n := by rw [List.length_take]; omega
      generalize (([] : Bits) ++ b2).take n = pre at hpl
      have hf5 : H5 f = some (.lst (bs.map vb)) := e5 f _ hfp h3f
      have x5 : Xp p H H5 := x3.tr e5
      walk_at "rd"
      refine ⟨f, bs.map vb, rfl, .inl (SqL.of hf5), rfl, flat_bits bs, ?_⟩
      rw [show (if true = true then !inV (V.str (bstr pre)) (bs.map vb) else inV (V.str (bstr pre)) (bs.map vb)) = !decide (pre ∈ bs) by rw [if_pos rfl]; rw [show V.str (bstr pre) = vb pre from rfl, inV_bits]]
      refine ⟨_, rfl, ?_⟩
      refine iteN (fun hin => ?_) (fun hin => ?_)
      · walk_at "rd"
        exact ⟨⟨_, _, _, rfl⟩, hp5.mono (by omega), x5, bs, hf5, nd, hbl, by omega⟩
      · walk_at "rd"
        refine ⟨tyL hf5, ?_⟩
        walk_at "rd"
        refine ⟨f, bs.map vb, vb pre, rfl, rfl, hf5, by rw [List.length_map]; exact szlt (by omega), ?_⟩
        refine ⟨⟨_, _, _, rfl⟩, (hp5.upNe (Ne.symm hfp) hfq).mono (by omega), x5.nw hf0, bs ++ [pre], by rw [upd_same, List.map_append]; rfl, ?_, fun b hb => ?_, by rw [List.length_append, List.length_singleton]; omega⟩
        · rw [List.nodup_append]
          exact ⟨nd, by simp, fun a ha c hc => by rw [List.mem_singleton.mp hc]; exact fun z => hin (z ▸ ha)⟩
        · rcases List.mem_append.mp hb with z | z
          · exact hbl b z
          · rw [List.mem_singleton.mp z]
            exact hpl
    | false =>
      walk_at "rd"
      refine ⟨rfl, p, q, N + 1 + 10 * i, 2, rfl, hp3, by omega, by decide, by decide, fun k H4 hk1 hk2 e4 hp4 => ?_⟩
      have h4f := e4 f _ hfp h3f
      have x4 : Xp p H H4 := x3.tr e4
      walk_at "rd"
      refine iteD (fun hk => ?_) (fun hk => ?_)
      · walk_at "rd"
        refine rd_lenL (SqL.of h4f) ?_
        rw [List.length_map]
        have hne : 0 < bs.length := by
          cases bs with
          | nil => cases he
          | cons _ _ => simp
        refine ⟨rfl, p, q, N + 1 + 10 * i + 1, _, rfl, hp4, by omega, by omega, by omega, fun k2 H6 hk3 hk4 e6 hp6 => ?_⟩
        have h6f := e6 f _ hfp h4f
        have x6 : Xp p H H6 := x4.tr e6
        obtain ⟨x, hx, hat⟩ := atI_int (xs := bs.map vb) hk3 (by rw [List.length_map]; exact hk4)
        obtain ⟨s0, hs0, rfl⟩ := List.mem_map.mp hx
        have hsl := hbl s0 hs0
        refine ⟨f, _, k2, _, rfl, rfl, SqL.of h6f, hat, ?_⟩
        walk_at "rd"
        rw [min5]
        refine ⟨rfl, p, q, N + 1 + 10 * i + 1 + 1, min 5 n, rfl, hp6, by omega, by omega, fun b2 H5 hb2 e5 hp5 => ?_⟩
        refine rd_addZ (by rw [bstr_len, bstr_len]; exact szl (by omega)) ?_
        rw [bstr_app]
        walk_at "rd"
        refine rd_slS (by rw [bstr_len, List.length_append]; exact szl (by omega)) ?_
        rw [cut_to]
        have hpl : ((s0 ++ b2).take n).length ≤ n := by rw [List.length_take]; omega
        generalize (s0 ++ b2).take n = pre at hpl
        have hf5 : H5 f = some (.lst (bs.map vb)) := e5 f _ hfp h6f
        have x5 : Xp p H H5 := x6.tr e5
        walk_at "rd"
        refine ⟨f, bs.map vb, rfl, .inl (SqL.of hf5), rfl, flat_bits bs, ?_⟩
        rw [show (if true = true then !inV (V.str (bstr pre)) (bs.map vb) else inV (V.str (bstr pre)) (bs.map vb)) = !decide (pre ∈ bs) by rw [if_pos rfl]; rw [show V.str (bstr pre) = vb pre from rfl, inV_bits]]
        refine ⟨_, rfl, ?_⟩
        refine iteN (fun hin => ?_) (fun hin => ?_)
        · walk_at "rd"
          exact ⟨⟨_, _, _, rfl⟩, hp5.mono (by omega), x5, bs, hf5, nd, hbl, by omega⟩
        · walk_at "rd"
          refine ⟨tyL hf5, ?_⟩
          walk_at "rd"
          refine ⟨f, bs.map vb, vb pre, rfl, rfl, hf5, by rw [List.length_map]; exact szlt (by omega), ?_⟩
          refine ⟨⟨_, _, _, rfl⟩, (hp5.upNe (Ne.symm hfp) hfq).mono (by omega), x5.nw hf0, bs ++ [pre], by rw [upd_same, List.map_append]; rfl, ?_, fun b hb => ?_, by rw [List.length_append, List.length_singleton]; omega⟩
          · rw [List.nodup_append]
            exact ⟨nd, by simp, fun a ha c hc => by rw [List.mem_singleton.mp hc]; exact fun z => hin (z ▸ ha)⟩
          · rcases List.mem_append.mp hb with z | z
            · exact hbl b z
            · rw [List.mem_singleton.mp z]
              exact hpl
      · walk_at "rd"
        rw [show V.str (Str.ofString "") = vb [] from by show V.str _ = V.str _; rw [bstr_nil]]
        have hsl : ([] : Bits).length ≤ n := Nat.zero_le _
        walk_at "rd"
        rw [min5]
        refine ⟨rfl, p, q, N + 1 + 10 * i + 1, min 5 n, rfl, hp4, by omega, by omega, fun b2 H5 hb2 e5 hp5 => ?_⟩
        refine rd_addZ (by rw [bstr_len, bstr_len]; exact szl (by omega)) ?_
        rw [bstr_app]
        walk_at "rd"
        refine rd_slS (by rw [bstr_len, List.length_append]; exact szl (by omega)) ?_
        rw [cut_to]
        have hpl : ((([] : Bits) ++ b2).take n).length ≤ n := by rw [List.length_take]; omega
        generalize (([] : Bits) ++ b2).take n = pre at hpl
        have hf5 : H5 f = some (.lst (bs.map vb)) := e5 f _ hfp h4f
        have x5 : Xp p H H5 := x4.tr e5
        walk_at "rd"
        refine ⟨f, bs.map vb, rfl, .inl (SqL.of hf5), rfl, flat_bits bs, ?_⟩
        rw [show (if true = true then !inV (V.str (bstr pre)) (bs.map vb) else inV (V.str (bstr pre)) (bs.map vb)) = !decide (pre ∈ bs) by rw [if_pos rfl]; rw [show V.str (bstr pre) = vb pre from rfl, inV_bits]]
        refine ⟨_, rfl, ?_⟩
        refine iteN (fun hin => ?_) (fun hin => ?_)
        · walk_at "rd"
          exact ⟨⟨_, _, _, rfl⟩, hp5.mono (by omega), x5, bs, hf5, nd, hbl, by omega⟩
        · walk_at "rd"
          refine ⟨tyL hf5, ?_⟩
          walk_at "rd"
          refine ⟨f, bs.map vb, vb pre, rfl, rfl, hf5, by rw [List.length_map]; exact szlt (by omega), ?_⟩
          refine ⟨⟨_, _, _, rfl⟩, (hp5.upNe (Ne.symm hfp) hfq).mono (by omega), x5.nw hf0, bs ++ [pre], by rw [upd_same, List.map_append]; rfl, ?_, fun b hb => ?_, by rw [List.length_append, List.length_singleton]; omega⟩
          · rw [List.nodup_append]
            exact ⟨nd, by simp, fun a ha c hc => by rw [List.mem_singleton.mp hc]; exact fun z => hin (z ▸ ha)⟩
          · rcases List.mem_append.mp hb with z | z
            · exact hbl b z
            · rw [List.mem_singleton.mp z]
              exact hpl
  · subst eσ
    walk_at "rd"
    have hdm : d.toNat ≤ m := by omega
    exact hQ H2 f bs x2 hf0 (hp2.mono (by omega)) hf2 nd hbl (by omega)
def ROk (n : Nat) (r : Rows) : Prop := (r.map (·.1)).Nodup ∧ ∀ x ∈ r, x.1.length ≤ n ∧ isTgt x.2 = true
def sp_lines : Sp := fun vs H Q _ => vs.length = 3 ∧ ∃ (p q : Addr) (N n m : Nat), vs = [.ref p, .int (n : Int), .int (m : Int)] ∧ Pen H p q N ∧ N + 2000 < 90000 ∧ n ≤ 32 ∧ m ≤ 7 ∧
  ∀ (H' : Hp) (d : Addr) (r : Rows), Xp p H H' → H d = none → Pen H' p q (N + 200) → H' d = some (.dK (rK r)) → ROk n r → r.length ≤ m → Q (.ref d) H'
theorem sc__law_lines : FnScope ["pen", "size", "most", "names_used", "prefix"] ["pen", "size", "most"] (defScope s__law_lines) := ⟨rfl, rfl, rfl, by decide +kernel, rfl, by decide +kernel, by decide +kernel⟩
theorem ok__law_lines (T : Txt K mg) : OkF P w K mg base 5 "_law_lines" ["pen", "size", "most"] sp_lines := by
  obtain ⟨fd, F⟩ := T.D__law_lines
  refine ⟨_, fd, T.g__law_lines, F.kp, (F.bindsN fun _ _ _ _ _ _ us hl => match us, hl with | [_, _, _], _ => rfl), (F.ok sc__law_lines (fun vs H Q E h => h.1) fun cdv A outer s H vs Q E hr h => ?_)⟩
  refine ⟨_, (pss_cons (ps_set (i := 3) sc__law_lines.nd rfl (by first | exact Or.inl rfl | exact Or.inr rfl) (pe_lst (pa_cons pe_str (pa_cons pe_str (pa_cons pe_str (pa_cons pe_str pa_nil))))))
    (pss_one (ps_ret (pe_callTy (k_dictP (K := K)) (by rfl) T.free_dict (by decide +kernel) (pa_cons (pe_lc rfl sc__law_lines.nd (k_itL (K := K) (pcl (ok__law_prefixes T) (hr.mono (by decide)) rfl (pa_cons (pv 0) (pa_cons (pv 1) (pa_cons (pv 2) pa_nil))))) (blkOk_by (N := ["pen", "size", "most", "names_used", "prefix"]) (sc := defScope s__law_lines) (own := [("prefix", 4)]) (by decide +kernel)) (fun _ _ _ _ _ => (pg_name (i := 4) sc__law_lines.nd rfl (by first | exact Or.inl rfl | exact Or.inr rfl))) (fun _ _ _ _ _ => pts_nil) (fun _ _ _ _ _ => (pe_tup (pa_cons (pv 4) (pa_cons (pe_ix (k_ixL (K := K)) (pv 3) (pcl (ok__law_draw T) (hr.mono (by decide)) rfl (pa_cons (pv 0) (pa_cons pe_int pa_nil))) (fun _ _ => rfl)) pa_nil))))) pa_nil))))), ?_⟩
  obtain ⟨_, p, q, N, n, m, rfl, hpen, hN, hn, hm, hQ⟩ := h
  walk_at "rd"
  refine ⟨by show 4 ≤ sizeLine; exact szl (by decide), fun l hl => ?_⟩
  have hlp := hpen.nep hl
  walk_at "rd"
  refine ⟨rfl, p, q, N, n, m, rfl, hpen.up hl, by omega, hn, hm, fun H1 f bs x1 hf0 hp1 hf1 nd hbl hlen => ?_⟩
  have h1l : H1 l = some (.lst [.str "a", .str "ab", .str "b", .str "any"]) := x1 l _ (Ne.symm hlp) upd_same
  have x1 : Xp p H H1 := fun a o ha h => x1 a o ha (by rw [upd_ne (ne_of_none h hl)]; exact h)
  have hfp : f ≠ p := Ne.symm ((hpen.up hl).nep hf0)
  refine ⟨f, rfl, ⟨_, SqL.of hf1⟩, ?_⟩
  intro D hD
  have hpD := hp1.nep hD
  have hqD := hp1.neq hD
  have hfD : f ≠ D := ne_of_none hf1 hD
  have hlD : l ≠ D := ne_of_none h1l hD
  refine lcI src_list (fun i acc H' => ∃ (ts : List Addr) (r : Rows), acc = ts.map V.ref ∧ r.map (·.1) = bs.take i ∧ (∀ x ∈ r, isTgt x.2 = true) ∧ ts.length = i ∧ i ≤ bs.length ∧ H' D = some (.lst acc) ∧ RowsAt H' ts r ∧ Pen H' p q (N + 100 + i) ∧ Xp p H H' ∧ H' f = some (.lst (bs.map vb)) ∧ H' l = some (.lst [.str "a", .str "ab", .str "b", .str "any"]))
    ⟨[], [], rfl, rfl, (fun x hx => by cases hx), rfl, Nat.zero_le _, upd_same, .nil, hp1.up hD, (fun a o ha h => by have h1 := x1 a o ha h; rw [upd_ne (ne_of_none h1 hD)]; exact h1), by rw [upd_ne hfD]; exact hf1, by rw [upd_ne hlD]; exact h1l⟩
    (fun i acc H' _ ⟨ts, r, _, _, _, _, _, _, _, _, _, hf, _⟩ => SqL.of hf) (fun i acc H' ⟨ts, r, ea, _, _, hl2, hi, hd, _⟩ => ⟨hd, by rw [ea, List.length_map]; omega⟩)
    (fun i x acc H2 hx ⟨ts, r, ea, ek, hv, htl, hi, hacc, hrows, hp2, x2, hf2, hl2⟩ R S hR _ => ?_) fun acc H2 ⟨ts, r, ea, ek, hv, htl, hi, hacc, hrows, hp2, x2, hf2, hl2⟩ => ?_
  · refine ⟨rfl, ?_⟩
    have hib : i < bs.length := by
      have := (List.getElem?_eq_some_iff.mp hx).1
      simpa using this
    rw [List.getElem?_map, List.getElem?_eq_getElem hib] at hx
    obtain ⟨b, eb⟩ : ∃ b, b = bs[i] := ⟨_, rfl⟩
    rw [← eb] at hx
    obtain rfl : vb b = x := Option.some.inj hx
    have et : bs.take (i + 1) = bs.take i ++ [b] := by rw [List.take_succ, List.getElem?_eq_getElem hib, ← eb]; rfl
    walk_at "rd"
    refine ⟨rfl, p, q, N + 100 + i, 4, rfl, hp2, by omega, by decide, by decide, fun k H3 hk1 hk2 e3 hp3 => ?_⟩
    obtain ⟨x, hx, hat⟩ := atI_int (xs := [V.str "a", .str "ab", .str "b", .str "any"]) hk1 hk2
    obtain ⟨t, rfl, ht⟩ : ∃ t : Str, x = .str t ∧ isTgt t = true := by
      simp only [List.mem_cons, List.not_mem_nil, or_false] at hx
      rcases hx with rfl | rfl | rfl | rfl
      · exact ⟨_, rfl, by decide +kernel⟩
      · exact ⟨_, rfl, by decide +kernel⟩
      · exact ⟨_, rfl, by decide +kernel⟩
      · exact ⟨_, rfl, by decide +kernel⟩
    have h3l := e3 l _ (Ne.symm hlp) hl2
    refine ⟨l, _, k, _, rfl, rfl, SqL.of h3l, hat, ?_⟩
    walk_at "rd"
    refine ⟨by show 2 ≤ sizeLine; exact szl (by decide), fun u hu => ?_⟩
    have h3D := e3 D _ (Ne.symm hpD) hacc
    have hDu : D ≠ u := ne_of_none h3D hu
    have h3f := e3 f _ hfp hf2
    have hrows3 : RowsAt H3 ts r := hrows.ex fun a xs h => e3 a _ (fun z => by obtain ⟨ys, hy⟩ := hp2.at; rw [z, hy] at h; cases h) h
    refine hR _ _ (by rw [upd_ne hDu]; exact h3D) ⟨ts ++ [u], r ++ [(b, t)], by rw [ea, List.map_append]; rfl, by rw [List.map_append, ek, et]; rfl, fun x hx => ?_, by rw [List.length_append, htl]; rfl, hib, upd_same, ?_, ?_, ?_, ?_, ?_⟩
    · rcases List.mem_append.mp hx with z | z
      · exact hv x z
      · rw [List.mem_singleton.mp z]; exact ht
    · refine RowsAt.snoc ?_ (hrows3.ex fun a xs h => ?_)
      · rw [upd_ne (Ne.symm hDu), upd_same]
      · rw [upd_ne (fun z => by rw [z, h3D] at h; cases h), upd_ne (ne_of_none h hu)]
        exact h
    · exact ((hp3.up hu).upNe hpD hqD).mono (by omega)
    · intro a o ha h
      have h1 := x1 a o ha h
      have h2 := x2 a o ha h
      rw [upd_ne (ne_of_none h1 hD), upd_ne (ne_of_none (e3 a o ha h2) hu)]
      exact e3 a o ha h2
    · rw [upd_ne hfD, upd_ne (ne_of_none h3f hu)]
      exact h3f
    · rw [upd_ne hlD, upd_ne (ne_of_none h3l hu)]
      exact h3l
  · rw [List.length_map, List.take_length] at ek
    rw [List.length_map] at htl hp2
    have ndr : (r.map (·.1)).Nodup := by rw [ek]; exact nd
    walk_at "rd"
    refine ⟨D, ts, rK r, rfl, SqL.of (by rw [hacc, ea]), hrows.pairs, fun d hd => ?_⟩
    rw [mergeK_rK ndr]
    have hd0 : H d = none := by
      cases h0 : H d with
      | none => rfl
      | some o =>
        by_cases hdp : d = p
        · obtain ⟨ys, hy⟩ := hp2.at
          rw [hdp, hy] at hd
          cases hd
        · rw [x2 d o hdp h0] at hd
          cases hd
    refine hQ _ d r (x2.nw hd0) hd0 ((hp2.up hd).mono (by omega)) upd_same ⟨ndr, fun x hx => ⟨hbl _ (by rw [← ek]; exact List.mem_map.mpr ⟨x, hx, rfl⟩), hv x hx⟩⟩ ?_
    have := congrArg List.length ek
    rw [List.length_map] at this
    omega
def sp_match : Sp := fun vs H Q _ => vs.length = 2 ∧ ∃ (d : Addr) (r : Rows) (b : Bits), vs = [.ref d, .str (bstr b)] ∧ H d = some (.dK (rK r)) ∧ (∀ x ∈ r, x.1.length ≤ 1000) ∧ Q (oB (longB r b)) H
theorem sc__law_match : FnScope ["lines", "spot", "found", "prefix"] ["lines", "spot"] (defScope s__law_match) := ⟨rfl, rfl, rfl, by decide +kernel, rfl, by decide +kernel, by decide +kernel⟩
theorem ok__law_match (T : Txt K mg) : OkF P w K mg base 1 "_law_match" ["lines", "spot"] sp_match := by
  obtain ⟨fd, F⟩ := T.D__law_match
  refine ⟨_, fd, T.g__law_match, F.kp, (F.bindsN fun _ _ _ _ _ _ us hl => match us, hl with | [_, _], _ => rfl), (F.ok sc__law_match (fun vs H Q E h => h.1) fun cdv A outer s H vs Q E hr h => ?_)⟩
  refine ⟨_, (pss_cons (ps_set (i := 2) sc__law_match.nd rfl (by first | exact Or.inl rfl | exact Or.inr rfl) pe_non)
    (pss_cons (ps_lock (ps_for (passes_of rfl) rfl (pi_keys (pv 0)) (pg_name (i := 3) sc__law_match.nd rfl (by first | exact Or.inl rfl | exact Or.inr rfl))
    (pss_one (ps_if (PW.pt (pw_and (pt_val (pe_m1 PySem.F.slot_str_startswith PySem.F.type_str_startswith mt_startswith (pv 1) (pv 3))) (pw_and1 (PW.pt (pw_or (pt_cmpR k_isN (pv 2) pe_non (nomark _)) (pw_or1 (pt_cmpR op_gt (pe_callB k_lenS (by rfl) T.free_len (by decide +kernel) (pa_cons (pv 3) pa_nil)) (pe_callB k_lenS (by rfl) T.free_len (by decide +kernel) (pa_cons (pv 2) pa_nil)) (nomark _))))))))
    (pss_one (ps_set (i := 2) sc__law_match.nd rfl (by first | exact Or.inl rfl | exact Or.inr rfl) (pv 3)))
    pss_nil))))
    (pss_one (ps_ret (pv 2))))), ?_⟩
  obtain ⟨_, d, r, b, rfl, hd, hr1, hQ⟩ := h
  walk_at "rd"
  refine ⟨d, _, hd, trivial, fun od => ?_⟩
  walk_at "rd"
  refine ⟨d, od, rfl, .inl ⟨rK r, upd_same, ?_⟩⟩
  have back : upd (upd H d (.frz od (.dK (rK r)))) d (.dK (rK r)) = H := by
    rw [upd_upd]
    funext a
    by_cases e : a = d
    · rw [e, upd_same, hd]
    · rw [upd_ne e]
  refine forG src_rows (fun i σ' H' => (∃ z, ∃ o : Option Bits, σ' = [some (.ref d), some (.str (bstr b)), some (oB o), z] ∧ Longest (r.take i) b o ∧ ∀ q, o = some q → q.length ≤ 1000) ∧ H' = upd H d (.frz od (.dK (rK r))))
    ⟨⟨none, none, rfl, (fun q hq => by cases hq), fun q hq => by cases hq⟩, rfl⟩ (fun i σ' H' _ h => by rw [h.2]; exact upd_same) (fun i x σ' H' hx ⟨⟨z, o, eσ, hlong, hol⟩, eH⟩ => ?_) fun σ' H' ⟨⟨z, o, eσ, hlong, hol⟩, eH⟩ => ?_
  · have hi : i < r.length := by
      have := (List.getElem?_eq_some_iff.mp hx).1
      simpa using this
    rw [List.getElem?_map, List.getElem?_map, List.getElem?_eq_getElem hi] at hx
    obtain ⟨k, t, ekt⟩ : ∃ k t, r[i] = (k, t) := ⟨_, _, rfl⟩
    rw [ekt] at hx
    obtain rfl : vb k = x := Option.some.inj hx
    have et : r.take (i + 1) = r.take i ++ [(k, t)] := by rw [List.take_succ, List.getElem?_eq_getElem hi, ekt]; rfl
    have hstep := Longest.step (t := t) (k := k) hlong
    rw [← et] at hstep
    have hk1 : k.length ≤ 1000 := hr1 (k, t) (by rw [← ekt]; exact List.getElem_mem hi)
    subst eσ eH
    walk_at "rd"
    refine ⟨⟨_, rfl⟩, ?_⟩
    walk_at "rd"
    refine ⟨_, _, rfl, rfl, ?_⟩
    rw [starts_bits]
    cases hpre : k.isPrefixOf b with
    | true =>
      walk_at "rd"
      cases o with
      | none =>
        unfold oB
        walk_at "rd"
        have es : longStep b k none = some k := by unfold longStep; rw [hpre]; rfl
        rw [es] at hstep
        exact ⟨⟨_, some k, rfl, hstep, fun q hq => by cases hq; exact hk1⟩, rfl⟩
      | some q0 =>
        have hq0 := hol q0 rfl
        unfold oB
        walk_at "rd"
        refine rd_lenZ (by rw [bstr_len]; exact szl (by omega)) ?_
        walk_at "rd"
        refine rd_lenZ (by rw [bstr_len]; exact szl (by omega)) ?_
        rw [bstr_len, bstr_len]
        walk_at "rd"
        refine iteD (fun hlt => ?_) (fun hlt => ?_)
        · walk_at "rd"
          have es : longStep b k (some q0) = some k := by unfold longStep; rw [hpre, Bool.true_and, if_pos (decide_eq_true (by omega))]
          rw [es] at hstep
          exact ⟨⟨_, some k, rfl, hstep, fun q hq => by cases hq; exact hk1⟩, rfl⟩
        · walk_at "rd"
          have es : longStep b k (some q0) = some q0 := by unfold longStep; rw [hpre, Bool.true_and, if_neg (by simpa using (by omega))]
          rw [es] at hstep
          exact ⟨⟨_, some q0, rfl, hstep, hol⟩, rfl⟩
    | false =>
      walk_at "rd"
      have es : longStep b k o = o := by unfold longStep; rw [hpre]; rfl
      rw [es] at hstep
      exact ⟨⟨_, o, rfl, hstep, hol⟩, rfl⟩
  · rw [List.length_map, List.length_map, List.take_length] at hlong
    subst eσ eH
    refine ⟨upd_same, ?_⟩
    rw [back]
    walk_at "rd"
    rw [Longest.uniq hlong (longB_longest r b)]
    exact hQ
def sp_lead : Sp := fun vs H Q _ => vs.length = 2 ∧ ∃ (d : Addr) (r : Rows) (b : Bits), vs = [.ref d, .str (bstr b)] ∧ H d = some (.dK (rK r)) ∧ (∀ x ∈ r, x.1.length ≤ 1000) ∧ Q (oV (leadB r b)) H
theorem sc__law_lead : FnScope ["lines", "spot", "found"] ["lines", "spot"] (defScope s__law_lead) := ⟨rfl, rfl, rfl, by decide +kernel, rfl, by decide +kernel, by decide +kernel⟩
theorem ok__law_lead (T : Txt K mg) : OkF P w K mg base 2 "_law_lead" ["lines", "spot"] sp_lead := by
  obtain ⟨fd, F⟩ := T.D__law_lead
  refine ⟨_, fd, T.g__law_lead, F.kp, (F.bindsN fun _ _ _ _ _ _ us hl => match us, hl with | [_, _], _ => rfl), (F.ok sc__law_lead (fun vs H Q E h => h.1) fun cdv A outer s H vs Q E hr h => ?_)⟩
  refine ⟨_, (pss_cons (ps_set (i := 2) sc__law_lead.nd rfl (by first | exact Or.inl rfl | exact Or.inr rfl) (pcl (ok__law_match T) (hr.mono (by decide)) rfl (pa_cons (pv 0) (pa_cons (pv 1) pa_nil))))
    (pss_one (ps_ret (pe_ifExp (pt_cmpR k_isN (pv 2) pe_non (nomark _)) pe_non (pe_dget (hu_of hr) (pv 0) (pv 2) (fun _ _ => rfl)))))), ?_⟩
  obtain ⟨_, d, r, b, rfl, hd, hr1, hQ⟩ := h
  walk_at "rd"
  refine ⟨rfl, d, r, b, rfl, hd, hr1, ?_⟩
  cases q : longB r b with
  | none =>
    unfold oB
    walk_at "rd"
    have el : leadB r b = none := by rw [leadB, q]; rfl
    rw [el] at hQ
    exact hQ
  | some c =>
    unfold oB
    walk_at "rd"
    have hc := longB_longest r b
    rw [q] at hc
    obtain ⟨t, ht⟩ := lookup_some_of_mem hc.1
    refine ⟨d, _, rfl, DG (.inl hd) ht, ?_⟩
    have el : leadB r b = some t := by rw [leadB, q]; exact ht
    rw [el] at hQ
    exact hQ
def sp_lclosed : Sp := fun vs H Q _ => vs.length = 1 ∧ ∃ (a : Addr) (bs : List Bits), vs = [.ref a] ∧ H a = some (.lst (bs.map vb)) ∧ (∀ b ∈ bs, b.length ≤ 32) ∧ bs.length ≤ 40 ∧ ∀ H' q, Ex H H' → H q = none → H' q = some (.lst ((closB bs).map vb)) → Q (.ref q) H'
theorem sc__law_closed : FnScope ["prefixes", "found", "prefix", "k"] ["prefixes"] (defScope s__law_closed) := ⟨rfl, rfl, rfl, by decide +kernel, rfl, by decide +kernel, by decide +kernel⟩
theorem ok__law_closed (T : Txt K mg) : OkF P w K mg base 1 "_law_closed" ["prefixes"] sp_lclosed := by
  obtain ⟨fd, F⟩ := T.D__law_closed
  refine ⟨_, fd, T.g__law_closed, F.kp, (F.bindsN fun _ _ _ _ _ _ us hl => match us, hl with | [_], _ => rfl), (F.ok sc__law_closed (fun vs H Q E h => h.1) fun cdv A outer s H vs Q E hr h => ?_)⟩
  refine ⟨_, (pss_cons (ps_set (i := 1) sc__law_closed.nd rfl (by first | exact Or.inl rfl | exact Or.inr rfl) (pe_lst (pa_cons pe_str pa_nil)))
    (pss_cons (ps_for (passes_of rfl) rfl (k_itL (K := K) (pv 0)) (pg_name (i := 2) sc__law_closed.nd rfl (by first | exact Or.inl rfl | exact Or.inr rfl))
    (pss_one (ps_for (passes_of rfl) rfl (pi_range1 (by rfl) T.free_range (pa_cons (pe_callB k_lenS (by rfl) T.free_len (by decide +kernel) (pa_cons (pv 2) pa_nil)) pa_nil)) (pg_name (i := 3) sc__law_closed.nd rfl (by first | exact Or.inl rfl | exact Or.inr rfl))
    (pss_one (ps_set (i := 1) sc__law_closed.nd rfl (by first | exact Or.inl rfl | exact Or.inr rfl) (pe_op op_cat (pv 1) (pe_lst (pa_cons (pe_op k_addZ (pe_slice sl_str (pv 2) po_none (po_some (pv 3))) pe_str) (pa_cons (pe_op k_addZ (pe_slice sl_str (pv 2) po_none (po_some (pv 3))) pe_str) pa_nil)))))))))
    (pss_one (ps_ret (pe_callB k_sortX (by rfl) T.free_sorted (by decide +kernel) (pa_cons (pe_callTy k_setX (by rfl) T.free_set (by decide +kernel) (pa_cons (pv 1) pa_nil)) pa_nil)))))), ?_⟩
  obtain ⟨_, a, bs, rfl, ha, hb, hz, hQ⟩ := h
  walk_at "rd"
  refine ⟨by show 1 ≤ sizeLine; exact szl (by decide), fun p hp => ?_⟩
  walk_at "rd"
  refine ⟨a, rfl, ⟨_, SqL.of (by rw [upd_ne (ne_of_none ha hp)]; exact ha)⟩, ?_⟩
  refine forG src_list (fun i σ' H' => (∃ z1 z2 f, σ' = [some (.ref a), some (.ref f), z1, z2] ∧ H' f = some (.lst ((clL (bs.take i)).map vb))) ∧ Ex H H')
    ⟨⟨none, none, p, rfl, by rw [upd_same]; simp only [clL, List.take_zero, List.flatMap_nil, List.map_cons, List.map_nil]; rw [← bstr_nil]⟩, Ex.nw hp⟩ (fun i σ' H' _ h => h.2.sq (SqL.of ha)) (fun i x σ' H' hx ⟨⟨z1, z2, f, eσ, hf⟩, e⟩ => ?_) fun σ' H' ⟨⟨z1, z2, f, eσ, hf⟩, e⟩ => ?_
  · have hi : i < bs.length := by
      have := (List.getElem?_eq_some_iff.mp hx).1
      simpa using this
    rw [List.getElem?_map, List.getElem?_eq_getElem hi] at hx
    obtain ⟨b, eb⟩ : ∃ b, b = bs[i] := ⟨_, rfl⟩
    rw [← eb] at hx
    obtain rfl : vb b = x := Option.some.inj hx
    have hbl := hb b (by rw [eb]; exact List.getElem_mem hi)
    have et : bs.take (i + 1) = bs.take i ++ [b] := by rw [List.take_succ, List.getElem?_eq_getElem hi, ← eb]; rfl
    have hcl := clL_len (bs.take i) fun b hb2 => hb b (List.mem_of_mem_take hb2)
    rw [List.length_take] at hcl
    subst eσ
    walk_at "rd"
    refine rd_lenZ (by rw [bstr_len]; exact szl (by omega)) ?_
    rw [bstr_len]
    walk_at "rd"
    refine ⟨(b.length : Int), rfl, by omega, by omega, ?_⟩
    rw [Int.toNat_natCast]
    refine forR (fun j σ' H' => (∃ z f, σ' = [some (.ref a), some (.ref f), some (vb b), z] ∧ H' f = some (.lst ((clL (bs.take i) ++ cl1 b j).map vb))) ∧ Ex H H')
      ⟨⟨_, f, rfl, by rw [show cl1 b 0 = [] from rfl, List.append_nil]; exact hf⟩, e⟩ (fun j σ2 H2 hj ⟨⟨z, f2, eσ, hf2⟩, e2⟩ => ?_) fun σ2 H2 ⟨⟨z, f2, eσ, hf2⟩, e2⟩ => ?_
    · subst eσ
      walk_at "rd"
      refine rd_slS (by rw [bstr_len]; exact szl (by omega)) ?_
      rw [show (0 + (j : Int)) = ((j : Nat) : Int) by omega, cut_to, ← bstr_0]
      walk_at "rd"
      refine rd_addZ (by rw [bstr_len, bstr_len, List.length_take, List.length_singleton]; exact szl (by omega)) ?_
      rw [bstr_app]
      walk_at "rd"
      refine rd_slS (by rw [bstr_len]; exact szl (by omega)) ?_
      rw [cut_to, ← bstr_1]
      walk_at "rd"
      refine rd_addZ (by rw [bstr_len, bstr_len, List.length_take, List.length_singleton]; exact szl (by omega)) ?_
      rw [bstr_app]
      walk_at "rd"
      refine ⟨by show 2 ≤ sizeLine; exact szl (by decide), fun l hl => ?_⟩
      have h3f : (upd H2 l (.lst [V.str (bstr (b.take j ++ [false])), V.str (bstr (b.take j ++ [true]))])) f2 = some (.lst ((clL (bs.take i) ++ cl1 b j).map vb)) := by rw [upd_ne (ne_of_none hf2 hl)]; exact hf2
      refine ⟨f2, l, _, _, rfl, rfl, h3f, upd_same, by rw [List.length_map, List.length_append, cl1_len]; exact szl (by simp only [List.length_cons, List.length_nil]; omega), fun g2 hg2 => ?_⟩
      have e3 : Ex H (upd H2 l (.lst [V.str (bstr (b.take j ++ [false])), V.str (bstr (b.take j ++ [true]))])) := e2.up (e2.fr hl)
      exact ⟨⟨_, g2, rfl, by rw [upd_same, cl1_succ, ← List.append_assoc, List.map_append (l₁ := clL (bs.take i) ++ cl1 b j)]; rfl⟩, e3.up (e3.fr hg2)⟩
    · exact ⟨⟨_, _, f2, eσ, by rw [et, clL_snoc]; exact hf2⟩, e2⟩
  · rw [List.length_map, List.take_length] at hf
    have hcl := clL_len bs hb
    subst eσ
    walk_at "rd"
    refine ⟨f, (clL bs).map bk, rfl, SqL.of (by rw [hf, List.map_map]; rfl), by rw [List.length_map]; unfold scanBound; omega, fun s c S hs hc hS => ?_⟩
    walk_at "rd"
    refine ⟨s, S, c, rfl, upd_same, fun k hk => ?_, fun ys q nd hm hsr hq => ?_⟩
    · obtain ⟨b, _, rfl⟩ := List.mem_map.mp ((hS k).mp hk)
      exact ⟨_, rfl⟩
    · have ey := closB_strs (bs := bs) nd (fun y => by
        rw [hm, hS, List.mem_map, List.mem_map]
        constructor
        · rintro ⟨b, hb, e⟩
          exact ⟨b, hb, Sum.inr.inj e⟩
        · rintro ⟨b, hb, e⟩
          exact ⟨b, hb, congrArg Sum.inr e⟩) hsr
      have e3 : Ex H (upd H' s (SetXO P w s S c)) := e.up (e.fr hs)
      refine hQ _ q (e3.up (e3.fr hq)) (e3.fr hq) ?_
      rw [upd_same, ey, List.map_map]
      rfl
def endF (ns : List Bits) : V → Option V := fun x => match x with
  | .str z => if inV (.str (z ++ bstr [false])) (ns.map vb) = true then none else some (V.str z)
  | _ => none
theorem endF_eq (ns : List Bits) (b : Bits) : endF ns (vb b) = if b ++ [false] ∈ ns then none else some (vb b) := by
  show (if inV (.str (bstr b ++ bstr [false])) (ns.map vb) = true then none else some (V.str (bstr b))) = _
  rw [bstr_app, show V.str (bstr (b ++ [false])) = vb (b ++ [false]) from rfl, inV_bits]
  by_cases h : b ++ [false] ∈ ns <;> simp [h]
theorem end_filter (ns : List Bits) : (ns.map vb).filterMap (endF ns) = (leafB ns).map vb := by
  have key : ∀ l : List Bits, (l.map vb).filterMap (endF ns) = (l.filter fun b => !decide (b ++ [false] ∈ ns)).map vb := by
    intro l
    induction l with
    | nil => rfl
    | cons b l ih =>
      rw [List.map_cons, List.filterMap_cons, endF_eq, List.filter_cons, ih]
      by_cases h : b ++ [false] ∈ ns
      · simp [h]
      · simp [h]
  exact key ns
def sp_ends : Sp := fun vs H Q _ => vs.length = 1 ∧ ∃ (a : Addr) (ns : List Bits), vs = [.ref a] ∧ H a = some (.lst (ns.map vb)) ∧ (∀ b ∈ ns, b.length ≤ 1000) ∧ ns.length ≤ 10000 ∧ ∀ H' q, Ex H H' → H q = none → H' q = some (.lst ((leafB ns).map vb)) → Q (.ref q) H'
theorem sc__law_ends : FnScope ["nodes_found", "one"] ["nodes_found"] (defScope s__law_ends) := ⟨rfl, rfl, rfl, by decide +kernel, rfl, by decide +kernel, by decide +kernel⟩
theorem ok__law_ends (T : Txt K mg) : OkF P w K mg base 1 "_law_ends" ["nodes_found"] sp_ends := by
  obtain ⟨fd, F⟩ := T.D__law_ends
  refine ⟨_, fd, T.g__law_ends, F.kp, (F.bindsN fun _ _ _ _ _ _ us hl => match us, hl with | [_], _ => rfl), (F.ok sc__law_ends (fun vs H Q E h => h.1) fun cdv A outer s H vs Q E hr h => ?_)⟩
  refine ⟨_, (pss_one (ps_ret (pe_lc rfl sc__law_ends.nd (k_itL (K := K) (pv 0)) (blkOk_by (N := ["nodes_found", "one"]) (sc := defScope s__law_ends) (own := [("one", 1)]) (by decide +kernel)) (fun _ _ _ _ _ => (pg_name (i := 1) sc__law_ends.nd rfl (by first | exact Or.inl rfl | exact Or.inr rfl))) (fun _ _ _ _ _ => (pts_one (pt_cmpR (k_notIn (K := K)) (pe_op k_addZ (pv 1) pe_str) (pv 0) rfl))) (fun _ _ _ _ _ => (pv 1))))), ?_⟩
  obtain ⟨_, a, ns, rfl, ha, hb, hz, hQ⟩ := h
  walk_at "rd"
  refine ⟨a, rfl, ⟨_, SqL.of ha⟩, ?_⟩
  refine fun D hD => lcG src_list (fun H' e => e.sq (SqL.of ha)) (endF ns) hD (by rw [List.length_map]; omega) (fun x hx H' e R S hR hS => ?_) fun H' e hl => ?_
  · obtain ⟨b, hb2, rfl⟩ := List.mem_map.mp hx
    refine ⟨rfl, ?_⟩
    walk_at "rd"
    rw [← bstr_0]
    refine rd_addZ (by rw [bstr_len, bstr_len, List.length_singleton]; have := hb b hb2; exact szl (by omega)) ?_
    walk_at "rd"
    refine ⟨a, ns.map vb, rfl, .inl (SqL.of (e _ _ ha)), rfl, flat_bits ns, ?_⟩
    rw [if_pos rfl]
    cases hv : inV (.str (bstr b ++ bstr [false])) (ns.map vb) with
    | true =>
      walk_at "rd"
      exact hS _ (by show (if _ then _ else _) = none; rw [hv]; rfl) Ex.rfl'
    | false =>
      walk_at "rd"
      exact hR _ _ (by show (if _ then _ else _) = some _; rw [hv]; rfl) Ex.rfl'
  · exact hQ H' D e hD (by rw [hl, end_filter])
def sp_lmoves : Sp := fun vs H Q _ => vs.length = 3 ∧ ∃ (n : Nat) (d1 d2 : Addr) (r1 r2 : Rows), vs = [.int (n : Int), .ref d1, .ref d2] ∧ H d1 = some (.dK (rK r1)) ∧ H d2 = some (.dK (rK r2)) ∧ n ≤ 32 ∧ ROk n r1 ∧ ROk n r2 ∧ r1.length ≤ 20 ∧ r2.length ≤ 20 ∧
  ∀ H' q ts, Ex H H' → H q = none → H' q = some (.lst (ts.map V.ref)) → RunsAt H' ts (movesB n r1 r2) → Q (.ref q) H'
theorem lead_okR {n : Nat} {r : Rows} (o : ROk n r) (b : Bits) : oOk (leadB r b) := by
  intro s hs
  unfold leadB at hs
  cases q : longB r b with
  | none => rw [q] at hs; cases hs
  | some c =>
    rw [q] at hs
    exact tgt_ok (o.2 _ (mem_of_lookup' hs)).2
theorem runs_last (n : Nat) (a b : Rows) (es : List Bits) : ∀ p, (runsB n a b es).2 = some p → ∃ e, p = (leadB a e, leadB b e) := by
  have key : ∀ (l : List Bits) (st : List K2.Run × Option (Option Str × Option Str)), (∀ p, st.2 = some p → ∃ e, p = (leadB a e, leadB b e)) → ∀ p, (l.foldl (stepR n a b) st).2 = some p → ∃ e, p = (leadB a e, leadB b e) := by
    intro l
    induction l with
    | nil => intro st h; exact h
    | cons x l ih =>
      intro st h
      refine ih _ fun p hp => ?_
      unfold stepR at hp
      dsimp only at hp
      split at hp
      · exact ⟨x, (Option.some.inj hp).symm⟩
      · exact ⟨x, (Option.some.inj hp).symm⟩
  exact key es _ fun p hp => by cases hp
/-- what 'last' holds -/
def LastAt (H : Hp) (v : V) (o : Option (Option Str × Option Str)) : Prop := match o with
  | none => v = .non
  | some p => ∃ t, v = .ref t ∧ H t = some (.tup [oV p.1, oV p.2])
theorem sc__law_moves : FnScope ["size", "one", "two", "found", "last", "end", "pair", "first"] ["size", "one", "two"] (defScope s__law_moves) := ⟨rfl, rfl, rfl, by decide +kernel, rfl, by decide +kernel, by decide +kernel⟩
theorem ok__law_moves (T : Txt K mg) : OkF P w K mg base 3 "_law_moves" ["size", "one", "two"] sp_lmoves := by
  obtain ⟨fd, F⟩ := T.D__law_moves
  refine ⟨_, fd, T.g__law_moves, F.kp, (F.bindsN fun _ _ _ _ _ _ us hl => match us, hl with | [_, _, _], _ => rfl), (F.ok sc__law_moves (fun vs H Q E h => h.1) fun cdv A outer s H vs Q E hr h => ?_)⟩
  refine ⟨_, (pss_cons (ps_par (i := 3) (j := 4) (by rfl) sc__law_moves.nd rfl rfl (by decide) rfl rfl (pa_cons (pe_lst pa_nil) (pa_cons pe_non pa_nil)) (by rfl))
    (pss_cons (ps_for (passes_of rfl) rfl (k_itL (K := K) (pcl (ok__law_ends T) (hr.mono (by decide)) rfl (pa_cons (pcl (ok__law_closed T) (hr.mono (by decide)) rfl (pa_cons (pe_op op_cat (pe_callTy k_listD (by rfl) T.free_list (by decide +kernel) (pa_cons (pv 1) pa_nil)) (pe_callTy k_listD (by rfl) T.free_list (by decide +kernel) (pa_cons (pv 2) pa_nil))) pa_nil)) pa_nil))) (pg_name (i := 5) sc__law_moves.nd rfl (by first | exact Or.inl rfl | exact Or.inr rfl))
    (pss_cons (ps_set (i := 6) sc__law_moves.nd rfl (by first | exact Or.inl rfl | exact Or.inr rfl) (pe_tup (pa_cons (pcl (ok__law_lead T) (hr.mono (by decide)) rfl (pa_cons (pv 1) (pa_cons (pv 5) pa_nil))) (pa_cons (pcl (ok__law_lead T) (hr.mono (by decide)) rfl (pa_cons (pv 2) (pa_cons (pv 5) pa_nil))) pa_nil))))
    (pss_cons (ps_set (i := 7) sc__law_moves.nd rfl (by first | exact Or.inl rfl | exact Or.inr rfl) (pe_op k_addZ (pv 5) (pe_op k_mulSI pe_str (pe_op op_sub (pv 0) (pe_callB k_lenS (by rfl) T.free_len (by decide +kernel) (pa_cons (pv 5) pa_nil))))))
    (pss_cons (ps_if (pt_cmpR op_ne (pe_ix (k_ixT (K := K)) (pv 6) pe_int (fun _ _ => rfl)) (pe_ix (k_ixT (K := K)) (pv 6) pe_int (fun _ _ => rfl)) (nomark _))
    (pss_cons (ps_if (pt_cmpR (k_eqD (K := K) hr.units) (pv 4) (pv 6) (nomark _))
    (pss_one (ps_set (i := 7) sc__law_moves.nd rfl (by first | exact Or.inl rfl | exact Or.inr rfl) (pe_ix (k_ixT (K := K)) (k_bm0 (K := K) PySem.F.plainAttrs_list PySem.F.slot_list_pop PySem.F.type_list_pop mt_pop (pv 3)) pe_int (fun _ _ => rfl))))
    pss_nil)
    (pss_one (ps_expr (k_bm (K := K) PySem.F.plainAttrs_list PySem.F.slot_list_append PySem.F.type_list_append mt_append (pv 3) (pa_cons (pe_tup (pa_cons (pv 7) (pa_cons (pe_op k_addZ (pv 5) (pe_op k_mulSI pe_str (pe_op op_sub (pv 0) (pe_callB k_lenS (by rfl) T.free_len (by decide +kernel) (pa_cons (pv 5) pa_nil))))) (pa_cons (pe_ix (k_ixT (K := K)) (pv 6) pe_int (fun _ _ => rfl)) (pa_cons (pe_ix (k_ixT (K := K)) (pv 6) pe_int (fun _ _ => rfl)) pa_nil))))) pa_nil)))))
    pss_nil)
    (pss_one (ps_set (i := 4) sc__law_moves.nd rfl (by first | exact Or.inl rfl | exact Or.inr rfl) (pv 6)))))))
    (pss_one (ps_ret (pv 3))))), ?_⟩
  obtain ⟨_, n1, d1, d2, r1, r2, rfl, hd1, hd2, hn, o1, o2, hz1, hz2, hQ⟩ := h
  have lb1 : ∀ x ∈ r1, x.1.length ≤ 1000 := fun x hx => by have := (o1.2 x hx).1; omega
  have lb2 : ∀ x ∈ r2, x.1.length ≤ 1000 := fun x hx => by have := (o2.2 x hx).1; omega
  walk_at "rd"
  refine ⟨Nat.zero_le _, fun q hq => ?_⟩
  walk_at "rd"
  refine ⟨_, _, rfl, ?_⟩
  have e0 : Ex H (upd H q (.lst [])) := Ex.nw hq
  have hq0 : (upd H q (.lst [])) q = some (.lst []) := upd_same
  generalize upd H q (.lst []) = H0 at e0 hq0
  walk_at "rd"
  refine ⟨d1, rK r1, rfl, .inl (e0 _ _ hd1), fun l1 hl1 => ?_⟩
  walk_at "rd"
  have e1 : Ex H0 (upd H0 l1 (.lst ((rK r1).map fun kv => kV kv.1))) := Ex.nw hl1
  refine ⟨d2, rK r2, rfl, .inl (e1 _ _ (e0 _ _ hd2)), fun l2 hl2 => ?_⟩
  have hl12 : l1 ≠ l2 := fun z => by rw [← z, upd_same] at hl2; cases hl2
  refine ⟨l1, l2, _, _, rfl, rfl, by rw [upd_ne hl12]; exact upd_same, upd_same, by rw [List.length_map, List.length_map, rK_len, rK_len]; exact szl (by omega), fun l3 hl3 => ?_⟩
  have hk1 : (rK r1).map (fun kv => kV kv.1) = (r1.map (·.1)).map vb := by rw [rK, List.map_map, List.map_map]; rfl
  have hk2 : (rK r2).map (fun kv => kV kv.1) = (r2.map (·.1)).map vb := by rw [rK, List.map_map, List.map_map]; rfl
  rw [hk1, hk2, ← List.map_append]
  rw [hk1] at e1 hl2
  rw [hk1, hk2] at hl3
  have e3 : Ex H0 (upd (upd (upd H0 l1 (.lst ((r1.map (·.1)).map vb))) l2 (.lst ((r2.map (·.1)).map vb))) l3 (.lst ((r1.map (·.1) ++ r2.map (·.1)).map vb))) := (e1.up (e1.fr hl2)).up ((e1.up (e1.fr hl2)).fr hl3)
  have h3 : (upd (upd (upd H0 l1 (.lst ((r1.map (·.1)).map vb))) l2 (.lst ((r2.map (·.1)).map vb))) l3 (.lst ((r1.map (·.1) ++ r2.map (·.1)).map vb))) l3 = some (.lst ((r1.map (·.1) ++ r2.map (·.1)).map vb)) := upd_same
  generalize upd (upd (upd H0 l1 (.lst ((r1.map (·.1)).map vb))) l2 (.lst ((r2.map (·.1)).map vb))) l3 (.lst ((r1.map (·.1) ++ r2.map (·.1)).map vb)) = H3 at e3 h3
  have hb1 : ∀ b ∈ r1.map (·.1) ++ r2.map (·.1), b.length ≤ n1 := fun b hb => by
    rcases List.mem_append.mp hb with z | z
    · obtain ⟨x, hx, rfl⟩ := List.mem_map.mp z
      exact (o1.2 x hx).1
    · obtain ⟨x, hx, rfl⟩ := List.mem_map.mp z
      exact (o2.2 x hx).1
  walk_at "rd"
  refine ⟨rfl, l3, _, rfl, h3, fun b hb => Nat.le_trans (hb1 b hb) hn, by simp only [List.length_append, List.length_map]; omega, fun H4 l4 e4 hl4 h4 => ?_⟩
  walk_at "rd"
  have hcl := closB_len (r1.map (·.1) ++ r2.map (·.1)) fun b hb => Nat.le_trans (hb1 b hb) hn
  simp only [List.length_append, List.length_map] at hcl
  refine ⟨rfl, l4, _, rfl, h4, fun b hb => by have := clL_mem_len hb1 (closB_mem.mp hb); omega, by omega, fun H5 l e5 hl5 hl => ?_⟩
  obtain ⟨es, ees⟩ : ∃ es, es = leafB (closB (r1.map (·.1) ++ r2.map (·.1))) := ⟨_, rfl⟩
  rw [← ees] at hl
  have hbes : ∀ b ∈ es, b.length ≤ n1 := fun b hb => clL_mem_len hb1 (closB_mem.mp (leafB_mem (by rw [← ees]; exact hb)))
  have hesl : es.length ≤ 5000 := by
    have h1 := leafB_len (closB (r1.map (·.1) ++ r2.map (·.1)))
    rw [← ees] at h1
    omega
  have e05 : Ex H0 H5 := (e3.tr e4).tr e5
  have hlq : l ≠ q := fun z => by rw [z, (e3.tr e4) _ _ hq0] at hl5; cases hl5
  refine ⟨l, rfl, ⟨_, SqL.of hl⟩, ?_⟩
  refine forG src_list (fun i σ' H' => (∃ v z1 z2 z3, σ' = [some (.int (n1 : Int)), some (.ref d1), some (.ref d2), some (.ref q), some v, z1, z2, z3] ∧ LastAt H' v (runsB n1 r1 r2 (es.take i)).2) ∧ Ex H H' ∧ H' l = some (.lst (es.map vb)) ∧
      ∃ ts : List Addr, H' q = some (.lst (ts.map V.ref)) ∧ RunsAt H' ts (runsB n1 r1 r2 (es.take i)).1.reverse)
    ⟨⟨_, none, none, none, rfl, rfl⟩, e0.tr e05, hl, [], e05 _ _ hq0, .nil⟩ (fun i σ' H' _ h => SqL.of h.2.2.1) (fun i x σ' H3 hx ⟨⟨lv, z1, z2, z3, eσ, hlast⟩, e3, hl3, ts, hts, hrs⟩ => ?_) fun σ' H3 ⟨⟨lv, z1, z2, z3, eσ, hlast⟩, e3, hl3, ts, hts, hrs⟩ => ?_
  · have hi : i < es.length := by
      have := (List.getElem?_eq_some_iff.mp hx).1
      simpa using this
    rw [List.getElem?_map, List.getElem?_eq_getElem hi] at hx
    obtain ⟨b, eb⟩ : ∃ b, b = es[i] := ⟨_, rfl⟩
    rw [← eb] at hx
    obtain rfl : vb b = x := Option.some.inj hx
    have hbl := hbes b (by rw [eb]; exact List.getElem_mem hi)
    have hnb : (n1 : Int) - (b.length : Int) = ((n1 - b.length : Nat) : Int) := by omega
    have et : es.take (i + 1) = es.take i ++ [b] := by rw [List.take_succ, List.getElem?_eq_getElem hi, ← eb]; rfl
    rw [et, runsB_snoc]
    have hok := runsB_ok n1 r1 r2 (es.take i)
    have hsl := runsB_len n1 r1 r2 (es.take i)
    rw [List.length_take] at hsl
    generalize hst : runsB n1 r1 r2 (es.take i) = st at hok hsl hrs hlast
    subst eσ
    walk_at "rd"
    refine ⟨rfl, d1, r1, b, rfl, e3 _ _ hd1, lb1, ?_⟩
    walk_at "rd"
    refine ⟨rfl, d2, r2, b, rfl, e3 _ _ hd2, lb2, ?_⟩
    walk_at "rd"
    refine ⟨by show 2 ≤ sizeLine; exact szl (by decide), fun tp htp => ?_⟩
    have e35 : Ex H3 (upd H3 tp (.tup [oV (leadB r1 b), oV (leadB r2 b)])) := Ex.nw htp
    have h6t : (upd H3 tp (.tup [oV (leadB r1 b), oV (leadB r2 b)])) tp = some (.tup [oV (leadB r1 b), oV (leadB r2 b)]) := upd_same
    show gName 6 (.ref tp) _ (upd H3 tp (.tup [oV (leadB r1 b), oV (leadB r2 b)])) _
    generalize upd H3 tp (.tup [oV (leadB r1 b), oV (leadB r2 b)]) = H6 at e35 h6t
    have e6 : Ex H H6 := e3.tr e35
    have hts6 := e35 _ _ hts
    have hl6 := e35 _ _ hl3
    have hrs6 := e35.runs hrs
    have hqtp : tp ≠ q := fun z => by rw [z, hts6] at h6t; cases h6t
    walk_at "rd"
    refine rd_lenZ (by rw [bstr_len]; exact szl (by omega)) ?_
    walk_at "rd"
    rw [bstr_len, hnb, ← bstr_0]
    refine rd_mulSI (mulOk_bit _ _ (by omega)) ?_
    rw [mul_bit]
    refine rd_addZ (by rw [bstr_len, bstr_len, List.length_replicate]; exact szl (by omega)) ?_
    rw [bstr_app]
    walk_at "rd"
    refine ⟨tp, _, 0, _, rfl, rfl, SqT.of h6t, rfl, ?_⟩
    walk_at "rd"
    refine ⟨tp, _, 1, _, rfl, rfl, SqT.of h6t, rfl, ?_⟩
    refine ⟨oV_scal _ _, ?_⟩
    rw [dec_oV]
    by_cases hne : leadB r1 b = leadB r2 b
    · rw [decide_eq_true hne]
      walk_at "rd"
      rw [stepR_same hne]
      exact ⟨⟨_, _, _, _, rfl, tp, rfl, h6t⟩, e6, hl6, ts, hts6, hrs6⟩
    · rw [decide_eq_false hne]
      walk_at "rd"
      cases hp2 : st.2 with
      | none =>
        rw [hp2] at hlast
        obtain rfl : lv = .non := hlast
        refine ⟨_, _, .non, dp_pair h6t, rfl, shaped_pair (lead_okR o1 _) (lead_okR o2 _), ?_⟩
        have hnj : ¬ st.2 = some (leadB r1 b, leadB r2 b) := fun z => by rw [hp2] at z; cases z
        rw [show PyData.eqv .none (.tuple [dOf (leadB r1 b), dOf (leadB r2 b)]) = false from rfl]
        walk_at "rd"
        refine ⟨tyL hts6, ?_⟩
        walk_at "rd"
        refine rd_lenZ (by rw [bstr_len]; exact szl (by omega)) ?_
        walk_at "rd"
        rw [bstr_len, hnb, ← bstr_1]
        refine rd_mulSI (mulOk_bit _ _ (by omega)) ?_
        rw [mul_bit]
        refine rd_addZ (by rw [bstr_len, bstr_len, List.length_replicate]; exact szl (by omega)) ?_
        rw [bstr_app]
        walk_at "rd"
        refine ⟨tp, _, 0, _, rfl, rfl, SqT.of h6t, rfl, ?_⟩
        walk_at "rd"
        refine ⟨tp, _, 1, _, rfl, rfl, SqT.of h6t, rfl, ?_⟩
        walk_at "rd"
        refine ⟨by show 4 ≤ sizeLine; exact szl (by decide), fun u hu => ?_⟩
        walk_at "rd"
        have hqu : q ≠ u := ne_of_none hts6 hu
        refine ⟨q, ts.map V.ref, .ref u, rfl, rfl, by rw [upd_ne hqu]; exact hts6, by rw [List.length_map]; exact szlt (by have := RunsAt.len hrs6; rw [List.length_reverse] at this; omega), ?_⟩
        walk_at "rd"
        have hup : tp ≠ u := ne_of_none h6t hu
        have hH : Ex H H6 := e6
        rw [stepR_new hne hnj]
        refine ⟨⟨_, _, _, _, rfl, tp, rfl, by rw [upd_ne hqtp, upd_ne hup]; exact h6t⟩, (hH.up (hH.fr hu)).up hq, ?_, ts ++ [u], ?_, ?_⟩
        · rw [upd_ne hlq, upd_ne (ne_of_none hl6 hu)]
          exact hl6
        · rw [upd_same]
          simp only [List.map_append, List.map_cons, List.map_nil]
        · show RunsAt _ _ ((_ :: _).reverse)
          rw [List.reverse_cons]
          refine RunsAt.snoc ?_ (hrs6.ex fun a xs h => ?_)
          · rw [upd_ne (Ne.symm hqu), upd_same]
            rfl
          · rw [upd_ne (fun z => by rw [z, hts6] at h; cases h), upd_ne (ne_of_none h hu)]
            exact h
      | some p' =>
        rw [hp2] at hlast
        obtain ⟨tl0, rfl, htl0⟩ := hlast
        have hlok : oOk p'.1 ∧ oOk p'.2 := by
          obtain ⟨e9, e10⟩ := runs_last n1 r1 r2 (es.take i) p' (by rw [hst]; exact hp2)
          rw [e10]
          exact ⟨lead_okR o1 _, lead_okR o2 _⟩
        refine ⟨_, _, dp_pair (e35 _ _ htl0), dp_pair h6t, shaped_pair hlok.1 hlok.2, shaped_pair (lead_okR o1 _) (lead_okR o2 _), ?_⟩
        rw [eqv_pair]
        by_cases hpp : (p'.1, p'.2) = (leadB r1 b, leadB r2 b)
        · rw [decide_eq_true hpp]
          have hpe : p' = (leadB r1 b, leadB r2 b) := hpp
          obtain ⟨r, rest, er, ewn⟩ := hok p' hp2 (by rw [hpe]; exact hne)
          rw [er, List.reverse_cons] at hrs6
          obtain ⟨ts', tl, ets, htl, hrs7⟩ := hrs6.unsnoc
          subst ets
          rw [List.map_append] at hts6
          walk_at "rd"
          refine ⟨tyL hts6, q, _, .ref tl, rfl, rfl, hts6, by simp, ?_⟩
          rw [show (ts'.map V.ref ++ [tl].map V.ref).dropLast = ts'.map V.ref by simp]
          have hqtl : tl ≠ q := fun z => by rw [z, hts6] at htl; cases htl
          walk_at "rd"
          refine ⟨tl, _, 0, _, rfl, rfl, SqT.of (by rw [upd_ne hqtl]; exact htl), rfl, ?_⟩
          have e8 : Ex H (upd H6 q (.lst (ts'.map V.ref))) := e6.up hq
          have h8t : (upd H6 q (.lst (ts'.map V.ref))) tp = some (.tup [oV (leadB r1 b), oV (leadB r2 b)]) := by rw [upd_ne hqtp]; exact h6t
          have hl8 : (upd H6 q (.lst (ts'.map V.ref))) l = some (.lst (es.map vb)) := by rw [upd_ne hlq]; exact hl6
          have hts8 : (upd H6 q (.lst (ts'.map V.ref))) q = some (.lst (ts'.map V.ref)) := upd_same
          have hrs9 : RunsAt (upd H6 q (.lst (ts'.map V.ref))) ts' rest.reverse := hrs7.ex fun a xs h => by rw [upd_ne (fun z => by rw [z, hts6] at h; cases h)]; exact h
          have hlen : rest.length < 100000 := by rw [er, List.length_cons] at hsl; omega
          show gName 7 (vb r.lo) _ (upd H6 q (.lst (ts'.map V.ref))) _
          generalize upd H6 q (.lst (ts'.map V.ref)) = H8 at e8 h8t hl8 hts8 hrs9
          walk_at "rd"
          refine ⟨tyL hts8, ?_⟩
          walk_at "rd"
          refine rd_lenZ (by rw [bstr_len]; exact szl (by omega)) ?_
          walk_at "rd"
          rw [bstr_len, hnb, ← bstr_1]
          refine rd_mulSI (mulOk_bit _ _ (by omega)) ?_
          rw [mul_bit]
          refine rd_addZ (by rw [bstr_len, bstr_len, List.length_replicate]; exact szl (by omega)) ?_
          rw [bstr_app]
          walk_at "rd"
          refine ⟨tp, _, 0, _, rfl, rfl, SqT.of h8t, rfl, ?_⟩
          walk_at "rd"
          refine ⟨tp, _, 1, _, rfl, rfl, SqT.of h8t, rfl, ?_⟩
          walk_at "rd"
          refine ⟨by show 4 ≤ sizeLine; exact szl (by decide), fun u hu => ?_⟩
          walk_at "rd"
          have hqu : q ≠ u := ne_of_none hts8 hu
          refine ⟨q, ts'.map V.ref, .ref u, rfl, rfl, by rw [upd_ne hqu]; exact hts8, by rw [List.length_map]; exact szlt (by have := RunsAt.len hrs9; rw [List.length_reverse] at this; omega), ?_⟩
          walk_at "rd"
          have hup : tp ≠ u := ne_of_none h8t hu
          have hH : Ex H H8 := e8
          rw [stepR_join hne (by rw [hp2, hpe]) er]
          refine ⟨⟨_, _, _, _, rfl, tp, rfl, by rw [upd_ne hqtp, upd_ne hup]; exact h8t⟩, (hH.up (hH.fr hu)).up hq, ?_, ts' ++ [u], ?_, ?_⟩
          · rw [upd_ne hlq, upd_ne (ne_of_none hl8 hu)]
            exact hl8
          · rw [upd_same]
            simp only [List.map_append, List.map_cons, List.map_nil]
          · show RunsAt _ _ ((_ :: _).reverse)
            rw [List.reverse_cons]
            refine RunsAt.snoc ?_ (hrs9.ex fun a xs h => ?_)
            · rw [upd_ne (Ne.symm hqu), upd_same]
              rfl
            · rw [upd_ne (fun z => by rw [z, hts8] at h; cases h), upd_ne (ne_of_none h hu)]
              exact h
        · rw [decide_eq_false hpp]
          have hnj : ¬ st.2 = some (leadB r1 b, leadB r2 b) := fun z => by
            rw [hp2] at z
            exact hpp (Option.some.inj z)
          walk_at "rd"
          refine ⟨tyL hts6, ?_⟩
          walk_at "rd"
          refine rd_lenZ (by rw [bstr_len]; exact szl (by omega)) ?_
          walk_at "rd"
          rw [bstr_len, hnb, ← bstr_1]
          refine rd_mulSI (mulOk_bit _ _ (by omega)) ?_
          rw [mul_bit]
          refine rd_addZ (by rw [bstr_len, bstr_len, List.length_replicate]; exact szl (by omega)) ?_
          rw [bstr_app]
          walk_at "rd"
          refine ⟨tp, _, 0, _, rfl, rfl, SqT.of h6t, rfl, ?_⟩
          walk_at "rd"
          refine ⟨tp, _, 1, _, rfl, rfl, SqT.of h6t, rfl, ?_⟩
          walk_at "rd"
          refine ⟨by show 4 ≤ sizeLine; exact szl (by decide), fun u hu => ?_⟩
          walk_at "rd"
          have hqu : q ≠ u := ne_of_none hts6 hu
          refine ⟨q, ts.map V.ref, .ref u, rfl, rfl, by rw [upd_ne hqu]; exact hts6, by rw [List.length_map]; exact szlt (by have := RunsAt.len hrs6; rw [List.length_reverse] at this; omega), ?_⟩
          walk_at "rd"
          have hup : tp ≠ u := ne_of_none h6t hu
          have hH : Ex H H6 := e6
          rw [stepR_new hne hnj]
          refine ⟨⟨_, _, _, _, rfl, tp, rfl, by rw [upd_ne hqtp, upd_ne hup]; exact h6t⟩, (hH.up (hH.fr hu)).up hq, ?_, ts ++ [u], ?_, ?_⟩
          · rw [upd_ne hlq, upd_ne (ne_of_none hl6 hu)]
            exact hl6
          · rw [upd_same]
            simp only [List.map_append, List.map_cons, List.map_nil]
          · show RunsAt _ _ ((_ :: _).reverse)
            rw [List.reverse_cons]
            refine RunsAt.snoc ?_ (hrs6.ex fun a xs h => ?_)
            · rw [upd_ne (Ne.symm hqu), upd_same]
              rfl
            · rw [upd_ne (fun z => by rw [z, hts6] at h; cases h), upd_ne (ne_of_none h hu)]
              exact h
  · subst eσ
    walk_at "rd"
    rw [List.length_map, List.take_length] at hrs
    refine hQ H3 q ts e3 hq hts ?_
    rw [movesB, ← ees]
    exact hrs
theorem putR_sub {r : Rows} {b : Bits} {t : Str} {x : Bits × Str} (h : x ∈ putR r b t) : x ∈ r ∨ x = (b, t) := by
  unfold putR at h
  split at h
  · obtain ⟨y, hy, e⟩ := List.mem_map.mp h
    split at e
    · rename_i hb
      rw [← e, hb]
      exact .inr rfl
    · rw [← e]
      exact .inl hy
  · rcases List.mem_append.mp h with z | z
    · exact .inl z
    · exact .inr (List.mem_singleton.mp z)
theorem ROk.put {n : Nat} {r : Rows} {b : Bits} {t : Str} (h : ROk n r) (hb : b.length ≤ n) (ht : isTgt t = true) : ROk n (putR r b t) :=
  ⟨putR_nodup h.1, fun x hx => by
    rcases putR_sub hx with z | z
    · exact h.2 x z
    · rw [z]; exact ⟨hb, ht⟩⟩
theorem rd_abcx {d : Int} {H : Hp} {Q : VK} (h0 : 0 ≤ d) (h1 : d < 4) (q : ∀ t : Str, isTgt t = true → Q (.str t) H) : rIxS (.str ("abcx" : Str)) (.int d) H Q := by
  have h : d = 0 ∨ d = 1 ∨ d = 2 ∨ d = 3 := by omega
  rcases h with rfl | rfl | rfl | rfl
  · exact ⟨_, 0, 97, rfl, rfl, by decide +kernel, by decide +kernel, q _ (by decide +kernel)⟩
  · exact ⟨_, 1, 98, rfl, rfl, by decide +kernel, by decide +kernel, q _ (by decide +kernel)⟩
  · exact ⟨_, 2, 99, rfl, rfl, by decide +kernel, by decide +kernel, q _ (by decide +kernel)⟩
  · exact ⟨_, 3, 120, rfl, rfl, by decide +kernel, by decide +kernel, q _ (by decide +kernel)⟩
theorem cutV_mem {xs : List V} {lo hi : Option Int} {x : V} (h : x ∈ cutV xs lo hi) : x ∈ xs := List.mem_of_mem_drop (List.mem_of_mem_take h)
theorem bits_of_sub {xs : List V} {bs : List Bits} (h : ∀ x ∈ xs, x ∈ bs.map vb) : ∃ cs : List Bits, xs = cs.map vb ∧ ∀ c ∈ cs, c ∈ bs := by
  induction xs with
  | nil => exact ⟨[], rfl, fun c hc => by cases hc⟩
  | cons x xs ih =>
    obtain ⟨cs, e, hc⟩ := ih fun y hy => h y (List.mem_cons_of_mem _ hy)
    obtain ⟨b, hb, rfl⟩ := List.mem_map.mp (h x List.mem_cons_self)
    exact ⟨b :: cs, by rw [e]; rfl, fun c hc2 => by
      rcases List.mem_cons.mp hc2 with z | z
      · rw [z]; exact hb
      · exact hc c z⟩
def sp_near : Sp := fun vs H Q _ => vs.length = 3 ∧ ∃ (p q : Addr) (N n : Nat) (d : Addr) (r : Rows), vs = [.ref p, .int (n : Int), .ref d] ∧ Pen H p q N ∧ N + 3000 < 90000 ∧ n ≤ 32 ∧ H d = some (.dK (rK r)) ∧ ROk n r ∧ r.length ≤ 7 ∧
  ∀ (H' : Hp) (F : Addr) (r2 : Rows), Xp p H H' → H F = none → Pen H' p q (N + 300) → H' F = some (.dK (rK r2)) → ROk n r2 → r2.length ≤ 20 → Q (.ref F) H'
theorem sc__law_near : FnScope ["pen", "size", "lines", "found", "prefix"] ["pen", "size", "lines"] (defScope s__law_near) := ⟨rfl, rfl, rfl, by decide +kernel, rfl, by decide +kernel, by decide +kernel⟩
theorem ok__law_near (T : Txt K mg) : OkF P w K mg base 5 "_law_near" ["pen", "size", "lines"] sp_near := by
  obtain ⟨fd, F⟩ := T.D__law_near
  refine ⟨_, fd, T.g__law_near, F.kp, (F.bindsN fun _ _ _ _ _ _ us hl => match us, hl with | [_, _, _], _ => rfl), (F.ok sc__law_near (fun vs H Q E h => h.1) fun cdv A outer s H vs Q E hr h => ?_)⟩
  refine ⟨_, (pss_cons (ps_set (i := 3) sc__law_near.nd rfl (by first | exact Or.inl rfl | exact Or.inr rfl) (pe_callTy (k_dictP (K := K)) (by rfl) T.free_dict (by decide +kernel) (pa_cons (pe_lock (pe_lc rfl sc__law_near.nd (pi_keys (pv 2)) (blkOk_by (N := ["pen", "size", "lines", "found", "prefix"]) (sc := defScope s__law_near) (own := [("prefix", 4)]) (by decide +kernel)) (fun _ _ _ _ _ => (pg_name (i := 4) sc__law_near.nd rfl (by first | exact Or.inl rfl | exact Or.inr rfl))) (fun _ _ _ _ _ => (pts_one (pt_cmpR op_gt (pcl (ok__law_draw T) (hr.mono (by decide)) rfl (pa_cons (pv 0) (pa_cons pe_int pa_nil))) pe_int (nomark _)))) (fun _ _ _ _ _ => (pe_tup (pa_cons (pv 4) (pa_cons (pe_dget (hu_of hr) (pv 2) (pv 4) (fun _ _ => rfl)) pa_nil)))))) pa_nil)))
    (pss_cons (ps_for (passes_of rfl) rfl (k_itL (K := K) (pe_op op_cat (pcl (ok__law_prefixes T) (hr.mono (by decide)) rfl (pa_cons (pv 0) (pa_cons (pv 1) (pa_cons pe_int pa_nil)))) (pe_slice (k_slL (K := K)) (pe_callTy k_listD (by rfl) T.free_list (by decide +kernel) (pa_cons (pv 2) pa_nil)) po_none (po_some (pcl (ok__law_draw T) (hr.mono (by decide)) rfl (pa_cons (pv 0) (pa_cons pe_int pa_nil))))))) (pg_name (i := 4) sc__law_near.nd rfl (by first | exact Or.inl rfl | exact Or.inr rfl))
    (pss_one (ps_dput (hu_of hr) (pv 3) (pv 4) (pe_ix ix_str pe_str (pcl (ok__law_draw T) (hr.mono (by decide)) rfl (pa_cons (pv 0) (pa_cons pe_int pa_nil))) (fun _ _ => rfl)) rfl)))
    (pss_one (ps_ret (pv 3))))), ?_⟩
  obtain ⟨_, p, q, N, n, d, r, rfl, hpen, hN, hn, hd, ok, hr7, hQ⟩ := h
  have hdp : d ≠ p := fun z => by obtain ⟨ys, hy⟩ := hpen.at; rw [z, hy] at hd; cases hd
  have hdq : q ≠ d := fun z => by obtain ⟨ys, hy⟩ := hpen.atq; rw [z, hd] at hy; cases hy
  walk_at "rd"
  refine rd_lockE hd trivial fun od => ?_
  walk_at "rd"
  refine ⟨d, od, rfl, .inl ⟨rK r, upd_same, ?_⟩⟩
  intro D hD
  have hDd : D ≠ d := fun z => by rw [z, upd_same] at hD; cases hD
  have hD0 : H D = none := by rw [upd_ne hDd] at hD; exact hD
  have hpD := hpen.nep hD0
  have hqD := hpen.neq hD0
  refine lcI src_rows (fun i acc H' => ∃ (ts : List Addr) (r' : Rows), acc = ts.map V.ref ∧ r'.Sublist (r.take i) ∧ ts.length ≤ i ∧ i ≤ r.length ∧ H' D = some (.lst acc) ∧ RowsAt H' ts r' ∧ Pen H' p q (N + i) ∧ (∀ a o, a ≠ p → a ≠ D → (upd H d (.frz od (.dK (rK r)))) a = some o → H' a = some o))
    ⟨[], [], rfl, List.nil_sublist _, Nat.le_refl _, Nat.zero_le _, upd_same, .nil, (hpen.upNe (Ne.symm hdp) hdq).upNe hpD hqD, fun a o _ ha h => by rw [upd_ne ha]; exact h⟩
    (fun i acc H' _ ⟨ts, r', _, _, _, _, _, _, _, hk⟩ => hk d _ hdp (Ne.symm hDd) upd_same) (fun i acc H' ⟨ts, r', ea, _, hl, hi, hD, _⟩ => ⟨hD, by rw [ea, List.length_map]; omega⟩)
    (fun i x acc H2 hx ⟨ts, r', ea, hsub, htl, hi, hacc, hrows, hp2, hk⟩ R S hR hS => ?_) fun acc H2 ⟨ts, r', ea, hsub, htl, hi, hacc, hrows, hp2, hk⟩ => ?_
  · refine ⟨rfl, ?_⟩
    have hir : i < r.length := by
      have := (List.getElem?_eq_some_iff.mp hx).1
      simpa using this
    rw [List.getElem?_map, List.getElem?_map, List.getElem?_eq_getElem hir] at hx
    obtain ⟨k, t, ekt⟩ : ∃ k t, r[i] = (k, t) := ⟨_, _, rfl⟩
    rw [ekt] at hx
    obtain rfl : vb k = x := Option.some.inj hx
    have et : r.take (i + 1) = r.take i ++ [(k, t)] := by rw [List.take_succ, List.getElem?_eq_getElem hir, ekt]; rfl
    have hkt : r.lookup k = some t := lookup_mem ok.1 (x := (k, t)) (by rw [← ekt]; exact List.getElem_mem hir)
    walk_at "rd"
    refine ⟨rfl, p, q, N + i, 4, rfl, hp2, by omega, by decide, by decide, fun c H3 hc1 hc2 e3 hp3 => ?_⟩
    have h3D := e3 D _ (Ne.symm hpD) hacc
    have hrows3 : RowsAt H3 ts r' := hrows.ex fun a xs h => e3 a _ (fun z => by obtain ⟨ys, hy⟩ := hp2.at; rw [z, hy] at h; cases h) h
    have hk3 : ∀ a o, a ≠ p → a ≠ D → (upd H d (.frz od (.dK (rK r)))) a = some o → H3 a = some o := fun a o h1 h2 h => e3 a o h1 (hk a o h1 h2 h)
    walk_at "rd"
    refine iteD (fun hc => ?_) (fun hc => ?_)
    · walk_at "rd"
      refine ⟨d, _, rfl, DG (.inr ⟨od, hk3 d _ hdp (Ne.symm hDd) upd_same⟩) hkt, ?_⟩
      walk_at "rd"
      refine ⟨by show 2 ≤ sizeLine; exact szl (by decide), fun u hu => ?_⟩
      have hDu : D ≠ u := ne_of_none h3D hu
      refine hR _ _ (by rw [upd_ne hDu]; exact h3D) ⟨ts ++ [u], r' ++ [(k, t)], by rw [ea, List.map_append]; rfl, by rw [et]; exact hsub.append (List.Sublist.refl _), by rw [List.length_append, List.length_singleton]; omega, hir, upd_same, ?_, ((hp3.up hu).upNe hpD hqD).mono (by omega), fun a o h1 h2 h => ?_⟩
      · refine RowsAt.snoc ?_ (hrows3.ex fun a xs h => ?_)
        · rw [upd_ne (Ne.symm hDu), upd_same]
        · rw [upd_ne (fun z => by rw [z, h3D] at h; cases h), upd_ne (ne_of_none h hu)]
          exact h
      · rw [upd_ne h2, upd_ne (ne_of_none (hk3 a o h1 h2 h) hu)]
        exact hk3 a o h1 h2 h
    · walk_at "rd"
      exact hS _ ⟨ts, r', ea, by rw [et]; exact hsub.trans (List.sublist_append_left _ _), by omega, hir, h3D, hrows3, hp3.mono (by omega), hk3⟩
  · rw [List.length_map] at hsub hp2 htl
    rw [List.length_map, List.take_length] at hsub
    rw [List.length_map] at hp2 htl
    have h2d := hk d _ hdp (Ne.symm hDd) upd_same
    refine ⟨h2d, ?_⟩
    have hDd2 : (upd H2 d (.dK (rK r))) D = some (.lst (ts.map V.ref)) := by rw [upd_ne hDd, hacc, ea]
    have hrows4 : RowsAt (upd H2 d (.dK (rK r))) ts r' := hrows.ex fun a xs h => by rw [upd_ne (fun z => by rw [z, h2d] at h; cases h)]; exact h
    have hp4 : Pen (upd H2 d (.dK (rK r))) p q (N + r.length) := hp2.upNe (Ne.symm hdp) hdq
    have x4 : Xp p H (upd H2 d (.dK (rK r))) := fun a o ha h => by
      by_cases hz : a = d
      · rw [hz, upd_same, ← hd, ← h, hz]
      · rw [upd_ne hz]
        exact hk a o ha (ne_of_none h hD0) (by rw [upd_ne hz]; exact h)
    generalize upd H2 d (.dK (rK r)) = H4 at hDd2 hrows4 hp4 x4
    have ok' : ROk n r' := ⟨(hsub.map (·.1)).nodup ok.1, fun x hx => ok.2 x (hsub.subset hx)⟩
    have hr'7 : r'.length ≤ 7 := Nat.le_trans hsub.length_le hr7
    walk_at "rd"
    refine ⟨D, ts, rK r', rfl, SqL.of hDd2, hrows4.pairs, fun F hF => ?_⟩
    rw [mergeK_rK ok'.1]
    have hF0 : H F = none := by
      cases h0 : H F with
      | none => rfl
      | some o =>
        by_cases hz : F = p
        · exact absurd hz.symm (hp4.nep hF)
        · rw [x4 F o hz h0] at hF; cases hF
    have x5 : Xp p H (upd H4 F (.dK (rK r'))) := x4.nw hF0
    have hp5 := hp4.up (o := .dK (rK r')) hF
    have h5F : (upd H4 F (.dK (rK r'))) F = some (.dK (rK r')) := upd_same
    have hFp : F ≠ p := Ne.symm (hp4.nep hF)
    have hFq : q ≠ F := hp4.neq hF
    show gName 3 (.ref F) _ (upd H4 F (.dK (rK r'))) _
    generalize upd H4 F (.dK (rK r')) = H5 at x5 hp5 h5F
    walk_at "rd"
    refine ⟨rfl, p, q, N + r.length, n, 3, rfl, hp5, by omega, hn, by decide, fun H6 f bs x6 hf0 hp6 hf6 nd hbl hlen => ?_⟩
    have h6F := x6 F _ hFp h5F
    have hfp : f ≠ p := Ne.symm (hp5.nep hf0)
    have x6' : Xp p H H6 := x5.tr x6
    walk_at "rd"
    refine ⟨d, rK r, rfl, .inl (x6' d _ hdp hd), fun g hg => ?_⟩
    have hgp : g ≠ p := Ne.symm (hp6.nep hg)
    walk_at "rd"
    refine ⟨rfl, p, q, N + r.length + 100, 3, rfl, hp6.up hg, by omega, by decide, by decide, fun c H7 hc1 hc2 e7 hp7 => ?_⟩
    have h7g := e7 g _ hgp upd_same
    have h7f := e7 f _ hfp (by rw [upd_ne (ne_of_none hf6 hg)]; exact hf6)
    have h7F := e7 F _ hFp (by rw [upd_ne (ne_of_none h6F hg)]; exact h6F)
    have x7 : Xp p H H7 := fun a o ha h => e7 a o ha (by have h2 := x6' a o ha h; rw [upd_ne (ne_of_none h2 hg)]; exact h2)
    refine ⟨c, rfl, ?_⟩
    refine ⟨g, _, rfl, SqL.of h7g, fun m hm => ?_⟩
    obtain ⟨cs, ecs, hcs⟩ := bits_of_sub (xs := cutV ((rK r).map fun kv => kV kv.1) none (some c)) (bs := r.map (·.1)) fun x hx => by
      have h1 := cutV_mem hx
      rw [rK, List.map_map] at h1
      rw [List.map_map]
      exact h1
    have hcl : cs.length ≤ 7 := by
      have h1 := cutV_length ((rK r).map fun kv => kV kv.1) none (some c)
      rw [ecs, List.length_map, List.length_map, rK_len] at h1
      omega
    rw [ecs]
    have h8f : (upd H7 m (.lst (cs.map vb))) f = some (.lst (bs.map vb)) := by rw [upd_ne (ne_of_none h7f hm)]; exact h7f
    refine ⟨f, m, _, _, rfl, rfl, h8f, upd_same, by rw [List.length_map, List.length_map]; exact szl (by omega), fun l hl => ?_⟩
    rw [← List.map_append]
    have hall : ∀ b ∈ bs ++ cs, b.length ≤ n := fun b hb => by
      rcases List.mem_append.mp hb with z | z
      · exact hbl b z
      · obtain ⟨x, hx, e⟩ := List.mem_map.mp (hcs b z)
        rw [← e]
        exact (ok.2 x hx).1
    have hlall : (bs ++ cs).length ≤ 10 := by rw [List.length_append]; omega
    have h9F : (upd (upd H7 m (.lst (cs.map vb))) l (.lst ((bs ++ cs).map vb))) F = some (.dK (rK r')) := by
      have h8F : (upd H7 m (.lst (cs.map vb))) F = some (.dK (rK r')) := by rw [upd_ne (ne_of_none h7F hm)]; exact h7F
      rw [upd_ne (ne_of_none h8F hl)]
      exact h8F
    have hp9 : Pen (upd (upd H7 m (.lst (cs.map vb))) l (.lst ((bs ++ cs).map vb))) p q (N + 200) := ((hp7.up hm).up hl).mono (by omega)
    have x9 : Xp p H (upd (upd H7 m (.lst (cs.map vb))) l (.lst ((bs ++ cs).map vb))) := fun a o ha h => by
      have h1 := x7 a o ha h
      have h2 : (upd H7 m (.lst (cs.map vb))) a = some o := by rw [upd_ne (ne_of_none h1 hm)]; exact h1
      rw [upd_ne (ne_of_none h2 hl)]
      exact h2
    have h9l : (upd (upd H7 m (.lst (cs.map vb))) l (.lst ((bs ++ cs).map vb))) l = some (.lst ((bs ++ cs).map vb)) := upd_same
    generalize upd (upd H7 m (.lst (cs.map vb))) l (.lst ((bs ++ cs).map vb)) = H9 at h9F hp9 x9 h9l
    have hlp : l ≠ p := fun z => by
      have := (hp7.up (o := .lst (cs.map vb)) hm).nep hl
      exact this z.symm
    have hlF : l ≠ F := fun z => by rw [z, h9F] at h9l; cases h9l
    refine ⟨l, rfl, ⟨_, SqL.of h9l⟩, ?_⟩
    refine forG src_list (fun i σ' H' => (∃ z, σ' = [some (.ref p), some (.int (n : Int)), some (.ref d), some (.ref F), z]) ∧ Pen H' p q (N + 200 + i) ∧ Xp p H H' ∧ H' l = some (.lst ((bs ++ cs).map vb)) ∧ ∃ r2, H' F = some (.dK (rK r2)) ∧ ROk n r2 ∧ r2.length ≤ 7 + i)
      ⟨⟨_, rfl⟩, hp9, x9, h9l, r', h9F, ok', hr'7⟩ (fun i σ' H' _ h => SqL.of h.2.2.2.1) (fun i x σ' HA hx ⟨⟨z, eσ⟩, hpA, xA, hlA, r2, hFA, okA, hrA⟩ => ?_) fun σ' HA ⟨⟨z, eσ⟩, hpA, xA, hlA, r2, hFA, okA, hrA⟩ => ?_
    · have hib : i < (bs ++ cs).length := by
        have := (List.getElem?_eq_some_iff.mp hx).1
        simpa using this
      obtain ⟨b, hb, rfl⟩ := List.mem_map.mp (List.mem_of_getElem? hx)
      subst eσ
      walk_at "rd"
      refine ⟨rfl, p, q, N + 200 + i, 4, rfl, hpA, by omega, by decide, by decide, fun k HB hk1 hk2 eB hpB => ?_⟩
      refine rd_abcx hk1 hk2 fun t ht => ?_
      walk_at "rd"
      have hFB := eB F _ hFp hFA
      have hlB := eB l _ hlp hlA
      refine ⟨F, _, rfl, DPr hFB (by omega), ?_⟩
      refine ⟨⟨_, rfl⟩, hpB.upNe (Ne.symm hFp) hFq, (xA.tr eB).nw hF0, by rw [upd_ne hlF]; exact hlB, _, upd_same, okA.put (hall b hb) ht, ?_⟩
      have := putR_len r2 b t
      omega
    · subst eσ
      rw [List.length_map] at hpA hrA
      walk_at "rd"
      exact hQ HA F r2 xA hF0 (hpA.mono (by omega)) hFA okA (by omega)
theorem takesLen {X : Cx} {W : WX} (tk : Takes X W) : Takes X (fun cls d σ H => σ.length = X.N.length → W cls d σ H) := fun u s' xx => by
  obtain ⟨a, B, sI, pins, σ, H, cls, d, rfl, I, nb, up, sky, na, os, ag, w⟩ := xx
  exact tk _ _ ⟨a, B, sI, pins, σ, H, cls, d, rfl, I, nb, up, sky, na, os, ag, w I.len⟩
def TPair (IP : Addr) : (XK → Hp → VK → Prop) → Hp → VK → Prop := fun tl H Q => tl (fun cls d H' => cls = .ref IP ∧ d = none ∧ Q (.bl true) H') H fun _ _ => False
theorem sc__law_is_pair : FnScope ["act", "caught", "e"] ["act"] (defScope s__law_is_pair) := ⟨rfl, rfl, rfl, by decide +kernel, rfl, by decide +kernel, by decide +kernel⟩
theorem gives_pair {X : Cx} (T : Txt X.K X.mg) {cdg : Value} {q : Str} : LamX.GivesTo X ["act", "caught", "e"] "_law_is_pair" (defScope s__law_is_pair) (ga X.K "_law_is_pair") cdg (defBody s__law_is_pair) "act" q (TPair (ga X.K "InvalidPair")) := by
  intro f c' s H Q tl act hc h
  have nd := sc__law_is_pair.nd
  refine ⟨_, pss_cons (ps_set (i := 1) nd rfl (by first | exact Or.inl rfl | exact Or.inr rfl) pe_non)
    (pss_try_t (X := (cxOf C8.CX0 X.prog X.w X.K X.mg X.base ["act", "caught", "e"] "_law_is_pair" (defScope s__law_is_pair) (ga X.K "_law_is_pair") cdg X.A X.stack s H C8.E0).nox) (c := .ref (ga X.K "RouteError")) (i := 2)
      (tb := fun W D σ H => ∃ Ech : XK, (∀ cls d σ' H', σ'.length = 3 → Ech cls d H' → W cls d σ' H') ∧ σ[0]? = some (some (.ref f)) ∧ H c' = some (LamX.CodeO c' q) ∧ tl Ech H fun _ H1 => D.nx σ H1)
      (tx := fun a cls d D σ H => cls = .ref (ga X.K "InvalidPair") ∧ d = none ∧ tRet (tCB (rIsE X.K (ga X.K "InvalidPair") a) (tCons (tVar 1) (tCons (tC (.ref (ga X.K "InvalidPair"))) tNil))) D σ H)
      rfl rfl nd rfl rfl ⟨rfl, by decide, .inl T.g_RouteError⟩ LamX.takes0 (fun W pn xe tk _ => ⟨fun pins s' σ H' D I h' => ?_⟩) (fun a oe cls d pn _ _ => pss_one (ps_set (i := 1) nd rfl (by first | exact Or.inl rfl | exact Or.inr rfl) (pv 2))) (pss_one L2.ps_never)
      (fun a oe cls d pn hm hz hf => ⟨fun pins s' σ H' D I h' => ?_⟩)), ?_⟩
  · obtain ⟨Ech, hW, h1, h2, h3⟩ := h'
    exact (pss_one (ps_expr (act _ pn xe Ech _ _ (takesLen tk) fun cls d σ' H' he hl => hW cls d σ' H' hl he))).run pins s' σ H' D I ⟨h1, h2, h3⟩
  · obtain ⟨rfl, rfl, h3⟩ := h'
    exact (pss_one (ps_ret (pe_callB (X := ((cxOf C8.CX0 X.prog X.w X.K X.mg X.base ["act", "caught", "e"] "_law_is_pair" (defScope s__law_is_pair) (ga X.K "_law_is_pair") cdg X.A X.stack s H C8.E0).nox).tr pn ((cxOf C8.CX0 X.prog X.w X.K X.mg X.base ["act", "caught", "e"] "_law_is_pair" (defScope s__law_is_pair) (ga X.K "_law_is_pair") cdg X.A X.stack s H C8.E0).nox).xe) (call_isP (X := ((cxOf C8.CX0 X.prog X.w X.K X.mg X.base ["act", "caught", "e"] "_law_is_pair" (defScope s__law_is_pair) (ga X.K "_law_is_pair") cdg X.A X.stack s H C8.E0).nox).tr pn ((cxOf C8.CX0 X.prog X.w X.K X.mg X.base ["act", "caught", "e"] "_law_is_pair" (defScope s__law_is_pair) (ga X.K "_law_is_pair") cdg X.A X.stack s H C8.E0).nox).xe) hm T.xc_InvalidPair hz hf) (by rfl) T.free_isinstance (by decide +kernel) (pa_cons (pv 1) (pa_cons (pcc T.g_InvalidPair (by rfl)) pa_nil))))).run pins s' σ H' D I h3
  · refine ⟨fun cls d H' => cls = .ref (ga X.K "InvalidPair") ∧ d = none ∧ Q (.bl true) H', fun cls d σ' H' hl he => ?_, rfl, hc, h⟩
    obtain ⟨rfl, rfl, hq⟩ := he
    match σ', hl with
    | [y1, y2, y3], _ =>
      refine ⟨true, T.xm_InvalidPair_RouteError, fun _ a ha => ?_, fun z => by cases z⟩
      exact ⟨.ref a, rfl, rfl, rfl, .ref a, rfl, .ref (ga X.K "InvalidPair"), .ref (ga X.K "InvalidPair"), true, rfl, fun u r => r, T.kt_InvalidPair_InvalidPair, hq⟩
theorem pe_isPair {X : Cx} (T : Txt X.K X.mg) {c P : Addr} {k : Nat} {params : Arguments} {body : Expr} {scope : Scope} {t : XK → TE} {p lpos pos : Pos} (hg : Gl X "_law_is_pair") (TB : LamX.TabB X.base X.mg c P) (hcode : X.env.code = .ref c) (hr : Room (k + 2) X.A) (L : LamX.LamS X.env.scope scope)
    (hbody : ∀ (A : Around) (outer : List Env) (s : Shared) (H : Hp) (E : XK) (f c' : Addr), Room k (A.deeper (LamX.lamEnv X scope s.heap.objs.size f c')) → PE (LamX.lamCx X A outer s H E scope f c') body (t E))
    (hdef : defaultsOf params X.env = ([], []))
    (hbind : ∀ (q : Str) (cl : List (Str × Addr)) (pm cv ctv : Value), bindArgs (PySem.W.kla_fn "<lambda>" q params body scope cl pm cv ctv) ⟨[], []⟩ = pure []) :
    PE X (.Call (.Name "_law_is_pair" p) [.Lambda params body scope lpos] [] pos) (LamX.tLam [(P, X.env.qual ++ "<lambda>")] (TPair (ga X.K "InvalidPair")) t) := by
  obtain ⟨fd, F⟩ := T.D__law_is_pair
  have b := F.bindsN (ps := ["act"]) fun _ _ _ _ _ _ us hl => match us, hl with | [_], _ => rfl
  obtain ⟨oc, od, dV, kV, doc, pm, an, cdv, ct, osl, rfl, lk, hcd, hD, _⟩ := F.ex
  obtain rfl : dV = .none := hD.elim (fun z => z.2) (fun z => absurd rfl z.1)
  exact LamX.pe_lamcall (a := "act") hg T.g__law_is_pair F.kp lk hcd b sc__law_is_pair rfl (.inl rfl) (gives_pair T) TB hcode (List.mem_singleton.mpr rfl) (fun x hx _ => by rw [List.mem_singleton.mp hx]) hr L hdef hbind hbody
theorem rd_TPair {IP : Addr} {tl : XK → Hp → VK → Prop} {H : Hp} {Q : VK} (h : tl (fun cls d H' => cls = .ref IP ∧ d = none ∧ Q (.bl true) H') H fun _ _ => False) : TPair IP tl H Q := h


end
end KP
namespace KP
open PySem PySem.Spec PyProof.Rows L2 He KH K2
local macro_rules | `(tactic| walk_at "rd") => `(tactic| repeat (first
  | ((with_reducible show tVar _ _ _ _); refine rd_var rfl ?_)
  | with_reducible refine rd_c ?_
  | with_reducible refine rd_yes ?_
  | with_reducible refine rd_kw ?_
  | with_reducible refine rd_lstN ?_
  | with_reducible refine rd_par ?_
  | with_reducible refine rd_gSub ?_
  | with_reducible refine rd_m1 ?_
  | with_reducible refine rd_dnewK ?_
  | with_reducible refine rd_U ?_
  | with_reducible refine rd_iRng3 ?_
  | with_reducible refine rd_seq ?_
  | with_reducible refine rd_asg ?_
  | with_reducible refine rd_gName ?_
  | with_reducible refine rd_ret ?_
  | with_reducible refine rd_op ?_
  | with_reducible refine rd_I0 ?_
  | ((with_reducible show rEq _ _ _ _); refine rd_eq rfl ?_)
  | ((with_reducible show rNe _ _ _ _); refine rd_ne rfl ?_)
  | with_reducible refine rd_cb ?_
  | with_reducible refine rd_isi_int_int ?_
  | with_reducible refine rd_isi_int_bool ?_
  | with_reducible refine rd_isi_int_str ?_
  | with_reducible refine rd_isi_int_list ?_
  | with_reducible refine rd_isi_int_tuple ?_
  | with_reducible refine rd_isi_int_dict ?_
  | with_reducible refine rd_isi_str_int ?_
  | with_reducible refine rd_isi_str_bool ?_
  | with_reducible refine rd_isi_str_str ?_
  | with_reducible refine rd_isi_str_list ?_
  | with_reducible refine rd_isi_str_tuple ?_
  | with_reducible refine rd_isi_str_dict ?_
  | with_reducible refine rd_isi_bool_int ?_
  | with_reducible refine rd_isi_bool_bool ?_
  | with_reducible refine rd_isi_bool_str ?_
  | with_reducible refine rd_isi_bool_list ?_
  | with_reducible refine rd_isi_bool_tuple ?_
  | with_reducible refine rd_isi_bool_dict ?_
  | with_reducible refine rd_cons ?_
  | with_reducible refine rd_star ?_
  | with_reducible refine rd_nil ?_
  | with_reducible refine rd_call ?_
  | with_reducible refine rd_ifs ?_
  | with_reducible refine rd_test ?_
  | with_reducible refine rd_tB ?_
  | with_reducible refine rd_bl ?_
  | with_reducible refine rd_int ?_
  | with_reducible refine iteT ?_
  | with_reducible refine iteF ?_
  | with_reducible refine iteFn ?_
  | with_reducible refine iteTn ?_
  | with_reducible refine rd_andV ?_
  | with_reducible refine rd_orV ?_
  | with_reducible refine rd_notV ?_
  | with_reducible refine rd_and ?_
  | with_reducible refine rd_or ?_
  | with_reducible refine rd_not ?_
  | with_reducible refine rd_if ?_
  | with_reducible refine rd_sl ?_
  | with_reducible refine rd_part ?_
  | with_reducible refine rd_noPart ?_
  | with_reducible refine rd_next ?_
  | with_reducible refine rd_drop ?_
  | with_reducible refine rd_retN ?_
  | with_reducible refine rd_brk ?_
  | with_reducible refine rd_cont ?_
  | with_reducible refine rd_dget ?_
  | with_reducible refine rd_din ?_
  | with_reducible refine rd_dnin ?_
  | with_reducible refine rd_dput ?_
  | with_reducible refine rd_met ?_
  | with_reducible refine rd_make ?_
  | with_reducible refine rd_fld ?_
  | with_reducible refine rd_prop ?_
  | with_reducible refine rd_sm ?_
  | with_reducible refine rd_ref ?_
  | with_reducible refine rd_chain ?_
  | with_reducible refine rd_un ?_
  | with_reducible refine rd_lst ?_
  | with_reducible refine rd_lc ?_
  | with_reducible refine rd_lc2 ?_
  | with_reducible refine rd_sc ?_
  | with_reducible refine rd_dc ?_
  | with_reducible refine rd_for ?_
  | with_reducible refine rd_iStr ?_
  | with_reducible refine rd_strx ?_
  | with_reducible refine rd_iList ?_
  | with_reducible refine rd_iTup ?_
  | with_reducible refine rd_iKeysL ?_
  | with_reducible refine rd_iKeys ?_
  | with_reducible refine rd_iRng1 ?_
  | with_reducible refine rd_iRng2 ?_
  | with_reducible refine rd_isN_str ?_
  | with_reducible refine rd_isN_int ?_
  | with_reducible refine rd_isN_ref ?_
  | with_reducible refine rd_isN_non ?_
  | with_reducible refine rd_notN_str ?_
  | with_reducible refine rd_notN_int ?_
  | with_reducible refine rd_notN_ref ?_
  | with_reducible refine rd_notN_non ?_
  | with_reducible refine rd_min2 ?_
  | with_reducible refine rd_bm ?_
  | with_reducible refine rd_bm0 ?_
  | with_reducible refine rd_setF ?_
  | with_reducible refine rd_tup ?_))

section
variable {P : Program} {w : World} {K : Fr} {mg : Str → Option Value}
def sp_law (K : Fr) (Pt : Addr) : Sp := fun vs H Q _ => vs.length = 1 ∧ ∃ (a : Addr) (ns : List Int), vs = [.ref a] ∧ SqL K H a (ns.map V.int) ∧ H Pt = some (.tbl #[]) ∧ ∀ H', Q (.bl true) H'
theorem mkEx {H H' : Hp} {p dx : Addr} {o o2 : HO} (hp : H p = none) (hdx : H dx = none) (e : Xp p (upd (upd H dx o) p o2) H') : Ex H H' := fun a u h =>
  e a u (ne_of_none h hp) (by rw [upd_ne (ne_of_none h hp), upd_ne (ne_of_none h hdx)]; exact h)
theorem sortR_sub {r : Rows} {x : Bits × Str} (h : x ∈ sortR r) : x ∈ r := by
  unfold sortR at h
  obtain ⟨b, hb, e⟩ := List.mem_filterMap.mp h
  cases q : r.lookup b with
  | none => rw [q] at e; cases e
  | some t =>
    rw [q] at e
    obtain rfl := Option.some.inj e
    exact mem_of_lookup' q
theorem TOk.srt {n : Nat} {r : Rows} (o : TOk n r) : TOk n (sortR r) := by
  obtain ⟨h1, h2, h3, h4, h5⟩ := o
  refine ⟨h1, h2, by rw [sortR_keys]; exact sortB_nodup h3, fun x hx => h4 x (sortR_sub hx), ?_⟩
  have e := congrArg List.length (sortR_keys r)
  rw [List.length_map, sortB_len, List.length_map] at e
  omega
theorem ROk.tok {n : Nat} {r : Rows} (h : ROk n r) (h1 : 1 ≤ n) (h2 : n ≤ 32) (h3 : r.length ≤ 20) : TOk n r := ⟨h1, h2, h.1, h.2, h3⟩
theorem ROk.nil {n : Nat} : ROk n [] := ⟨List.Pairwise.nil, fun x hx => by cases hx⟩
theorem IsT.ex {C : Addr} {H H' : Hp} {p d : Addr} {n : Nat} {r : Rows} (h : IsT C H p d n r) (e : Ex H H') : IsT C H' p d n r := by
  obtain ⟨⟨dx, h1⟩, h2⟩ := h
  exact ⟨⟨dx, e _ _ h1⟩, e _ _ h2⟩
theorem iteG {ta tb : TE} {σ : L2.St} {H : Hp} {Q : VK} {b : Bool} (G : V → Hp → Prop) (h1 : b = true → ∀ Q' : VK, (∀ v H', G v H' → Q' v H') → ta σ H Q') (h2 : b = false → ∀ Q' : VK, (∀ v H', G v H' → Q' v H') → tb σ H Q') (k : ∀ v H', G v H' → Q v H') :
    if b = true then ta σ H Q else tb σ H Q := by
  cases b with
  | true => exact h1 rfl Q k
  | false => exact h2 rfl Q k
theorem runs_len {n : Nat} {a b : Rows} {es : List Bits} (he : ∀ e ∈ es, e.length ≤ n) : ∀ r ∈ (runsB n a b es).1, r.lo.length ≤ n ∧ r.hi.length ≤ n := by
  have rep : ∀ (e : Bits) (c : Bool), e.length ≤ n → (e ++ List.replicate (n - e.length) c).length ≤ n := fun e c h => by
    rw [List.length_append, List.length_replicate]
    omega
  have key : ∀ (l : List Bits) (st : List K2.Run × Option (Option Str × Option Str)), (∀ e ∈ l, e.length ≤ n) → (∀ r ∈ st.1, r.lo.length ≤ n ∧ r.hi.length ≤ n) → ∀ r ∈ (l.foldl (stepR n a b) st).1, r.lo.length ≤ n ∧ r.hi.length ≤ n := by
    intro l
    induction l with
    | nil => intro st _ h; exact h
    | cons x l ih =>
      intro st hl h
      refine ih _ (fun e he => hl e (List.mem_cons_of_mem _ he)) fun r hr => ?_
      have hx := hl x List.mem_cons_self
      unfold stepR at hr
      dsimp only at hr
      split at hr
      · exact h r hr
      · rcases List.mem_cons.mp hr with e | e
        · rw [e]
          refine ⟨?_, rep x true hx⟩
          show (if _ then _ else _ : Bits).length ≤ n
          split
          · split
            · rename_i r0 rest er
              exact (h r0 (by rw [er]; exact List.mem_cons_self)).1
            · exact Nat.zero_le _
          · exact rep x false hx
        · split at e
          · exact h r (List.mem_of_mem_drop e)
          · exact h r e
  exact key es _ he fun r hr => by cases hr
theorem moves_small {n : Nat} {a b : Rows} (hn : n ≤ 32) (o1 : ROk n a) (o2 : ROk n b) (l1 : a.length ≤ 20) (l2 : b.length ≤ 20) : (∀ r ∈ movesB n a b, RunSmall r) ∧ (movesB n a b).length ≤ 5000 := by
  have hb1 : ∀ c ∈ a.map (·.1) ++ b.map (·.1), c.length ≤ n := fun c hb => by
    rcases List.mem_append.mp hb with z | z
    · obtain ⟨x, hx, rfl⟩ := List.mem_map.mp z
      exact (o1.2 x hx).1
    · obtain ⟨x, hx, rfl⟩ := List.mem_map.mp z
      exact (o2.2 x hx).1
  have hes : ∀ e ∈ leafB (closB (a.map (·.1) ++ b.map (·.1))), e.length ≤ n := fun e he => clL_mem_len hb1 (closB_mem.mp (leafB_mem he))
  have sm : ∀ {r : Rows} {c : Bits} {s : Str}, ROk n r → leadB r c = some s → s.length ≤ 8 ∧ PyData.strOk s = true := fun {r c s} o h => by
    have h1 : isTgt s = true := by
      unfold leadB at h
      cases q : longB r c with
      | none => rw [q] at h; cases h
      | some k =>
        rw [q] at h
        exact (o.2 _ (mem_of_lookup' h)).2
    exact ⟨(isTgt_len h1).2, tgt_ok h1⟩
  refine ⟨fun r hr => ?_, ?_⟩
  · have hr2 : r ∈ (runsB n a b (leafB (closB (a.map (·.1) ++ b.map (·.1))))).1 := List.mem_reverse.mp hr
    obtain ⟨h1, h2⟩ := runs_len hes r hr2
    obtain ⟨e, e1, e2⟩ := runs_lead n a b _ r hr2
    exact ⟨by omega, by omega, fun s hs => sm o1 (e1 ▸ hs), fun s hs => sm o2 (e2 ▸ hs)⟩
  · unfold movesB
    rw [List.length_reverse]
    have h1 := runsB_len n a b (leafB (closB (a.map (·.1) ++ b.map (·.1))))
    have h2 := leafB_len (closB (a.map (·.1) ++ b.map (·.1)))
    have h3 := closB_len (a.map (·.1) ++ b.map (·.1)) fun c hc => Nat.le_trans (hb1 c hc) hn
    simp only [List.length_append, List.length_map] at h3
    omega
theorem rows_small {n : Nat} {r : Rows} (o : TOk n r) : ∀ x ∈ r, x.1.length ≤ 32 ∧ x.2.length ≤ 8 ∧ PyData.strOk x.2 = true := fun x hx => by
  have h1 := o.2.2.2.1 x hx
  have h2 := o.2.1
  exact ⟨by omega, (isTgt_len h1.2).2, tgt_ok h1.2⟩
theorem last_moves : movesB 1 (sortR []) (sortR [([], "a")]) = [⟨[false], [true], none, some "a"⟩] := by
  rw [movesB_sortR]
  have e1 : closB (([] : Rows).map (·.1) ++ ([([], "a")] : Rows).map (·.1)) = [[]] := by
    refine (closB_of (ys := [[]]) (by simp) fun c => ?_).symm.trans (sortB_uniq (List.Perm.refl _) (by simp)).symm
    simp [clL, cl1]
  unfold movesB
  rw [e1]
  rfl

theorem sc_law : FnScope ["script", "pen", "turn", "size", "one", "two", "early", "late", "first", "second", "due", "again", "found", "other"] ["script"] (defScope s_law) := ⟨rfl, rfl, rfl, by decide +kernel, rfl, by decide +kernel, by decide +kernel⟩
theorem ok_law (T : Txt K mg) : ∃ fd, (∀ (s : Shared) (u : Value), BindsTo s fd ⟨[u], []⟩ [("script", u)]) ∧ ∀ (base : Heap) (Pt : Addr), LamX.TabB base mg (He.codeOf K ("law", none)) Pt → LamX.FnAt P w K mg base (L2.CX P w) (ga K "law") fd "script" (sp_law K Pt) := by
  obtain ⟨fd, F⟩ := T.D_law
  have bA := F.bindsA (ps := ["script"]) fun _ _ _ _ _ _ us hl => match us, hl with | [_], _ => rfl
  refine ⟨fd, fun s u => bA s [u] rfl, fun base Pt TB => ?_⟩
  obtain ⟨kwfd, kwD, kwF⟩ := fnok_moved_runs (P := P) (w := w) (base := base) T
  have kwB : ∀ (s : Shared) (u v : Value), BindsTo s kwfd ⟨[], [("before", u), ("after", v)]⟩ [("before", u), ("after", v)] := by
    obtain ⟨oc, od, dV, kV, doc, pm, an, cdv, ct, osl, e, lk, hcd, hD, _⟩ := kwD.ex
    obtain rfl : dV = .none := hD.elim (fun z => z.2) (fun z => absurd rfl z.1)
    subst e
    exact fun s u v => .of_eq rfl
  obtain ⟨oc, od, dV, kV, doc, pm, an, cdv, ct, osl, rfl, lk, hcd, hD, _⟩ := F.ex
  obtain rfl : dV = .none := hD.elim (fun z => z.2) (fun z => absurd rfl z.1)
  obtain ⟨c, rfl⟩ := He.codeIn_ref hcd
  obtain rfl : He.codeOf K ("law", none) = c := He.codeOf_eq lk rfl
  intro s H us vs Q E e0 hb r hsp
  refine LamX.run_ofS (k := 11) (N := ["script", "pen", "turn", "size", "one", "two", "early", "late", "first", "second", "due", "again", "found", "other"]) (ps := ["script"]) lk hcd sc_law ⟨rfl, by decide, by decide⟩ e0 hb r hsp.1 fun hr => ⟨_, (pss_cons (ps_set (i := 1) sc_law.nd rfl (by first | exact Or.inl rfl | exact Or.inr rfl) (pcl (ok__law_pen T) (hr.mono (by decide)) rfl (pa_cons (pv 0) pa_nil)))
    (pss_cons (ps_for (passes_of rfl) rfl (pi_range1 (by rfl) T.free_range (pa_cons pe_int pa_nil)) (pg_name (i := 2) sc_law.nd rfl (by first | exact Or.inl rfl | exact Or.inr rfl))
    (pss_cons (ps_set (i := 3) sc_law.nd rfl (by first | exact Or.inl rfl | exact Or.inr rfl) (pcl (ok__law_size T) (hr.mono (by decide)) rfl (pa_cons (pv 1) pa_nil)))
    (pss_cons (ps_set (i := 4) sc_law.nd rfl (by first | exact Or.inl rfl | exact Or.inr rfl) (pcl (ok__law_lines T) (hr.mono (by decide)) rfl (pa_cons (pv 1) (pa_cons (pv 3) (pa_cons pe_int pa_nil)))))
    (pss_cons (ps_set (i := 5) sc_law.nd rfl (by first | exact Or.inl rfl | exact Or.inr rfl) (pe_ifExp (pt_cmpR op_gt (pcl (ok__law_draw T) (hr.mono (by decide)) rfl (pa_cons (pv 1) (pa_cons pe_int pa_nil))) pe_int (nomark _)) (pcl (ok__law_near T) (hr.mono (by decide)) rfl (pa_cons (pv 1) (pa_cons (pv 3) (pa_cons (pv 4) pa_nil)))) (pcl (ok__law_lines T) (hr.mono (by decide)) rfl (pa_cons (pv 1) (pa_cons (pv 3) (pa_cons pe_int pa_nil))))))
    (pss_cons (ps_for (passes_of rfl) rfl (k_itT (K := K) (pe_tup (pa_cons (pe_tup (pa_cons (pv 4) (pa_cons (pv 5) pa_nil))) (pa_cons (pe_tup (pa_cons (pv 5) (pa_cons (pv 4) pa_nil))) (pa_cons (pe_tup (pa_cons (pv 4) (pa_cons (pv 4) pa_nil))) (pa_cons (pe_tup (pa_cons pe_dnewK (pa_cons (pv 4) pa_nil))) (pa_cons (pe_tup (pa_cons (pv 4) (pa_cons pe_dnewK pa_nil))) pa_nil))))))) (k_gTup (K := K) (pgs_cons (pg_name (i := 6) sc_law.nd rfl (by first | exact Or.inl rfl | exact Or.inr rfl)) (pgs_cons (pg_name (i := 7) sc_law.nd rfl (by first | exact Or.inl rfl | exact Or.inr rfl)) pgs_nil)))
    (pss_cons (ps_par (i := 8) (j := 9) (by rfl) sc_law.nd rfl rfl (by decide) rfl rfl (pa_cons (pmk (ok_Table T) (hr.mono (by decide)) rfl passL (pa_cons (pv 3) (pa_cons (pv 6) pa_nil))) (pa_cons (pmk (ok_Table T) (hr.mono (by decide)) rfl passL (pa_cons (pv 3) (pa_cons (pv 7) pa_nil))) pa_nil)) (by rfl))
    (pss_cons (ps_set (i := 10) sc_law.nd rfl (by first | exact Or.inl rfl | exact Or.inr rfl) (pcl (ok__law_moves T) (hr.mono (by decide)) rfl (pa_cons (pv 3) (pa_cons (pv 6) (pa_cons (pv 7) pa_nil)))))
    (pss_cons (ps_for (passes_of rfl) rfl (pi_range1 (by rfl) T.free_range (pa_cons pe_int pa_nil)) (pg_name (i := 11) sc_law.nd rfl (by first | exact Or.inl rfl | exact Or.inr rfl))
    (pss_cons (ps_set (i := 12) sc_law.nd rfl (by first | exact Or.inl rfl | exact Or.inr rfl) (pcl (ok_moved_runs T) (hr.mono (by decide)) rfl (pa_cons (pv 8) (pa_cons (pv 9) pa_nil))))
    (pss_cons (ps_if (pt_cmpR op_ne (pe_callB (cr_reprD rfl hr.units) (by rfl) T.free_repr (by decide +kernel) (pa_cons (pv 12) pa_nil)) (pe_callB (cr_reprD rfl hr.units) (by rfl) T.free_repr (by decide +kernel) (pa_cons (pv 10) pa_nil)) (nomark _))
    (pss_one (ps_ret pe_bl))
    pss_nil)
    (pss_one (ps_expr (k_bm (K := K) PySem.F.plainAttrs_list PySem.F.slot_list_append PySem.F.type_list_append mt_append (pv 12) (pa_cons pe_non pa_nil)))))))
    (pss_one (ps_if (pt_cmpR op_ne (pe_callB (cr_reprR rfl hr.units) (by rfl) T.free_repr (by decide +kernel) (pa_cons (pe_lstN (pa_cons (ppr T.cls_Table (ok_Table_rows T) (hr.mono (by decide)) (pv 8)) (pa_cons (ppr T.cls_Table (ok_Table_rows T) (hr.mono (by decide)) (pv 9)) pa_nil))) pa_nil)) (pe_callB (cr_reprR rfl hr.units) (by rfl) T.free_repr (by decide +kernel) (pa_cons (pe_lstN (pa_cons (ppr T.cls_Table (ok_Table_rows T) (hr.mono (by decide)) (pmk (ok_Table T) (hr.mono (by decide)) rfl passL (pa_cons (pv 3) (pa_cons (pv 6) pa_nil)))) (pa_cons (ppr T.cls_Table (ok_Table_rows T) (hr.mono (by decide)) (pmk (ok_Table T) (hr.mono (by decide)) rfl passL (pa_cons (pv 3) (pa_cons (pv 7) pa_nil)))) pa_nil))) pa_nil)) (nomark _))
    (pss_one (ps_ret pe_bl))
    pss_nil))))))
    (pss_cons (ps_set (i := 13) sc_law.nd rfl (by first | exact Or.inl rfl | exact Or.inr rfl) (pmk (ok_Table T) (hr.mono (by decide)) rfl passL (pa_cons (pe_ifExp (pt_cmpR op_lt (pv 3) pe_int (nomark _)) (pe_op op_add (pv 3) pe_int) pe_int) (pa_cons pe_dnewK pa_nil))))
    (pss_cons (ps_if (pt_not (pt_val (pe_isPair (k := 8) T rfl TB rfl (hr.mono (by decide)) (LamX.lamS_by (sc := defScope s_law) (by decide +kernel)) (fun A outer s H E f c' hr => (pclX (ok_moved_runs T) (hr.mono (by decide)) (by rfl) (passes_call (takes_of rfl rfl rfl rfl) (fun _ _ _ _ h => h)) (pa_cons (pmk (ok_Table T) (hr.mono (by decide)) rfl passL (pa_cons (pv 3) (pa_cons (pv 4) pa_nil))) (pa_cons (pv 13) pa_nil)))) (by rfl) (by intros; rfl))))
    (pss_one (ps_ret pe_bl))
    pss_nil)
    (pss_one (ps_if (pt_not (pt_val (pe_isPair (k := 8) T rfl TB rfl (hr.mono (by decide)) (LamX.lamS_by (sc := defScope s_law) (by decide +kernel)) (fun A outer s H E f c' hr => (pclX (ok_moved_runs T) (hr.mono (by decide)) (by rfl) (passes_call (takes_of rfl rfl rfl rfl) (fun _ _ _ _ h => h)) (pa_cons (pv 13) (pa_cons (pmk (ok_Table T) (hr.mono (by decide)) rfl passL (pa_cons (pv 3) (pa_cons pe_dnewK pa_nil))) pa_nil)))) (by rfl) (by intros; rfl))))
    (pss_one (ps_ret pe_bl))
    pss_nil)))))))))
    (pss_one (ps_ret (pe_cmpR (k_eqD (K := K) hr.units) (pe_callKW0 kwF (hr.mono (by decide)) rfl T.g_moved_runs kwD.kp (kb2 kwB) passE (pk_cons (pmk (ok_Table T) (hr.mono (by decide)) rfl passL (pa_cons pe_int (pa_cons pe_dnewK pa_nil))) (pk_cons (pmk (ok_Table T) (hr.mono (by decide)) rfl passL (pa_cons pe_int (pa_cons (pe_disp (pps_cons pe_str pe_str pps_nil) (by rfl) (by rfl) (fun z => by cases z) (by decide)) pa_nil))) pk_nil))) (pe_lst (pa_cons (pe_tup (pa_cons pe_str (pa_cons pe_str (pa_cons pe_non (pa_cons pe_str pa_nil))))) pa_nil)) (nomark _)))))), ?_⟩
  obtain ⟨_, a, ns, rfl, ha, htab, hQ⟩ := hsp
  walk_at "rd"
  refine ⟨rfl, a, ns, rfl, ha, fun H1 p q e1 hp hq hpen => ?_⟩
  walk_at "rd"
  refine ⟨6, rfl, by decide, by decide, ?_⟩
  refine forR (fun i σ' H' => (∃ z2 z3 z4 z5 z6 z7 z8 z9 z10 z11 z12 z13, σ' = [some (.ref a), some (.ref p), z2, z3, z4, z5, z6, z7, z8, z9, z10, z11, z12, z13]) ∧ Pen H' p q (1000 * i) ∧ LamX.Tabs [(Pt, (envOfC "law" (defScope s_law) 0 0 (.ref 0)).qual ++ "<lambda>")] H')
    ⟨⟨none, none, none, none, none, none, none, none, none, none, none, none, rfl⟩, hpen, fun x hx => by rw [List.mem_singleton.mp hx]; exact LamX.TabS.nil (e1 _ _ htab)⟩ (fun i σ' H2 hi ⟨⟨z2, z3, z4, z5, z6, z7, z8, z9, z10, z11, z12, z13, eσ⟩, hp2, ht2⟩ => ?_) fun σ' H2 ⟨⟨z2, z3, z4, z5, z6, z7, z8, z9, z10, z11, z12, z13, eσ⟩, hp2, ht2⟩ => ?_
  · have hi6 : i < 6 := by simpa using hi
    subst eσ
    walk_at "rd"
    refine ⟨rfl, p, q, 1000 * i, rfl, hp2, by omega, fun n H3 n1 n2 x3 hp3 => ?_⟩
    have ht3 := Tabs.xp ht2 hp2.at x3
    walk_at "rd"
    refine ⟨rfl, p, q, 1000 * i + 1, n, 7, rfl, hp3, by omega, n2, by decide, fun H4 d1 r1 x4 hd10 hp4 hd1 ok1 hl1 => ?_⟩
    have ht4 := Tabs.xp ht3 hp3.at x4
    have hd1p : d1 ≠ p := Ne.symm (hp3.nep hd10)
    walk_at "rd"
    refine ⟨rfl, p, q, 1000 * i + 1 + 200, 3, rfl, hp4, by omega, by decide, by decide, fun k H5 hk1 hk2 x5 hp5 => ?_⟩
    have ht5 := Tabs.xp ht4 hp4.at x5
    have hd15 := x5 d1 _ hd1p hd1
    walk_at "rd"
    refine iteG (fun v H' => ∃ d2 r2, v = .ref d2 ∧ H' d2 = some (.dK (rK r2)) ∧ ROk n r2 ∧ r2.length ≤ 20 ∧ Xp p H5 H' ∧ Pen H' p q (1000 * i + 600)) (fun _ Q' hG => ?_) (fun _ Q' hG => ?_) fun v H6 ⟨d2, r2, ev, hd2, ok2, hl2, x6, hp6⟩ => ?_
    · walk_at "rd"
      refine ⟨rfl, p, q, 1000 * i + 1 + 200 + 1, n, d1, r1, rfl, hp5, by omega, n2, hd15, ok1, hl1, fun H6 F r2 x6 _ hp6 hF ok2 hl2 => hG _ _ ⟨F, r2, rfl, hF, ok2, hl2, x6, hp6.mono (by omega)⟩⟩
    · walk_at "rd"
      refine ⟨rfl, p, q, 1000 * i + 1 + 200 + 1, n, 7, rfl, hp5, by omega, n2, by decide, fun H6 F r2 x6 _ hp6 hF ok2 hl2 => hG _ _ ⟨F, r2, rfl, hF, ok2, by omega, x6, hp6.mono (by omega)⟩⟩
    subst ev
    have ht6 := Tabs.xp ht5 hp5.at x6
    have hd16 := x6 d1 _ hd1p hd15
    have tok1 := ok1.tok n1 n2 (by omega)
    have tok2 := ok2.tok n1 n2 hl2
    have tok0 : TOk n [] := ROk.nil.tok n1 n2 (by decide)
    walk_at "rd"
    refine ⟨by show 2 ≤ sizeLine; exact szl (by decide), fun t1 hn1 => ?_⟩
    have e7 : Ex H6 (upd H6 t1 (.tup [.ref d1, .ref d2])) := Ex.nw hn1
    have ht1 : (upd H6 t1 (.tup [.ref d1, .ref d2])) t1 = some (.tup [.ref d1, .ref d2]) := upd_same
    generalize upd H6 t1 (.tup [.ref d1, .ref d2]) = H7 at e7 ht1
    walk_at "rd"
    refine ⟨by show 2 ≤ sizeLine; exact szl (by decide), fun t2 hn2 => ?_⟩
    have e8 : Ex H7 (upd H7 t2 (.tup [.ref d2, .ref d1])) := Ex.nw hn2
    have ht2' : (upd H7 t2 (.tup [.ref d2, .ref d1])) t2 = some (.tup [.ref d2, .ref d1]) := upd_same
    generalize upd H7 t2 (.tup [.ref d2, .ref d1]) = H8 at e8 ht2'
    walk_at "rd"
    refine ⟨by show 2 ≤ sizeLine; exact szl (by decide), fun t3 hn3 => ?_⟩
    have e9 : Ex H8 (upd H8 t3 (.tup [.ref d1, .ref d1])) := Ex.nw hn3
    have ht3' : (upd H8 t3 (.tup [.ref d1, .ref d1])) t3 = some (.tup [.ref d1, .ref d1]) := upd_same
    generalize upd H8 t3 (.tup [.ref d1, .ref d1]) = H9 at e9 ht3'
    walk_at "rd"
    intro f1 hf1
    have e10 : Ex H9 (upd H9 f1 (.dK [])) := Ex.nw hf1
    have hf1' : (upd H9 f1 (.dK [])) f1 = some (.dK (rK [])) := upd_same
    generalize upd H9 f1 (.dK []) = H10 at e10 hf1'
    walk_at "rd"
    refine ⟨by show 2 ≤ sizeLine; exact szl (by decide), fun t4 hn4 => ?_⟩
    have e11 : Ex H10 (upd H10 t4 (.tup [.ref f1, .ref d1])) := Ex.nw hn4
    have ht4' : (upd H10 t4 (.tup [.ref f1, .ref d1])) t4 = some (.tup [.ref f1, .ref d1]) := upd_same
    generalize upd H10 t4 (.tup [.ref f1, .ref d1]) = H11 at e11 ht4'
    walk_at "rd"
    intro f2 hf2
    have e12 : Ex H11 (upd H11 f2 (.dK [])) := Ex.nw hf2
    have hf2' : (upd H11 f2 (.dK [])) f2 = some (.dK (rK [])) := upd_same
    generalize upd H11 f2 (.dK []) = H12 at e12 hf2'
    walk_at "rd"
    refine ⟨by show 2 ≤ sizeLine; exact szl (by decide), fun t5 hn5 => ?_⟩
    have e13 : Ex H12 (upd H12 t5 (.tup [.ref d1, .ref f2])) := Ex.nw hn5
    have ht5' : (upd H12 t5 (.tup [.ref d1, .ref f2])) t5 = some (.tup [.ref d1, .ref f2]) := upd_same
    generalize upd H12 t5 (.tup [.ref d1, .ref f2]) = H13 at e13 ht5'
    walk_at "rd"
    refine ⟨by show 5 ≤ sizeLine; exact szl (by decide), fun tt hntt => ?_⟩
    have e14 : Ex H13 (upd H13 tt (.tup [.ref t1, .ref t2, .ref t3, .ref t4, .ref t5])) := Ex.nw hntt
    have htt : (upd H13 tt (.tup [.ref t1, .ref t2, .ref t3, .ref t4, .ref t5])) tt = some (.tup [.ref t1, .ref t2, .ref t3, .ref t4, .ref t5]) := upd_same
    refine ⟨tt, rfl, ⟨_, SqT.of htt⟩, ?_⟩
    generalize upd H13 tt (.tup [.ref t1, .ref t2, .ref t3, .ref t4, .ref t5]) = H14 at e14 htt
    have eA : Ex H6 H14 := ((((((e7.tr e8).tr e9).tr e10).tr e11).tr e12).tr e13).tr e14
    have hd1E := eA _ _ hd16
    have hd2E := eA _ _ hd2
    have pairs : ∀ x ∈ [V.ref t1, .ref t2, .ref t3, .ref t4, .ref t5], ∃ t da db ra rb, x = V.ref t ∧ H14 t = some (.tup [.ref da, .ref db]) ∧ H14 da = some (.dK (rK ra)) ∧ H14 db = some (.dK (rK rb)) ∧ TOk n ra ∧ TOk n rb := by
      intro x hx
      simp only [List.mem_cons, List.not_mem_nil, or_false] at hx
      rcases hx with rfl | rfl | rfl | rfl | rfl
      · exact ⟨t1, d1, d2, r1, r2, rfl, (((((((e8.tr e9).tr e10).tr e11).tr e12).tr e13).tr e14)) _ _ ht1, hd1E, hd2E, tok1, tok2⟩
      · exact ⟨t2, d2, d1, r2, r1, rfl, ((((((e9.tr e10).tr e11).tr e12).tr e13).tr e14)) _ _ ht2', hd2E, hd1E, tok2, tok1⟩
      · exact ⟨t3, d1, d1, r1, r1, rfl, (((((e10.tr e11).tr e12).tr e13).tr e14)) _ _ ht3', hd1E, hd1E, tok1, tok1⟩
      · exact ⟨t4, f1, d1, [], r1, rfl, ((((e12).tr e13).tr e14)) _ _ ht4', ((((e11.tr e12).tr e13).tr e14)) _ _ hf1', hd1E, tok0, tok1⟩
      · exact ⟨t5, d1, f2, r1, [], rfl, e14 _ _ ht5', hd1E, ((e13.tr e14)) _ _ hf2', tok1, tok0⟩
    have hpA := eA.pen hp6
    have htA := LamX.Tabs.ext ht6 eA
    refine forG src_tup (fun j σ' H' => (∃ z6 z7 z8 z9 z10 z11 z12, σ' = [some (.ref a), some (.ref p), some (.int (0 + (i : Nat))), some (.int (n : Int)), some (.ref d1), some (.ref d2), z6, z7, z8, z9, z10, z11, z12, z13]) ∧ Ex H14 H')
      ⟨⟨_, _, _, _, _, _, _, rfl⟩, Ex.rfl'⟩ (fun _ _ _ _ h => SqT.of (h.2 _ _ htt)) (fun j x σ' H15 hx ⟨⟨z6, z7, z8, z9, z10, z11, z12, eσ⟩, e15⟩ => ?_) fun σ' H15 ⟨⟨z6, z7, z8, z9, z10, z11, z12, eσ⟩, e15⟩ => ?_
    · obtain ⟨t, da, db, ra, rb, rfl, htp, hda, hdb, ta, tb⟩ := pairs x (List.mem_of_getElem? hx)
      subst eσ
      refine ⟨t, _, rfl, SqT.of (e15 _ _ htp), rfl, _, _, rfl, ?_⟩
      walk_at "rd"
      refine ⟨_, _, rfl, ?_⟩
      walk_at "rd"
      refine ⟨rfl, ?_⟩
      have hdaE := e15 _ _ hda
      have hdbE := e15 _ _ hdb
      walk_at "rd"
      intro p1 x1 hp1 hx1 hne1
      refine ⟨rfl, p1, x1, da, n, ra, rfl, upd_same, by rw [upd_ne (ne_of_none hdaE hp1), upd_ne (ne_of_none hdaE hx1)]; exact hdaE, ta, fun H16 g1 xp16 hi16 hg16 _ => ⟨rfl, ?_⟩⟩
      have e16 : Ex H15 H16 := mkEx hp1 hx1 xp16
      have is1 : IsT (ga K "Table") H16 p1 g1 n (sortR ra) := ⟨⟨x1, hi16⟩, hg16⟩
      have hdb16 := e16 _ _ hdbE
      walk_at "rd"
      intro p2 x2 hp2' hx2 hne2
      refine ⟨rfl, p2, x2, db, n, rb, rfl, upd_same, by rw [upd_ne (ne_of_none hdb16 hp2'), upd_ne (ne_of_none hdb16 hx2)]; exact hdb16, tb, fun H17 g2 xp17 hi17 hg17 _ => ⟨rfl, ?_⟩⟩
      have e17 : Ex H16 H17 := mkEx hp2' hx2 xp17
      have is2 : IsT (ga K "Table") H17 p2 g2 n (sortR rb) := ⟨⟨x2, hi17⟩, hg17⟩
      walk_at "rd"
      refine ⟨_, _, rfl, ?_⟩
      walk_at "rd"
      have oka : ROk n ra := ⟨ta.2.2.1, ta.2.2.2.1⟩
      have okb : ROk n rb := ⟨tb.2.2.1, tb.2.2.2.1⟩
      obtain ⟨small, slen⟩ := moves_small n2 oka okb ta.2.2.2.2 tb.2.2.2.2
      refine ⟨rfl, n, da, db, ra, rb, rfl, e17 _ _ (e16 _ _ hdaE), e17 _ _ hdb16, n2, oka, okb, ta.2.2.2.2, tb.2.2.2.2, fun H18 q1 ts1 e18 hq1 h18 hr18 => ?_⟩
      have is1E := (is1.ex e17).ex e18
      have is2E := is2.ex e18
      walk_at "rd"
      refine ⟨2, rfl, by decide, by decide, ?_⟩
      refine forR (fun j2 σ' H' => (∃ z11 z12, σ' = [some (.ref a), some (.ref p), some (.int (0 + (i : Nat))), some (.int (n : Int)), some (.ref d1), some (.ref d2), some (.ref da), some (.ref db), some (.ref p1), some (.ref p2), some (.ref q1), z11, z12, z13]) ∧ Ex H18 H')
        ⟨⟨_, _, rfl⟩, Ex.rfl'⟩ (fun j2 σ' H19 hj2 ⟨⟨z11, z12, eσ⟩, e19⟩ => ?_) fun σ' H19 ⟨⟨z11, z12, eσ⟩, e19⟩ => ?_
      · subst eσ
        walk_at "rd"
        refine ⟨rfl, p1, g1, p2, g2, n, n, sortR ra, sortR rb, rfl, is1E.ex e19, is2E.ex e19, ta.srt, tb.srt, fun _ H20 q2 ts2 e20 hq2 h20 hr20 => ?_, fun h => absurd rfl h⟩
        rw [movesB_sortR] at hr20
        walk_at "rd"
        refine rd_reprRuns h20 hr20 small slen ?_
        walk_at "rd"
        refine rd_reprRuns (e20 _ _ (e19 _ _ h18)) (e20.runs (e19.runs hr18)) small slen ?_
        refine ⟨rfl, ?_⟩
        rw [decide_eq_true (show V.str (PyData.shown (.list ((movesB n ra rb).map dRun))) = V.str (PyData.shown (.list ((movesB n ra rb).map dRun))) from rfl)]
        walk_at "rd"
        have hlen2 := RunsAt.len hr20
        refine ⟨tyL h20, q2, _, .non, rfl, rfl, h20, by rw [List.length_map]; exact szlt (by omega), ?_⟩
        exact ⟨⟨_, _, rfl⟩, (e19.tr e20).up (e19.fr hq2)⟩
      · subst eσ
        have is1F := is1E.ex e19
        have is2F := is2E.ex e19
        have hda19 := e19 _ _ (e18 _ _ (e17 _ _ (e16 _ _ hdaE)))
        have hdb19 := e19 _ _ (e18 _ _ (e17 _ _ hdb16))
        walk_at "rd"
        refine ⟨p1, _, _, rfl, is1F.1.choose_spec, rfl, p1, g1, n, sortR ra, rfl, is1F, fun c1 hc1 => ?_⟩
        have e20 : Ex H19 (upd H19 c1 (.dK (rK (sortR ra)))) := Ex.nw hc1
        have hc1' : (upd H19 c1 (.dK (rK (sortR ra)))) c1 = some (.dK (rK (sortR ra))) := upd_same
        generalize upd H19 c1 (.dK (rK (sortR ra))) = H20 at e20 hc1'
        have is2G := is2F.ex e20
        walk_at "rd"
        refine ⟨p2, _, _, rfl, is2G.1.choose_spec, rfl, p2, g2, n, sortR rb, rfl, is2G, fun c2 hc2 => ?_⟩
        have e21 : Ex H20 (upd H20 c2 (.dK (rK (sortR rb)))) := Ex.nw hc2
        have hc2' : (upd H20 c2 (.dK (rK (sortR rb)))) c2 = some (.dK (rK (sortR rb))) := upd_same
        generalize upd H20 c2 (.dK (rK (sortR rb))) = H21 at e21 hc2'
        walk_at "rd"
        refine ⟨by show 2 ≤ sizeLine; exact szl (by decide), fun l hl hsys => ?_⟩
        have e22 : Ex H21 (upd H21 l (.lst [.ref c1, .ref c2])) := Ex.nw hl
        refine ⟨l, c1, c2, sortR ra, sortR rb, rfl, hsys, upd_same, e22 _ _ (e21 _ _ hc1'), e22 _ _ hc2', size_rows2 (rows_small ta.srt) (rows_small tb.srt) ta.srt.2.2.2.2 tb.srt.2.2.2.2, ?_⟩
        generalize upd H21 l (.lst [.ref c1, .ref c2]) = H22 at e22
        have e1922 : Ex H19 H22 := (e20.tr e21).tr e22
        have hda22 := e1922 _ _ hda19
        walk_at "rd"
        intro p3 x3 hp3' hx3 hne3
        refine ⟨rfl, p3, x3, da, n, ra, rfl, upd_same, by rw [upd_ne (ne_of_none hda22 hp3'), upd_ne (ne_of_none hda22 hx3)]; exact hda22, ta, fun H23 g3 xp23 hi23 hg23 _ => ⟨rfl, ?_⟩⟩
        have e23 : Ex H22 H23 := mkEx hp3' hx3 xp23
        have is3 : IsT (ga K "Table") H23 p3 g3 n (sortR ra) := ⟨⟨x3, hi23⟩, hg23⟩
        refine ⟨p3, _, _, rfl, hi23, rfl, p3, g3, n, sortR ra, rfl, is3, fun c3 hc3 => ?_⟩
        have e24 : Ex H23 (upd H23 c3 (.dK (rK (sortR ra)))) := Ex.nw hc3
        have hc3' : (upd H23 c3 (.dK (rK (sortR ra)))) c3 = some (.dK (rK (sortR ra))) := upd_same
        generalize upd H23 c3 (.dK (rK (sortR ra))) = H24 at e24 hc3'
        have hdb24 := e24 _ _ (e23 _ _ (e1922 _ _ hdb19))
        walk_at "rd"
        intro p4 x4 hp4' hx4 hne4
        refine ⟨rfl, p4, x4, db, n, rb, rfl, upd_same, by rw [upd_ne (ne_of_none hdb24 hp4'), upd_ne (ne_of_none hdb24 hx4)]; exact hdb24, tb, fun H25 g4 xp25 hi25 hg25 _ => ⟨rfl, ?_⟩⟩
        have e25 : Ex H24 H25 := mkEx hp4' hx4 xp25
        have is4 : IsT (ga K "Table") H25 p4 g4 n (sortR rb) := ⟨⟨x4, hi25⟩, hg25⟩
        refine ⟨p4, _, _, rfl, hi25, rfl, p4, g4, n, sortR rb, rfl, is4, fun c4 hc4 => ?_⟩
        have e26 : Ex H25 (upd H25 c4 (.dK (rK (sortR rb)))) := Ex.nw hc4
        have hc4' : (upd H25 c4 (.dK (rK (sortR rb)))) c4 = some (.dK (rK (sortR rb))) := upd_same
        generalize upd H25 c4 (.dK (rK (sortR rb))) = H26 at e26 hc4'
        walk_at "rd"
        refine ⟨by show 2 ≤ sizeLine; exact szl (by decide), fun l2 hl2' hsys2 => ?_⟩
        have e27 : Ex H26 (upd H26 l2 (.lst [.ref c3, .ref c4])) := Ex.nw hl2'
        refine ⟨l2, c3, c4, sortR ra, sortR rb, rfl, hsys2, upd_same, e27 _ _ (e26 _ _ (e25 _ _ hc3')), e27 _ _ hc4', size_rows2 (rows_small ta.srt) (rows_small tb.srt) ta.srt.2.2.2.2 tb.srt.2.2.2.2, ?_⟩
        refine ⟨rfl, ?_⟩
        rw [decide_eq_true (show V.str (PyData.shown (.list [.dict (dRows (sortR ra)), .dict (dRows (sortR rb))])) = V.str (PyData.shown (.list [.dict (dRows (sortR ra)), .dict (dRows (sortR rb))])) from rfl)]
        walk_at "rd"
        exact ⟨⟨_, _, _, _, _, _, _, rfl⟩, (((((((((e15.tr e16).tr e17).tr e18).tr e19).tr e1922).tr e23).tr e24).tr e25).tr e26).tr e27⟩
    · subst eσ
      have hpB := e15.pen hpA
      have htB := LamX.Tabs.ext htA e15
      have hd1B := e15 _ _ hd1E
      walk_at "rd"
      refine iteG (fun v H' => ∃ m : Nat, v = .int (m : Int) ∧ m ≠ n ∧ 1 ≤ m ∧ m ≤ 32 ∧ H' = H15) (fun hb Q' hG => ?_) (fun hb Q' hG => ?_) fun v H16 ⟨m, ev, hmn, m1, m2, eH⟩ => ?_
      · have hn32 : (n : Int) < 32 := of_decide_eq_true hb
        walk_at "rd"
        exact hG _ _ ⟨n + 1, congrArg V.int (by omega), by omega, by omega, by omega, rfl⟩
      · have hn32 : ¬ (n : Int) < 32 := of_decide_eq_false hb
        walk_at "rd"
        exact hG _ _ ⟨31, rfl, by omega, by decide, by decide, rfl⟩
      subst ev eH
      have tokm : TOk m [] := ROk.nil.tok m1 m2 (by decide)
      walk_at "rd"
      intro f3 hf3
      have e16 : Ex H16 (upd H16 f3 (.dK [])) := Ex.nw hf3
      have hf3' : (upd H16 f3 (.dK [])) f3 = some (.dK (rK [])) := upd_same
      generalize upd H16 f3 (.dK []) = H17 at e16 hf3'
      walk_at "rd"
      intro po xo hpo hxo hneo
      refine ⟨rfl, po, xo, f3, m, [], rfl, upd_same, by rw [upd_ne (ne_of_none hf3' hpo), upd_ne (ne_of_none hf3' hxo)]; exact hf3', tokm, fun H18 go xp18 hi18 hg18 _ => ⟨rfl, ?_⟩⟩
      have e18 : Ex H17 H18 := mkEx hpo hxo xp18
      have iso : IsT (ga K "Table") H18 po go m (sortR []) := ⟨⟨xo, hi18⟩, hg18⟩
      have hd118 := e18 _ _ (e16 _ _ hd1B)
      have hp18 := e18.pen (e16.pen hpB)
      have ht18 := LamX.Tabs.ext htB (e16.tr e18)
      walk_at "rd"
      refine ⟨ht18, fun H19 eN ht19 => ?_⟩
      have iso19 : IsT (ga K "Table") H19 po go m (sortR []) := ⟨⟨xo, eN _ _ hi18 (fun ps z => by cases z)⟩, eN _ _ hg18 (fun ps z => by cases z)⟩
      have hd119 : H19 d1 = some (.dK (rK r1)) := eN _ _ hd118 (fun ps z => by cases z)
      have hp19 : Pen H19 p q (1000 * i + 600) := hp18.ex fun a xs h => eN _ _ h (fun ps z => by cases z)
      refine rd_TPair ?_
      walk_at "rd"
      intro p3 x3 hp3' hx3 hne3
      refine ⟨rfl, p3, x3, d1, n, r1, rfl, upd_same, by rw [upd_ne (ne_of_none hd119 hp3'), upd_ne (ne_of_none hd119 hx3)]; exact hd119, tok1, fun H20 g3 xp20 hi20 hg20 _ => ⟨rfl, ?_⟩⟩
      have e20 : Ex H19 H20 := mkEx hp3' hx3 xp20
      have is3 : IsT (ga K "Table") H20 p3 g3 n (sortR r1) := ⟨⟨x3, hi20⟩, hg20⟩
      walk_at "rd"
      refine ⟨rfl, p3, g3, po, go, n, m, sortR r1, sortR [], rfl, is3, iso19.ex e20, tok1.srt, tokm.srt, fun h => absurd h.symm hmn, fun _ H21 e21 => ⟨rfl, rfl, ?_⟩⟩
      have e1921 : Ex H19 H21 := e20.tr e21
      have iso21 := iso19.ex e1921
      have hp21 := e1921.pen hp19
      have ht21 := LamX.Tabs.ext ht19 e1921
      walk_at "rd"
      refine ⟨ht21, fun H22 eN2 ht22 => ?_⟩
      have iso22 : IsT (ga K "Table") H22 po go m (sortR []) := ⟨⟨iso21.1.choose, eN2 _ _ iso21.1.choose_spec (fun ps z => by cases z)⟩, eN2 _ _ iso21.2 (fun ps z => by cases z)⟩
      have hp22 : Pen H22 p q (1000 * i + 600) := hp21.ex fun a xs h => eN2 _ _ h (fun ps z => by cases z)
      refine rd_TPair ?_
      walk_at "rd"
      intro f4 hf4
      have e23 : Ex H22 (upd H22 f4 (.dK [])) := Ex.nw hf4
      have hf4' : (upd H22 f4 (.dK [])) f4 = some (.dK (rK [])) := upd_same
      generalize upd H22 f4 (.dK []) = H23 at e23 hf4'
      walk_at "rd"
      intro p5 x5' hp5' hx5 hne5
      refine ⟨rfl, p5, x5', f4, n, [], rfl, upd_same, by rw [upd_ne (ne_of_none hf4' hp5'), upd_ne (ne_of_none hf4' hx5)]; exact hf4', tok0, fun H24 g5 xp24 hi24 hg24 _ => ⟨rfl, ?_⟩⟩
      have e24 : Ex H23 H24 := mkEx hp5' hx5 xp24
      have is5 : IsT (ga K "Table") H24 p5 g5 n (sortR []) := ⟨⟨x5', hi24⟩, hg24⟩
      walk_at "rd"
      refine ⟨rfl, po, go, p5, g5, m, n, sortR [], sortR [], rfl, (iso22.ex e23).ex e24, is5, tokm.srt, tok0.srt, fun h => absurd h hmn, fun _ H25 e25 => ⟨rfl, rfl, ?_⟩⟩
      have e2225 : Ex H22 H25 := (e23.tr e24).tr e25
      walk_at "rd"
      exact ⟨⟨_, _, _, _, _, _, _, _, _, _, _, _, rfl⟩, (e2225.pen hp22).mono (by omega), LamX.Tabs.ext ht22 e2225⟩
  · subst eσ
    walk_at "rd"
    intro f1 hf1
    have e3 : Ex H2 (upd H2 f1 (.dK [])) := Ex.nw hf1
    have hf1' : (upd H2 f1 (.dK [])) f1 = some (.dK (rK [])) := upd_same
    generalize upd H2 f1 (.dK []) = H3 at e3 hf1'
    have tokA : TOk 1 [] := ROk.nil.tok (by decide) (by decide) (by decide)
    have tokB : TOk 1 [([], "a")] := ⟨by decide, by decide, by simp, fun x hx => by rw [List.mem_singleton.mp hx]; exact ⟨by decide, by decide +kernel⟩, by decide⟩
    walk_at "rd"
    intro p1 x1 hp1 hx1 hne1
    refine ⟨rfl, p1, x1, f1, 1, [], rfl, upd_same, by rw [upd_ne (ne_of_none hf1' hp1), upd_ne (ne_of_none hf1' hx1)]; exact hf1', tokA, fun H4 g1 xp4 hi4 hg4 _ => ⟨rfl, ?_⟩⟩
    have e4 : Ex H3 H4 := mkEx hp1 hx1 xp4
    have is1 : IsT (ga K "Table") H4 p1 g1 1 (sortR []) := ⟨⟨x1, hi4⟩, hg4⟩
    walk_at "rd"
    intro f2 hf2
    refine ⟨upd_same, [(bk [], .str "a")], by simp only [List.map_cons, List.map_nil]; rw [← bstr_nil]; rfl, by decide, ?_⟩
    rw [upd_upd]
    have e5 : Ex H4 (upd H4 f2 (.dK (mergeK [] [(bk [], .str "a")]))) := Ex.nw hf2
    have hf2' : (upd H4 f2 (.dK (mergeK [] [(bk [], .str "a")]))) f2 = some (.dK (rK [([], "a")])) := upd_same
    generalize upd H4 f2 (.dK (mergeK [] [(bk [], .str "a")])) = H5 at e5 hf2'
    walk_at "rd"
    intro p2 x2 hp2' hx2 hne2
    refine ⟨rfl, p2, x2, f2, 1, [([], "a")], rfl, upd_same, by rw [upd_ne (ne_of_none hf2' hp2'), upd_ne (ne_of_none hf2' hx2)]; exact hf2', tokB, fun H6 g2 xp6 hi6 hg6 _ => ⟨rfl, ?_⟩⟩
    have e6 : Ex H5 H6 := mkEx hp2' hx2 xp6
    have is2 : IsT (ga K "Table") H6 p2 g2 1 (sortR [([], "a")]) := ⟨⟨x2, hi6⟩, hg6⟩
    walk_at "rd"
    refine ⟨rfl, p1, g1, p2, g2, 1, 1, sortR [], sortR [([], "a")], rfl, (is1.ex e5).ex e6, is2, tokA.srt, tokB.srt, fun _ H7 q7 ts7 e7 hq7 h7 hr7 => ?_, fun h => absurd rfl h⟩
    rw [last_moves] at hr7
    walk_at "rd"
    refine ⟨by show 4 ≤ sizeLine; exact szl (by decide), fun u hu => ?_⟩
    have e8 : Ex H7 (upd H7 u (.tup [.str "0", .str "1", .non, .str "a"])) := Ex.nw hu
    have hu' : (upd H7 u (.tup [.str "0", .str "1", .non, .str "a"])) u = some (.tup [.str "0", .str "1", .non, .str "a"]) := upd_same
    generalize upd H7 u (.tup [.str "0", .str "1", .non, .str "a"]) = H8 at e8 hu'
    walk_at "rd"
    refine ⟨by show 1 ≤ sizeLine; exact szl (by decide), fun l hl => ?_⟩
    have e9 : Ex H8 (upd H8 l (.lst [.ref u])) := Ex.nw hl
    have hl' : (upd H8 l (.lst [.ref u])) l = some (.lst [.ref u]) := upd_same
    generalize upd H8 l (.lst [.ref u]) = H9 at e9 hl'
    have hr9 := e9.runs (e8.runs hr7)
    refine ⟨_, .list [.tuple [.str "0", .str "1", .none, .str "a"]], .lst (SqL.of (e9 _ _ (e8 _ _ h7))) (dp_runs hr9), .lst (SqL.of hl') (.cons (.tup (SqT.of (e9 _ _ hu')) (.cons (.str _) (.cons (.str _) (.cons .non (.cons (.str _) .nil))))) .nil), ?_, by decide +kernel, ?_⟩
    · decide +kernel
    · rw [show PyData.eqv (.list (List.map dRun [⟨[false], [true], none, some "a"⟩])) (.list [.tuple [.str "0", .str "1", .none, .str "a"]]) = true by decide +kernel]
      exact hQ _

end
end KP
namespace KP
open PySem PySem.Spec PyProof.Rows L2 He KH K2

def D_d_Table_is_target : DefP := ⟨rA "staticmethod" "Table" "is_target", "is_target", "Table.is_target", s_Table_is_target, [], []⟩
def D_d_Table_is_value : DefP := ⟨cA "Table" "is_value", "is_value", "Table.is_value", s_Table_is_value, [], []⟩
def D_d_Table_target_of : DefP := ⟨cA "Table" "target_of", "target_of", "Table.target_of", s_Table_target_of, [], []⟩
def D_d_Table___init__ : DefP := ⟨cA "Table" "__init__", "__init__", "PrefixMap.__init__", s_PrefixMap___init__, [], []⟩
def D_d_Table_kept_value : DefP := ⟨cA "Table" "kept_value", "kept_value", "PrefixMap.kept_value", s_PrefixMap_kept_value, [], []⟩
def D_d_Table_width : DefP := ⟨rA "property" "Table" "width", "width", "PrefixMap.width", s_PrefixMap_width, [], []⟩
def D_d_Table_rows : DefP := ⟨rA "property" "Table" "rows", "rows", "PrefixMap.rows", s_PrefixMap_rows, [], []⟩
def D_d_Table_longest : DefP := ⟨cA "Table" "longest", "longest", "PrefixMap.longest", s_PrefixMap_longest, [], []⟩
def D_d_is_integer : DefP := ⟨gA "is_integer", "is_integer", "is_integer", s_is_integer, [], []⟩
def D_d_is_prefix : DefP := ⟨gA "is_prefix", "is_prefix", "is_prefix", s_is_prefix, [], []⟩
def D_d_closed : DefP := ⟨gA "closed", "closed", "closed", s_closed, [], []⟩
def D_d_leaves_of : DefP := ⟨gA "leaves_of", "leaves_of", "leaves_of", s_leaves_of, [], []⟩
def D_d_first_address : DefP := ⟨gA "first_address", "first_address", "first_address", s_first_address, [], []⟩
def D_d_last_address : DefP := ⟨gA "last_address", "last_address", "last_address", s_last_address, [], []⟩
def D_d_check_widths : DefP := ⟨gA "check_widths", "check_widths", "check_widths", s_check_widths, [], []⟩
def D_d_common_leaves : DefP := ⟨gA "common_leaves", "common_leaves", "common_leaves", s_common_leaves, [], []⟩
def D_d_moved_runs : DefP := ⟨gA "moved_runs", "moved_runs", "moved_runs", s_moved_runs, [], []⟩
def D_d__law_pen : DefP := ⟨gA "_law_pen", "_law_pen", "_law_pen", s__law_pen, [], []⟩
def D_d__law_next : DefP := ⟨gA "_law_next", "_law_next", "_law_next", s__law_next, [], []⟩
def D_d__law_draw : DefP := ⟨gA "_law_draw", "_law_draw", "_law_draw", s__law_draw, [], []⟩
def D_d__law_bits : DefP := ⟨gA "_law_bits", "_law_bits", "_law_bits", s__law_bits, [], []⟩
def D_d__law_size : DefP := ⟨gA "_law_size", "_law_size", "_law_size", s__law_size, [], []⟩
def D_d__law_prefixes : DefP := ⟨gA "_law_prefixes", "_law_prefixes", "_law_prefixes", s__law_prefixes, [], []⟩
def D_d__law_lines : DefP := ⟨gA "_law_lines", "_law_lines", "_law_lines", s__law_lines, [], []⟩
def D_d__law_match : DefP := ⟨gA "_law_match", "_law_match", "_law_match", s__law_match, [], []⟩
def D_d__law_lead : DefP := ⟨gA "_law_lead", "_law_lead", "_law_lead", s__law_lead, [], []⟩
def D_d__law_closed : DefP := ⟨gA "_law_closed", "_law_closed", "_law_closed", s__law_closed, [], []⟩
def D_d__law_ends : DefP := ⟨gA "_law_ends", "_law_ends", "_law_ends", s__law_ends, [], []⟩
def D_d__law_near : DefP := ⟨gA "_law_near", "_law_near", "_law_near", s__law_near, [], []⟩
def D_d__law_moves : DefP := ⟨gA "_law_moves", "_law_moves", "_law_moves", s__law_moves, [], []⟩
def D_d__law_is_pair : DefP := ⟨gA "_law_is_pair", "_law_is_pair", "_law_is_pair", s__law_is_pair, [], []⟩
def D_d_law : DefP := ⟨gA "law", "law", "law", s_law, [], []⟩
def fns0 : List DefP := [D_d_Table_is_target,
  D_d_Table_is_value,
  D_d_Table_target_of,
  D_d_Table___init__,
  D_d_Table_kept_value,
  D_d_Table_width,
  D_d_Table_rows,
  D_d_Table_longest,
  D_d_is_integer,
  D_d_is_prefix,
  D_d_closed,
  D_d_leaves_of,
  D_d_first_address,
  D_d_last_address,
  D_d_check_widths,
  D_d_common_leaves,
  D_d_moved_runs,
  D_d__law_pen,
  D_d__law_next,
  D_d__law_draw,
  D_d__law_bits,
  D_d__law_size,
  D_d__law_prefixes,
  D_d__law_lines,
  D_d__law_match,
  D_d__law_lead,
  D_d__law_closed,
  D_d__law_ends,
  D_d__law_near,
  D_d__law_moves]
def fns1 : List DefP := [D_d__law_is_pair,
  D_d_law]
def fns : List DefP := fns0 ++ fns1
def fas0 : List (Fr → Bool) := [fFree "isinstance",
  fFree "int",
  fFree "bool",
  fFree "str",
  fFree "len",
  fFree "all",
  fFree "sorted",
  fFree "dict",
  fFree "list",
  fFree "set",
  fFree "min",
  fFree "range",
  fFree "repr",
  fGlo "is_integer",
  fGlo "is_prefix",
  fGlo "closed",
  fGlo "leaves_of",
  fGlo "first_address",
  fGlo "last_address",
  fGlo "check_widths",
  fGlo "common_leaves",
  fGlo "moved_runs",
  fGlo "_law_pen",
  fGlo "_law_next",
  fGlo "_law_draw",
  fGlo "_law_bits",
  fGlo "_law_size",
  fGlo "_law_prefixes",
  fGlo "_law_lines",
  fGlo "_law_match"]
def fas1 : List (Fr → Bool) := [fGlo "_law_lead",
  fGlo "_law_closed",
  fGlo "_law_ends",
  fGlo "_law_near",
  fGlo "_law_moves",
  fGlo "_law_is_pair",
  fGlo "law",
  fInt "MAX_WIDTH" 32,
  fStr "LETTERS" "abcdefghijklmnopqrstuvwxyz",
  fInt "MAX_TARGET" 8,
  fGlo "RouteError",
  fGlo "InvalidMap",
  fGlo "InvalidPrefix",
  fGlo "InvalidPair",
  fGlo "PrefixMap",
  fGlo "Table",
  fCls "Table",
  fNoat "Table" "bits",
  fNoat "Table" "held",
  fStat "Table" "is_target",
  fMeth "Table" "is_value",
  fMeth "Table" "target_of",
  fMeth "Table" "__init__",
  fMeth "Table" "kept_value",
  fProp "Table" "width",
  fProp "Table" "rows",
  fMeth "Table" "longest",
  fMkr "Table",
  fExc "InvalidPair",
  fExm "InvalidPair" "RouteError" true]
def fas2 : List (Fr → Bool) := [fExm "InvalidPair" "InvalidPair" true,
  fExcC "InvalidPair",
  fKit "InvalidPair" "RouteError" true,
  fKit "InvalidPair" "InvalidPair" true]
def fas : List (Fr → Bool) := fas0 ++ fas1 ++ fas2
def tfs : List Defn := [("law", none)]
def loose0 : List PySem.Str := [("_wall" : PySem.Str),
  ("__name__" : PySem.Str),
  ("RouteError" : PySem.Str),
  ("InvalidMap" : PySem.Str),
  ("InvalidPrefix" : PySem.Str),
  ("InvalidPair" : PySem.Str),
  ("MAX_WIDTH" : PySem.Str),
  ("is_integer" : PySem.Str),
  ("is_prefix" : PySem.Str),
  ("PrefixMap" : PySem.Str),
  ("LETTERS" : PySem.Str),
  ("MAX_TARGET" : PySem.Str),
  ("Table" : PySem.Str),
  ("closed" : PySem.Str),
  ("leaves_of" : PySem.Str),
  ("first_address" : PySem.Str),
  ("last_address" : PySem.Str),
  ("check_widths" : PySem.Str),
  ("common_leaves" : PySem.Str),
  ("moved_runs" : PySem.Str),
  ("_law_pen" : PySem.Str),
  ("_law_next" : PySem.Str),
  ("_law_draw" : PySem.Str),
  ("_law_bits" : PySem.Str),
  ("_law_size" : PySem.Str),
  ("_law_prefixes" : PySem.Str),
  ("_law_lines" : PySem.Str),
  ("_law_match" : PySem.Str),
  ("_law_lead" : PySem.Str),
  ("_law_closed" : PySem.Str)]
def loose1 : List PySem.Str := [("_law_ends" : PySem.Str),
  ("_law_near" : PySem.Str),
  ("_law_moves" : PySem.Str),
  ("_law_order" : PySem.Str),
  ("_law_after" : PySem.Str),
  ("_law_is_pair" : PySem.Str)]
def loose : List PySem.Str := loose0 ++ loose1
abbrev R : PySem.W.OpenRow := PySem.W.OpenLaw.row PySem.Challenge.rw_keptroutes_k66_runs_that_are_moved
abbrev hk : PySem.W.Hook := hookP 5 fas fns [] tfs
def ob (s : PySem.W.SharedT) : AlQ := obsP 5 fas fns [] tfs (HandSHeadRun.getT s)
theorem ob_eq (s : PySem.W.SharedT) : ob s = hk.obs s.abs := obsP_eq (HandSHeadRun.getT_eq s)
theorem run (w : World) : HandSHeadRun.RunEq R (PySem.W.view R.prog [42]) hk ob 4000 loose w := by
  intro os
  kernel_rfl
theorem txt_of {w : World} {K : Fr} {h : Heap} {mg : Str → Option Value} (X : K.In h) (G : h.Ns mainGlobals mg) (c : SaysP fas fns [] tfs w h K) : Txt K mg where
  free_isinstance := free_ok X G (c.fact 0 (f := fFree "isinstance") rfl)
  free_int := free_ok X G (c.fact 1 (f := fFree "int") rfl)
  free_bool := free_ok X G (c.fact 2 (f := fFree "bool") rfl)
  free_str := free_ok X G (c.fact 3 (f := fFree "str") rfl)
  free_len := free_ok X G (c.fact 4 (f := fFree "len") rfl)
  free_all := free_ok X G (c.fact 5 (f := fFree "all") rfl)
  free_sorted := free_ok X G (c.fact 6 (f := fFree "sorted") rfl)
  free_dict := free_ok X G (c.fact 7 (f := fFree "dict") rfl)
  free_list := free_ok X G (c.fact 8 (f := fFree "list") rfl)
  free_set := free_ok X G (c.fact 9 (f := fFree "set") rfl)
  free_min := free_ok X G (c.fact 10 (f := fFree "min") rfl)
  free_range := free_ok X G (c.fact 11 (f := fFree "range") rfl)
  free_repr := free_ok X G (c.fact 12 (f := fFree "repr") rfl)
  g_is_integer := glo_ok X G (c.fact 13 (f := fGlo "is_integer") rfl)
  g_is_prefix := glo_ok X G (c.fact 14 (f := fGlo "is_prefix") rfl)
  g_closed := glo_ok X G (c.fact 15 (f := fGlo "closed") rfl)
  g_leaves_of := glo_ok X G (c.fact 16 (f := fGlo "leaves_of") rfl)
  g_first_address := glo_ok X G (c.fact 17 (f := fGlo "first_address") rfl)
  g_last_address := glo_ok X G (c.fact 18 (f := fGlo "last_address") rfl)
  g_check_widths := glo_ok X G (c.fact 19 (f := fGlo "check_widths") rfl)
  g_common_leaves := glo_ok X G (c.fact 20 (f := fGlo "common_leaves") rfl)
  g_moved_runs := glo_ok X G (c.fact 21 (f := fGlo "moved_runs") rfl)
  g__law_pen := glo_ok X G (c.fact 22 (f := fGlo "_law_pen") rfl)
  g__law_next := glo_ok X G (c.fact 23 (f := fGlo "_law_next") rfl)
  g__law_draw := glo_ok X G (c.fact 24 (f := fGlo "_law_draw") rfl)
  g__law_bits := glo_ok X G (c.fact 25 (f := fGlo "_law_bits") rfl)
  g__law_size := glo_ok X G (c.fact 26 (f := fGlo "_law_size") rfl)
  g__law_prefixes := glo_ok X G (c.fact 27 (f := fGlo "_law_prefixes") rfl)
  g__law_lines := glo_ok X G (c.fact 28 (f := fGlo "_law_lines") rfl)
  g__law_match := glo_ok X G (c.fact 29 (f := fGlo "_law_match") rfl)
  g__law_lead := glo_ok X G (c.fact 30 (f := fGlo "_law_lead") rfl)
  g__law_closed := glo_ok X G (c.fact 31 (f := fGlo "_law_closed") rfl)
  g__law_ends := glo_ok X G (c.fact 32 (f := fGlo "_law_ends") rfl)
  g__law_near := glo_ok X G (c.fact 33 (f := fGlo "_law_near") rfl)
  g__law_moves := glo_ok X G (c.fact 34 (f := fGlo "_law_moves") rfl)
  g__law_is_pair := glo_ok X G (c.fact 35 (f := fGlo "_law_is_pair") rfl)
  g_law := glo_ok X G (c.fact 36 (f := fGlo "law") rfl)
  c_MAX_WIDTH := int_ok X G (c.fact 37 (f := fInt "MAX_WIDTH" 32) rfl)
  c_LETTERS := str_ok X G (c.fact 38 (f := fStr "LETTERS" "abcdefghijklmnopqrstuvwxyz") rfl)
  c_MAX_TARGET := int_ok X G (c.fact 39 (f := fInt "MAX_TARGET" 8) rfl)
  g_RouteError := glo_ok X G (c.fact 40 (f := fGlo "RouteError") rfl)
  g_InvalidMap := glo_ok X G (c.fact 41 (f := fGlo "InvalidMap") rfl)
  g_InvalidPrefix := glo_ok X G (c.fact 42 (f := fGlo "InvalidPrefix") rfl)
  g_InvalidPair := glo_ok X G (c.fact 43 (f := fGlo "InvalidPair") rfl)
  g_PrefixMap := glo_ok X G (c.fact 44 (f := fGlo "PrefixMap") rfl)
  g_Table := glo_ok X G (c.fact 45 (f := fGlo "Table") rfl)
  cls_Table := cls_ok (c.fact 46 (f := fCls "Table") rfl)
  no_Table_bits := noat_ok (c.fact 47 (f := fNoat "Table" "bits") rfl)
  no_Table_held := noat_ok (c.fact 48 (f := fNoat "Table" "held") rfl)
  st_Table_is_target := stat_ok (c.fact 49 (f := fStat "Table" "is_target") rfl)
  m_Table_is_value := meth_ok (c.fact 50 (f := fMeth "Table" "is_value") rfl)
  m_Table_target_of := meth_ok (c.fact 51 (f := fMeth "Table" "target_of") rfl)
  m_Table___init__ := meth_ok (c.fact 52 (f := fMeth "Table" "__init__") rfl)
  m_Table_kept_value := meth_ok (c.fact 53 (f := fMeth "Table" "kept_value") rfl)
  p_Table_width := prop_ok (c.fact 54 (f := fProp "Table" "width") rfl)
  p_Table_rows := prop_ok (c.fact 55 (f := fProp "Table" "rows") rfl)
  m_Table_longest := meth_ok (c.fact 56 (f := fMeth "Table" "longest") rfl)
  mk_Table := mkr_ok (c.fact 57 (f := fMkr "Table") rfl)
  x_InvalidPair := xc_ok (c.fact 58 (f := fExc "InvalidPair") rfl)
  xm_InvalidPair_RouteError := exm_ok (c.fact 59 (f := fExm "InvalidPair" "RouteError" true) rfl)
  xm_InvalidPair_InvalidPair := exm_ok (c.fact 60 (f := fExm "InvalidPair" "InvalidPair" true) rfl)
  xc_InvalidPair := excC_ok (c.fact 61 (f := fExcC "InvalidPair") rfl)
  kt_InvalidPair_RouteError := kit2_ok (c.fact 62 (f := fKit "InvalidPair" "RouteError" true) rfl)
  kt_InvalidPair_InvalidPair := kit2_ok (c.fact 63 (f := fKit "InvalidPair" "InvalidPair" true) rfl)
  D_Table_is_target := c.def_ 0 (d := D_d_Table_is_target) rfl
  D_Table_is_value := c.def_ 1 (d := D_d_Table_is_value) rfl
  D_Table_target_of := c.def_ 2 (d := D_d_Table_target_of) rfl
  D_Table___init__ := c.def_ 3 (d := D_d_Table___init__) rfl
  D_Table_kept_value := c.def_ 4 (d := D_d_Table_kept_value) rfl
  D_Table_width := c.def_ 5 (d := D_d_Table_width) rfl
  D_Table_rows := c.def_ 6 (d := D_d_Table_rows) rfl
  D_Table_longest := c.def_ 7 (d := D_d_Table_longest) rfl
  D_is_integer := c.def_ 8 (d := D_d_is_integer) rfl
  D_is_prefix := c.def_ 9 (d := D_d_is_prefix) rfl
  D_closed := c.def_ 10 (d := D_d_closed) rfl
  D_leaves_of := c.def_ 11 (d := D_d_leaves_of) rfl
  D_first_address := c.def_ 12 (d := D_d_first_address) rfl
  D_last_address := c.def_ 13 (d := D_d_last_address) rfl
  D_check_widths := c.def_ 14 (d := D_d_check_widths) rfl
  D_common_leaves := c.def_ 15 (d := D_d_common_leaves) rfl
  D_moved_runs := c.def_ 16 (d := D_d_moved_runs) rfl
  D__law_pen := c.def_ 17 (d := D_d__law_pen) rfl
  D__law_next := c.def_ 18 (d := D_d__law_next) rfl
  D__law_draw := c.def_ 19 (d := D_d__law_draw) rfl
  D__law_bits := c.def_ 20 (d := D_d__law_bits) rfl
  D__law_size := c.def_ 21 (d := D_d__law_size) rfl
  D__law_prefixes := c.def_ 22 (d := D_d__law_prefixes) rfl
  D__law_lines := c.def_ 23 (d := D_d__law_lines) rfl
  D__law_match := c.def_ 24 (d := D_d__law_match) rfl
  D__law_lead := c.def_ 25 (d := D_d__law_lead) rfl
  D__law_closed := c.def_ 26 (d := D_d__law_closed) rfl
  D__law_ends := c.def_ 27 (d := D_d__law_ends) rfl
  D__law_near := c.def_ 28 (d := D_d__law_near) rfl
  D__law_moves := c.def_ 29 (d := D_d__law_moves) rfl
  D__law_is_pair := c.def_ 30 (d := D_d__law_is_pair) rfl
  D_law := c.def_ 31 (d := D_d_law) rfl
end KP
open PySem PySem.W PySem.Calls PyProof.Rows
theorem PySem.Challenge.cw_keptroutes_k66_runs_that_are_moved_holds : PySem.Challenge.rw_keptroutes_k66_runs_that_are_moved.Holds := by
  w_on; o_law
  refine HandSHeadRun.head_any (r := OpenLaw.row PySem.Challenge.rw_keptroutes_k66_runs_that_are_moved) (q := view (OpenLaw.row PySem.Challenge.rw_keptroutes_k66_runs_that_are_moved).prog [42]) (H := KP.hk) (ob := KP.ob) (M := 4000) (loose := KP.loose) (d := HandSHeadRun.topDef (OpenLaw.row PySem.Challenge.rw_keptroutes_k66_runs_that_are_moved).prog 42) (kwd := []) KP.ob_eq
    (by kernel_rfl) (fun s => by kernel_rfl) KP.run (by kernel_rfl) (by kernel_rfl) (by kernel_rfl) (by rfl) (by first | assumption | decide +kernel) (by decide +kernel) ⟨rfl, rfl, rfl, rfl, rfl, by decide +kernel⟩ ?hw ?hc
  case hw => w_witness2
  case hc =>
    refine LamX.walk_ofK (l := PySem.Challenge.rw_keptroutes_k66_runs_that_are_moved) (n := 63) (x := "script") (CX := fun w => L2.CX (PySem.Challenge.rw_keptroutes_k66_runs_that_are_moved).prog w) rfl (by decide) (by kernel_rfl) ⟨rfl, by decide, by decide⟩ ?F ?G
    case F =>
      intro w mg fa h Y G hmg0
      obtain ⟨K, KX, c⟩ := Y
      have hmg : mg ("law" : PySem.Str) = some (.ref fa) := by
        have e : (HandSHeadRun.topDef (OpenLaw.row PySem.Challenge.rw_keptroutes_k66_runs_that_are_moved).prog 42).name = ("law" : PySem.Str) := by kernel_rfl
        rw [← e]
        exact hmg0
      have T := KP.txt_of KX G c
      have efa : fa = He.ga K "law" := Value.ref.inj (Option.some.inj (hmg.symm.trans T.g_law))
      subst efa
      obtain ⟨fd, hb, hF⟩ := KP.ok_law (P := (PySem.Challenge.rw_keptroutes_k66_runs_that_are_moved).prog) (w := w) T
      have m : (("law", none) : He.Defn) ∈ KP.tfs := List.mem_singleton.mpr rfl
      refine ⟨K, KX, fd, [He.cT K ("law", none)], KP.sp_law K (He.cT K ("law", none)).2, fun p hp => ?_, fun p hp => ?_, fun p hp => ?_, hb, fun H a ns _ hT hS => ⟨rfl, a, ns, rfl, hS, hT _ List.mem_cons_self, fun _ => rfl⟩, fun base _ _ TB => hF base _ (TB _ List.mem_cons_self)⟩
      · rw [List.mem_singleton.mp hp]
        exact c.empty _ m
      · rw [List.mem_singleton.mp hp]
        exact c.out _ m
      · rw [List.mem_singleton.mp hp]
        exact PySem.W.codeHd_of_K KX (c.hd _ m)
    case G =>
      intro w H s e s' z
      obtain ⟨a, B, H', cls, d, _, _, _, _, _, _, _, he⟩ := z
      exact he
