import PyProof.Rows.All
import Wide.All
import OpenK.AllK
import Wide.FinOn
import KE.KStateDown
import HandS.Property
import HandS.ClsMeth
import HandS.Defaults
import HandS.IsInst
import HandS.Head0
import HandS.Head1
import HandS.Head2
import HandS.HeadEnd
import HandS.HeadHook1
import HandS.HeadHook2
import HandS.HeadNt
import KE.KExcSuper
import KE.KNestM
import HandS.ExcInit
import HandS.ExcIs
import HandS.ExcField
import HandS.ForMost
import HandS.ForExc
import HandS.FStr
import HandS.Flow
import HandS.Style
import HandS.TupAny
import HandS.SlotsOwn
import KE.KFmtOwn
import KE.KOpsOwn
import KE.KxField
import KE.KWithOwn
import HandS.Star
import HandS.SortInts
import HandS.Deep
import HandS.StrMore
import HandS.Walk
import HandS.OwnEq
import HandS.MakeKwOnly
import HandS.HeadWalk
import HandS.CallRecv
import HandS.Lambda
import PySem.Challenge.RW_rungback_k80_texts_of_no_book
set_option Elab.async false
set_option linter.all false
set_option maxRecDepth 100000
set_option maxHeartbeats 2000000
/-! H0: a head whose facts are any list of tests. -/
namespace F
open PySem PySem.Spec PyProof.Rows L2
/-! ### forcing: what is handed on is in its last form -/
def frO {α : Type} (o : Obj) (k : Obj → α) : α := match o with
  | ⟨c, d, dt, sl⟩ => k ⟨c, d, dt, sl⟩
theorem frO_eq {α : Type} (o : Obj) (k : Obj → α) : frO o k = k o := by cases o; rfl
def frK {α : Type} : PySem.W.Frag → (PySem.W.Frag → α) → α
  | [], k => k []
  | (a, o) :: r, k => HandSHeadRun.frNat a fun a => frO o fun o => frK r fun r => k ((a, o) :: r)
theorem frK_eq {α : Type} : ∀ (K : PySem.W.Frag) (k : PySem.W.Frag → α), frK K k = k K
  | [], _ => rfl
  | (a, o) :: r, k => (HandSHeadRun.frNat_eq _ _).trans ((frO_eq _ _).trans (frK_eq r _))
section
variable {chk chkF : PySem.W.Frag → List Bool} {fn : List He5.DefA} {K : PySem.W.Frag} {as : List Addr}
def obsX (chk : PySem.W.Frag → List Bool) (fn : List He5.DefA) (K : PySem.W.Frag) : He.AlD := ((chk K).all id && fn.all (fun d => d.ok K), fn.map fun d => He5.fnA K (d.at_ K))
def SaysX (chk : PySem.W.Frag → List Bool) (fn : List He5.DefA) (K : PySem.W.Frag) : Prop := obsX chk fn K = He5.valA fn
def hookX (as : List Addr) (chk : PySem.W.Frag → List Bool) (fn : List He5.DefA) : PySem.W.Hook where
  α := He.AlD
  obs := fun z => obsX chk fn (He.frG z.heap.get? as)
  val := fun _ => He5.valA fn
  says := fun _ h => ∃ K : PySem.W.Frag, K.In h ∧ SaysX chk fn K
  of := fun _ _ e => ⟨_, He.frG_in, e⟩
  keeps := fun _ _ _ ⟨K, hK, c⟩ k => ⟨K, PySem.W.Frag.In.keeps hK k, c⟩
/-- a def's look, its address known -/
def okAt (K : PySem.W.Frag) (d : He5.DefA) (a : Addr) : Bool := PySem.W.keepIn K (.ref a) && (match K.lookup a with
  | some ⟨_, _, .func fd, _⟩ => PySem.W.codeIn K fd.code d.qual && (He.dflB K fd.defaults (d.dvs K) && He.kwdB K fd.kwdefaults (d.kws K))
  | _ => false)
def obsF (chkF : PySem.W.Frag → List Bool) (fn : List He5.DefA) (K : PySem.W.Frag) : He.AlD := ((chkF K).all id && fn.all (fun d => HandSHeadRun.frNat (d.at_ K) fun a => okAt K d a), fn.map fun d => HandSHeadRun.frNat (d.at_ K) fun a => He5.fnA K a)
theorem obsF_eq (h : chkF K = chk K) : obsF chkF fn K = obsX chk fn K := by
  unfold obsF obsX
  rw [h]
  have e1 : (fun d : He5.DefA => HandSHeadRun.frNat (d.at_ K) fun a => okAt K d a) = fun d => d.ok K := funext fun d => HandSHeadRun.frNat_eq _ _
  have e2 : (fun d : He5.DefA => HandSHeadRun.frNat (d.at_ K) fun a => He5.fnA K a) = fun d => He5.fnA K (d.at_ K) := funext fun d => HandSHeadRun.frNat_eq _ _
  rw [e1, e2]
def obX (as : List Addr) (chkF : PySem.W.Frag → List Bool) (fn : List He5.DefA) (g : Addr → Option Obj) : He.AlD := frK (He.frG g as) fun K => obsF chkF fn K
theorem obX_eq {z : Shared} {g : Addr → Option Obj} (h : ∀ a, g a = z.heap.get? a) (hc : ∀ K, chkF K = chk K) : obX as chkF fn g = (hookX as chk fn).obs z := by
  rw [show g = z.heap.get? from funext h]
  exact (frK_eq _ _).trans (obsF_eq (hc _))
theorem SaysX.all (c : SaysX chk fn K) : ((chk K).all id && fn.all (fun d => d.ok K)) = true := congrArg (fun z : He.AlD => z.1) c
theorem SaysX.fact (c : SaysX chk fn K) (i : Nat) {b : Bool} (h : (chk K)[i]? = some b := by rfl) : b = true := List.all_eq_true.mp (He.ba c.all).1 b (List.mem_of_getElem? h)
theorem SaysX.def_ (c : SaysX chk fn K) (i : Nat) {d : He5.DefA} (h : fn[i]? = some d := by rfl) : ∃ fd, FunD K d.name d.qual d.params d.body d.scope (d.dvs K) (d.kws K) (d.at_ K) fd := by
  have e : (fn.map fun d => He5.fnA K (d.at_ K))[i]? = (fn.map He5.DefA.val)[i]? := congrArg (fun z : He.AlD => z.2[i]?) c
  rw [List.getElem?_map, List.getElem?_map, h] at e
  exact He5.DefA.funD (Option.some.inj e) (List.all_eq_true.mp (He.ba c.all).2 d (List.mem_of_getElem? h))
end
/-! ### the facts as tests -/
abbrev oB (a : Option Bool) (b : Bool) : Bool := decide (a = some b)
def isCB (K : PySem.W.Frag) (C : Addr) : Bool := [He.eqO (PySem.W.findIn K (.ref C) "__class__") (some (some (.builtin "object.__class__"))), He.eqO (PySem.W.specialIn K (.builtin "object.__class__") "__get__") (some (some (.builtin "getset_descriptor.__get__"))),
  oB (PySem.W.takesIn K (.builtin "object.__class__")) true, oB (PySem.W.mroIn K C (.type "object")) true, oB (PySem.W.kitOne K (.ref C) (.ref C)) true, oB (PySem.W.kitOne K (.type "int") (.ref C)) false, oB (PySem.W.kitOne K (.type "bool") (.ref C)) false,
  oB (PySem.W.kitOne K (.type "str") (.ref C)) false, oB (PySem.W.kitOne K (.type "NoneType") (.ref C)) false].all id
def creadB (K : PySem.W.Frag) (C : Addr) : Bool := PySem.W.readsIn K C (.type "type") && He.eqO (PySem.W.specialIn K (.ref C) "__getattribute__") (some (some (.builtin "type.__getattribute__")))
def cvalB (K : PySem.W.Frag) (C : Addr) (f : Str) (v : V) : Bool := match PySem.W.findCls K (.ref C) (.type "type") f with
  | some (.val u) => He.relB v u
  | _ => false
def neB (K : PySem.W.Frag) (C : Addr) : Bool := He.eqO (PySem.W.findIn K (.ref C) "__ne__") (some (some (.builtin "object.__ne__"))) && oB (PySem.W.mroIn K C (.type "object")) true
def fmB (K : PySem.W.Frag) (C : Addr) : Bool := He.eqO (PySem.W.findIn K (.ref C) "__format__") (some (some (.builtin "object.__format__"))) && oB (PySem.W.mroIn K C (.type "object")) true
def propB (K : PySem.W.Frag) (C : Addr) (m : Str) (a : Addr) : Bool := [He.eqO (PySem.W.findIn K (.ref C) m) (some (some (.ref a))), He.eqO (PySem.W.specialIn K (.ref a) "__get__") (some (some (.builtin "property.__get__"))), oB (PySem.W.takesIn K (.ref a)) true,
  (match PySem.W.recIn K a "property" with
    | some (.ref _ :: _) => true
    | _ => false)].all id
def tup0B (K : PySem.W.Frag) (a : Addr) : Bool := match K.lookup a with
  | some ⟨.type c, _, .seq its _, _⟩ => decide (c = "tuple") && decide (its = #[])
  | _ => false
def noLimB (K : PySem.W.Frag) : Bool := He.eqO (PySem.W.nsIn K cStatics "sys.int_max_str_digits") (some none)
def gloB (K : PySem.W.Frag) (x : Str) (a : Addr) : Bool := He.eqO (PySem.W.nsIn K mainGlobals x) (some (some (.ref a)))
def clsB (K : PySem.W.Frag) (C : Addr) : Bool := PySem.W.plainGet K C Str.empty && (PySem.W.hasDictIn K C && (PySem.W.plainOver K C && He.eqO (PySem.W.findIn K (.ref C) "__setattr__") (some (some (.builtin "object.__setattr__")))))
def noatB (K : PySem.W.Frag) (C : Addr) (f : Str) : Bool := He.eqO (PySem.W.findIn K (.ref C) f) (some none)
def methB (K : PySem.W.Frag) (C : Addr) (m : Str) (a : Addr) : Bool := He.eqO (PySem.W.findIn K (.ref C) m) (some (some (.ref a))) && (PySem.W.isFn K (.ref a) && PySem.W.keepIn K (.ref a))
def mkrB (K : PySem.W.Frag) (C : Addr) (a : Addr) : Bool := PySem.W.makesIn K C && (He.eqO (PySem.W.findIn K (.ref C) "__init__") (some (some (.ref a))) && (PySem.W.isFn K (.ref a) && PySem.W.keepIn K (.ref C)))
theorem run_join {r : PySem.W.OpenRow} {q : Program} {H : PySem.W.Hook} {ob : PySem.W.SharedT → H.α} {M : Nat} {loose : List Str} {w : World}
    (h1 : ∀ os : OsState, (HandSHeadRun.endF (HandSHeadRun.stepQ (HandSHeadRun.denQ HandSHeadRun.tabQ) r.prog w) M r.prog w os).map (fun z => (HandSHeadRun.looksF r.prog (PySem.W.boot_heap w.params) z.abs, HandSHeadRun.seenQ q loose (PySem.importedModules r.prog.main.body) (fun z => PySem.W.xlAt q [] z && PySem.W.recOk r.toRowW.records z) z.abs)) = some (true, PySem.W.openGood q loose))
    (h2 : ∀ os : OsState, (HandSHeadRun.endF (HandSHeadRun.stepQ (HandSHeadRun.denQ HandSHeadRun.tabQ) r.prog w) M r.prog w os).map ob = some (H.val w)) : HandSHeadRun.RunEq r q H ob M loose w := by
  intro os
  have e1 := h1 os
  have e2 := h2 os
  cases e : HandSHeadRun.endF (HandSHeadRun.stepQ (HandSHeadRun.denQ HandSHeadRun.tabQ) r.prog w) M r.prog w os with
  | none =>
    rw [e] at e2
    cases e2
  | some z =>
    rw [e] at e1 e2
    have e1' := Option.some.inj e1
    have e2' := Option.some.inj e2
    obtain ⟨u1, u2⟩ := Prod.mk.inj e1'
    show some (_, _, _) = _
    rw [u1, u2, e2']
end F
set_option maxHeartbeats 2000000
/-! H1: tests for own exceptions. -/
namespace F
open PySem PySem.Spec PyProof.Rows L2
/-- super().__init__(msg) -/
def supB : Stmt → Bool
  | .Expr (.Call (.Attribute (.Call (.Name a _) [] [] _) b p2) [.Constant (.str _) _ _] [] p5) _ => decide (a = ("super" : Str)) && (decide (b = ("__init__" : Str)) && p2.endLine == p5.line)
  | _ => false
/-- self.x = x, for the names -/
def setsB : List Stmt → List Str → Bool
  | [], [] => true
  | .Assign [.Attribute (.Name a _) x _] (.Name y _) _ :: r, z :: zs => decide (a = ("self" : Str)) && (decide (x = z) && (decide (y = z) && setsB r zs))
  | _, _ => false
def tyB (K : PySem.W.Frag) (v : Value) (t : String) : Bool := match PySem.W.typeIn K v with
  | some (.type u) => decide (u = t)
  | _ => false
theorem tyB_ok {K : PySem.W.Frag} {v : Value} {t : String} (h : tyB K v t = true) : PySem.W.typeIn K v = some (.type t) := by
  unfold tyB at h
  split at h
  · rename_i u e
    rw [e, of_decide_eq_true h]
  · cases h
def oexB (K : PySem.W.Frag) (C : Addr) : Bool := (match K.lookup C with
    | some ⟨.type t, _, .cls cd, sl⟩ => decide (t = "type") && ((match cd.mro with
      | .ref C' :: bm => decide (C' = C) && HandSPX.refsVE bm
      | _ => false) && (cd.hasDict && (!cd.hasDel && (match sl.toList with
        | [_, _, _, _, some (.builtin n), _] => decide (n = "ValueError.__new__")
        | _ => false))))
    | _ => false) && (He.eqO (PySem.W.findIn K (.ref C) "__setattr__") (some (some (.builtin "object.__setattr__"))) && (oB (PySem.W.subIn K (.ref C) (.type "BaseException")) true && (tyB K (.ref C) "type" && PySem.W.keepIn K (.ref C))))
theorem oexB_ok {K : PySem.W.Frag} {C : Addr} (h : oexB K C = true) : OexC K C := by
  obtain ⟨h1, h2⟩ := He.ba h
  refine ⟨?_, He.eqO_ok (He.ba h2).1, of_decide_eq_true (He.ba (He.ba h2).2).1, tyB_ok (He.ba (He.ba (He.ba h2).2).2).1, (He.ba (He.ba (He.ba h2).2).2).2⟩
  cases e : K.lookup C with
  | none => rw [e] at h1; cases h1
  | some o =>
    rw [e] at h1
    obtain ⟨oc, od, dt, sl⟩ := o
    cases oc with
    | type t =>
      cases dt with
      | cls cd =>
        obtain ⟨nm, bs, mro, N, q, hd, sn, sub, ab, col, hdel⟩ := cd
        obtain ⟨a1, a2⟩ := He.ba h1
        obtain ⟨a6, a3⟩ := He.ba a2
        clear a2
        obtain ⟨a7, a4⟩ := He.ba a3
        obtain ⟨a8, a5⟩ := He.ba a4
        obtain rfl : t = "type" := of_decide_eq_true a1
        obtain rfl : hd = true := a7
        obtain rfl : hdel = false := by simpa using a8
        obtain ⟨sll⟩ := sl
        cases mro with
        | nil => cases a6
        | cons c bm =>
          cases c with
          | ref C' =>
            obtain ⟨b1, b2⟩ := He.ba (show (decide (C' = C) && HandSPX.refsVE bm) = true from a6)
            obtain rfl : C' = C := of_decide_eq_true b1
            match sll, a5 with
            | [k0, k1, k2, k3, some (.builtin n), k5], a5 =>
              obtain rfl : n = "ValueError.__new__" := of_decide_eq_true a5
              exact ⟨nm, q, N, bs, bm, sn, sub, ab, col, od, k0, k1, k2, k3, k5, rfl, b2⟩
          | _ => cases a6
      | _ => cases h1
    | _ => cases dt <;> cases h1
/-- the tests of an own exception class with fields; fI: its __init__ -/
def xB (K : PySem.W.Frag) (file : Str) (nm : Str) (C fI : Addr) (fs : List Str) (qual : Str) : Bool := [gloB K nm C, oexB K C, fs.all fun f => He.eqO (PySem.W.findIn K (.ref C) f) (some none), oB (PySem.W.subIn K (.ref C) (.type "ValueError")) true, oB (PySem.W.mroIn K C (.ref C)) true,
  He.eqO (PySem.W.ks_superIn K C C "__init__") (some (some (.builtin "ValueError.__init__"))), He.eqO (PySem.W.nsIn K cStatics "thirdparty.any") (some none), He.eqO (PySem.W.findIn K (.ref C) "__init__") (some (some (.ref fI))), tyB K (.ref fI) "function",
  (match K.lookup fI with
    | some ⟨_, _, .func fd, _⟩ => (match fd.code with
      | .ref cda => PySem.W.codeIn K (.ref cda) qual && (match K.lookup cda with
        | some ⟨_, _, .fields vs, _⟩ => (match (vs[2]? : Option Value) with
          | some (.str f _) => decide (file = f)
          | _ => false)
        | _ => false)
      | _ => false) && ((match fd.defaults with
        | .none => true
        | _ => false) && ((match fd.kwdefaults with
          | .none => true
          | _ => false) && (match fd.closure with
            | [(x, cc)] => decide (x = ("__class__" : Str)) && (match K.lookup cc with
              | some ⟨_, _, .cell (some (.ref C')), _⟩ => decide (C' = C)
              | _ => false)
            | _ => false)))
    | _ => false)].all id
def xiB (K : PySem.W.Frag) (D : Addr) : Bool := [He.eqO (PySem.W.findIn K (.ref D) "__getattribute__") (some (some (.builtin "BaseException.__getattribute__"))), He.eqO (PySem.W.findIn K (.ref D) "__getattr__") (some none), oB (PySem.W.subIn K (.ref D) (.type "BaseException")) true, PySem.W.hasDictIn K D,
  He.eqO (PySem.W.findIn K (.ref D) "__class__") (some (some (.builtin "object.__class__"))), He.eqO (PySem.W.specialIn K (.builtin "object.__class__") "__get__") (some (some (.builtin "getset_descriptor.__get__"))), oB (PySem.W.takesIn K (.builtin "object.__class__")) true, oB (PySem.W.mroIn K D (.type "object")) true].all id
end F
set_option maxHeartbeats 2000000
/-! Hk: the hook with empty tables of code and the __init__ of own exceptions. -/
namespace F
open PySem PySem.Spec PyProof.Rows L2
/-- the code object of the def at f, its table, as K tells them -/
def refOf : Value → Addr
  | .ref c => c
  | _ => 0
def isRef : Value → Bool
  | .ref _ => true
  | _ => false
def cAt (K : PySem.W.Frag) (f : Addr) : Addr := match K.lookup f with
  | some ⟨_, _, .func fd, _⟩ => refOf fd.code
  | _ => 0
def tAt (K : PySem.W.Frag) (f : Addr) : Addr := match K.lookup (cAt K f) with
  | some ⟨_, _, .fields vs, _⟩ => (match (vs[11]? : Option Value) with
    | some (.ref P) => P
    | _ => 0)
  | _ => 0
/-- a def in whose body lambdas are made -/
def makB (K : PySem.W.Frag) (f : Addr) : Bool := (match K.lookup f with
  | some ⟨_, _, .func fd, _⟩ => isRef fd.code
  | _ => false) && (PySem.W.codeHdIn K (cAt K f) (tAt K f) && (match K.lookup (tAt K f) with
  | none => true
  | some _ => false))
def emB : Option Obj → Bool
  | some ⟨.none, none, .fields vs, sl⟩ => vs.isEmpty && sl.isEmpty
  | _ => false
theorem emB_ok {o : Option Obj} (h : emB o = true) : o = some { cls := .none, data := .fields #[] } := by
  unfold emB at h
  split at h
  · rename_i vs sl
    obtain ⟨h1, h2⟩ := He.ba h
    rw [Array.isEmpty_iff.mp h1, Array.isEmpty_iff.mp h2] <;> rfl
  · cases h
/-! ### an own exception's __init__ -/
abbrev FnX : Type := Option (Str × Str × Arguments × FuncBody × Scope × Addr × List Str × Addr)
def fnXK (K : PySem.W.Frag) (a : Addr) : FnX := match K.lookup a with
  | some ⟨_, _, .func fd, _⟩ => some (fd.name, fd.qualname, fd.params, fd.body, fd.scope, fd.globals, fd.closure.map (·.1), fd.builtins)
  | _ => none
structure DefX where
  at_ : PySem.W.Frag → Addr
  qual : Str
  params : Arguments
  body : List Stmt
  scope : Scope
def DefX.val (d : DefX) : FnX := some ("__init__", d.qual, d.params, .stmts d.body, d.scope, mainGlobals, ["__class__"], builtinsNs)
structure XSyn (prog : Program) (params : Arguments) (body : List Stmt) (scope : Scope) (fs : List Str) : Prop where
  b : (match body with
    | st :: rest => supB st && setsB rest fs
    | [] => false) = true
  p : (params.posonlyargs ++ params.args).head?.map (·.arg) = some ("self" : Str)
  kind : scope.kind = .function
  co : scope.isCoroutine = false
  gen : scope.isGenerator = false
  cells : (scope.names.all fun y => !decide (y.2 = .cell)) = true
  sup : scope.names.lookup ("super" : Str) = some .globalImplicit
  cls : scope.names.lookup ("__class__" : Str) = some .free
  loc : ((("self" : Str) :: fs).all fun y => decide (scope.names.lookup y = some .local) && !(y == ("__debug__" : Str))) = true
  nd : (("self" : Str) :: fs).Nodup
  ne : fs ≠ []
  le : fs.length ≤ 20
  bind : ∀ (qual : Str) (doc pm : Value) (an : Option Addr) (cdv ct : Value) (cc : Addr) (us : List Value), us.length = fs.length + 1 → bindArgs (PySem.W.ksFn "__init__" qual params body scope .none .none doc pm an cdv ct cc) ⟨us, []⟩ = pure ((("self" : Str) :: fs).zip us)
  top : (prog.main.scope.names.lookup ("super" : Str)).isSome = false
section
variable {chk chkF : PySem.W.Frag → List Bool} {fn : List He5.DefA} {K : PySem.W.Frag} {as : List Addr} {tl tlF : PySem.W.Frag → List Addr} {fx : List DefX}
abbrev AlT : Type := He.AlD × List FnX × Bool
def obsT (chk : PySem.W.Frag → List Bool) (fn : List He5.DefA) (fx : List DefX) (tl : PySem.W.Frag → List Addr) (g : Addr → Option Obj) (K : PySem.W.Frag) : AlT := (obsX chk fn K, fx.map fun d => fnXK K (d.at_ K), (tl K).all fun a => emB (g (tAt K a)))
/-- what is known of K by it -/
structure SaysT (chk : PySem.W.Frag → List Bool) (fn : List He5.DefA) (fx : List DefX) (tl : PySem.W.Frag → List Addr) (h : Heap) (K : PySem.W.Frag) : Prop where
  x : SaysX chk fn K
  i : fx.map (fun d => fnXK K (d.at_ K)) = fx.map DefX.val
  e : ∀ a ∈ tl K, h.get? (tAt K a) = some { cls := .none, data := .fields #[] }
theorem SaysT.init {h : Heap} (c : SaysT chk fn fx tl h K) (i : Nat) {d : DefX} (q : fx[i]? = some d := by rfl) : fnXK K (d.at_ K) = d.val := by
  have e : (fx.map fun d => fnXK K (d.at_ K))[i]? = (fx.map DefX.val)[i]? := by rw [c.i]
  rw [List.getElem?_map, List.getElem?_map, q] at e
  exact Option.some.inj e
def hookT (as : List Addr) (chk : PySem.W.Frag → List Bool) (fn : List He5.DefA) (fx : List DefX) (tl : PySem.W.Frag → List Addr) : PySem.W.Hook where
  α := AlT
  obs := fun z => obsT chk fn fx tl z.heap.get? (He.frG z.heap.get? as)
  val := fun _ => (He5.valA fn, fx.map DefX.val, true)
  says := fun _ h => ∃ K : PySem.W.Frag, K.In h ∧ SaysT chk fn fx tl h K
  of := fun _ _ e => ⟨_, He.frG_in, congrArg (fun z : AlT => z.1) e, congrArg (fun z : AlT => z.2.1) e, fun a ha => emB_ok (List.all_eq_true.mp (congrArg (fun z : AlT => z.2.2) e) a ha)⟩
  keeps := fun _ _ _ ⟨K, hK, c⟩ k => ⟨K, PySem.W.Frag.In.keeps hK k, c.x, c.i, fun a ha => k _ _ (c.e a ha)⟩
def obT (as : List Addr) (chkF : PySem.W.Frag → List Bool) (fn : List He5.DefA) (fx : List DefX) (tlF : PySem.W.Frag → List Addr) (g : Addr → Option Obj) : AlT :=
  frK (He.frG g as) fun K => (obsF chkF fn K, fx.map fun d => HandSHeadRun.frNat (d.at_ K) fun a => fnXK K a, (tlF K).all fun a => HandSHeadRun.frNat a fun a => HandSHeadRun.frNat (tAt K a) fun p => emB (g p))
theorem obT_eq {z : Shared} {g : Addr → Option Obj} (h : ∀ a, g a = z.heap.get? a) (hc : ∀ K, chkF K = chk K) : obT as chkF fn fx tl g = (hookT as chk fn fx tl).obs z := by
  rw [show g = z.heap.get? from funext h]
  refine (frK_eq _ _).trans ?_
  have e : (fun a => HandSHeadRun.frNat a fun a => HandSHeadRun.frNat (tAt (He.frG z.heap.get? as) a) fun p => emB (z.heap.get? p)) = fun a => emB (z.heap.get? (tAt (He.frG z.heap.get? as) a)) :=
    funext fun a => (HandSHeadRun.frNat_eq _ _).trans (HandSHeadRun.frNat_eq _ _)
  have e2 : (fun d : DefX => HandSHeadRun.frNat (d.at_ (He.frG z.heap.get? as)) fun a => fnXK (He.frG z.heap.get? as) a) = fun d => fnXK (He.frG z.heap.get? as) (d.at_ (He.frG z.heap.get? as)) := funext fun d => HandSHeadRun.frNat_eq _ _
  rw [obsF_eq (hc _), e, e2]
  rfl
end
end F
set_option maxHeartbeats 400000
namespace G
open PySem PySem.Spec PyProof.Rows L2 F
def dfl0 (p : PySem.W.Frag → Addr) (i : Nat) (K : PySem.W.Frag) : Addr := match K.lookup (p K) with
  | some ⟨_, _, .func fd, _⟩ => (match fd.defaults with
    | .ref T => (match K.lookup T with
      | some ⟨_, _, .seq its _, _⟩ => (match its.toList[i]? with
        | some (.ref a) => a
        | _ => 0)
      | _ => 0)
    | _ => 0)
  | _ => 0
def top (i : Nat) : Stmt := PySem.Challenge.pw_rungback_k80_texts_of_no_book.main.body.getD i (.Pass ⟨0, 0, 0, 0⟩)
abbrev s__wall : Stmt := top 0
abbrev s_BadMoment___init__ : Stmt := inClass (top 3) 0
abbrev s_BadText___init__ : Stmt := inClass (top 4) 0
abbrev s_BadWatch___init__ : Stmt := inClass (top 5) 0
abbrev s_TooMany___init__ : Stmt := inClass (top 6) 0
abbrev s_NoEntry___init__ : Stmt := inClass (top 7) 0
abbrev s_is_whole : Stmt := top 14
abbrev s_is_between : Stmt := top 15
abbrev s_is_leap : Stmt := top 16
abbrev s_month_length : Stmt := top 17
abbrev s_days_ahead : Stmt := top 18
abbrev s_day_number : Stmt := top 19
abbrev s_date_of : Stmt := top 20
abbrev s_weekday_of : Stmt := top 21
abbrev s_wrong_part : Stmt := top 22
abbrev s_number_in : Stmt := top 23
abbrev s_date_in : Stmt := top 24
abbrev s_time_in : Stmt := top 25
abbrev s_moment_at : Stmt := top 26
abbrev s_Moment___init__ : Stmt := inClass (top 27) 1
abbrev s_Moment_at : Stmt := inClass (top 27) 2
abbrev s_Moment_earliest : Stmt := inClass (top 27) 3
abbrev s_Moment_latest : Stmt := inClass (top 27) 4
abbrev s_Moment_is_date : Stmt := inClass (top 27) 5
abbrev s_Moment_read : Stmt := inClass (top 27) 6
abbrev s_Moment_midnight : Stmt := inClass (top 27) 7
abbrev s_Moment___add__ : Stmt := inClass (top 27) 8
abbrev s_Moment___radd__ : Stmt := inClass (top 27) 9
abbrev s_Moment___sub__ : Stmt := inClass (top 27) 10
abbrev s_Moment___floordiv__ : Stmt := inClass (top 27) 11
abbrev s_Moment___mod__ : Stmt := inClass (top 27) 12
abbrev s_Moment___lt__ : Stmt := inClass (top 27) 13
abbrev s_Moment___le__ : Stmt := inClass (top 27) 14
abbrev s_Moment___gt__ : Stmt := inClass (top 27) 15
abbrev s_Moment___ge__ : Stmt := inClass (top 27) 16
abbrev s_Moment___eq__ : Stmt := inClass (top 27) 17
abbrev s_Moment___str__ : Stmt := inClass (top 27) 18
abbrev s_need_watch : Stmt := top 29
abbrev s_span_code : Stmt := top 30
abbrev s_with_ring : Stmt := top 31
abbrev s_rings_in : Stmt := top 32
abbrev s_spans_in : Stmt := top 33
abbrev s_Book___init__ : Stmt := inClass (top 34) 3
abbrev s_Book_of_line : Stmt := inClass (top 34) 4
abbrev s_Book_rings : Stmt := inClass (top 34) 5
abbrev s_Book_watches : Stmt := inClass (top 34) 6
abbrev s_Book___iadd__ : Stmt := inClass (top 34) 7
abbrev s_Book___isub__ : Stmt := inClass (top 34) 8
abbrev s_Book___contains__ : Stmt := inClass (top 34) 9
abbrev s_Book_watch : Stmt := inClass (top 34) 10
abbrev s_Book_unwatch : Stmt := inClass (top 34) 11
abbrev s_Book_is_watched : Stmt := inClass (top 34) 12
abbrev s_Book_is_silent : Stmt := inClass (top 34) 13
abbrev s_Book_twin : Stmt := inClass (top 34) 14
abbrev s_Book___or__ : Stmt := inClass (top 34) 15
abbrev s_Book___eq__ : Stmt := inClass (top 34) 16
abbrev s_Book_trial : Stmt := inClass (top 34) 17
abbrev s_moment_in : Stmt := top 36
abbrev s_moment_of : Stmt := top 37
abbrev s_need_end : Stmt := top 38
abbrev s_read_entry : Stmt := top 39
abbrev s_lines_in : Stmt := top 40
abbrev s_read_book : Stmt := top 41
abbrev s__law_bag : Stmt := top 43
abbrev s__law_draw : Stmt := top 44
abbrev s__law_length : Stmt := top 45
abbrev s__law_date : Stmt := top 46
abbrev s__law_number : Stmt := top 47
abbrev s__law_heard : Stmt := top 48
abbrev s__law_digits : Stmt := top 49
abbrev s__law_date_in : Stmt := top 50
abbrev s__law_time_in : Stmt := top 51
abbrev s__law_line_due : Stmt := top 52
abbrev s__law_due : Stmt := top 53
abbrev s__law_spoilt : Stmt := top 54
abbrev s__law_many_right : Stmt := top 55
abbrev s_law : Stmt := top 56
abbrev R : PySem.W.OpenRow := PySem.W.OpenLaw.row PySem.Challenge.rw_rungback_k80_texts_of_no_book
def checks (K : PySem.W.Frag) : List Bool := [
  ((He.Fa.free "super").ok K && (gloB K "BadText" (He.ga K "BadText") && xB K R.prog.main.file "BadText" (He.ga K "BadText") (He.ma K (He.ga K "BadText") "__init__") ["word", "item"] "BadText.__init__")),
  (xfB K (He.ga K "BadText")),
  (xiB K (He.ga K "BadText")),
  (oB (PySem.W.exmOne K (.ref (He.ga K "BadText")) (.ref (He.ga K "RungError"))) true),
  (oB (PySem.W.kitOne K (.ref (He.ga K "BadText")) (.ref (He.ga K "BadText"))) true),
  (oB (PySem.W.kitOne K (.ref (He.ga K "BadText")) (.ref (He.ga K "BadWatch"))) false),
  (oB (PySem.W.kitOne K (.ref (He.ga K "BadText")) (.ref (He.ga K "TooMany"))) false),
  ((He.Fa.free "super").ok K && (gloB K "BadWatch" (He.ga K "BadWatch") && xB K R.prog.main.file "BadWatch" (He.ga K "BadWatch") (He.ma K (He.ga K "BadWatch") "__init__") ["part"] "BadWatch.__init__")),
  (xfB K (He.ga K "BadWatch")),
  (xiB K (He.ga K "BadWatch")),
  (oB (PySem.W.exmOne K (.ref (He.ga K "BadWatch")) (.ref (He.ga K "RungError"))) true),
  (oB (PySem.W.kitOne K (.ref (He.ga K "BadWatch")) (.ref (He.ga K "BadText"))) false),
  (oB (PySem.W.kitOne K (.ref (He.ga K "BadWatch")) (.ref (He.ga K "BadWatch"))) true),
  (oB (PySem.W.kitOne K (.ref (He.ga K "BadWatch")) (.ref (He.ga K "TooMany"))) false),
  ((He.Fa.free "super").ok K && (gloB K "TooMany" (He.ga K "TooMany") && xB K R.prog.main.file "TooMany" (He.ga K "TooMany") (He.ma K (He.ga K "TooMany") "__init__") ["what", "most"] "TooMany.__init__")),
  (xfB K (He.ga K "TooMany")),
  (xiB K (He.ga K "TooMany")),
  (oB (PySem.W.exmOne K (.ref (He.ga K "TooMany")) (.ref (He.ga K "RungError"))) true),
  (oB (PySem.W.kitOne K (.ref (He.ga K "TooMany")) (.ref (He.ga K "BadText"))) false),
  (oB (PySem.W.kitOne K (.ref (He.ga K "TooMany")) (.ref (He.ga K "BadWatch"))) false),
  (oB (PySem.W.kitOne K (.ref (He.ga K "TooMany")) (.ref (He.ga K "TooMany"))) true),
  (gloB K "_wall" (He.ga K "_wall")),
  (gloB K "RungError" (He.ga K "RungError")),
  (gloB K "BadMoment" (He.ga K "BadMoment")),
  (gloB K "BadText" (He.ga K "BadText")),
  (gloB K "BadWatch" (He.ga K "BadWatch")),
  (gloB K "TooMany" (He.ga K "TooMany")),
  (gloB K "NoEntry" (He.ga K "NoEntry")),
  (gloB K "is_whole" (He.ga K "is_whole")),
  (gloB K "is_between" (He.ga K "is_between")),
  (gloB K "is_leap" (He.ga K "is_leap")),
  (gloB K "month_length" (He.ga K "month_length")),
  (gloB K "days_ahead" (He.ga K "days_ahead")),
  (gloB K "day_number" (He.ga K "day_number")),
  (gloB K "date_of" (He.ga K "date_of")),
  (gloB K "weekday_of" (He.ga K "weekday_of")),
  (gloB K "wrong_part" (He.ga K "wrong_part")),
  (gloB K "number_in" (He.ga K "number_in")),
  (gloB K "date_in" (He.ga K "date_in")),
  (gloB K "time_in" (He.ga K "time_in")),
  (gloB K "moment_at" (He.ga K "moment_at")),
  (gloB K "Moment" (He.ga K "Moment")),
  (gloB K "need_watch" (He.ga K "need_watch")),
  (gloB K "span_code" (He.ga K "span_code")),
  (gloB K "with_ring" (He.ga K "with_ring")),
  (gloB K "rings_in" (He.ga K "rings_in")),
  (gloB K "spans_in" (He.ga K "spans_in")),
  (gloB K "Book" (He.ga K "Book")),
  (gloB K "moment_in" (He.ga K "moment_in")),
  (gloB K "moment_of" (He.ga K "moment_of")),
  (gloB K "need_end" (He.ga K "need_end")),
  (gloB K "read_entry" (He.ga K "read_entry")),
  (gloB K "lines_in" (He.ga K "lines_in")),
  (gloB K "read_book" (He.ga K "read_book")),
  (gloB K "_law_bag" (He.ga K "_law_bag")),
  (gloB K "_law_draw" (He.ga K "_law_draw")),
  (gloB K "_law_length" (He.ga K "_law_length")),
  (gloB K "_law_date" (He.ga K "_law_date")),
  (gloB K "_law_number" (He.ga K "_law_number")),
  (gloB K "_law_heard" (He.ga K "_law_heard")),
  (gloB K "_law_digits" (He.ga K "_law_digits")),
  (gloB K "_law_date_in" (He.ga K "_law_date_in")),
  (gloB K "_law_time_in" (He.ga K "_law_time_in")),
  (gloB K "_law_line_due" (He.ga K "_law_line_due")),
  (gloB K "_law_due" (He.ga K "_law_due")),
  (gloB K "_law_spoilt" (He.ga K "_law_spoilt")),
  (gloB K "_law_many_right" (He.ga K "_law_many_right")),
  (gloB K "law" (He.ga K "law")),
  ((He.Fa.free "NotImplemented").ok K),
  ((He.Fa.free "ValueError").ok K),
  ((He.Fa.free "abs").ok K),
  ((He.Fa.free "all").ok K),
  ((He.Fa.free "bool").ok K),
  ((He.Fa.free "classmethod").ok K),
  ((He.Fa.free "enumerate").ok K),
  ((He.Fa.free "int").ok K),
  ((He.Fa.free "isinstance").ok K),
  ((He.Fa.free "len").ok K),
  ((He.Fa.free "list").ok K),
  ((He.Fa.free "property").ok K),
  ((He.Fa.free "range").ok K),
  ((He.Fa.free "sorted").ok K),
  ((He.Fa.free "staticmethod").ok K),
  ((He.Fa.free "str").ok K),
  ((He.Fa.free "sum").ok K),
  ((He.Fa.free "super").ok K),
  ((He.Fa.free "tuple").ok K),
  ((He.Fa.int "ROUND_YEARS" 400).ok K),
  ((He.Fa.int "ROUND_DAYS" 146097).ok K),
  ((He.Fa.int "DAY_MINUTES" 1440).ok K),
  (gloB K "LENGTHS" (He.ga K "LENGTHS")),
  (He.tupB K "LENGTHS" [(.int 31), (.int 28), (.int 31), (.int 30), (.int 31), (.int 30), (.int 31), (.int 31), (.int 30), (.int 31), (.int 30), (.int 31)]),
  ((He.Fa.str "DIGITS" "0123456789").ok K),
  (gloB K "Moment" (He.ga K "Moment")),
  (clsB K (He.ga K "Moment")),
  (noatB K (He.ga K "Moment") "year"),
  (noatB K (He.ga K "Moment") "month"),
  (noatB K (He.ga K "Moment") "day"),
  (noatB K (He.ga K "Moment") "hour"),
  (noatB K (He.ga K "Moment") "minute"),
  (noatB K (He.ga K "Moment") "date"),
  (noatB K (He.ga K "Moment") "weekday"),
  (noatB K (He.ga K "Moment") "number"),
  (isCB K (He.ga K "Moment") && clsB K (He.ga K "Moment")),
  (creadB K (He.ga K "Moment")),
  (PySem.W.selfFirst K (He.ga K "Moment")),
  (cvalB K (He.ga K "Moment") "MOST_YEAR" (.int 999999)),
  (mkrB K (He.ga K "Moment") (He.ma K (He.ga K "Moment") "__init__")),
  (methB K (He.ga K "Moment") "__init__" (He.ma K (He.ga K "Moment") "__init__")),
  (methB K (He.ga K "Moment") "__init__" (He.ma K (He.ga K "Moment") "__init__")),
  (methB K (He.ga K "Moment") "__add__" (He.ma K (He.ga K "Moment") "__add__")),
  (methB K (He.ga K "Moment") "__add__" (He.ma K (He.ga K "Moment") "__add__")),
  (methB K (He.ga K "Moment") "__radd__" (He.ma K (He.ga K "Moment") "__radd__")),
  (methB K (He.ga K "Moment") "__radd__" (He.ma K (He.ga K "Moment") "__radd__")),
  (methB K (He.ga K "Moment") "__sub__" (He.ma K (He.ga K "Moment") "__sub__")),
  (methB K (He.ga K "Moment") "__sub__" (He.ma K (He.ga K "Moment") "__sub__")),
  (methB K (He.ga K "Moment") "__floordiv__" (He.ma K (He.ga K "Moment") "__floordiv__")),
  (methB K (He.ga K "Moment") "__floordiv__" (He.ma K (He.ga K "Moment") "__floordiv__")),
  (methB K (He.ga K "Moment") "__mod__" (He.ma K (He.ga K "Moment") "__mod__")),
  (methB K (He.ga K "Moment") "__mod__" (He.ma K (He.ga K "Moment") "__mod__")),
  (methB K (He.ga K "Moment") "__lt__" (He.ma K (He.ga K "Moment") "__lt__")),
  (methB K (He.ga K "Moment") "__lt__" (He.ma K (He.ga K "Moment") "__lt__")),
  (methB K (He.ga K "Moment") "__le__" (He.ma K (He.ga K "Moment") "__le__")),
  (methB K (He.ga K "Moment") "__le__" (He.ma K (He.ga K "Moment") "__le__")),
  (methB K (He.ga K "Moment") "__gt__" (He.ma K (He.ga K "Moment") "__gt__")),
  (methB K (He.ga K "Moment") "__gt__" (He.ma K (He.ga K "Moment") "__gt__")),
  (methB K (He.ga K "Moment") "__ge__" (He.ma K (He.ga K "Moment") "__ge__")),
  (methB K (He.ga K "Moment") "__ge__" (He.ma K (He.ga K "Moment") "__ge__")),
  (methB K (He.ga K "Moment") "__eq__" (He.ma K (He.ga K "Moment") "__eq__")),
  (methB K (He.ga K "Moment") "__eq__" (He.ma K (He.ga K "Moment") "__eq__")),
  (methB K (He.ga K "Moment") "__str__" (He.ma K (He.ga K "Moment") "__str__")),
  (methB K (He.ga K "Moment") "__str__" (He.ma K (He.ga K "Moment") "__str__")),
  (neB K (He.ga K "Moment")),
  (fmB K (He.ga K "Moment")),
  (gloB K "Book" (He.ga K "Book")),
  (clsB K (He.ga K "Book")),
  (noatB K (He.ga K "Book") "rung"),
  (noatB K (He.ga K "Book") "spans"),
  (isCB K (He.ga K "Book") && clsB K (He.ga K "Book")),
  (creadB K (He.ga K "Book")),
  (PySem.W.selfFirst K (He.ga K "Book")),
  (cvalB K (He.ga K "Book") "MOST_RINGS" (.int 2000)),
  (cvalB K (He.ga K "Book") "MOST_WATCHES" (.int 12)),
  (cvalB K (He.ga K "Book") "LONGEST" (.int 1152000)),
  (mkrB K (He.ga K "Book") (He.ma K (He.ga K "Book") "__init__")),
  (methB K (He.ga K "Book") "__init__" (He.ma K (He.ga K "Book") "__init__")),
  (methB K (He.ga K "Book") "__init__" (He.ma K (He.ga K "Book") "__init__")),
  (propB K (He.ga K "Book") "rings" (He.ma K (He.ga K "Book") "rings")),
  (propB K (He.ga K "Book") "watches" (He.ma K (He.ga K "Book") "watches")),
  (methB K (He.ga K "Book") "__iadd__" (He.ma K (He.ga K "Book") "__iadd__")),
  (methB K (He.ga K "Book") "__iadd__" (He.ma K (He.ga K "Book") "__iadd__")),
  (methB K (He.ga K "Book") "__isub__" (He.ma K (He.ga K "Book") "__isub__")),
  (methB K (He.ga K "Book") "__isub__" (He.ma K (He.ga K "Book") "__isub__")),
  (methB K (He.ga K "Book") "__contains__" (He.ma K (He.ga K "Book") "__contains__")),
  (methB K (He.ga K "Book") "__contains__" (He.ma K (He.ga K "Book") "__contains__")),
  (methB K (He.ga K "Book") "watch" (He.ma K (He.ga K "Book") "watch")),
  (methB K (He.ga K "Book") "__or__" (He.ma K (He.ga K "Book") "__or__")),
  (methB K (He.ga K "Book") "__or__" (He.ma K (He.ga K "Book") "__or__")),
  (methB K (He.ga K "Book") "__eq__" (He.ma K (He.ga K "Book") "__eq__")),
  (methB K (He.ga K "Book") "__eq__" (He.ma K (He.ga K "Book") "__eq__")),
  (neB K (He.ga K "Book")),
  (tup0B K (dfl0 (fun K => He.ma K (He.ga K "Book") "__init__") 0 K)),
  (tup0B K (dfl0 (fun K => He.ma K (He.ga K "Book") "__init__") 1 K)),
  (noLimB K),
  (([(He.ga K "_law_many_right"), (He.ga K "law")] : List Addr).all fun f => makB K f),
  (decide ((([(He.ga K "_law_many_right"), (He.ga K "law")] : List Addr).map fun f => tAt K f).Nodup))]
def checksF (K : PySem.W.Frag) : List Bool := HandSHeadRun.frNat (He.ga K "BadText") fun a0 => HandSHeadRun.frNat (He.ga K "RungError") fun a1 => HandSHeadRun.frNat (He.ga K "BadWatch") fun a2 => HandSHeadRun.frNat (He.ga K "TooMany") fun a3 => HandSHeadRun.frNat (He.ga K "_wall") fun a4 => HandSHeadRun.frNat (He.ga K "BadMoment") fun a5 => HandSHeadRun.frNat (He.ga K "NoEntry") fun a6 => HandSHeadRun.frNat (He.ga K "is_whole") fun a7 => HandSHeadRun.frNat (He.ga K "is_between") fun a8 => HandSHeadRun.frNat (He.ga K "is_leap") fun a9 => HandSHeadRun.frNat (He.ga K "month_length") fun a10 => HandSHeadRun.frNat (He.ga K "days_ahead") fun a11 => HandSHeadRun.frNat (He.ga K "day_number") fun a12 => HandSHeadRun.frNat (He.ga K "date_of") fun a13 => HandSHeadRun.frNat (He.ga K "weekday_of") fun a14 => HandSHeadRun.frNat (He.ga K "wrong_part") fun a15 => HandSHeadRun.frNat (He.ga K "number_in") fun a16 => HandSHeadRun.frNat (He.ga K "date_in") fun a17 => HandSHeadRun.frNat (He.ga K "time_in") fun a18 => HandSHeadRun.frNat (He.ga K "moment_at") fun a19 => HandSHeadRun.frNat (He.ga K "Moment") fun a20 => HandSHeadRun.frNat (He.ga K "need_watch") fun a21 => HandSHeadRun.frNat (He.ga K "span_code") fun a22 => HandSHeadRun.frNat (He.ga K "with_ring") fun a23 => HandSHeadRun.frNat (He.ga K "rings_in") fun a24 => HandSHeadRun.frNat (He.ga K "spans_in") fun a25 => HandSHeadRun.frNat (He.ga K "Book") fun a26 => HandSHeadRun.frNat (He.ga K "moment_in") fun a27 => HandSHeadRun.frNat (He.ga K "moment_of") fun a28 => HandSHeadRun.frNat (He.ga K "need_end") fun a29 => HandSHeadRun.frNat (He.ga K "read_entry") fun a30 => HandSHeadRun.frNat (He.ga K "lines_in") fun a31 => HandSHeadRun.frNat (He.ga K "read_book") fun a32 => HandSHeadRun.frNat (He.ga K "_law_bag") fun a33 => HandSHeadRun.frNat (He.ga K "_law_draw") fun a34 => HandSHeadRun.frNat (He.ga K "_law_length") fun a35 => HandSHeadRun.frNat (He.ga K "_law_date") fun a36 => HandSHeadRun.frNat (He.ga K "_law_number") fun a37 => HandSHeadRun.frNat (He.ga K "_law_heard") fun a38 => HandSHeadRun.frNat (He.ga K "_law_digits") fun a39 => HandSHeadRun.frNat (He.ga K "_law_date_in") fun a40 => HandSHeadRun.frNat (He.ga K "_law_time_in") fun a41 => HandSHeadRun.frNat (He.ga K "_law_line_due") fun a42 => HandSHeadRun.frNat (He.ga K "_law_due") fun a43 => HandSHeadRun.frNat (He.ga K "_law_spoilt") fun a44 => HandSHeadRun.frNat (He.ga K "_law_many_right") fun a45 => HandSHeadRun.frNat (He.ga K "law") fun a46 => HandSHeadRun.frNat (He.ga K "LENGTHS") fun a47 => HandSHeadRun.frNat (He.ma K a0 "__init__") fun m0 => HandSHeadRun.frNat (He.ma K a2 "__init__") fun m1 => HandSHeadRun.frNat (He.ma K a3 "__init__") fun m2 => HandSHeadRun.frNat (He.ma K a20 "__init__") fun m3 => HandSHeadRun.frNat (He.ma K a20 "__add__") fun m4 => HandSHeadRun.frNat (He.ma K a20 "__radd__") fun m5 => HandSHeadRun.frNat (He.ma K a20 "__sub__") fun m6 => HandSHeadRun.frNat (He.ma K a20 "__floordiv__") fun m7 => HandSHeadRun.frNat (He.ma K a20 "__mod__") fun m8 => HandSHeadRun.frNat (He.ma K a20 "__lt__") fun m9 => HandSHeadRun.frNat (He.ma K a20 "__le__") fun m10 => HandSHeadRun.frNat (He.ma K a20 "__gt__") fun m11 => HandSHeadRun.frNat (He.ma K a20 "__ge__") fun m12 => HandSHeadRun.frNat (He.ma K a20 "__eq__") fun m13 => HandSHeadRun.frNat (He.ma K a20 "__str__") fun m14 => HandSHeadRun.frNat (He.ma K a26 "__init__") fun m15 => HandSHeadRun.frNat (He.ma K a26 "rings") fun m16 => HandSHeadRun.frNat (He.ma K a26 "watches") fun m17 => HandSHeadRun.frNat (He.ma K a26 "__iadd__") fun m18 => HandSHeadRun.frNat (He.ma K a26 "__isub__") fun m19 => HandSHeadRun.frNat (He.ma K a26 "__contains__") fun m20 => HandSHeadRun.frNat (He.ma K a26 "watch") fun m21 => HandSHeadRun.frNat (He.ma K a26 "__or__") fun m22 => HandSHeadRun.frNat (He.ma K a26 "__eq__") fun m23 => [
  ((He.Fa.free "super").ok K && (gloB K "BadText" a0 && xB K R.prog.main.file "BadText" a0 m0 ["word", "item"] "BadText.__init__")),
  (xfB K a0),
  (xiB K a0),
  (oB (PySem.W.exmOne K (.ref a0) (.ref a1)) true),
  (oB (PySem.W.kitOne K (.ref a0) (.ref a0)) true),
  (oB (PySem.W.kitOne K (.ref a0) (.ref a2)) false),
  (oB (PySem.W.kitOne K (.ref a0) (.ref a3)) false),
  ((He.Fa.free "super").ok K && (gloB K "BadWatch" a2 && xB K R.prog.main.file "BadWatch" a2 m1 ["part"] "BadWatch.__init__")),
  (xfB K a2),
  (xiB K a2),
  (oB (PySem.W.exmOne K (.ref a2) (.ref a1)) true),
  (oB (PySem.W.kitOne K (.ref a2) (.ref a0)) false),
  (oB (PySem.W.kitOne K (.ref a2) (.ref a2)) true),
  (oB (PySem.W.kitOne K (.ref a2) (.ref a3)) false),
  ((He.Fa.free "super").ok K && (gloB K "TooMany" a3 && xB K R.prog.main.file "TooMany" a3 m2 ["what", "most"] "TooMany.__init__")),
  (xfB K a3),
  (xiB K a3),
  (oB (PySem.W.exmOne K (.ref a3) (.ref a1)) true),
  (oB (PySem.W.kitOne K (.ref a3) (.ref a0)) false),
  (oB (PySem.W.kitOne K (.ref a3) (.ref a2)) false),
  (oB (PySem.W.kitOne K (.ref a3) (.ref a3)) true),
  (gloB K "_wall" a4),
  (gloB K "RungError" a1),
  (gloB K "BadMoment" a5),
  (gloB K "BadText" a0),
  (gloB K "BadWatch" a2),
  (gloB K "TooMany" a3),
  (gloB K "NoEntry" a6),
  (gloB K "is_whole" a7),
  (gloB K "is_between" a8),
  (gloB K "is_leap" a9),
  (gloB K "month_length" a10),
  (gloB K "days_ahead" a11),
  (gloB K "day_number" a12),
  (gloB K "date_of" a13),
  (gloB K "weekday_of" a14),
  (gloB K "wrong_part" a15),
  (gloB K "number_in" a16),
  (gloB K "date_in" a17),
  (gloB K "time_in" a18),
  (gloB K "moment_at" a19),
  (gloB K "Moment" a20),
  (gloB K "need_watch" a21),
  (gloB K "span_code" a22),
  (gloB K "with_ring" a23),
  (gloB K "rings_in" a24),
  (gloB K "spans_in" a25),
  (gloB K "Book" a26),
  (gloB K "moment_in" a27),
  (gloB K "moment_of" a28),
  (gloB K "need_end" a29),
  (gloB K "read_entry" a30),
  (gloB K "lines_in" a31),
  (gloB K "read_book" a32),
  (gloB K "_law_bag" a33),
  (gloB K "_law_draw" a34),
  (gloB K "_law_length" a35),
  (gloB K "_law_date" a36),
  (gloB K "_law_number" a37),
  (gloB K "_law_heard" a38),
  (gloB K "_law_digits" a39),
  (gloB K "_law_date_in" a40),
  (gloB K "_law_time_in" a41),
  (gloB K "_law_line_due" a42),
  (gloB K "_law_due" a43),
  (gloB K "_law_spoilt" a44),
  (gloB K "_law_many_right" a45),
  (gloB K "law" a46),
  ((He.Fa.free "NotImplemented").ok K),
  ((He.Fa.free "ValueError").ok K),
  ((He.Fa.free "abs").ok K),
  ((He.Fa.free "all").ok K),
  ((He.Fa.free "bool").ok K),
  ((He.Fa.free "classmethod").ok K),
  ((He.Fa.free "enumerate").ok K),
  ((He.Fa.free "int").ok K),
  ((He.Fa.free "isinstance").ok K),
  ((He.Fa.free "len").ok K),
  ((He.Fa.free "list").ok K),
  ((He.Fa.free "property").ok K),
  ((He.Fa.free "range").ok K),
  ((He.Fa.free "sorted").ok K),
  ((He.Fa.free "staticmethod").ok K),
  ((He.Fa.free "str").ok K),
  ((He.Fa.free "sum").ok K),
  ((He.Fa.free "super").ok K),
  ((He.Fa.free "tuple").ok K),
  ((He.Fa.int "ROUND_YEARS" 400).ok K),
  ((He.Fa.int "ROUND_DAYS" 146097).ok K),
  ((He.Fa.int "DAY_MINUTES" 1440).ok K),
  (gloB K "LENGTHS" a47),
  (He.tupB K "LENGTHS" [(.int 31), (.int 28), (.int 31), (.int 30), (.int 31), (.int 30), (.int 31), (.int 31), (.int 30), (.int 31), (.int 30), (.int 31)]),
  ((He.Fa.str "DIGITS" "0123456789").ok K),
  (gloB K "Moment" a20),
  (clsB K a20),
  (noatB K a20 "year"),
  (noatB K a20 "month"),
  (noatB K a20 "day"),
  (noatB K a20 "hour"),
  (noatB K a20 "minute"),
  (noatB K a20 "date"),
  (noatB K a20 "weekday"),
  (noatB K a20 "number"),
  (isCB K a20 && clsB K a20),
  (creadB K a20),
  (PySem.W.selfFirst K a20),
  (cvalB K a20 "MOST_YEAR" (.int 999999)),
  (mkrB K a20 m3),
  (methB K a20 "__init__" m3),
  (methB K a20 "__init__" m3),
  (methB K a20 "__add__" m4),
  (methB K a20 "__add__" m4),
  (methB K a20 "__radd__" m5),
  (methB K a20 "__radd__" m5),
  (methB K a20 "__sub__" m6),
  (methB K a20 "__sub__" m6),
  (methB K a20 "__floordiv__" m7),
  (methB K a20 "__floordiv__" m7),
  (methB K a20 "__mod__" m8),
  (methB K a20 "__mod__" m8),
  (methB K a20 "__lt__" m9),
  (methB K a20 "__lt__" m9),
  (methB K a20 "__le__" m10),
  (methB K a20 "__le__" m10),
  (methB K a20 "__gt__" m11),
  (methB K a20 "__gt__" m11),
  (methB K a20 "__ge__" m12),
  (methB K a20 "__ge__" m12),
  (methB K a20 "__eq__" m13),
  (methB K a20 "__eq__" m13),
  (methB K a20 "__str__" m14),
  (methB K a20 "__str__" m14),
  (neB K a20),
  (fmB K a20),
  (gloB K "Book" a26),
  (clsB K a26),
  (noatB K a26 "rung"),
  (noatB K a26 "spans"),
  (isCB K a26 && clsB K a26),
  (creadB K a26),
  (PySem.W.selfFirst K a26),
  (cvalB K a26 "MOST_RINGS" (.int 2000)),
  (cvalB K a26 "MOST_WATCHES" (.int 12)),
  (cvalB K a26 "LONGEST" (.int 1152000)),
  (mkrB K a26 m15),
  (methB K a26 "__init__" m15),
  (methB K a26 "__init__" m15),
  (propB K a26 "rings" m16),
  (propB K a26 "watches" m17),
  (methB K a26 "__iadd__" m18),
  (methB K a26 "__iadd__" m18),
  (methB K a26 "__isub__" m19),
  (methB K a26 "__isub__" m19),
  (methB K a26 "__contains__" m20),
  (methB K a26 "__contains__" m20),
  (methB K a26 "watch" m21),
  (methB K a26 "__or__" m22),
  (methB K a26 "__or__" m22),
  (methB K a26 "__eq__" m23),
  (methB K a26 "__eq__" m23),
  (neB K a26),
  (tup0B K (dfl0 (fun K => He.ma K a26 "__init__") 0 K)),
  (tup0B K (dfl0 (fun K => He.ma K a26 "__init__") 1 K)),
  (noLimB K),
  (([a45, a46] : List Addr).all fun f => makB K f),
  (decide ((([a45, a46] : List Addr).map fun f => tAt K f).Nodup))]
theorem checksF_eq (K : PySem.W.Frag) : checksF K = checks K := (HandSHeadRun.frNat_eq _ _).trans ((HandSHeadRun.frNat_eq _ _).trans ((HandSHeadRun.frNat_eq _ _).trans ((HandSHeadRun.frNat_eq _ _).trans ((HandSHeadRun.frNat_eq _ _).trans ((HandSHeadRun.frNat_eq _ _).trans ((HandSHeadRun.frNat_eq _ _).trans ((HandSHeadRun.frNat_eq _ _).trans ((HandSHeadRun.frNat_eq _ _).trans ((HandSHeadRun.frNat_eq _ _).trans ((HandSHeadRun.frNat_eq _ _).trans ((HandSHeadRun.frNat_eq _ _).trans ((HandSHeadRun.frNat_eq _ _).trans ((HandSHeadRun.frNat_eq _ _).trans ((HandSHeadRun.frNat_eq _ _).trans ((HandSHeadRun.frNat_eq _ _).trans ((HandSHeadRun.frNat_eq _ _).trans ((HandSHeadRun.frNat_eq _ _).trans ((HandSHeadRun.frNat_eq _ _).trans ((HandSHeadRun.frNat_eq _ _).trans ((HandSHeadRun.frNat_eq _ _).trans ((HandSHeadRun.frNat_eq _ _).trans ((HandSHeadRun.frNat_eq _ _).trans ((HandSHeadRun.frNat_eq _ _).trans ((HandSHeadRun.frNat_eq _ _).trans ((HandSHeadRun.frNat_eq _ _).trans ((HandSHeadRun.frNat_eq _ _).trans ((HandSHeadRun.frNat_eq _ _).trans ((HandSHeadRun.frNat_eq _ _).trans ((HandSHeadRun.frNat_eq _ _).trans ((HandSHeadRun.frNat_eq _ _).trans ((HandSHeadRun.frNat_eq _ _).trans ((HandSHeadRun.frNat_eq _ _).trans ((HandSHeadRun.frNat_eq _ _).trans ((HandSHeadRun.frNat_eq _ _).trans ((HandSHeadRun.frNat_eq _ _).trans ((HandSHeadRun.frNat_eq _ _).trans ((HandSHeadRun.frNat_eq _ _).trans ((HandSHeadRun.frNat_eq _ _).trans ((HandSHeadRun.frNat_eq _ _).trans ((HandSHeadRun.frNat_eq _ _).trans ((HandSHeadRun.frNat_eq _ _).trans ((HandSHeadRun.frNat_eq _ _).trans ((HandSHeadRun.frNat_eq _ _).trans ((HandSHeadRun.frNat_eq _ _).trans ((HandSHeadRun.frNat_eq _ _).trans ((HandSHeadRun.frNat_eq _ _).trans ((HandSHeadRun.frNat_eq _ _).trans ((HandSHeadRun.frNat_eq _ _).trans ((HandSHeadRun.frNat_eq _ _).trans ((HandSHeadRun.frNat_eq _ _).trans ((HandSHeadRun.frNat_eq _ _).trans ((HandSHeadRun.frNat_eq _ _).trans ((HandSHeadRun.frNat_eq _ _).trans ((HandSHeadRun.frNat_eq _ _).trans ((HandSHeadRun.frNat_eq _ _).trans ((HandSHeadRun.frNat_eq _ _).trans ((HandSHeadRun.frNat_eq _ _).trans ((HandSHeadRun.frNat_eq _ _).trans ((HandSHeadRun.frNat_eq _ _).trans ((HandSHeadRun.frNat_eq _ _).trans ((HandSHeadRun.frNat_eq _ _).trans ((HandSHeadRun.frNat_eq _ _).trans ((HandSHeadRun.frNat_eq _ _).trans ((HandSHeadRun.frNat_eq _ _).trans ((HandSHeadRun.frNat_eq _ _).trans ((HandSHeadRun.frNat_eq _ _).trans ((HandSHeadRun.frNat_eq _ _).trans ((HandSHeadRun.frNat_eq _ _).trans ((HandSHeadRun.frNat_eq _ _).trans ((HandSHeadRun.frNat_eq _ _).trans (HandSHeadRun.frNat_eq _ _)))))))))))))))))))))))))))))))))))))))))))))))))))))))))))))))))))))))
def dd_is_whole : He5.DefA := { at_ := fun K => He.ga K "is_whole", name := "is_whole", qual := "is_whole", params := defArgs s_is_whole, body := defBody s_is_whole, scope := defScope s_is_whole, dfl := [] }
def dd_is_between : He5.DefA := { at_ := fun K => He.ga K "is_between", name := "is_between", qual := "is_between", params := defArgs s_is_between, body := defBody s_is_between, scope := defScope s_is_between, dfl := [] }
def dd_is_leap : He5.DefA := { at_ := fun K => He.ga K "is_leap", name := "is_leap", qual := "is_leap", params := defArgs s_is_leap, body := defBody s_is_leap, scope := defScope s_is_leap, dfl := [] }
def dd_month_length : He5.DefA := { at_ := fun K => He.ga K "month_length", name := "month_length", qual := "month_length", params := defArgs s_month_length, body := defBody s_month_length, scope := defScope s_month_length, dfl := [] }
def dd_days_ahead : He5.DefA := { at_ := fun K => He.ga K "days_ahead", name := "days_ahead", qual := "days_ahead", params := defArgs s_days_ahead, body := defBody s_days_ahead, scope := defScope s_days_ahead, dfl := [] }
def dd_day_number : He5.DefA := { at_ := fun K => He.ga K "day_number", name := "day_number", qual := "day_number", params := defArgs s_day_number, body := defBody s_day_number, scope := defScope s_day_number, dfl := [] }
def dd_date_of : He5.DefA := { at_ := fun K => He.ga K "date_of", name := "date_of", qual := "date_of", params := defArgs s_date_of, body := defBody s_date_of, scope := defScope s_date_of, dfl := [] }
def dd_weekday_of : He5.DefA := { at_ := fun K => He.ga K "weekday_of", name := "weekday_of", qual := "weekday_of", params := defArgs s_weekday_of, body := defBody s_weekday_of, scope := defScope s_weekday_of, dfl := [] }
def dd_wrong_part : He5.DefA := { at_ := fun K => He.ga K "wrong_part", name := "wrong_part", qual := "wrong_part", params := defArgs s_wrong_part, body := defBody s_wrong_part, scope := defScope s_wrong_part, dfl := [] }
def dd_number_in : He5.DefA := { at_ := fun K => He.ga K "number_in", name := "number_in", qual := "number_in", params := defArgs s_number_in, body := defBody s_number_in, scope := defScope s_number_in, dfl := [] }
def dd_date_in : He5.DefA := { at_ := fun K => He.ga K "date_in", name := "date_in", qual := "date_in", params := defArgs s_date_in, body := defBody s_date_in, scope := defScope s_date_in, dfl := [] }
def dd_time_in : He5.DefA := { at_ := fun K => He.ga K "time_in", name := "time_in", qual := "time_in", params := defArgs s_time_in, body := defBody s_time_in, scope := defScope s_time_in, dfl := [] }
def dd_moment_at : He5.DefA := { at_ := fun K => He.ga K "moment_at", name := "moment_at", qual := "moment_at", params := defArgs s_moment_at, body := defBody s_moment_at, scope := defScope s_moment_at, dfl := [] }
def dd_Moment___init__ : He5.DefA := { at_ := fun K => He.ma K (He.ga K "Moment") "__init__", name := "__init__", qual := "Moment.__init__", params := defArgs s_Moment___init__, body := defBody s_Moment___init__, scope := defScope s_Moment___init__, dfl := [.int 0, .int 0] }
def dd_Moment_at : He5.DefA := { at_ := fun K => He5.wf K (He.ga K "Moment") "staticmethod" "at", name := "at", qual := "Moment.at", params := defArgs s_Moment_at, body := defBody s_Moment_at, scope := defScope s_Moment_at, dfl := [] }
def dd_Moment_read : He5.DefA := { at_ := fun K => He5.wf K (He.ga K "Moment") "classmethod" "read", name := "read", qual := "Moment.read", params := defArgs s_Moment_read, body := defBody s_Moment_read, scope := defScope s_Moment_read, dfl := [] }
def dd_Moment___add__ : He5.DefA := { at_ := fun K => He.ma K (He.ga K "Moment") "__add__", name := "__add__", qual := "Moment.__add__", params := defArgs s_Moment___add__, body := defBody s_Moment___add__, scope := defScope s_Moment___add__, dfl := [] }
def dd_Moment___radd__ : He5.DefA := { at_ := fun K => He.ma K (He.ga K "Moment") "__radd__", name := "__radd__", qual := "Moment.__radd__", params := defArgs s_Moment___radd__, body := defBody s_Moment___radd__, scope := defScope s_Moment___radd__, dfl := [] }
def dd_Moment___sub__ : He5.DefA := { at_ := fun K => He.ma K (He.ga K "Moment") "__sub__", name := "__sub__", qual := "Moment.__sub__", params := defArgs s_Moment___sub__, body := defBody s_Moment___sub__, scope := defScope s_Moment___sub__, dfl := [] }
def dd_Moment___floordiv__ : He5.DefA := { at_ := fun K => He.ma K (He.ga K "Moment") "__floordiv__", name := "__floordiv__", qual := "Moment.__floordiv__", params := defArgs s_Moment___floordiv__, body := defBody s_Moment___floordiv__, scope := defScope s_Moment___floordiv__, dfl := [] }
def dd_Moment___mod__ : He5.DefA := { at_ := fun K => He.ma K (He.ga K "Moment") "__mod__", name := "__mod__", qual := "Moment.__mod__", params := defArgs s_Moment___mod__, body := defBody s_Moment___mod__, scope := defScope s_Moment___mod__, dfl := [] }
def dd_Moment___lt__ : He5.DefA := { at_ := fun K => He.ma K (He.ga K "Moment") "__lt__", name := "__lt__", qual := "Moment.__lt__", params := defArgs s_Moment___lt__, body := defBody s_Moment___lt__, scope := defScope s_Moment___lt__, dfl := [] }
def dd_Moment___le__ : He5.DefA := { at_ := fun K => He.ma K (He.ga K "Moment") "__le__", name := "__le__", qual := "Moment.__le__", params := defArgs s_Moment___le__, body := defBody s_Moment___le__, scope := defScope s_Moment___le__, dfl := [] }
def dd_Moment___gt__ : He5.DefA := { at_ := fun K => He.ma K (He.ga K "Moment") "__gt__", name := "__gt__", qual := "Moment.__gt__", params := defArgs s_Moment___gt__, body := defBody s_Moment___gt__, scope := defScope s_Moment___gt__, dfl := [] }
def dd_Moment___ge__ : He5.DefA := { at_ := fun K => He.ma K (He.ga K "Moment") "__ge__", name := "__ge__", qual := "Moment.__ge__", params := defArgs s_Moment___ge__, body := defBody s_Moment___ge__, scope := defScope s_Moment___ge__, dfl := [] }
def dd_Moment___eq__ : He5.DefA := { at_ := fun K => He.ma K (He.ga K "Moment") "__eq__", name := "__eq__", qual := "Moment.__eq__", params := defArgs s_Moment___eq__, body := defBody s_Moment___eq__, scope := defScope s_Moment___eq__, dfl := [] }
def dd_Moment___str__ : He5.DefA := { at_ := fun K => He.ma K (He.ga K "Moment") "__str__", name := "__str__", qual := "Moment.__str__", params := defArgs s_Moment___str__, body := defBody s_Moment___str__, scope := defScope s_Moment___str__, dfl := [] }
def dd_need_watch : He5.DefA := { at_ := fun K => He.ga K "need_watch", name := "need_watch", qual := "need_watch", params := defArgs s_need_watch, body := defBody s_need_watch, scope := defScope s_need_watch, dfl := [] }
def dd_span_code : He5.DefA := { at_ := fun K => He.ga K "span_code", name := "span_code", qual := "span_code", params := defArgs s_span_code, body := defBody s_span_code, scope := defScope s_span_code, dfl := [] }
def dd_with_ring : He5.DefA := { at_ := fun K => He.ga K "with_ring", name := "with_ring", qual := "with_ring", params := defArgs s_with_ring, body := defBody s_with_ring, scope := defScope s_with_ring, dfl := [] }
def dd_rings_in : He5.DefA := { at_ := fun K => He.ga K "rings_in", name := "rings_in", qual := "rings_in", params := defArgs s_rings_in, body := defBody s_rings_in, scope := defScope s_rings_in, dfl := [] }
def dd_spans_in : He5.DefA := { at_ := fun K => He.ga K "spans_in", name := "spans_in", qual := "spans_in", params := defArgs s_spans_in, body := defBody s_spans_in, scope := defScope s_spans_in, dfl := [] }
def dd_Book___init__ : He5.DefA := { at_ := fun K => He.ma K (He.ga K "Book") "__init__", name := "__init__", qual := "Book.__init__", params := defArgs s_Book___init__, body := defBody s_Book___init__, scope := defScope s_Book___init__, dfl := [.adr (dfl0 (fun K => He.ma K (He.ga K "Book") "__init__") 0), .adr (dfl0 (fun K => He.ma K (He.ga K "Book") "__init__") 1)] }
def dd_Book_rings : He5.DefA := { at_ := fun K => He5.wf K (He.ga K "Book") "property" "rings", name := "rings", qual := "Book.rings", params := defArgs s_Book_rings, body := defBody s_Book_rings, scope := defScope s_Book_rings, dfl := [] }
def dd_Book_watches : He5.DefA := { at_ := fun K => He5.wf K (He.ga K "Book") "property" "watches", name := "watches", qual := "Book.watches", params := defArgs s_Book_watches, body := defBody s_Book_watches, scope := defScope s_Book_watches, dfl := [] }
def dd_Book___iadd__ : He5.DefA := { at_ := fun K => He.ma K (He.ga K "Book") "__iadd__", name := "__iadd__", qual := "Book.__iadd__", params := defArgs s_Book___iadd__, body := defBody s_Book___iadd__, scope := defScope s_Book___iadd__, dfl := [] }
def dd_Book___isub__ : He5.DefA := { at_ := fun K => He.ma K (He.ga K "Book") "__isub__", name := "__isub__", qual := "Book.__isub__", params := defArgs s_Book___isub__, body := defBody s_Book___isub__, scope := defScope s_Book___isub__, dfl := [] }
def dd_Book___contains__ : He5.DefA := { at_ := fun K => He.ma K (He.ga K "Book") "__contains__", name := "__contains__", qual := "Book.__contains__", params := defArgs s_Book___contains__, body := defBody s_Book___contains__, scope := defScope s_Book___contains__, dfl := [] }
def dd_Book_watch : He5.DefA := { at_ := fun K => He.ma K (He.ga K "Book") "watch", name := "watch", qual := "Book.watch", params := defArgs s_Book_watch, body := defBody s_Book_watch, scope := defScope s_Book_watch, dfl := [] }
def dd_Book___or__ : He5.DefA := { at_ := fun K => He.ma K (He.ga K "Book") "__or__", name := "__or__", qual := "Book.__or__", params := defArgs s_Book___or__, body := defBody s_Book___or__, scope := defScope s_Book___or__, dfl := [] }
def dd_Book___eq__ : He5.DefA := { at_ := fun K => He.ma K (He.ga K "Book") "__eq__", name := "__eq__", qual := "Book.__eq__", params := defArgs s_Book___eq__, body := defBody s_Book___eq__, scope := defScope s_Book___eq__, dfl := [] }
def dd_moment_in : He5.DefA := { at_ := fun K => He.ga K "moment_in", name := "moment_in", qual := "moment_in", params := defArgs s_moment_in, body := defBody s_moment_in, scope := defScope s_moment_in, dfl := [] }
def dd_moment_of : He5.DefA := { at_ := fun K => He.ga K "moment_of", name := "moment_of", qual := "moment_of", params := defArgs s_moment_of, body := defBody s_moment_of, scope := defScope s_moment_of, dfl := [] }
def dd_need_end : He5.DefA := { at_ := fun K => He.ga K "need_end", name := "need_end", qual := "need_end", params := defArgs s_need_end, body := defBody s_need_end, scope := defScope s_need_end, dfl := [] }
def dd_read_entry : He5.DefA := { at_ := fun K => He.ga K "read_entry", name := "read_entry", qual := "read_entry", params := defArgs s_read_entry, body := defBody s_read_entry, scope := defScope s_read_entry, dfl := [] }
def dd_lines_in : He5.DefA := { at_ := fun K => He.ga K "lines_in", name := "lines_in", qual := "lines_in", params := defArgs s_lines_in, body := defBody s_lines_in, scope := defScope s_lines_in, dfl := [] }
def dd_read_book : He5.DefA := { at_ := fun K => He.ga K "read_book", name := "read_book", qual := "read_book", params := defArgs s_read_book, body := defBody s_read_book, scope := defScope s_read_book, dfl := [] }
def dd__law_bag : He5.DefA := { at_ := fun K => He.ga K "_law_bag", name := "_law_bag", qual := "_law_bag", params := defArgs s__law_bag, body := defBody s__law_bag, scope := defScope s__law_bag, dfl := [] }
def dd__law_draw : He5.DefA := { at_ := fun K => He.ga K "_law_draw", name := "_law_draw", qual := "_law_draw", params := defArgs s__law_draw, body := defBody s__law_draw, scope := defScope s__law_draw, dfl := [] }
def dd__law_length : He5.DefA := { at_ := fun K => He.ga K "_law_length", name := "_law_length", qual := "_law_length", params := defArgs s__law_length, body := defBody s__law_length, scope := defScope s__law_length, dfl := [] }
def dd__law_date : He5.DefA := { at_ := fun K => He.ga K "_law_date", name := "_law_date", qual := "_law_date", params := defArgs s__law_date, body := defBody s__law_date, scope := defScope s__law_date, dfl := [] }
def dd__law_number : He5.DefA := { at_ := fun K => He.ga K "_law_number", name := "_law_number", qual := "_law_number", params := defArgs s__law_number, body := defBody s__law_number, scope := defScope s__law_number, dfl := [] }
def dd__law_heard : He5.DefA := { at_ := fun K => He.ga K "_law_heard", name := "_law_heard", qual := "_law_heard", params := defArgs s__law_heard, body := defBody s__law_heard, scope := defScope s__law_heard, dfl := [] }
def dd__law_digits : He5.DefA := { at_ := fun K => He.ga K "_law_digits", name := "_law_digits", qual := "_law_digits", params := defArgs s__law_digits, body := defBody s__law_digits, scope := defScope s__law_digits, dfl := [] }
def dd__law_date_in : He5.DefA := { at_ := fun K => He.ga K "_law_date_in", name := "_law_date_in", qual := "_law_date_in", params := defArgs s__law_date_in, body := defBody s__law_date_in, scope := defScope s__law_date_in, dfl := [] }
def dd__law_time_in : He5.DefA := { at_ := fun K => He.ga K "_law_time_in", name := "_law_time_in", qual := "_law_time_in", params := defArgs s__law_time_in, body := defBody s__law_time_in, scope := defScope s__law_time_in, dfl := [] }
def dd__law_line_due : He5.DefA := { at_ := fun K => He.ga K "_law_line_due", name := "_law_line_due", qual := "_law_line_due", params := defArgs s__law_line_due, body := defBody s__law_line_due, scope := defScope s__law_line_due, dfl := [] }
def dd__law_due : He5.DefA := { at_ := fun K => He.ga K "_law_due", name := "_law_due", qual := "_law_due", params := defArgs s__law_due, body := defBody s__law_due, scope := defScope s__law_due, dfl := [] }
def dd__law_spoilt : He5.DefA := { at_ := fun K => He.ga K "_law_spoilt", name := "_law_spoilt", qual := "_law_spoilt", params := defArgs s__law_spoilt, body := defBody s__law_spoilt, scope := defScope s__law_spoilt, dfl := [] }
def dd__law_many_right : He5.DefA := { at_ := fun K => He.ga K "_law_many_right", name := "_law_many_right", qual := "_law_many_right", params := defArgs s__law_many_right, body := defBody s__law_many_right, scope := defScope s__law_many_right, dfl := [] }
def dd_law : He5.DefA := { at_ := fun K => He.ga K "law", name := "law", qual := "law", params := defArgs s_law, body := defBody s_law, scope := defScope s_law, dfl := [] }
def fns : List He5.DefA := [dd_is_whole, dd_is_between, dd_is_leap, dd_month_length, dd_days_ahead, dd_day_number, dd_date_of, dd_weekday_of, dd_wrong_part, dd_number_in, dd_date_in, dd_time_in, dd_moment_at, dd_Moment___init__, dd_Moment_at, dd_Moment_read, dd_Moment___add__, dd_Moment___radd__, dd_Moment___sub__, dd_Moment___floordiv__, dd_Moment___mod__, dd_Moment___lt__, dd_Moment___le__, dd_Moment___gt__, dd_Moment___ge__, dd_Moment___eq__, dd_Moment___str__, dd_need_watch, dd_span_code, dd_with_ring, dd_rings_in, dd_spans_in, dd_Book___init__, dd_Book_rings, dd_Book_watches, dd_Book___iadd__, dd_Book___isub__, dd_Book___contains__, dd_Book_watch, dd_Book___or__, dd_Book___eq__, dd_moment_in, dd_moment_of, dd_need_end, dd_read_entry, dd_lines_in, dd_read_book, dd__law_bag, dd__law_draw, dd__law_length, dd__law_date, dd__law_number, dd__law_heard, dd__law_digits, dd__law_date_in, dd__law_time_in, dd__law_line_due, dd__law_due, dd__law_spoilt, dd__law_many_right, dd_law]
def adrs : List Addr := [3, 6, 4, 21, 31, 53, 74, 95, 116, 137, 140, 147, 154, 161, 168, 175, 180, 187, 194, 201, 206, 213, 220, 227, 380, 391, 398, 405, 412, 419, 538, 549, 556, 563, 568, 573, 580, 587, 594, 601, 606, 613, 620, 625, 632, 639, 646, 651, 656, 661, 666, 0, 20, 30, 52, 73, 94, 115, 136, 146, 153, 160, 167, 174, 179, 186, 193, 200, 205, 212, 219, 226, 379, 390, 397, 404, 411, 418, 537, 548, 555, 562, 567, 572, 579, 586, 593, 600, 605, 612, 619, 624, 631, 638, 645, 650, 655, 660, 665, 29, 32, 50, 51, 71, 72, 92, 93, 113, 114, 134, 135, 242, 251, 261, 271, 281, 291, 300, 307, 314, 321, 328, 335, 342, 349, 356, 363, 370, 377, 378, 381, 382, 436, 445, 452, 458, 465, 472, 479, 486, 493, 500, 507, 514, 521, 528, 535, 536, 539, 540, 49, 38, 70, 59, 91, 80, 112, 101, 133, 122, 241, 235, 249, 250, 259, 260, 269, 270, 279, 280, 289, 290, 299, 306, 313, 320, 327, 334, 341, 348, 355, 362, 369, 376, 435, 429, 443, 444, 451, 457, 464, 471, 478, 485, 492, 499, 506, 513, 520, 527, 534, 248, 252, 258, 262, 268, 272, 278, 282, 288, 292, 298, 427, 428, 442, 446, 450, 456, 2]

def dx_BadText : DefX := ⟨fun K => He.ma K (He.ga K "BadText") "__init__", "BadText.__init__", defArgs s_BadText___init__, defBody s_BadText___init__, defScope s_BadText___init__⟩
theorem syn_BadText : XSyn R.prog (defArgs s_BadText___init__) (defBody s_BadText___init__) (defScope s_BadText___init__) ["word", "item"] := ⟨by decide +kernel, by decide +kernel, rfl, rfl, rfl, by decide +kernel, by decide +kernel, by decide +kernel, by decide +kernel, by decide +kernel, by decide +kernel, by decide +kernel, fun _ _ _ _ _ _ _ us hl => match us, hl with | [_, _, _], _ => rfl, by decide +kernel⟩

def dx_BadWatch : DefX := ⟨fun K => He.ma K (He.ga K "BadWatch") "__init__", "BadWatch.__init__", defArgs s_BadWatch___init__, defBody s_BadWatch___init__, defScope s_BadWatch___init__⟩
theorem syn_BadWatch : XSyn R.prog (defArgs s_BadWatch___init__) (defBody s_BadWatch___init__) (defScope s_BadWatch___init__) ["part"] := ⟨by decide +kernel, by decide +kernel, rfl, rfl, rfl, by decide +kernel, by decide +kernel, by decide +kernel, by decide +kernel, by decide +kernel, by decide +kernel, by decide +kernel, fun _ _ _ _ _ _ _ us hl => match us, hl with | [_, _], _ => rfl, by decide +kernel⟩

def dx_TooMany : DefX := ⟨fun K => He.ma K (He.ga K "TooMany") "__init__", "TooMany.__init__", defArgs s_TooMany___init__, defBody s_TooMany___init__, defScope s_TooMany___init__⟩
theorem syn_TooMany : XSyn R.prog (defArgs s_TooMany___init__) (defBody s_TooMany___init__) (defScope s_TooMany___init__) ["what", "most"] := ⟨by decide +kernel, by decide +kernel, rfl, rfl, rfl, by decide +kernel, by decide +kernel, by decide +kernel, by decide +kernel, by decide +kernel, by decide +kernel, by decide +kernel, fun _ _ _ _ _ _ _ us hl => match us, hl with | [_, _, _], _ => rfl, by decide +kernel⟩
def initl : List DefX := [dx_BadText, dx_BadWatch, dx_TooMany]
def tabl (K : PySem.W.Frag) : List Addr := [(He.ga K "_law_many_right"), (He.ga K "law")]
abbrev hk : PySem.W.Hook := hookT adrs checks fns initl tabl
def ob (z : PySem.W.SharedT) : AlT := obT adrs checksF fns initl tabl (HandSHeadRun.getT z)
theorem ob_eq (z : PySem.W.SharedT) : ob z = hk.obs z.abs := obT_eq (HandSHeadRun.getT_eq z) checksF_eq
def loose : List PySem.Str := (["_wall", "RungError", "BadMoment", "BadText", "BadWatch", "TooMany", "NoEntry", "ROUND_YEARS", "ROUND_DAYS", "DAY_MINUTES", "LENGTHS", "DIGITS", "is_whole", "is_between", "is_leap", "month_length", "days_ahead", "day_number", "date_of", "weekday_of", "wrong_part", "number_in", "date_in", "time_in", "moment_at", "Moment", "need_watch", "span_code", "with_ring", "rings_in"] : List PySem.Str) ++ (["spans_in", "Book", "moment_in", "moment_of", "need_end", "read_entry", "lines_in", "read_book", "_law_bag", "_law_draw", "_law_length", "_law_date", "_law_number", "_law_heard", "_law_digits", "_law_date_in", "_law_time_in", "_law_line_due", "_law_due", "_law_spoilt", "_law_many_right"] : List PySem.Str)
end G
set_option maxHeartbeats 0
namespace G
open PySem PySem.Spec PyProof.Rows L2 F
theorem run1 (w : World) (os : OsState) : (HandSHeadRun.endF (HandSHeadRun.stepQ (HandSHeadRun.denQ HandSHeadRun.tabQ) R.prog w) 20000 R.prog w os).map (fun z => (HandSHeadRun.looksF R.prog (PySem.W.boot_heap w.params) z.abs, HandSHeadRun.seenQ (PySem.W.view R.prog [56]) loose (PySem.importedModules R.prog.main.body) (fun z => PySem.W.xlAt (PySem.W.view R.prog [56]) [] z && PySem.W.recOk R.toRowW.records z) z.abs)) = some (true, PySem.W.openGood (PySem.W.view R.prog [56]) loose) := by
  kernel_rfl
theorem run2 (w : World) (os : OsState) : (HandSHeadRun.endF (HandSHeadRun.stepQ (HandSHeadRun.denQ HandSHeadRun.tabQ) R.prog w) 20000 R.prog w os).map ob = some (hk.val w) := by
  kernel_rfl
theorem run (w : World) : HandSHeadRun.RunEq R (PySem.W.view R.prog [56]) hk ob 20000 loose w := run_join (run1 w) (run2 w)
end G
/-! M: the mathematics, no program in sight. -/
namespace M
def isLeap (y : Int) : Bool := decide (y % 4 = 0) && (!decide (y % 100 = 0) || decide (y % 400 = 0))
def daysAhead (y : Int) : Int := 365 * (y - 1) + (y - 1) / 4 - (y - 1) / 100 + (y - 1) / 400
/-- the lengths of the months of a common year -/
def lens : List Int := [31, 28, 31, 30, 31, 30, 31, 31, 30, 31, 30, 31]
def monthLen (y m : Int) : Int := lens.getD (m - 1).toNat 0 + (if decide (m = 2) && isLeap y then 1 else 0)
/-- the days of the months ahead of one -/
def monthsSum (y : Int) (n : Nat) : Int := ((List.range n).map fun (i : Nat) => monthLen y (1 + (i : Int))).sum
def dayNumber (y m d : Int) : Int := daysAhead y + monthsSum y (m - 1).toNat + d - 1
/-- a moment: year, month, day, hour, minute -/
structure Mo where
  y : Int
  m : Int
  d : Int
  h : Int
  i : Int
deriving DecidableEq
@[irreducible] def Mo.date (q : Mo) : Int := dayNumber q.y q.m q.d
@[irreducible] def Mo.num (q : Mo) : Int := q.date * 1440 + q.h * 60 + q.i
structure Mo.ok (q : Mo) : Prop where
  y1 : 1 ≤ q.y
  y2 : q.y ≤ 999999
  m1 : 1 ≤ q.m
  m2 : q.m ≤ 12
  d1 : 1 ≤ q.d
  d2 : q.d ≤ monthLen q.y q.m
  h1 : 0 ≤ q.h
  h2 : q.h ≤ 23
  i1 : 0 ≤ q.i
  i2 : q.i ≤ 59
def leapN (y : Int) : Int := if isLeap y then 1 else 0
theorem daysAhead_step (y : Int) : daysAhead (y + 1) = daysAhead y + 365 + leapN y := by
  unfold daysAhead leapN isLeap
  have e : y + 1 - 1 = y := by omega
  rw [e]
  by_cases h4 : y % 4 = 0 <;> by_cases h100 : y % 100 = 0 <;> by_cases h400 : y % 400 = 0 <;> simp only [h4, h100, h400, decide_true, decide_false, Bool.not_true, Bool.not_false, Bool.and_true, Bool.or_true, Bool.true_and, Bool.false_and, Bool.and_false, Bool.or_false, Bool.false_or, Bool.true_or, if_true, if_false, reduceIte, Bool.false_eq_true] <;> omega
theorem daysAhead_mono {y y' : Int} (h : y ≤ y') : daysAhead y ≤ daysAhead y' := by
  unfold daysAhead
  omega
theorem monthLen_cases (y : Int) : monthLen y 1 = 31 ∧ monthLen y 2 = 28 + leapN y ∧ monthLen y 3 = 31 ∧ monthLen y 4 = 30 ∧ monthLen y 5 = 31 ∧ monthLen y 6 = 30 ∧ monthLen y 7 = 31 ∧ monthLen y 8 = 31 ∧ monthLen y 9 = 30 ∧ monthLen y 10 = 31 ∧ monthLen y 11 = 30 ∧ monthLen y 12 = 31 := by
  refine ⟨rfl, ?_, rfl, rfl, rfl, rfl, rfl, rfl, rfl, rfl, rfl, rfl⟩
  rfl
theorem monthsSum_step (y : Int) (n : Nat) : monthsSum y (n + 1) = monthsSum y n + monthLen y (1 + (n : Int)) := by
  unfold monthsSum
  rw [List.range_succ, List.map_append, List.sum_append]
  simp
theorem leapN_b (y : Int) : 0 ≤ leapN y ∧ leapN y ≤ 1 := by
  unfold leapN
  split <;> omega
theorem months_val (y : Int) (n : Nat) (h : n ≤ 12) : monthsSum y n = ([0, 31, 59, 90, 120, 151, 181, 212, 243, 273, 304, 334, 365] : List Int).getD n 0 + (if 2 ≤ n then leapN y else 0) := by
  obtain ⟨l1, l2, l3, l4, l5, l6, l7, l8, l9, l10, l11, l12⟩ := monthLen_cases y
  have s0 : monthsSum y 0 = 0 := rfl
  have s1 : monthsSum y 1 = monthsSum y 0 + monthLen y 1 := monthsSum_step y 0
  have s2 : monthsSum y 2 = monthsSum y 1 + monthLen y 2 := monthsSum_step y 1
  have s3 : monthsSum y 3 = monthsSum y 2 + monthLen y 3 := monthsSum_step y 2
  have s4 : monthsSum y 4 = monthsSum y 3 + monthLen y 4 := monthsSum_step y 3
  have s5 : monthsSum y 5 = monthsSum y 4 + monthLen y 5 := monthsSum_step y 4
  have s6 : monthsSum y 6 = monthsSum y 5 + monthLen y 6 := monthsSum_step y 5
  have s7 : monthsSum y 7 = monthsSum y 6 + monthLen y 7 := monthsSum_step y 6
  have s8 : monthsSum y 8 = monthsSum y 7 + monthLen y 8 := monthsSum_step y 7
  have s9 : monthsSum y 9 = monthsSum y 8 + monthLen y 9 := monthsSum_step y 8
  have s10 : monthsSum y 10 = monthsSum y 9 + monthLen y 10 := monthsSum_step y 9
  have s11 : monthsSum y 11 = monthsSum y 10 + monthLen y 11 := monthsSum_step y 10
  have s12 : monthsSum y 12 = monthsSum y 11 + monthLen y 12 := monthsSum_step y 11
  have hc : n = 0 ∨ n = 1 ∨ n = 2 ∨ n = 3 ∨ n = 4 ∨ n = 5 ∨ n = 6 ∨ n = 7 ∨ n = 8 ∨ n = 9 ∨ n = 10 ∨ n = 11 ∨ n = 12 := by omega
  rcases hc with rfl | rfl | rfl | rfl | rfl | rfl | rfl | rfl | rfl | rfl | rfl | rfl | rfl <;> simp <;> omega
theorem monthLen_ge (y m : Int) (h1 : 1 ≤ m) (h2 : m ≤ 12) : 28 ≤ monthLen y m ∧ monthLen y m ≤ 31 := by
  obtain ⟨l1, l2, l3, l4, l5, l6, l7, l8, l9, l10, l11, l12⟩ := monthLen_cases y
  have b := leapN_b y
  have hc : m = 1 ∨ m = 2 ∨ m = 3 ∨ m = 4 ∨ m = 5 ∨ m = 6 ∨ m = 7 ∨ m = 8 ∨ m = 9 ∨ m = 10 ∨ m = 11 ∨ m = 12 := by omega
  rcases hc with rfl | rfl | rfl | rfl | rfl | rfl | rfl | rfl | rfl | rfl | rfl | rfl <;> omega
theorem monthsSum_mono (y : Int) (a : Nat) : ∀ k : Nat, a + k ≤ 12 → monthsSum y a ≤ monthsSum y (a + k)
  | 0, _ => Int.le_refl _
  | k + 1, h => by
    have ih := monthsSum_mono y a k (by omega)
    have e := monthsSum_step y (a + k)
    have g := monthLen_ge y (1 + ((a + k : Nat) : Int)) (by omega) (by omega)
    have e2 : a + (k + 1) = a + k + 1 := by omega
    rw [e2]
    omega
theorem monthsSum_12 (y : Int) : monthsSum y 12 = 365 + leapN y := by
  have := months_val y 12 (by omega)
  simp at this
  omega
theorem Mo.ok.date_b {q : Mo} (k : q.ok) : daysAhead q.y ≤ q.date ∧ q.date < daysAhead (q.y + 1) := by
  obtain ⟨y1, y2, m1, m2, d1, d2, _, _, _, _⟩ := k
  have a1 := monthsSum_mono q.y 0 (q.m - 1).toNat (by omega)
  have s0 : monthsSum q.y 0 = 0 := rfl
  have st := monthsSum_step q.y (q.m - 1).toNat
  have em : (1 + (((q.m - 1).toNat : Nat) : Int)) = q.m := by omega
  rw [em] at st
  have a2 := monthsSum_mono q.y ((q.m - 1).toNat + 1) (12 - ((q.m - 1).toNat + 1)) (by omega)
  have e12 : (q.m - 1).toNat + 1 + (12 - ((q.m - 1).toNat + 1)) = 12 := by omega
  rw [e12, monthsSum_12] at a2
  have ds := daysAhead_step q.y
  rw [Nat.zero_add] at a1
  unfold Mo.date dayNumber
  omega
theorem Mo.date_inj {q p : Mo} (k : q.ok) (l : p.ok) (e : q.date = p.date) : q.y = p.y ∧ q.m = p.m ∧ q.d = p.d := by
  have b1 := k.date_b
  have b2 := l.date_b
  have ey : q.y = p.y := by
    rcases Int.lt_trichotomy q.y p.y with h | h | h
    · have := daysAhead_mono (show q.y + 1 ≤ p.y by omega)
      omega
    · exact h
    · have := daysAhead_mono (show p.y + 1 ≤ q.y by omega)
      omega
  have one : ∀ a c : Mo, a.ok → c.ok → a.y = c.y → a.date = c.date → ¬ a.m < c.m := fun a c ka kc ey e h => by
    have st := monthsSum_step a.y (a.m - 1).toNat
    have := ka.m1
    have := ka.m2
    have := kc.m1
    have := kc.m2
    have em : (1 + (((a.m - 1).toNat : Nat) : Int)) = a.m := by omega
    rw [em] at st
    have a2 := monthsSum_mono a.y ((a.m - 1).toNat + 1) ((c.m - 1).toNat - ((a.m - 1).toNat + 1)) (by omega)
    have e12 : (a.m - 1).toNat + 1 + ((c.m - 1).toNat - ((a.m - 1).toNat + 1)) = (c.m - 1).toNat := by omega
    rw [e12] at a2
    have := ka.d2
    have := kc.d1
    unfold Mo.date dayNumber at e
    rw [← ey] at e
    omega
  have em : q.m = p.m := by
    have h1 := one q p k l ey e
    have h2 := one p q l k ey.symm e.symm
    omega
  refine ⟨ey, em, ?_⟩
  unfold Mo.date dayNumber at e
  rw [ey, em] at e
  omega
theorem Mo.num_inj {q p : Mo} (k : q.ok) (l : p.ok) (e : q.num = p.num) : q = p := by
  have := k.h1
  have := k.h2
  have := k.i1
  have := k.i2
  have := l.h1
  have := l.h2
  have := l.i1
  have := l.i2
  unfold Mo.num at e
  have ed : q.date = p.date := by omega
  obtain ⟨a, b, c⟩ := Mo.date_inj k l ed
  cases q
  cases p
  simp only [Mo.mk.injEq] at *
  refine ⟨a, b, c, ?_, ?_⟩ <;> omega
theorem Mo.ok.num_b {q : Mo} (k : q.ok) : 0 ≤ q.num ∧ q.num < 526000000000 := by
  have b := k.date_b
  have := k.y1
  have := k.y2
  have := k.h1
  have := k.h2
  have := k.i1
  have := k.i2
  have e : daysAhead q.y ≥ 0 := by unfold daysAhead; omega
  have e2 : daysAhead (q.y + 1) ≤ 365242135 := by unfold daysAhead; omega
  unfold Mo.num
  omega
end M
set_option maxHeartbeats 2000000
/-! F: readings as functions of the values (they compute by whnf), over the hand layer. -/
namespace F
open PySem PySem.Spec PyProof.Rows L2
abbrev Sl := List (Option V)
/-- both ways of a test -/
@[irreducible] def Cond (b : Bool) (A B : Prop) : Prop := (b = true → A) ∧ (b = false → B)
section
variable {A B : Prop} {b c : Bool}
theorem cond_b (h1 : b = true → A) (h2 : b = false → B) : Cond b A B := by
  unfold Cond
  exact ⟨h1, h2⟩
theorem Cond.t (h : Cond b A B) : b = true → A := by
  unfold Cond at h
  exact h.1
theorem Cond.f (h : Cond b A B) : b = false → B := by
  unfold Cond at h
  exact h.2
theorem Cond.ite (h : Cond b A B) : if b = true then A else B := by
  cases b with
  | true => exact iteT (h.t rfl)
  | false => exact iteF (h.f rfl)
theorem cond_p {p : Prop} [Decidable p] (h1 : p → A) (h2 : ¬ p → B) : Cond (decide p) A B := cond_b (fun z => h1 (of_decide_eq_true z)) fun z => h2 (of_decide_eq_false z)
theorem cond_n (h : Cond b B A) : Cond (!b) A B := cond_b (fun z => h.f (by simpa using z)) fun z => h.t (by simpa using z)
theorem cond_t (hb : b = true) (h : A) : Cond b A B := cond_b (fun _ => h) fun z => by rw [hb] at z; cases z
theorem cond_f (hb : b = false) (h : B) : Cond b A B := cond_b (fun z => by (rw [hb] at z; cases z)) fun _ => h
theorem cond_q {p : Prop} [Decidable p] (hp : p) (h : A) : Cond (decide p) A B := cond_t (decide_eq_true hp) h
theorem cond_nq {p : Prop} [Decidable p] (hp : ¬ p) (h : B) : Cond (decide p) A B := cond_f (decide_eq_false hp) h
/-- the value that a bool-valued test hands on -/
theorem cond_v {Q : Bool → Prop} (h : Q b) : Cond b (Q true) (Q false) := cond_b (fun z => by (rw [z] at h; exact h)) fun z => by (rw [z] at h; exact h)
end
/-- the i-th slot's value -/
def nth : Sl → Nat → Option V
  | [], _ => none
  | a :: _, 0 => a
  | _ :: r, n + 1 => nth r n
theorem nth_get : ∀ {σ : Sl} {i : Nat} {v : V}, nth σ i = some v → σ[i]? = some (some v)
  | [], _, _, h => by cases h
  | a :: _, 0, v, h => by
    have e : a = some v := h
    rw [e] <;> rfl
  | _ :: r, i + 1, v, h => by
    have q := nth_get (σ := r) (i := i) (v := v) h
    simpa using q
theorem upE {X : Cx} {e : Expr} {t u : TE} (h : PE X e t) (k : ∀ σ H Q, u σ H Q → t σ H Q) : PE X e u := ⟨fun pins s σ H Q I z => h.run pins s σ H Q I (k _ _ _ z)⟩
theorem upT {X : Cx} {e : Expr} {t u : TT} (h : PT X e t) (k : ∀ σ H Q, u σ H Q → t σ H Q) : PT X e u := ⟨fun pins s σ H Q I z => h.run pins s σ H Q I (k _ _ _ z)⟩
theorem upW {X : Cx} {e : Expr} {t u : TT} (h : PW X e t) (k : ∀ σ H Q, u σ H Q → t σ H Q) : PW X e u := ⟨fun wh pins s σ H Q I z => h.run wh pins s σ H Q I (k _ _ _ z)⟩
theorem upS {X : Cx} {e : Stmt} {t u : TS} (h : PS X e t) (k : ∀ D σ H, u D σ H → t D σ H) : PS X e u := ⟨fun pins s σ H D I z => h.run pins s σ H D I (k _ _ _ z)⟩
theorem upR {X : Cx} {f : Value → Value → Sem Value} {r r' : R2} (h : OpR X f r) (k : ∀ x y H Q, r' x y H Q → r x y H Q) : OpR X f r' := fun pins s σ H x y v u Q I rx ry z => h pins s σ H x y v u Q I rx ry (k _ _ _ _ z)
theorem upC {X : Cx} {f : Value} {r r' : List V → Hp → VK → Prop} (h : CallR X f r) (k : ∀ xs H Q, r' xs H Q → r xs H Q) : CallR X f r' := fun pins s σ H xs us Q I rv z => h pins s σ H xs us Q I rv (k _ _ _ z)
/-! ### names, constants, logic -/
def fVar (i : Nat) : TE := fun σ H Q => match nth σ i with
  | some v => Q v H
  | none => False
def fAndV (ta tb : TE) : TE := fun σ H Q => ta σ H fun x H1 => match x with
  | .bl c => Cond c (tb σ H1 Q) (Q (.bl false) H1)
  | _ => False
def fOrV (ta tb : TE) : TE := fun σ H Q => ta σ H fun x H1 => match x with
  | .bl c => Cond c (Q (.bl true) H1) (tb σ H1 Q)
  | _ => False
def fNotV (ta : TE) : TE := fun σ H Q => ta σ H fun x H1 => match x with
  | .bl c => Q (.bl (!c)) H1
  | _ => False
/-- a value that is a bool, as a test -/
def fB (t : TE) : TT := fun σ H Q => t σ H fun x H1 => match x with
  | .bl c => Q c H1
  | _ => False
def fAnd (t u : TT) : TT := fun σ H Q => t σ H fun c H1 => Cond c (u σ H1 Q) (Q false H1)
def fOr (t u : TT) : TT := fun σ H Q => t σ H fun c H1 => Cond c (Q true H1) (u σ H1 Q)
def fIf (t : TT) (ta tb : TE) : TE := fun σ H Q => t σ H fun c H1 => Cond c (ta σ H1 Q) (tb σ H1 Q)
def fIfS (c : TT) (t u : TS) : TS := fun D σ H => c σ H fun b H1 => Cond b (t D σ H1) (u D σ H1)
/-- truth of any value -/
def fTru (K : PySem.W.Frag) (t : TE) : TT := fun σ H Q => t σ H fun x H1 => match x with
  | .bl c => Q c H1
  | .non => Q false H1
  | .int i => Q (i != 0) H1
  | .str z => z.length ≤ sizeLine ∧ Q ((z.length : Int) != 0) H1
  | x => ∃ k, TruV K x H1 k ∧ Q k H1
section
variable {X : Cx} {e a b c : Expr} {ta tb te : TE} {t u : TT} {pos : Pos} {rest : List Expr}
theorem e_v (i : Nat) {x : Str} {pos : Pos} (hN : X.N[i]? = some x := by rfl) (hv : Vis X.env.scope x := by first | exact Or.inl rfl | exact Or.inr (Or.inl rfl) | exact Or.inr (Or.inr rfl)) (hd : (x == ("__debug__" : Str)) = false := by decide)
    (hcd : (x == ("__classdict__" : Str)) = false := by decide) : PE X (.Name x pos) (fVar i) := upE (pe_var hN hv hd hcd) fun σ H Q h => by
  unfold fVar at h
  split at h
  · rename_i v q
    exact ⟨v, nth_get q, h⟩
  · exact h.elim
theorem e_and (ha : PE X a ta) (hb : PE X (.BoolOp .And (b :: rest) pos) tb) : PE X (.BoolOp .And (a :: b :: rest) pos) (fAndV ta tb) := by
  refine ⟨fun pins s σ H Q I h => ?_⟩
  refine BoolOp_and (thn (ha.run pins s σ H _ I h) fun u s1 ⟨x, H1, I1, r1, q1⟩ => ?_)
  cases x with
  | bl k =>
    cases r1
    refine wpAny_truthy_bool ?_
    cases k with
    | true => exact hb.run pins s1 σ H1 Q I1 (q1.t rfl)
    | false => exact ⟨.bl false, H1, I1, rfl, q1.f rfl⟩
  | _ => exact q1.elim
theorem e_or (ha : PE X a ta) (hb : PE X (.BoolOp .Or (b :: rest) pos) tb) : PE X (.BoolOp .Or (a :: b :: rest) pos) (fOrV ta tb) := by
  refine ⟨fun pins s σ H Q I h => ?_⟩
  refine BoolOp_or (thn (ha.run pins s σ H _ I h) fun u s1 ⟨x, H1, I1, r1, q1⟩ => ?_)
  cases x with
  | bl k =>
    cases r1
    refine wpAny_truthy_bool ?_
    cases k with
    | false => exact hb.run pins s1 σ H1 Q I1 (q1.f rfl)
    | true => exact ⟨.bl true, H1, I1, rfl, q1.t rfl⟩
  | _ => exact q1.elim
theorem e_not (ha : PE X a ta) : PE X (.UnaryOp .Not a pos) (fNotV ta) := by
  refine ⟨fun pins s σ H Q I h => ?_⟩
  refine UnaryOp_ (thn (ha.run pins s σ H _ I h) fun u s1 ⟨x, H1, I1, r1, q1⟩ => ?_)
  cases x with
  | bl k =>
    cases r1
    exact not_of (wpAny_truthy_bool ⟨.bl (!k), H1, I1, rfl, q1⟩)
  | _ => exact q1.elim
/-- a value that is a bool as a test -/
theorem t_b {e : Expr} {t : TE} (h : PE X e t) (he : ∀ whole, isTrue e X.env whole = (do let v ← whole; standAt e.pos; holding [v] (truthy v)) := by intro _; rfl) : PT X e (fB t) := by
  refine ⟨fun pins s σ H Q I hw => ?_⟩
  refine isTrue_plain (thn (h.run pins s σ H _ I hw) fun u s1 ⟨x, H1, I1, r1, q1⟩ => ?_) (he _)
  cases x with
  | bl k =>
    cases r1
    exact wpAny_truthy_bool ⟨H1, I1, q1⟩
  | _ => exact q1.elim
theorem truV_str {K : PySem.W.Frag} {z : Str} {H : Hp} (h : z.length ≤ sizeLine) : TruV K (.str z) H ((z.length : Int) != 0) := ⟨h, rfl⟩
/-- any value as a test -/
theorem t_tru (ha : PE X a ta) (he : ∀ whole, isTrue a X.env whole = (do let v ← whole; standAt a.pos; holding [v] (truthy v)) := by intro _; rfl) : PT X a (fTru X.K ta) := by
  have g := pt_truth ha he
  refine ⟨fun pins s σ H Q I hw => ?_⟩
  refine isTrue_plain (thn (ha.run pins s σ H _ I hw) fun u s1 ⟨x, H1, I1, r1, q1⟩ => ?_) (he _)
  refine tru_ok pins s1 σ H1 x u Q I1 r1 ?_
  cases x with
  | bl k => exact ⟨k, rfl, q1⟩
  | non => exact ⟨false, rfl, q1⟩
  | int i => exact ⟨_, rfl, q1⟩
  | str z => exact ⟨_, truV_str q1.1, q1.2⟩
  | byt b => exact q1
  | flt b => exact q1
  | ref b => exact q1
  | ty b => exact q1
theorem w_and1 (ha : PT X a t) : PW X (.BoolOp .And [a] pos) t := pw_and1 ha
theorem w_or1 (ha : PT X a t) : PW X (.BoolOp .Or [a] pos) t := pw_or1 ha
theorem w_and (ha : PT X a t) (hb : PW X (.BoolOp .And (b :: rest) pos) u) : PW X (.BoolOp .And (a :: b :: rest) pos) (fAnd t u) := by
  refine ⟨fun wh pins s σ H Q I h => ?_⟩
  refine isTrue_and (thn (ha.run pins s σ H _ I h) fun k s1 ⟨H1, I1, q1⟩ => ?_)
  cases k with
  | true => exact hb.run wh pins s1 σ H1 Q I1 (q1.t rfl)
  | false => exact ⟨H1, I1, q1.f rfl⟩
theorem w_or (ha : PT X a t) (hb : PW X (.BoolOp .Or (b :: rest) pos) u) : PW X (.BoolOp .Or (a :: b :: rest) pos) (fOr t u) := by
  refine ⟨fun wh pins s σ H Q I h => ?_⟩
  refine isTrue_or (thn (ha.run pins s σ H _ I h) fun k s1 ⟨H1, I1, q1⟩ => ?_)
  cases k with
  | true => exact ⟨H1, I1, q1.t rfl⟩
  | false => exact hb.run wh pins s1 σ H1 Q I1 (q1.f rfl)
theorem e_if {c : Expr} (hc : PT X c t) (ha : PE X a ta) (hb : PE X b tb) : PE X (.IfExp c a b pos) (fIf t ta tb) := by
  refine ⟨fun pins s σ H Q I h => ?_⟩
  refine wpAny_IfExp (thn (hc.run pins s σ H _ I h) fun k s1 ⟨H1, I1, q1⟩ => ?_)
  cases k with
  | true => exact ha.run pins s1 σ H1 Q I1 (q1.t rfl)
  | false => exact hb.run pins s1 σ H1 Q I1 (q1.f rfl)
theorem s_if {c : Expr} {a b : List Stmt} {t' u' : TS} (hc : PT X c t) (ha : PSs X a t') (hb : PSs X b u') : PS X (.If c a b pos) (fIfS t t' u') := by
  refine ⟨fun pins s σ H D I h => ?_⟩
  refine wpAny_If (thn (hc.run pins s σ H _ I h) fun k s1 ⟨H1, I1, q1⟩ => ?_)
  cases k with
  | true => exact ha.run pins s1 σ H1 D I1 (q1.t rfl)
  | false => exact hb.run pins s1 σ H1 D I1 (q1.f rfl)
end
/-! ### operators, by the values -/
/-- two lists, two tuples joined -/
def rJoin (K : PySem.W.Frag) : R2 := fun x y H Q => rCat x y H Q ∨ rCatA K x y H Q
def rAddF (K : PySem.W.Frag) : R2 := fun x y H Q => match x, y with
  | .int i, .int j => Q (.int (i + j)) H
  | .str a, .str b => a.length + b.length ≤ sizeLine ∧ Q (.str (a ++ b)) H
  | .int i, .bl k => Q (.int (i + b2i k)) H
  | x, y => rJoin K x y H Q
def rSubF : R2 := fun x y H Q => match x, y with
  | .int i, .int j => Q (.int (i - j)) H
  | _, _ => False
def rMulF : R2 := fun x y H Q => match x, y with
  | .int i, .int j => CMul i j ∧ Q (.int (i * j)) H
  | _, _ => False
def rDivF : R2 := fun x y H Q => match x, y with
  | .int i, .int j => CDiv i j ∧ Q (.int (i / j)) H
  | _, _ => False
def rModF : R2 := fun x y H Q => match x, y with
  | .int i, .int j => 0 < j ∧ Q (.int (i % j)) H
  | _, _ => False
def rPowF : R2 := fun x y H Q => match x, y with
  | .int i, .int j => CPow i j ∧ Q (.int (i ^ j.toNat)) H
  | _, _ => False
def rShlF : R2 := fun x y H Q => match x, y with
  | .int i, .int j => CPow i j ∧ Q (.int (i * 2 ^ j.toNat)) H
  | _, _ => False
def rLtF : R2 := fun x y H Q => match x, y with
  | .int i, .int j => Q (.bl (decide (i < j))) H
  | _, _ => False
def rLeF : R2 := fun x y H Q => match x, y with
  | .int i, .int j => Q (.bl (decide (i ≤ j))) H
  | _, _ => False
def rGtF : R2 := fun x y H Q => match x, y with
  | .int i, .int j => Q (.bl (decide (j < i))) H
  | _, _ => False
def rGeF : R2 := fun x y H Q => match x, y with
  | .int i, .int j => Q (.bl (decide (j ≤ i))) H
  | _, _ => False
def rEqF : R2 := fun x y H Q => match x, y with
  | .int i, .int j => Q (.bl (decide (i = j))) H
  | .str i, .str j => Q (.bl (decide (i = j))) H
  | x, y => scal x y = true ∧ Q (.bl (decide (x = y))) H
def rNeF : R2 := fun x y H Q => match x, y with
  | .int i, .int j => Q (.bl (!decide (i = j))) H
  | .str i, .str j => Q (.bl (!decide (i = j))) H
  | x, y => scal x y = true ∧ Q (.bl (!decide (x = y))) H
def rIsF : R2 := fun x y H Q => match x, y with
  | .non, .non => Q (.bl true) H
  | _, .non => Q (.bl false) H
  | _, _ => False
def rIsNotF : R2 := fun x y H Q => match x, y with
  | .non, .non => Q (.bl false) H
  | _, .non => Q (.bl true) H
  | _, _ => False
theorem dI (i j : Int) : decide (V.int i = V.int j) = decide (i = j) := by
  by_cases h : i = j
  · rw [h]; simp
  · rw [decide_eq_false h, decide_eq_false fun q => h (V.int.inj q)]
theorem dS (i j : Str) : decide (V.str i = V.str j) = decide (i = j) := by
  by_cases h : i = j
  · rw [h]; simp
  · rw [decide_eq_false h, decide_eq_false fun q => h (V.str.inj q)]
section
variable {X : Cx}
theorem OpR.or3 {f : Value → Value → Sem Value} {r r' r'' : R2} (h : OpR X f r) (h' : OpR X f r') (h'' : OpR X f r'') : OpR X f (fun x y H Q => r x y H Q ∨ r' x y H Q ∨ r'' x y H Q) := h.or (h'.or h'')
theorem o_join : OpR X (binaryOp .Add) (rJoin X.K) := OpR.or op_cat op_catA
theorem o_add : OpR X (binaryOp .Add) (rAddF X.K) := upR ((op_add.or op_add_str).or (op_add_ib.or o_join)) fun x y H Q h => by
  unfold rAddF at h
  split at h
  · exact .inl (.inl ⟨_, _, rfl, rfl, h⟩)
  · exact .inl (.inr ⟨_, _, rfl, rfl, h⟩)
  · exact .inr (.inl ⟨_, _, rfl, rfl, h⟩)
  · exact .inr (.inr h)
theorem o_sub : OpR X (binaryOp .Sub) rSubF := upR op_sub fun x y H Q h => by
  unfold rSubF at h
  split at h
  · exact ⟨_, _, rfl, rfl, h⟩
  · exact h.elim
theorem o_mul : OpR X (binaryOp .Mult) rMulF := upR op_mul fun x y H Q h => by
  unfold rMulF at h
  split at h
  · exact ⟨_, _, rfl, rfl, h⟩
  · exact h.elim
theorem o_div : OpR X (binaryOp .FloorDiv) rDivF := upR op_fdiv fun x y H Q h => by
  unfold rDivF at h
  split at h
  · exact ⟨_, _, rfl, rfl, h⟩
  · exact h.elim
theorem o_mod : OpR X (binaryOp .Mod) rModF := upR op_mod fun x y H Q h => by
  unfold rModF at h
  split at h
  · exact ⟨_, _, rfl, rfl, h⟩
  · exact h.elim
theorem o_pow : OpR X (binaryOp .Pow) rPowF := upR op_pow fun x y H Q h => by
  unfold rPowF at h
  split at h
  · exact ⟨_, _, rfl, rfl, h⟩
  · exact h.elim
theorem o_shl : OpR X (binaryOp .LShift) rShlF := upR op_shl fun x y H Q h => by
  unfold rShlF at h
  split at h
  · exact ⟨_, _, rfl, rfl, h⟩
  · exact h.elim
theorem o_lt : OpR X (compareOp .Lt) rLtF := upR op_lt fun x y H Q h => by
  unfold rLtF at h
  split at h
  · exact ⟨_, _, rfl, rfl, h⟩
  · exact h.elim
theorem o_le : OpR X (compareOp .LtE) rLeF := upR op_le fun x y H Q h => by
  unfold rLeF at h
  split at h
  · exact ⟨_, _, rfl, rfl, h⟩
  · exact h.elim
theorem o_gt : OpR X (compareOp .Gt) rGtF := upR op_gt fun x y H Q h => by
  unfold rGtF at h
  split at h
  · exact ⟨_, _, rfl, rfl, h⟩
  · exact h.elim
theorem o_ge : OpR X (compareOp .GtE) rGeF := upR op_ge fun x y H Q h => by
  unfold rGeF at h
  split at h
  · exact ⟨_, _, rfl, rfl, h⟩
  · exact h.elim
theorem o_eq : OpR X (compareOp .Eq) rEqF := upR op_eq fun x y H Q h => by
  unfold rEqF at h
  split at h
  · exact ⟨rfl, by rw [dI]; exact h⟩
  · exact ⟨rfl, by rw [dS]; exact h⟩
  · exact h
theorem o_ne : OpR X (compareOp .NotEq) rNeF := upR op_ne fun x y H Q h => by
  unfold rNeF at h
  split at h
  · exact ⟨rfl, by rw [dI]; exact h⟩
  · exact ⟨rfl, by rw [dS]; exact h⟩
  · exact h
theorem o_is : OpR X (compareOp .Is) rIsF := upR op_isN fun x y H Q h => by
  unfold rIsF at h
  split at h
  · exact ⟨rfl, h⟩
  · rename_i hx
    refine ⟨rfl, ?_⟩
    rw [decide_eq_false fun q => hx q]
    exact h
  · exact h.elim
theorem o_isnot : OpR X (compareOp .IsNot) rIsNotF := upR op_notN fun x y H Q h => by
  unfold rIsNotF at h
  split at h
  · exact ⟨rfl, h⟩
  · rename_i hx
    refine ⟨rfl, ?_⟩
    rw [decide_eq_false fun q => hx q]
    exact h
  · exact h.elim
end
/-! ### attributes -/
def FieldOf (K : PySem.W.Frag) (H : Hp) (a : Addr) (f : Str) (v : V) : Prop := ∃ C dx fs, H a = some (.ins C dx fs) ∧ Cls K C ∧ NoAttr K C f ∧ fs.lookup f = some v
def fFld (K : PySem.W.Frag) (ta : TE) (f : Str) : TE := fun σ H Q => ta σ H fun x H1 => match x with
  | .ref a => ∃ v, FieldOf K H1 a f v ∧ Q v H1
  | _ => False
section
variable {X : Cx} {e : Expr} {ta : TE} {f : Str} {pos p : Pos} {C : Addr} {mc : Value} {v : V} {u : Value} {x : Str}
theorem e_fld (he : PE X e ta) (hb : attributeBase e f X.env (eval e X.env) = eval e X.env := by rfl) : PE X (.Attribute e f pos) (fFld X.K ta f) := by
  refine ⟨fun pins s σ H Q I h => ?_⟩
  refine attr_of hb (thn (he.run pins s σ H _ I h) fun u s1 ⟨x, H1, I1, rx, q⟩ => ?_)
  cases x with
  | ref a =>
    obtain ⟨w, ⟨C, dx, fs, ea, c, n, l⟩, q⟩ := q
    obtain rfl : u = Value.ref a := rx
    exact getattr_ok I1 ea c n l fun u' s' I' r' => ⟨w, H1, I', r', q⟩
  | _ => exact q.elim
/-- a constant of a class, read off its name -/
theorem e_cval (hg : Gl X x) (hm : X.mg x = some (.ref C)) (r : ClX.CRead X.K C mc) (k : ∃ u, ClX.CVal X.K C mc f v u) (hd : (x == ("__debug__" : Str)) = false := by decide)
    (hb : attributeBase (.Name x p) f X.env (eval (.Name x p) X.env) = eval (.Name x p) X.env := by rfl) : PE X (.Attribute (.Name x p) f pos) (tC v) := by
  refine ⟨fun pins s σ H Q I h => ?_⟩
  refine attr_of hb (thn ((pe_glob (v := .ref C) hg hm rfl hd).run pins s σ H (fun y H1 => y = .ref C ∧ H1 = H) I ⟨rfl, rfl⟩) fun u s1 ⟨y, H1, I1, r1, q1⟩ => ?_)
  obtain ⟨rfl, rfl⟩ := q1
  cases r1
  obtain ⟨w', k⟩ := k
  exact ClX.getcval_ok I1 r k fun s' I' => ⟨v, _, I', k.rel, h⟩
end
end F
set_option maxHeartbeats 2000000
/-! F2: calls by promises, own operators, texts with fields. -/
namespace F
open PySem PySem.Spec PyProof.Rows L2
/-- an instance of the class at C -/
def IsIns (H : Hp) (a C : Addr) : Prop := ∃ dx fs, H a = some (.ins C dx fs)
/-- .. that has no attribute of its own named m -/
def InsNo (H : Hp) (a C : Addr) (m : Str) : Prop := ∃ dx fs, H a = some (.ins C dx fs) ∧ fs.lookup m = none
/-- a function at f keeps sp -/
abbrev Fr (P : Program) (w : World) (K : PySem.W.Frag) (mg : Str → Option Value) (base : Heap) (k : Nat) (f : Addr) (sp : Sp) : Prop := FnR P w K mg base (L2.CX P w) k f sp
/-- a def under its name -/
structure Fc (P : Program) (w : World) (K : PySem.W.Frag) (mg : Str → Option Value) (base : Heap) (k : Nat) (x : Str) (sp : Sp) : Prop where
  ex : ∃ f, F.Fr P w K mg base k f sp ∧ mg x = some (.ref f) ∧ PySem.W.keepIn K (.ref f) = true
/-- a method -/
structure Fm (P : Program) (w : World) (K : PySem.W.Frag) (mg : Str → Option Value) (base : Heap) (k : Nat) (C : Addr) (m : Str) (sp : Sp) : Prop where
  ex : ∃ f, F.Fr P w K mg base k f sp ∧ Meth K C m f
  cl : Cls K C
/-- a property -/
structure Fp (P : Program) (w : World) (K : PySem.W.Frag) (mg : Str → Option Value) (base : Heap) (k : Nat) (C : Addr) (m : Str) (sp : Sp) : Prop where
  ex : ∃ p f, F.Fr P w K mg base k f sp ∧ PropOf K C m p f
  cl : Cls K C
/-- a class made by its name; sp: its __init__ -/
structure Fk (P : Program) (w : World) (K : PySem.W.Frag) (mg : Str → Option Value) (base : Heap) (k : Nat) (x : Str) (C : Addr) (sp : Sp) : Prop where
  ex : ∃ f, F.Fr P w K mg base k f sp ∧ Mk K C f
  g : mg x = some (.ref C)
def fCall (sp : Sp) (E : XK) (t : TA) : TE := fun σ H Q => t σ H fun vs H1 => sp vs H1 Q E
def fMeth (C : Addr) (m : Str) (sp : Sp) (E : XK) (ta : TE) (t : TA) : TE := fun σ H Q => ta σ H fun x H1 => match x with
  | .ref a => InsNo H1 a C m ∧ t σ H1 fun vs H2 => sp (.ref a :: vs) H2 Q E
  | _ => False
def fProp (C : Addr) (sp : Sp) (ta : TE) : TE := fun σ H Q => ta σ H fun x H1 => match x with
  | .ref a => IsIns H1 a C ∧ sp [.ref a] H1 Q E0
  | _ => False
def fMake (C : Addr) (sp : Sp) (E : XK) (t : TA) : TE := fun σ H Q => t σ H fun vs H1 => ∀ x dx, H1 x = none → H1 dx = none → dx ≠ x →
  sp (.ref x :: vs) (upd (upd H1 dx (.own x)) x (.ins C dx [])) (fun v H2 => v = .non ∧ Q (.ref x) H2) E
section
variable {X : Cx} {k j : Nat} {C : Addr} {sp : Sp} {E : XK} {x m : Str} {p pos apos : Pos} {e o : Expr} {es : List Expr} {ta : TE} {t : TA}
theorem passE : Passes (L2.CX X.prog X.w) X E0 := passL
theorem e_c' (c : Fc X.prog X.w X.K X.mg X.base k x sp) (hr : Room j X.A) (hk : k ≤ j) (hx : Passes (L2.CX X.prog X.w) X E) (hg : Gl X x) (ha : PA X (e :: es) t) (hdb : (x == ("__debug__" : Str)) = false)
    (he : starEach (e :: es) X.env = (false, eval e X.env) :: starEach es X.env) (hpl : (backTo pos (starEach es X.env)).any (·.1) = false) : PE X (.Call (.Name x p) (e :: es) [] pos) (fCall sp E t) := by
  obtain ⟨f, G, hm, kp⟩ := c.ex
  refine ⟨fun pins s σ H Q I h => ?_⟩
  refine wpAny_Call_Name_kw (ld_glob I hg hm ?_ hdb)
  refine PySem.W.callWith_K (h₀ := X.base) I.ok.mod.kin kp (thn (ha.run pos pins s σ H _ I h) fun us s1 ⟨vs, H1, I1, r, q⟩ => ⟨I1.kIn, ?_⟩) he hpl
  exact wpAny_call (run_fnR G (hr.mono hk) hx I1 r q)
theorem e_c0' (c : Fc X.prog X.w X.K X.mg X.base k x sp) (hr : Room j X.A) (hk : k ≤ j) (hx : Passes (L2.CX X.prog X.w) X E) (hg : Gl X x) (hdb : (x == ("__debug__" : Str)) = false) :
    PE X (.Call (.Name x p) [] [] pos) (fCall sp E tNil) := by
  obtain ⟨f, G, hm, kp⟩ := c.ex
  refine ⟨fun pins s σ H Q I h => ?_⟩
  refine wpAny_Call_Name_kw (ld_glob I hg hm ?_ hdb)
  exact PySem.W.callWith_K0 I.kIn kp (wpAny_call (run_fnR (us := []) G (hr.mono hk) hx I .nil h))
/-- f(e, ..) that raises nothing -/
theorem e_c (c : Fc X.prog X.w X.K X.mg X.base k x sp) (hr : Room j X.A) (ha : PA X (e :: es) t) (hk : k ≤ j := by decide) (hg : Gl X x := by rfl) (hdb : (x == ("__debug__" : Str)) = false := by decide)
    (he : starEach (e :: es) X.env = (false, eval e X.env) :: starEach es X.env := by rfl) (hpl : (backTo pos (starEach es X.env)).any (·.1) = false := by rfl) : PE X (.Call (.Name x p) (e :: es) [] pos) (fCall sp E0 t) :=
  e_c' c hr hk passE hg ha hdb he hpl
theorem e_c0 (c : Fc X.prog X.w X.K X.mg X.base k x sp) (hr : Room j X.A) (hk : k ≤ j := by decide) (hg : Gl X x := by rfl) (hdb : (x == ("__debug__" : Str)) = false := by decide) : PE X (.Call (.Name x p) [] [] pos) (fCall sp E0 tNil) :=
  e_c0' c hr hk passE hg hdb
theorem e_m {pl : Sem Bool} (c : Fm X.prog X.w X.K X.mg X.base k C m sp) (hr : Room j X.A) (he : PE X o ta) (ha : PA X (e :: es) t) (hk : k ≤ j := by decide) (hx : Passes (L2.CX X.prog X.w) X E := by exact passL)
    (hst : starEach (e :: es) X.env = (false, eval e X.env) :: starEach es X.env := by rfl) (hpl : (backTo pos (starEach es X.env)).any (·.1) = false := by rfl)
    (ht : eval (.Call (.Attribute o m apos) (e :: es) [] pos) X.env = (do
      let ov ← eval o X.env
      standAt apos.atName
      let (f, first) ← holding [ov] (getMethod ov m pl)
      callWith pos f first (backTo pos (starEach (e :: es) X.env)) (backToKw pos (keywordEach [] X.env))) := by rfl) :
    PE X (.Call (.Attribute o m apos) (e :: es) [] pos) (fMeth C m sp E ta t) := by
  obtain ⟨f, G, hm⟩ := c.ex
  refine ⟨fun pins s σ H Q I h => ?_⟩
  refine PySem.W.methodCall_KW (pl := pl) (thn (he.run pins s σ H _ I h) fun u s1 ⟨y, H1, I1, rx, q⟩ => ?_) ht
  cases y with
  | ref a =>
    obtain ⟨⟨dx, fs, ea, l⟩, q⟩ := q
    obtain rfl : u = Value.ref a := rx
    refine getmeth_ok I1 ea c.cl hm l ?_
    refine PySem.W.callWith_K (first := [.ref a]) (h₀ := X.base) I.ok.mod.kin hm.kp (thn (ha.run pos pins s1 σ H1 _ I1 q) fun us s2 ⟨vs, H2, I2, r, q2⟩ => ⟨I2.kIn, ?_⟩) hst hpl
    exact wpAny_call (run_fnR (us := .ref a :: us) (vs := .ref a :: vs) G (hr.mono hk) hx I2 (.cons rfl r) q2)
  | _ => exact q.elim
theorem e_m0 {pl : Sem Bool} (c : Fm X.prog X.w X.K X.mg X.base k C m sp) (hr : Room j X.A) (he : PE X o ta) (hk : k ≤ j := by decide) (hx : Passes (L2.CX X.prog X.w) X E := by exact passL)
    (ht : eval (.Call (.Attribute o m apos) [] [] pos) X.env = (do
      let ov ← eval o X.env
      standAt apos.atName
      let (f, first) ← holding [ov] (getMethod ov m pl)
      callWith pos f first (backTo pos (starEach [] X.env)) (backToKw pos (keywordEach [] X.env))) := by rfl) :
    PE X (.Call (.Attribute o m apos) [] [] pos) (fMeth C m sp E ta tNil) := by
  obtain ⟨f, G, hm⟩ := c.ex
  refine ⟨fun pins s σ H Q I h => ?_⟩
  refine PySem.W.methodCall_KW (pl := pl) (thn (he.run pins s σ H _ I h) fun u s1 ⟨y, H1, I1, rx, q⟩ => ?_) ht
  cases y with
  | ref a =>
    obtain ⟨⟨dx, fs, ea, l⟩, q⟩ := q
    obtain rfl : u = Value.ref a := rx
    refine getmeth_ok I1 ea c.cl hm l ?_
    exact PySem.W.callWith_K0 (first := [.ref a]) I1.kIn hm.kp (wpAny_call (run_fnR (us := [.ref a]) (vs := [.ref a]) G (hr.mono hk) hx I1 (.cons rfl .nil) q))
  | _ => exact q.elim
/-- o.f, a property -/
theorem e_p {f : Str} (c : Fp X.prog X.w X.K X.mg X.base k C f sp) (hr : Room j X.A) (he : PE X e ta) (hk : k + 1 ≤ j := by decide) (hab : attributeBase e f X.env (eval e X.env) = eval e X.env := by rfl) :
    PE X (.Attribute e f pos) (fProp C sp ta) := by
  obtain ⟨p, g, G, hp⟩ := c.ex
  refine ⟨fun pins s σ H Q I h => ?_⟩
  refine attr_of hab (thn (he.run pins s σ H _ I h) fun u s1 ⟨y, H1, I1, rx, q⟩ => ?_)
  cases y with
  | ref a =>
    obtain ⟨⟨dx, fs, ea⟩, q⟩ := q
    obtain rfl : u = Value.ref a := rx
    obtain ⟨mA, O, _, _, _, _⟩ := ins_get I1.hok ea
    obtain ⟨od, J, _⟩ := O.look
    obtain ⟨rest, hrec⟩ := hp.rec_
    have I2 := I1.tok (s1.toks + 1)
    have hc : (PySem.W.clsIn X.K C).isSome = true := by
      obtain ⟨cd, hc, _⟩ := PySem.W.any_some c.cl.hd
      rw [hc]
      rfl
    refine PySem.W.get_bind I1.kIn J (PySem.W.plainGet_of (c.cl.get f)).1 (PySem.W.findObj_data hc hp.at_ hp.get hp.tak) (PySem.W.plainGet_of (c.cl.get f)).2 (wpAny_call (PySem.W.prop_get (s := { s1 with toks := s1.toks + 1 }) I1.kIn hrec ?_))
    refine codeAny_mono (G X.A.in1 X.stack { s1 with toks := s1.toks + 1 } H1 [.ref a] [.ref a] Q E0 (hr.mono hk).in1 I2.env0.in1 (.cons rfl .nil) q) fun r s' hq => ?_
    cases r with
    | error er => exact False.elim (passL (X := X.nox) pins σ H1 { s1 with toks := s1.toks + 1 } er s' (I2.wish _) hq)
    | ok fl =>
      cases fl with
      | ret w' =>
        obtain ⟨v, H', I3, rv, q3⟩ := I2.after hq
        show wpAny _ _ (handedOut w') _ _ _
        rw [PySem.W.handedOut_of (handed_of rv)]
        exact wpAny_pure ⟨v, H', I3, rv, q3⟩
      | next => exact False.elim hq
      | brk => exact False.elim hq
      | cont => exact False.elim hq
  | _ => exact q.elim
theorem run_mk {pins : List (Addr × Obj)} {σ : L2.St} {H : Hp} {s : Shared} {Q : VK} {us : List Value} {vs : List V} (c : Fk X.prog X.w X.K X.mg X.base k x C sp) (hr : Room (k + 1) X.A) (hx : Passes (L2.CX X.prog X.w) X E) (I : Inv X pins σ H s) (r : Vals vs us)
    (h : ∀ x dx, H x = none → H dx = none → dx ≠ x → sp (.ref x :: vs) (upd (upd H dx (.own x)) x (.ins C dx [])) (fun v H2 => v = .non ∧ Q (.ref x) H2) E) :
    wpAny (model X.prog X.w) X.A (call (.ref C) us) (EP X pins σ Q) X.xe s := by
  obtain ⟨f, G, M⟩ := c.ex
  have hq := h (s.heap.objs.size + 1) s.heap.objs.size (I.hok.fresh (Nat.le_succ _)) (I.hok.fresh (Nat.le_refl _)) (Nat.ne_of_lt (Nat.lt_succ_self _))
  have I2 := Inv.made (C := C) I
  have r2 : Vals (V.ref (s.heap.objs.size + 1) :: vs) (Value.ref (s.heap.objs.size + 1) :: us) := .cons rfl r
  refine wpAny_call (make_map (f := f) I.kIn M.makes M.init (beq_iff_eq.mp M.fn) (codeAny_mono (G _ X.stack _ _ (Value.ref (s.heap.objs.size + 1) :: us) (V.ref (s.heap.objs.size + 1) :: vs) _ E (hr.make C us [])
    (I2.env0.make C us []) r2 hq) fun r s' hq' => ?_))
  cases r with
  | error e => exact hx pins σ _ _ e s' I2 hq'
  | ok fl =>
    cases fl with
    | ret u =>
      obtain ⟨v, H', I3, rv, ev, q3⟩ := I2.after hq'
      subst ev
      exact ⟨rv, ⟨V.ref (s.heap.objs.size + 1), H', I3, rfl, q3⟩⟩
    | next => exact False.elim hq'
    | brk => exact False.elim hq'
    | cont => exact False.elim hq'
theorem e_k (c : Fk X.prog X.w X.K X.mg X.base k x C sp) (hr : Room j X.A) (ha : PA X (e :: es) t) (hk : k + 1 ≤ j := by decide) (hx : Passes (L2.CX X.prog X.w) X E := by exact passL) (hg : Gl X x := by rfl) (hdb : (x == ("__debug__" : Str)) = false := by decide)
    (he : starEach (e :: es) X.env = (false, eval e X.env) :: starEach es X.env := by rfl) (hpl : (backTo pos (starEach es X.env)).any (·.1) = false := by rfl) : PE X (.Call (.Name x p) (e :: es) [] pos) (fMake C sp E t) := by
  obtain ⟨f, G, M⟩ := c.ex
  refine ⟨fun pins s σ H Q I h => ?_⟩
  refine wpAny_Call_Name_kw (ld_glob I hg c.g ?_ hdb)
  refine PySem.W.callWith_K (h₀ := X.base) I.ok.mod.kin M.kp (thn (ha.run pos pins s σ H _ I h) fun us s1 ⟨vs, H1, I1, r, q⟩ => ⟨I1.kIn, ?_⟩) he hpl
  exact run_mk c (hr.mono hk) hx I1 r q
theorem e_k0 (c : Fk X.prog X.w X.K X.mg X.base k x C sp) (hr : Room j X.A) (hk : k + 1 ≤ j := by decide) (hx : Passes (L2.CX X.prog X.w) X E := by exact passL) (hg : Gl X x := by rfl) (hdb : (x == ("__debug__" : Str)) = false := by decide) :
    PE X (.Call (.Name x p) [] [] pos) (fMake C sp E tNil) := by
  obtain ⟨f, G, M⟩ := c.ex
  refine ⟨fun pins s σ H Q I h => ?_⟩
  refine wpAny_Call_Name_kw (ld_glob I hg c.g ?_ hdb)
  exact PySem.W.callWith_K0 I.kIn M.kp (run_mk (us := []) c (hr.mono hk) hx I .nil h)
end
/-! ### own operators -/
structure OwnM (K : PySem.W.Frag) (C : Addr) (m : Str) (g : Addr) : Prop where
  at_ : PySem.W.findIn K (.ref C) m = some (some (.ref g))
  fn : PySem.W.isFn K (.ref g) = true
/-- both instances of the class at C -/
def rOwn2 (C : Addr) (sp : Sp) (E : XK) : R2 := fun x y H Q => match x, y with
  | .ref a, .ref b => IsIns H a C ∧ IsIns H b C ∧ sp [.ref a, .ref b] H Q E
  | _, _ => False
section
variable {X : Cx} {k j : Nat} {C g : Addr} {sp : Sp} {E : XK} {pins : List (Addr × Obj)} {σ : L2.St} {H : Hp} {s : Shared}
theorem isins (I : Inv X pins σ H s) {a : Addr} (h : IsIns H a C) : ∃ dx od, PySem.W.InstAt s.heap a (PySem.W.instObj C dx) C (some od) := by
  obtain ⟨dx, fs, ea⟩ := h
  obtain ⟨mA, O, _, _, _, _⟩ := ins_get I.hok ea
  obtain ⟨od, J, _⟩ := O.look
  exact ⟨dx, od, J⟩
theorem o_ownCmp {op : CmpOp} (hop : ∀ a b, compareOp op a b = richCompare op a b) (o : OwnM X.K C (cmpInfo op).2.1 g) (G2 : F.Fr X.prog X.w X.K X.mg X.base k g sp) (hr : Room j X.A) (hk : k ≤ j := by decide) (hx : Passes (L2.CX X.prog X.w) X E := by exact passL) :
    OpR X (compareOp op) (rOwn2 C sp E) := by
  intro pins s σ H x y v u Q I rx ry h
  unfold rOwn2 at h
  split at h
  · rename_i a b
    obtain ⟨ha, hb, q⟩ := h
    obtain rfl : v = Value.ref a := rx
    obtain rfl : u = Value.ref b := ry
    obtain ⟨dx, od, J⟩ := isins I ha
    obtain ⟨dy, od', J'⟩ := isins I hb
    obtain ⟨m, hF⟩ := I.fr
    rw [hop]
    refine PySem.W.cmp_K (op := op) (tb := .ref C) hr.units0 hF I.ok.mod.kin J J'.type (by unfold PySem.W.notFirst; rw [beq_self_eq_true]; rfl) o.at_ o.fn ?_
    refine wpAny_mono (wpAny_call (run_fnR (us := [.ref a, .ref b]) (vs := [.ref a, .ref b]) G2 (hr.mono hk) hx I (.cons rfl (.cons rfl .nil)) q)) (fun w' s' z => ?_) fun _ _ x => x
    obtain ⟨z', H', I', rz, qz⟩ := z
    exact SlX.cmpback rz ⟨z', H', I', rz, qz⟩
  · exact h.elim
theorem o_ownBin {op : Operator} (hc : PySem.W.selfFirst X.K C = true) (o : OwnM X.K C (PySem.dunder op.info.2) g) (G2 : F.Fr X.prog X.w X.K X.mg X.base k g sp) (hr : Room j X.A) (hk : k ≤ j := by decide) (hx : Passes (L2.CX X.prog X.w) X E := by exact passL) :
    OpR X (binaryOp op) (rOwn2 C sp E) := by
  intro pins s σ H x y v u Q I rx ry h
  unfold rOwn2 at h
  split at h
  · rename_i a b
    obtain ⟨ha, hb, q⟩ := h
    obtain rfl : v = Value.ref a := rx
    obtain rfl : u = Value.ref b := ry
    obtain ⟨dx, od, J⟩ := isins I ha
    obtain ⟨dy, od', J'⟩ := isins I hb
    obtain ⟨m, hF⟩ := I.fr
    refine PySem.W.binop_K hF I.ok.mod.kin J J'.type hc o.at_ o.fn ?_
    refine wpAny_mono (wpAny_call (run_fnR (us := [.ref a, .ref b]) (vs := [.ref a, .ref b]) G2 (hr.mono hk) hx I (.cons rfl (.cons rfl .nil)) q)) (fun w' s' z => ?_) fun _ _ x => x
    obtain ⟨z', H', I', rz, qz⟩ := z
    exact SlX.cmpback rz ⟨z', H', I', rz, qz⟩
  · exact h.elim
/-- x op= y, x an instance with the in-place def, y anything -/
def rOwnI (C : Addr) (sp : Sp) (E : XK) : TIp := fun x y H Q => match x with
  | .ref a => IsIns H a C ∧ sp [.ref a, y] H Q E
  | _ => False
theorem o_ownI {op : Operator} (hc : PySem.W.selfFirst X.K C = true) (o : OwnM X.K C (dunderI op.info.2) g) (G2 : F.Fr X.prog X.w X.K X.mg X.base k g sp) (hr : Room j X.A) (hk : k ≤ j := by decide) (hx : Passes (L2.CX X.prog X.w) X E := by exact passL) :
    PIp X op (rOwnI C sp E) := by
  intro pins s σ H x y v u Q I rx ry h
  unfold rOwnI at h
  split at h
  · rename_i a
    obtain ⟨ha, q⟩ := h
    obtain rfl : v = Value.ref a := rx
    obtain ⟨dx, od, J⟩ := isins I ha
    obtain ⟨m, hF⟩ := I.fr
    refine PySem.W.ksp_inplace hF I.ok.mod.kin J hc o.at_ o.fn ?_
    refine wpAny_mono (wpAny_call (run_fnR (us := [.ref a, u]) (vs := [.ref a, y]) G2 (hr.mono hk) hx I (.cons rfl (.cons ry .nil)) q)) (fun w' s' z => ?_) fun _ _ x => x
    obtain ⟨z', H', I', rz, qz⟩ := z
    exact SlX.cmpback rz ⟨z', H', I', rz, qz⟩
  · exact h.elim
end
end F
set_option maxHeartbeats 2000000
/-! F3: != by an own ==; texts with fields; displays with stars; keywords alone. -/
namespace F
open PySem PySem.Spec PyProof.Rows L2
section
variable {prog : Program} {w : World} {M : Model} {A : Around} {E : Value → Shared → Prop} {s : Shared} {K : PySem.W.Frag} {x C f : Addr} {ox : Obj} {od : Option Obj} {b : Value}
theorem ifBound_B {name : Str} {id : String} {args : List Value} {Q : Option Value → Shared → Prop} (X : K.In s.heap) (I : PySem.W.InstAt s.heap x ox C od) (hs : PySem.W.findIn K (.ref C) name = some (some (.builtin id)))
    (hb : ∀ self, bindSpecial (.builtin id) self = pure (.builtin id, [self])) (h : wpAny M A (call (.builtin id) (.ref x :: args)) (fun v => Q (some v)) E s) : wpAny M A (callSpecialIfBound? (.ref x) name args) Q E s := by
  simp only [callSpecialIfBound?, bindSpecialIfBound?]
  refine wpAny_holding (wpAny_bind (wpAny_bind (wpAny_bind (I.type.here ((PySem.W.looks_findIn X hs).here ?_)))))
  refine wpAny_bind (wpAny_askSetting (wpAny_ite ?_))
  have fin : wpAny M A (call (.builtin id) ([.ref x] ++ args) >>= fun v => pure (some v)) Q E s := wpAny_bind (wpAny_mono h (fun v s' h' => wpAny_pure h') fun _ _ h' => h')
  split
  · exact wpAny_bind ((PySem.W.Looks.of_pure (hb _)).here (wpAny_pure (by exact fin)))
  · exact wpAny_tryCatch (wpAny_bind ((PySem.W.Looks.of_pure (hb _)).here (wpAny_pure (by exact fin))))
theorem own_ne {Q : Value → Shared → Prop} (hu : A.units + 1 < cLine) (X : K.In s.heap) (I : PySem.W.InstAt s.heap x ox C od) (hb : PySem.W.Looks (model prog w) s.heap (typeOf b) (.ref C))
    (hne : PySem.W.findIn K (.ref C) "__ne__" = some (some (.builtin "object.__ne__"))) (hm : PySem.W.mroIn K C (.type "object") = some true) (heq : PySem.W.findIn K (.ref C) "__eq__" = some (some (.ref f))) (hf : PySem.W.isFn K (.ref f) = true)
    (h : wpAny (model prog w) A.in1 (call (.ref f) [.ref x, b]) (fun v s' => ∃ k, v = .bool k ∧ Q (.bool (!k)) s') E s) : wpAny (model prog w) A (richCompare .NotEq (.ref x) b) Q E s := by
  have one : wpAny (model prog w) A (tryCompare (.ref x) (cmpInfo .NotEq).2.1 b) (fun r s' => ∃ v, r = some v ∧ Q v s') E s := by
    unfold tryCompare
    refine wpAny_bind (m := callSpecialIfBound? (.ref x) _ [b]) (ifBound_B X I hne PySem.F.slot_object_ne.bind ?_)
    refine wpAny_call (codeAny_call_builtin PySem.F.slot_object_ne.plain PySem.F.entry_object_ne (PySem.W.check_slot (i := "object.__ne__") (owner := "object") (n := "__ne__") (by decide +kernel) (by decide +kernel) (I.type.andThen (PySem.W.looks_mroIn X hm)) (PySem.F.args_object_ne_2 _ _) ?_))
    unfold Builtin.«object.__ne__»
    refine wpAny_bind (wpAny_pure ?_)
    refine wpAny_bind (m := cRoomFor _ _) (wpAny_cRoomFor (show A.in1.units < cLine from hu) ?_)
    refine wpAny_bind (m := callSpecialIfBound? (.ref x) (Str.ofString "__eq__") _) (PySem.W.ifBound_K X I heq hf (wpAny_mono h (fun r s' hq => ?_) fun _ _ y => y))
    obtain ⟨k, rfl, hq⟩ := hq
    repeat (first | exact ⟨_, rfl, hq⟩ | exact wpAny_pure ⟨_, rfl, hq⟩ | exact wpAny_pure (wpAny_pure ⟨_, rfl, hq⟩) | refine wpAny_bind (m := truthy (.bool _)) (wpAny_truthy_bool ?_) | refine wpAny_pure ?_ | refine wpAny_bind (wpAny_pure ?_) | wp_step)
  unfold richCompare
  simp only [oneThing_ref]
  refine wpAny_holding (wpAny_bind (wpAny_cRoomFor (Nat.lt_of_succ_lt hu) ?_))
  refine wpAny_bind (I.type.here (wpAny_bind (hb.here ?_)))
  split
  · rename_i q
    simp at q
  · refine wpAny_bind (wpAny_pure ?_)
    simp only [Bool.false_eq_true, if_false]
    refine wpAny_bind (wpAny_mono one (fun r s' z => ?_) fun _ _ e => e)
    obtain ⟨v, rfl, hq⟩ := z
    exact wpAny_pure hq
end
/-- both instances of the class at C; sp: its own == -/
def rOwnNe (C : Addr) (sp : Sp) : R2 := fun x y H Q => match x, y with
  | .ref a, .ref b => IsIns H a C ∧ IsIns H b C ∧ sp [.ref a, .ref b] H (fun v H' => ∃ k, v = .bl k ∧ Q (.bl (!k)) H') E0
  | _, _ => False
structure NeC (K : PySem.W.Frag) (C : Addr) : Prop where
  ne : PySem.W.findIn K (.ref C) "__ne__" = some (some (.builtin "object.__ne__"))
  ob : PySem.W.mroIn K C (.type "object") = some true
section
variable {X : Cx} {k j : Nat} {C g : Addr} {sp : Sp} {E : XK}
theorem o_ownNe (n : NeC X.K C) (o : OwnM X.K C "__eq__" g) (G2 : F.Fr X.prog X.w X.K X.mg X.base k g sp) (hr : Room j X.A) (hk : k + 1 ≤ j := by decide) : OpR X (compareOp .NotEq) (rOwnNe C sp) := by
  intro pins s σ H x y v u Q I rx ry h
  unfold rOwnNe at h
  split at h
  · rename_i a b
    obtain ⟨ha, hb, q⟩ := h
    obtain rfl : v = Value.ref a := rx
    obtain rfl : u = Value.ref b := ry
    obtain ⟨dx, od, J⟩ := isins I ha
    obtain ⟨dy, od', J'⟩ := isins I hb
    have hr1 : Room k X.A.in1 := (hr.mono hk).in1
    unfold compareOp
    refine own_ne (by have := hr.units; omega) I.kIn J J'.type n.ne n.ob o.at_ o.fn ?_
    refine wpAny_mono (wpAny_call (SlX.run_at (us := [.ref a, .ref b]) (ws := [.ref a, .ref b]) G2 hr1 I.env0.in1 passL I (.cons rfl (.cons rfl .nil)) q)) (fun w' s' z => ?_) fun _ _ x => x
    obtain ⟨z', H', I', rz, k', e, qz⟩ := z
    subst e
    obtain rfl : w' = Value.bool k' := rz
    exact ⟨k', rfl, .bl (!k'), H', I', rfl, qz⟩
  · exact h.elim
end
/-! ### texts with fields -/
/-- {x}: a text, an int, an instance of the class at C by its own __str__ -/
def fFmt (te : TE) : TE := fun σ H Q => te σ H fun x H1 => match x with
  | .str y => y.length ≤ sizeLine ∧ Q (.str y) H1
  | .int i => i.natAbs.log2 < 1920 ∧ Q (.str (toString i)) H1
  | _ => False
def fFmtO (C : Addr) (sp : Sp) (te : TE) : TE := fun σ H Q => te σ H fun x H1 => match x with
  | .ref a => IsIns H1 a C ∧ sp [.ref a] H1 (fun v H2 => ∃ z, v = .str z ∧ Q (.str z) H2) E0
  | _ => False
structure FmtC (K : PySem.W.Frag) (C : Addr) : Prop where
  fm : PySem.W.findIn K (.ref C) "__format__" = some (some (.builtin "object.__format__"))
  ob : PySem.W.mroIn K C (.type "object") = some true
/-- digits of a whole number, at least W, zeros ahead -/
def zpad (W : Nat) (i : Int) : Str := (⟨(List.replicate (W - (Nat.toDigits 10 i.natAbs).length) 48).toArray⟩ : Str) ++ Str.ofString (toString i)
/-- {x:0Wd} -/
def fFmtZ (W : Nat) (te : TE) : TE := fun σ H Q => te σ H fun x H1 => match x with
  | .int i => (0 ≤ i ∧ i < 10 ^ 10) ∧ Q (.str (zpad W i)) H1
  | _ => False
section
variable {X : Cx} {e : Expr} {te : TE} {pos : Pos} {k j : Nat} {C g : Addr} {sp : Sp}
theorem e_fmt (he : PE X e te) : PE X (.FormattedValue e (-1) none pos) (fFmt te) := by
  refine ⟨fun pins s σ H Q I h => ?_⟩
  refine wpAny_FormattedValue_plain (thn (he.run pins s σ H _ I h) fun v s1 hv => ?_)
  obtain ⟨x, H1, I1, r1, q⟩ := hv
  cases x with
  | str y =>
    obtain ⟨t, rfl⟩ := r1
    exact wpAny_formatField_str ⟨.str y, H1, I1, ⟨t, rfl⟩, q.2⟩ ⟨.str y, H1, I1.tok _, ⟨_, rfl⟩, q.2⟩ q.1
  | int i =>
    obtain ⟨t, rfl⟩ := r1
    exact wpAny_formatField_int q.1 ⟨.str (toString i), H1, I1.tok _, ⟨_, rfl⟩, q.2⟩
  | _ => exact q.elim
theorem strback {P : Value → Shared → Prop} {z : Str} {v : Value} {s' : Shared} (r : RelV (.str z) v) (h : ∀ t, P (.str z t) s') : PySem.W.StrBack P v s' := by
  obtain ⟨t, rfl⟩ := r
  exact h t
theorem e_fmtO (c : FmtC X.K C) (o : OwnM X.K C "__str__" g) (G2 : F.Fr X.prog X.w X.K X.mg X.base k g sp) (hr : Room j X.A) (he : PE X e te) (hk : k + 1 ≤ j := by decide) : PE X (.FormattedValue e (-1) none pos) (fFmtO C sp te) := by
  refine ⟨fun pins s σ H Q I h => ?_⟩
  refine wpAny_FormattedValue_plain (thn (he.run pins s σ H _ I h) fun v s1 hv => ?_)
  obtain ⟨x, H1, I1, r1, q⟩ := hv
  cases x with
  | ref a =>
    obtain rfl : v = Value.ref a := r1
    obtain ⟨ha, q⟩ := q
    obtain ⟨dx, od, J⟩ := isins I1 ha
    have hr1 : Room k X.A.in1 := (hr.mono hk).in1
    have I2 := I1.tok (s1.toks + 1)
    refine PySem.W.kfo_fieldS (show X.A.in1.units < cLine from by have := hr1.units; omega) I1.kIn J c.fm c.ob o.at_ o.fn ?_
    refine wpAny_mono (wpAny_call (SlX.run_at (us := [.ref a]) (ws := [.ref a]) G2 hr1 I2.env0.in1 passL I2 (.cons rfl .nil) q)) (fun w' s' z => ?_) fun _ _ x => x
    obtain ⟨z', H', I', rz, z, e, qz⟩ := z
    subst e
    exact strback rz fun t => ⟨.str z, H', I', ⟨t, rfl⟩, qz⟩
  | _ => exact q.elim
end
end F
set_option maxHeartbeats 2000000
/-! F4: built-in functions by values, constants, chains, fields of numbers. -/
namespace F
open PySem PySem.Spec PyProof.Rows L2
theorem CallR.or {X : Cx} {f : Value} {r r' : List V → Hp → VK → Prop} (h : CallR X f r) (h' : CallR X f r') : CallR X f (fun xs H Q => r xs H Q ∨ r' xs H Q) := fun pins s σ H xs us Q I rv z => z.elim (fun z => h pins s σ H xs us Q I rv z) fun z => h' pins s σ H xs us Q I rv z
/-! ### len, int, str, list, tuple, abs -/
def rLenF (K : PySem.W.Frag) : List V → Hp → VK → Prop := fun xs H Q => match xs with
  | [.str z] => z.length ≤ sizeLine ∧ Q (.int z.length) H
  | [.ref a] => (∃ ys, (SqL K H a ys ∨ SqT K H a ys) ∧ Q (.int ys.length) H) ∨ ∃ kvs, H a = some (.dK kvs) ∧ Q (.int kvs.length) H
  | _ => False
def rIntF : List V → Hp → VK → Prop := fun xs H Q => match xs with
  | [.int i] => Q (.int i) H
  | [.bl k] => Q (.int (if k then 1 else 0)) H
  | [.str a] => ∃ n, PySem.intText? a = some n ∧ a.length ≤ 640 ∧ Q (.int n) H
  | _ => False
def rStrF : List V → Hp → VK → Prop := fun xs H Q => match xs with
  | [.int i] => i.natAbs.log2 < 1920 ∧ Q (.str (toString i)) H
  | _ => False
@[irreducible] def absI (i : Int) : Int := if i < 0 then -i else i
theorem absI_nn (i : Int) : 0 ≤ absI i := by
  unfold absI
  split <;> omega
def rAbsF : List V → Hp → VK → Prop := fun xs H Q => match xs with
  | [.int i] => Q (.int (absI i)) H
  | _ => False
def rListF (K : PySem.W.Frag) : List V → Hp → VK → Prop := fun xs H Q => match xs with
  | [.ref a] => ∃ ys, (SqL K H a ys ∨ SqT K H a ys) ∧ ∀ l, H l = none → Q (.ref l) (upd H l (.lst ys))
  | _ => False
def rTupF (K : PySem.W.Frag) : List V → Hp → VK → Prop := fun xs H Q => match xs with
  | [.ref a] => ∃ ys, SqL K H a ys ∧ ∀ l, H l = none → Q (.ref l) (upd H l (.tup ys))
  | _ => False
def rSumF (K : PySem.W.Frag) : List V → Hp → VK → Prop := fun xs H Q => match xs with
  | [.ref a] => ∃ ns : List Int, SqL K H a (ns.map V.int) ∧ Q (.int ns.sum) H
  | _ => False
def rAllF (K : PySem.W.Frag) : List V → Hp → VK → Prop := fun xs H Q => match xs with
  | [.ref a] => ∃ bs : List Bool, SqL K H a (bs.map V.bl) ∧ Q (.bl (bs.all id)) H
  | _ => False
def rAnyF (K : PySem.W.Frag) : List V → Hp → VK → Prop := fun xs H Q => match xs with
  | [.ref a] => ∃ bs : List Bool, SqL K H a (bs.map V.bl) ∧ Q (.bl (bs.any id)) H
  | _ => False
/-- sorted of whole numbers -/
def rSrtF (K : PySem.W.Frag) : List V → Hp → VK → Prop := fun xs H Q => match xs with
  | [.ref a] => ∃ ns : List Int, SqL K H a (ns.map V.int) ∧ ∀ (ms : List Int) p, ms.Perm ns → ms.Pairwise (· ≤ ·) → H p = none → Q (.ref p) (upd H p (.lst (ms.map V.int)))
  | _ => False
section
variable {X : Cx} {a : Expr} {ta : TE} {p pos : Pos} {x : Str}
theorem k_len : CallR X (.builtin "len") (rLenF X.K) := upC (CallR.or call_len call_lenD) fun xs H Q h => by
  unfold rLenF at h
  split at h
  · exact .inl ⟨_, _, rfl, ⟨h.1, rfl⟩, h.2⟩
  · rcases h with ⟨ys, hs, q⟩ | ⟨kvs, hd, q⟩
    · refine .inl ⟨_, _, rfl, ?_, q⟩
      rcases hs with hs | hs
      · exact .inl ⟨ys, hs, rfl⟩
      · exact .inr ⟨ys, hs, rfl⟩
    · exact .inr ⟨_, kvs, rfl, hd, q⟩
  · exact h.elim
theorem k_int : CallR X (.type "int") rIntF := upC (CallR.or call_int1 call_int_str) fun xs H Q h => by
  unfold rIntF at h
  split at h
  · exact .inl (.inl ⟨_, rfl, h⟩)
  · exact .inl (.inr ⟨_, rfl, h⟩)
  · obtain ⟨n, e, l, q⟩ := h
    exact .inr ⟨_, n, rfl, e, l, q⟩
  · exact h.elim
theorem k_str : CallR X (.type "str") rStrF := upC call_str_int fun xs H Q h => by
  unfold rStrF at h
  split at h
  · exact ⟨_, rfl, h⟩
  · exact h.elim
theorem k_abs : CallR X (.builtin "abs") rAbsF := upC call_abs fun xs H Q h => by
  unfold rAbsF at h
  split at h
  · unfold absI at h
    exact ⟨_, rfl, h⟩
  · exact h.elim
theorem k_list : CallR X (.type "list") (rListF X.K) := upC call_list_of fun xs H Q h => by
  unfold rListF at h
  split at h
  · obtain ⟨ys, z⟩ := h
    exact ⟨_, ys, rfl, z⟩
  · exact h.elim
theorem k_tuple : CallR X (.type "tuple") (rTupF X.K) := upC call_tuple_of fun xs H Q h => by
  unfold rTupF at h
  split at h
  · obtain ⟨ys, z⟩ := h
    exact ⟨_, ys, rfl, .inl z⟩
  · exact h.elim
theorem k_sum (hc : X.calm = true) : CallR X (.builtin "sum") (rSumF X.K) := upC (cr_sum hc) fun xs H Q h => by
  unfold rSumF at h
  split at h
  · obtain ⟨ys, z⟩ := h
    exact ⟨_, ys, rfl, z⟩
  · exact h.elim
theorem k_all (hc : X.calm = true) : CallR X (.builtin "all") (rAllF X.K) := upC (cr_all hc) fun xs H Q h => by
  unfold rAllF at h
  split at h
  · obtain ⟨ys, z⟩ := h
    exact ⟨_, ys, rfl, z⟩
  · exact h.elim
theorem k_any (hc : X.calm = true) : CallR X (.builtin "any") (rAnyF X.K) := upC (cr_any hc) fun xs H Q h => by
  unfold rAnyF at h
  split at h
  · obtain ⟨ys, z⟩ := h
    exact ⟨_, ys, rfl, z⟩
  · exact h.elim
theorem e_len (hm : X.mg "len" = none) (ha : PE X a ta) (hg : Gl X "len" := by rfl) (hs : starEach (a :: []) X.env = (false, eval a X.env) :: starEach [] X.env := by rfl) : PE X (.Call (.Name "len" p) [a] [] pos) (tCB (rLenF X.K) (tCons ta tNil)) :=
  pe_callB k_len hg hm PySem.boot_len (pa_cons ha pa_nil hs) (he := hs)
theorem e_abs (hm : X.mg "abs" = none) (ha : PE X a ta) (hg : Gl X "abs" := by rfl) (hs : starEach (a :: []) X.env = (false, eval a X.env) :: starEach [] X.env := by rfl) : PE X (.Call (.Name "abs" p) [a] [] pos) (tCB rAbsF (tCons ta tNil)) :=
  pe_callB k_abs hg hm (by decide +kernel) (pa_cons ha pa_nil hs) (he := hs)
theorem e_int (hm : X.mg "int" = none) (ha : PE X a ta) (hg : Gl X "int" := by rfl) (hs : starEach (a :: []) X.env = (false, eval a X.env) :: starEach [] X.env := by rfl) : PE X (.Call (.Name "int" p) [a] [] pos) (tCB rIntF (tCons ta tNil)) :=
  pe_callTy k_int hg hm (by decide +kernel) (pa_cons ha pa_nil hs) (he := hs)
theorem e_str (hm : X.mg "str" = none) (ha : PE X a ta) (hg : Gl X "str" := by rfl) (hs : starEach (a :: []) X.env = (false, eval a X.env) :: starEach [] X.env := by rfl) : PE X (.Call (.Name "str" p) [a] [] pos) (tCB rStrF (tCons ta tNil)) :=
  pe_callTy k_str hg hm (by decide +kernel) (pa_cons ha pa_nil hs) (he := hs)
theorem e_list (hm : X.mg "list" = none) (ha : PE X a ta) (hg : Gl X "list" := by rfl) (hs : starEach (a :: []) X.env = (false, eval a X.env) :: starEach [] X.env := by rfl) : PE X (.Call (.Name "list" p) [a] [] pos) (tCB (rListF X.K) (tCons ta tNil)) :=
  pe_callTy k_list hg hm (by decide +kernel) (pa_cons ha pa_nil hs) (he := hs)
theorem e_tuple (hm : X.mg "tuple" = none) (ha : PE X a ta) (hg : Gl X "tuple" := by rfl) (hs : starEach (a :: []) X.env = (false, eval a X.env) :: starEach [] X.env := by rfl) : PE X (.Call (.Name "tuple" p) [a] [] pos) (tCB (rTupF X.K) (tCons ta tNil)) :=
  pe_callTy k_tuple hg hm (by decide +kernel) (pa_cons ha pa_nil hs) (he := hs)
theorem e_sum (hc : X.calm = true) (hm : X.mg "sum" = none) (ha : PE X a ta) (hg : Gl X "sum" := by rfl) (hs : starEach (a :: []) X.env = (false, eval a X.env) :: starEach [] X.env := by rfl) : PE X (.Call (.Name "sum" p) [a] [] pos) (tCB (rSumF X.K) (tCons ta tNil)) :=
  pe_callB (k_sum hc) hg hm (by decide +kernel) (pa_cons ha pa_nil hs) (he := hs)
theorem e_all (hc : X.calm = true) (hm : X.mg "all" = none) (ha : PE X a ta) (hg : Gl X "all" := by rfl) (hs : starEach (a :: []) X.env = (false, eval a X.env) :: starEach [] X.env := by rfl) : PE X (.Call (.Name "all" p) [a] [] pos) (tCB (rAllF X.K) (tCons ta tNil)) :=
  pe_callB (k_all hc) hg hm (by decide +kernel) (pa_cons ha pa_nil hs) (he := hs)
theorem e_any (hc : X.calm = true) (hm : X.mg "any" = none) (ha : PE X a ta) (hg : Gl X "any" := by rfl) (hs : starEach (a :: []) X.env = (false, eval a X.env) :: starEach [] X.env := by rfl) : PE X (.Call (.Name "any" p) [a] [] pos) (tCB (rAnyF X.K) (tCons ta tNil)) :=
  pe_callB (k_any hc) hg hm (by decide +kernel) (pa_cons ha pa_nil hs) (he := hs)
theorem e_g {v : V} (h : ∃ u, X.mg x = some u ∧ RelV v u) (hg : Gl X x := by rfl) (hd : (x == ("__debug__" : Str)) = false := by decide) : PE X (.Name x pos) (tC v) := by
  obtain ⟨u, hm, r⟩ := h
  exact pe_glob hg hm r hd
/-- a built-in type as a value -/
theorem e_ty {n : String} (hm : X.mg x = none) (hv : bootBuiltins x = some (.type n)) (hg : Gl X x := by rfl) (hn : x ≠ "__name__" := by decide) (hd : (x == ("__debug__" : Str)) = false := by decide) : PE X (.Name x pos) (tC (.ty n)) :=
  pe_bltn hg hm hv rfl hn hd
end
/-! ### a chain of two comparisons -/
def fChain (r r' : R2) (ta tb tc : TE) : TE := fun σ H Q => ta σ H fun x H1 => tb σ H1 fun y H2 => r x y H2 fun z H3 => match z with
  | .bl k => Cond k (tc σ H3 fun w' H4 => r' y w' H4 Q) (Q (.bl false) H3)
  | _ => False
section
variable {X : Cx} {a b c : Expr} {ta tb tc : TE} {pos : Pos} {op op' : CmpOp}
theorem e_chain {r r' : R2} (ho : OpR X (compareOp op) r) (ho' : OpR X (compareOp op') r') (ha : PE X a ta) (hb : PE X b tb) (hc : PE X c tc)
    (hm : lastMarks [op, op'] [b, c] = false := by with_unfolding_all rfl) : PE X (.Compare a [op, op'] [b, c] pos) (fChain r r' ta tb tc) := by
  refine ⟨fun pins s σ H Q I h => ?_⟩
  refine Compare_chain (thn (ha.run pins s σ H _ I h) fun v s1 ⟨x, H1, I1, r1, q1⟩ => chain_link (thn (hb.run pins s1 σ H1 _ I1 q1) fun u s2 ⟨y, H2, I2, r2, q2⟩ =>
    thn (ho pins s2 σ H2 x y v u _ I2 r1 r2 q2) fun d s3 ⟨z, H3, I3, r3, q3⟩ => ?_)) hm
  cases z with
  | bl k =>
    cases r3
    refine wpAny_truthy_bool ?_
    cases k with
    | false => exact ite_ff ⟨.bl false, H3, I3, rfl, q3.f rfl⟩
    | true => exact ite_tt (chain_last (thn (hc.run pins s3 σ H3 _ I3 (q3.t rfl)) fun w' s4 ⟨z', H4, I4, r4, q4⟩ => ho' pins s4 σ H4 y z' u w' Q I4 r2 r4 q4))
  | _ => exact q3.elim
/-- .. as a test -/
theorem t_chain {r r' : R2} (ho : OpR X (compareOp op) r) (ho' : OpR X (compareOp op') r') (ha : PE X a ta) (hb : PE X b tb) (hc : PE X c tc)
    (hm : lastMarks [op, op'] [b, c] = false := by with_unfolding_all rfl) : PT X (.Compare a [op, op'] [b, c] pos) (fB (fChain r r' ta tb tc)) := by
  refine ⟨fun pins s σ H Q I h => ?_⟩
  refine isTrue_chain (thn (ha.run pins s σ H _ I h) fun v s1 ⟨x, H1, I1, r1, q1⟩ => test_link (thn (hb.run pins s1 σ H1 _ I1 q1) fun u s2 ⟨y, H2, I2, r2, q2⟩ =>
    thn (ho pins s2 σ H2 x y v u _ I2 r1 r2 q2) fun d s3 ⟨z, H3, I3, r3, q3⟩ => ?_)) hm
  cases z with
  | bl k =>
    cases r3
    refine wpAny_truthy_bool ?_
    cases k with
    | false => exact ite_ff ⟨H3, I3, q3.f rfl⟩
    | true =>
      refine ite_tt (test_last (thn (hc.run pins s3 σ H3 _ I3 (q3.t rfl)) fun w' s4 ⟨z', H4, I4, r4, q4⟩ => thn (ho' pins s4 σ H4 y z' u w' _ I4 r2 r4 q4) fun d' s5 ⟨z2, H5, I5, r5, q5⟩ => ?_))
      cases z2 with
      | bl k2 =>
        cases r5
        exact wpAny_truthy_bool ⟨H5, I5, q5⟩
      | _ => exact q5.elim
  | _ => exact q3.elim
end
end F
set_option maxHeartbeats 2000000
/-! F5: isinstance, sorted, what a def is. -/
namespace F
open PySem PySem.Spec PyProof.Rows L2
/-- an object that is no T -/
def NotTy (K : PySem.W.Frag) (H : Hp) (a : Addr) (c : Value) : Prop := ∃ t, TyX K H (.ref a) t ∧ PySem.W.kitOne K t c = some false
def rIsTy (K : PySem.W.Frag) (T : String) (bI bB bS bN : Bool) : List V → Hp → VK → Prop := fun xs H Q => match xs with
  | [x, .ty n] => n = T ∧ match x with
    | .int _ => Q (.bl bI) H
    | .bl _ => Q (.bl bB) H
    | .str _ => Q (.bl bS) H
    | .non => Q (.bl bN) H
    | .ref a => NotTy K H a (.type T) ∧ Q (.bl false) H
    | _ => False
  | _ => False
/-- what isinstance(.., C) asks of the class at C -/
structure IsC (K : PySem.W.Frag) (C : Addr) : Prop where
  cl : Cls K C
  ha : PySem.W.findIn K (.ref C) "__class__" = some (some (.builtin "object.__class__"))
  hn : PySem.W.specialIn K (.builtin "object.__class__") "__get__" = some (some (.builtin "getset_descriptor.__get__"))
  htk : PySem.W.takesIn K (.builtin "object.__class__") = some true
  hm : PySem.W.mroIn K C (.type "object") = some true
  me : PySem.W.kitOne K (.ref C) (.ref C) = some true
  i : PySem.W.kitOne K (.type "int") (.ref C) = some false
  b : PySem.W.kitOne K (.type "bool") (.ref C) = some false
  s : PySem.W.kitOne K (.type "str") (.ref C) = some false
  n : PySem.W.kitOne K (.type "NoneType") (.ref C) = some false
theorem IsC.ty {K : PySem.W.Frag} {C D : Addr} {H : Hp} {a : Addr} (c : IsC K D) (h : IsIns H a D) (no : PySem.W.kitOne K (.ref D) (.ref C) = some false) : NotTy K H a (.ref C) := by
  obtain ⟨dx, fs, e⟩ := h
  exact ⟨_, .base (.ins e c.cl c.ha c.hn c.htk c.hm), no⟩
def rIsC (K : PySem.W.Frag) (C : Addr) : List V → Hp → VK → Prop := fun xs H Q => match xs with
  | [x, .ref c] => c = C ∧ match x with
    | .int _ => Q (.bl false) H
    | .bl _ => Q (.bl false) H
    | .str _ => Q (.bl false) H
    | .non => Q (.bl false) H
    | .ref a => (IsIns H a C ∧ Q (.bl true) H) ∨ (NotTy K H a (.ref C) ∧ Q (.bl false) H)
    | _ => False
  | _ => False
section
variable {X : Cx} {a : Expr} {ta : TE} {p p2 pos : Pos} {x : Str} {C : Addr}
theorem k_isTy {T : String} {bI bB bS bN : Bool} (hI : kitB "int" T = some bI) (hB : kitB "bool" T = some bB) (hS : kitB "str" T = some bS) (hN : kitB "NoneType" T = some bN) : CallR X (.builtin "isinstance") (rIsTy X.K T bI bB bS bN) := upC call_isi fun xs H Q h => by
  unfold rIsTy at h
  split at h
  · rename_i x n
    obtain ⟨e, h⟩ := h
    subst e
    split at h
    · exact ⟨_, _, _, _, _, rfl, .ty _, .base (.int _), kit_ty hI, h⟩
    · exact ⟨_, _, _, _, _, rfl, .ty _, .base (.bl _), kit_ty hB, h⟩
    · exact ⟨_, _, _, _, _, rfl, .ty _, .base (.str _), kit_ty hS, h⟩
    · exact ⟨_, _, _, _, _, rfl, .ty _, .base .non, kit_ty hN, h⟩
    · obtain ⟨⟨t, ht, hk⟩, q⟩ := h
      exact ⟨_, _, t, _, _, rfl, .ty _, ht, hk, q⟩
    · exact h.elim
  · exact h.elim
theorem k_isC (c : IsC X.K C) : CallR X (.builtin "isinstance") (rIsC X.K C) := upC call_isi fun xs H Q h => by
  unfold rIsC at h
  split at h
  · rename_i x n
    obtain ⟨e, h⟩ := h
    subst e
    split at h
    · exact ⟨_, _, _, _, _, rfl, .own _, .base (.int _), c.i, h⟩
    · exact ⟨_, _, _, _, _, rfl, .own _, .base (.bl _), c.b, h⟩
    · exact ⟨_, _, _, _, _, rfl, .own _, .base (.str _), c.s, h⟩
    · exact ⟨_, _, _, _, _, rfl, .own _, .base .non, c.n, h⟩
    · rcases h with ⟨⟨dx, fs, e⟩, q⟩ | ⟨⟨t, ht, hk⟩, q⟩
      · exact ⟨_, _, _, _, _, rfl, .own _, .base (.ins e c.cl c.ha c.hn c.htk c.hm), c.me, q⟩
      · exact ⟨_, _, t, _, _, rfl, .own _, ht, hk, q⟩
    · exact h.elim
  · exact h.elim
theorem e_isTy {y : Str} {T : String} {bI bB bS bN : Bool} (hI : kitB "int" T = some bI) (hB : kitB "bool" T = some bB) (hS : kitB "str" T = some bS) (hN : kitB "NoneType" T = some bN) (hv : bootBuiltins y = some (.type T)) (hm : X.mg y = none) (hi : X.mg "isinstance" = none) (ha : PE X a ta)
    (hg : Gl X "isinstance" := by rfl) (hg2 : Gl X y := by rfl) (hn : y ≠ "__name__" := by decide) (hd : (y == ("__debug__" : Str)) = false := by decide)
    (he : starEach (a :: [.Name y p2]) X.env = (false, eval a X.env) :: starEach [.Name y p2] X.env := by rfl) (he2 : starEach [.Name y p2] X.env = (false, eval (.Name y p2) X.env) :: starEach [] X.env := by rfl)
    (hpl : (backTo pos (starEach [.Name y p2] X.env)).any (·.1) = false := by rfl) :
    PE X (.Call (.Name "isinstance" p) [a, .Name y p2] [] pos) (tCB (rIsTy X.K T bI bB bS bN) (tCons ta (tCons (tC (.ty T)) tNil))) :=
  pe_callB (k_isTy hI hB hS hN) hg hi (by decide +kernel) (pa_cons ha (pa_cons (e_ty hm hv hg2 hn hd) pa_nil he2) he) (he := he) (hpl := hpl)
theorem e_is_int (hm : X.mg "int" = none) (hi : X.mg "isinstance" = none) (ha : PE X a ta)
    (hg : Gl X "isinstance" := by rfl) (hg2 : Gl X "int" := by rfl) (he : starEach (a :: [.Name "int" p2]) X.env = (false, eval a X.env) :: starEach [.Name "int" p2] X.env := by rfl) :
    PE X (.Call (.Name "isinstance" p) [a, .Name "int" p2] [] pos) (tCB (rIsTy X.K "int" true true false false) (tCons ta (tCons (tC (.ty "int")) tNil))) :=
  e_isTy (by decide +kernel) (by decide +kernel) (by decide +kernel) (by decide +kernel) (by decide +kernel) hm hi ha hg hg2 (he := he) (he2 := by rfl) (hpl := by rfl)
theorem e_is_bool (hm : X.mg "bool" = none) (hi : X.mg "isinstance" = none) (ha : PE X a ta)
    (hg : Gl X "isinstance" := by rfl) (hg2 : Gl X "bool" := by rfl) (he : starEach (a :: [.Name "bool" p2]) X.env = (false, eval a X.env) :: starEach [.Name "bool" p2] X.env := by rfl) :
    PE X (.Call (.Name "isinstance" p) [a, .Name "bool" p2] [] pos) (tCB (rIsTy X.K "bool" false true false false) (tCons ta (tCons (tC (.ty "bool")) tNil))) :=
  e_isTy (by decide +kernel) (by decide +kernel) (by decide +kernel) (by decide +kernel) (by decide +kernel) hm hi ha hg hg2 (he := he) (he2 := by rfl) (hpl := by rfl)
theorem e_is_str (hm : X.mg "str" = none) (hi : X.mg "isinstance" = none) (ha : PE X a ta)
    (hg : Gl X "isinstance" := by rfl) (hg2 : Gl X "str" := by rfl) (he : starEach (a :: [.Name "str" p2]) X.env = (false, eval a X.env) :: starEach [.Name "str" p2] X.env := by rfl) :
    PE X (.Call (.Name "isinstance" p) [a, .Name "str" p2] [] pos) (tCB (rIsTy X.K "str" false false true false) (tCons ta (tCons (tC (.ty "str")) tNil))) :=
  e_isTy (by decide +kernel) (by decide +kernel) (by decide +kernel) (by decide +kernel) (by decide +kernel) hm hi ha hg hg2 (he := he) (he2 := by rfl) (hpl := by rfl)
theorem e_isC (gC : X.mg x = some (.ref C)) (c : IsC X.K C) (hi : X.mg "isinstance" = none) (ha : PE X a ta) (hg : Gl X "isinstance" := by rfl) (hg2 : Gl X x := by rfl) (hd : (x == ("__debug__" : Str)) = false := by decide)
    (he : starEach (a :: [.Name x p2]) X.env = (false, eval a X.env) :: starEach [.Name x p2] X.env := by rfl) :
    PE X (.Call (.Name "isinstance" p) [a, .Name x p2] [] pos) (tCB (rIsC X.K C) (tCons ta (tCons (tC (.ref C)) tNil))) :=
  pe_callB (k_isC c) hg hi (by decide +kernel) (pa_cons ha (pa_cons (pe_glob hg2 gC rfl hd) pa_nil (by rfl)) he) (he := he) (hpl := by rfl)
/-- sorted of whole numbers, any number -/
theorem k_sorted : CallR X (.builtin "sorted") (rSrtF X.K) := upC cr_sortedI fun xs H Q h => by
  unfold rSrtF at h
  split at h
  · obtain ⟨ns, hs, q⟩ := h
    exact ⟨_, ns, rfl, hs, fun ms p hp hr hn => q ms p hp hr hn⟩
  · exact h.elim
theorem e_sorted (hm : X.mg "sorted" = none) (ha : PE X a ta) (hg : Gl X "sorted" := by rfl) (hs : starEach (a :: []) X.env = (false, eval a X.env) :: starEach [] X.env := by rfl) : PE X (.Call (.Name "sorted" p) [a] [] pos) (tCB (rSrtF X.K) (tCons ta tNil)) :=
  pe_callB k_sorted hg hm (by decide +kernel) (pa_cons ha pa_nil hs) (he := hs)
end
/-! ### a def keeps its promise -/
section
variable {P : Program} {w : World} {K : PySem.W.Frag} {mg : Str → Option Value} {base : Heap} {x qual : Str} {f C p : Addr} {fd : FuncData} {params : Arguments} {body : List Stmt} {scope : Scope} {N ps : List Str} {k : Nat} {sp : Sp} {dvs : List V}
abbrev BodyOk (P : Program) (w : World) (K : PySem.W.Frag) (mg : Str → Option Value) (base : Heap) (k : Nat) (f : Addr) (qual : Str) (scope : Scope) (N : List Str) (body : List Stmt) (sp : Sp) : Prop :=
  ∀ (cdv : Value) (A : Around) (outer : List Env) (s : Shared) (H : Hp) (vs : List V) (Q : VK) (E : XK), Room k (A.deeper (envOfC qual scope s.heap.objs.size f cdv)) → sp vs H Q E →
      ∃ t, PSs (cxOf (L2.CX P w) P w K mg base N qual scope f cdv A outer s H E) body t ∧ t { nx := fun _ H' => Q .non H', rt := Q } (start N vs) H
abbrev BindN (x qual : Str) (params : Arguments) (body : List Stmt) (scope : Scope) (ps : List Str) : Prop :=
  ∀ (kV doc pm : Value) (an : Option Addr) (cdv ct : Value) (us : List Value), us.length = ps.length → bindArgs (PySem.W.fnOf x qual params body scope .none kV doc pm an cdv ct) ⟨us, []⟩ = pure (ps.zip us)
/-- no defaults -/
theorem fr_mk (F1 : FunD K x qual params body scope [] [] f fd) (S : FnScope N ps scope) (len : ∀ vs H Q E, sp vs H Q E → vs.length = ps.length) (bd : BindN x qual params body scope ps) (hb : BodyOk P w K mg base k f qual scope N body sp) : F.Fr P w K mg base (k + 1) f sp :=
  (FnOk.raw (F1.ok S len hb) (F1.bindsN bd) .nil).imp (fun vs H Q E h => by rw [List.append_nil]; exact h)
end
end F
set_option maxHeartbeats 2000000
/-! F6: heaps, subscripts as functions, comprehensions by what each turn gives. -/
namespace F
open PySem PySem.Spec PyProof.Rows L2
section
variable {H H' H1 H2 : Hp} {a b p D : Addr} {o u : HO}
theorem upd_keep (hp : H p = none) (h : H a = some o) : upd H p u a = some o := by
  rw [upd_ne (ne_of_none h hp)]
  exact h
theorem sm (s : Same H H') (h : H a = some o) : H' a = some o := s _ _ h
theorem snew (hp : H p = none) : Same H (upd H p o) := fun b o h => upd_keep hp h
theorem sto (s : Same H H') (hp : H' p = none) : Same H (upd H' p o) := fun b o h => upd_keep hp (s _ _ h)
theorem sl {K : PySem.W.Frag} {xs : List V} (s : Same H H') (h : SqL K H a xs) : SqL K H' a xs := s.seq h
theorem st {K : PySem.W.Frag} {xs : List V} (s : Same H H') (h : SqT K H a xs) : SqT K H' a xs := by
  rcases h with (h | ⟨o, h⟩) | h
  · exact .inl (.inl (s _ _ h))
  · exact .inl (.inr ⟨o, s _ _ h⟩)
  · exact .inr h
/-- an object put into an address that the elder heap has not -/
theorem sput (s : Same H H') (hp : H p = none) : Same H (upd H' p o) := fun b o h => by
  rw [upd_ne (ne_of_none h hp)]
  exact s _ _ h
/-- the heap without what stands at D -/
def hide (D : Addr) (H : Hp) : Hp := fun b => if b = D then none else H b
theorem hide_ne (h : a ≠ D) : hide D H a = H a := if_neg h
theorem hide_at (h : H a = some o) (hD : H D = some u) (n : o ≠ u) : hide D H a = some o := (hide_ne (ne_of h hD n)).trans h
theorem hide_new (h : H a = none) (hD : H D = some u) (h' : H' a = some o) : hide D H' a = some o := (hide_ne (ne_of_none hD h).symm).trans h'
theorem hide_sub : Same (hide D H) H := fun b o h => by
  by_cases e : b = D
  · subst e
    unfold hide at h
    rw [if_pos rfl] at h
    cases h
  · rw [hide_ne e] at h
    exact h
theorem hide_mono (s : Same H H') : Same (hide D H) (hide D H') := fun b o h => by
  by_cases e : b = D
  · subst e
    unfold hide at h
    rw [if_pos rfl] at h
    cases h
  · rw [hide_ne e] at h ⊢
    exact s _ _ h
theorem hide_upd : hide D (upd H D o) = hide D H := by
  funext b
  by_cases e : b = D
  · subst e
    unfold hide
    rw [if_pos rfl, if_pos rfl]
  · rw [hide_ne e, hide_ne e, upd_ne e]
theorem hide_none (h : H D = none) : hide D H = H := by
  funext b
  by_cases e : b = D
  · subst e
    unfold hide
    rw [if_pos rfl, h]
  · rw [hide_ne e]
theorem line_of {n : Nat} (h : n ≤ 1000000) : n ≤ sizeLine := Nat.le_trans h (by decide)
theorem line_lt {n : Nat} (h : n ≤ 1000000) : n < sizeLine := Nat.lt_of_le_of_lt h (by decide)
end
/-! ### subscripts -/
def rIxTF (K : PySem.W.Frag) : R2 := fun x y H Q => match x, y with
  | .ref p, .int i => ∃ xs v, SqT K H p xs ∧ atI xs i = some v ∧ Q v H
  | _, _ => False
def rIxLF (K : PySem.W.Frag) : R2 := fun x y H Q => match x, y with
  | .ref p, .int i => ∃ xs v, SqL K H p xs ∧ atI xs i = some v ∧ Q v H
  | _, _ => False
def rIxSF : R2 := fun x y H Q => match x, y with
  | .str z, .int i => ∃ c, z.length ≤ sizeLine ∧ atI z.cps.toList i = some c ∧ Q (.str ⟨#[c]⟩) H
  | _, _ => False
section
variable {X : Cx}
theorem upIx {r r' : R2} (h : IxR X r) (k : ∀ x y H Q, r' x y H Q → r x y H Q) : IxR X r' := fun value slice pins s σ H x y v u Q I rx ry z hs => h value slice pins s σ H x y v u Q I rx ry (k _ _ _ _ z) hs
theorem ixT : IxR X (rIxTF X.K) := upIx ix_tup fun x y H Q h => by
  unfold rIxTF at h
  split at h
  · obtain ⟨xs, v, a, b, c⟩ := h
    exact ⟨_, xs, _, v, rfl, rfl, a, b, c⟩
  · exact h.elim
theorem ixL : IxR X (rIxLF X.K) := upIx ix_list fun x y H Q h => by
  unfold rIxLF at h
  split at h
  · obtain ⟨xs, v, a, b, c⟩ := h
    exact ⟨_, xs, _, v, rfl, rfl, a, b, c⟩
  · exact h.elim
theorem ixS : IxR X rIxSF := upIx ix_str fun x y H Q h => by
  unfold rIxSF at h
  split at h
  · obtain ⟨c, a, b, d⟩ := h
    exact ⟨_, _, c, rfl, rfl, a, b, d⟩
  · exact h.elim
end
theorem atI_lt {α : Type} {xs : List α} {i : Int} (h0 : 0 ≤ i) (h : i < xs.length) : atI xs i = xs[i.toNat]? := by
  unfold atI ixN
  rw [if_pos h0, if_pos h]
  rfl
/-! ### comprehensions -/
section
variable {J : It} {n : Nat} {G : Hp → Prop} {Y : Nat → Hp → V → Hp → Prop} {g : TG} {te : TE} {tt : TT} {vs : List Nat} {σ : L2.St} {H1 : Hp} {D : Addr} {Qd : Hp → Prop}
abbrev LcW (J : It) (g : TG) (tt : TT) (te : TE) (vs : List Nat) (σ : L2.St) (H1 : Hp) (D : Addr) (Qd : Hp → Prop) : Prop :=
  ∃ W : Nat → Nat → Hp → Prop, (∃ m, W 0 m (upd H1 D (.lst []))) ∧ ∀ i m H, W i m H →
      (J.stop i H ∧ Qd H) ∨ (J.go i H ∧ ∃ Nx : Hp → Prop, (∀ H', Nx H' → ∃ m', m' < m ∧ W (i + 1) m' H') ∧ ∀ x H', J.yld i H x H' → g x (wipe σ vs) H' fun σ2 H2 => wipe σ2 vs = wipe σ vs ∧ tt σ2 H2 fun b H3 =>
        if b = true then te σ2 H3 fun y H4 => ∃ acc, H4 D = some (.lst acc) ∧ acc.length < sizeLine ∧ Nx (upd H4 D (.lst (acc ++ [y]))) else Nx H3)
/-- [elt for target in ..]: R i y H: what the i-th turn gives is y; it is told of the heap without the new list -/
theorem lcW (w : Walk J n G Y) (R : Nat → V → Hp → Prop) (hn : n ≤ 1000000) (hD : H1 D = none) (hG : ∀ H, Same H1 H → G H) (mono : ∀ i y H H', Same H H' → R i y H → R i y H')
    (turn : ∀ i x H H' acc (Nx : V → Hp → Prop), i < n → Same H1 H → H D = some (.lst acc) → Y i H x H' → (∀ y H4, Same H H4 → R i y (hide D H4) → Nx y H4) → g x (wipe σ vs) H' fun σ2 H2 => wipe σ2 vs = wipe σ vs ∧ te σ2 H2 Nx)
    (gm : ∀ x σ H (P P' : L2.St → Hp → Prop), (∀ σ2 H2, P σ2 H2 → P' σ2 H2) → g x σ H P → g x σ H P')
    (done : ∀ ys H, ys.length = n → (∀ i y, ys[i]? = some y → R i y H) → Same H1 H → H D = some (.lst ys) → Qd H) : LcW J g tYes te vs σ H1 D Qd := by
  refine lc_it w (fun i H => ∃ acc : List V, acc.length = i ∧ H D = some (.lst acc) ∧ Same H1 H ∧ ∀ j y, acc[j]? = some y → R j y (hide D H)) ⟨[], rfl, upd_same, snew hD, fun j y h => by simp at h⟩ (fun i H _ ⟨_, _, _, s, _⟩ => hG H s) ?_ ?_
  · rintro i x H H' hi ⟨acc, hl, hd, s, hR⟩ y
    let Nx : V → Hp → Prop := fun y H4 => ∃ acc, H4 D = some (.lst acc) ∧ acc.length < sizeLine ∧ ∃ acc' : List V, acc'.length = i + 1 ∧ upd H4 D (.lst (acc ++ [y])) D = some (.lst acc') ∧ Same H1 (upd H4 D (.lst (acc ++ [y]))) ∧ ∀ j z, acc'[j]? = some z → R j z (hide D (upd H4 D (.lst (acc ++ [y]))))
    have t := turn i x H H' acc Nx hi s hd y ?_
    · refine gm _ _ _ _ _ (fun σ2 H2 z => ⟨z.1, ?_⟩) t
      simp only [tYes, ↓reduceIte]
      exact z.2
    refine fun y H4 s4 r4 => ⟨acc, s4 _ _ hd, line_lt (by omega), acc ++ [y], by rw [List.length_append, hl] <;> rfl, upd_same, sput (s.trans s4) hD, fun j z hz => ?_⟩
    rw [hide_upd]
    by_cases hj : j < acc.length
    · rw [List.getElem?_append_left hj] at hz
      exact mono _ _ _ _ (hide_mono s4) (hR j z hz)
    · rw [List.getElem?_append_right (Nat.le_of_not_lt hj)] at hz
      have e0 : j - acc.length = 0 := by
        cases e : j - acc.length with
        | zero => rfl
        | succ m => rw [e] at hz; simp at hz
      rw [e0] at hz
      have ez : y = z := by simpa using hz
      have ej : j = i := by omega
      subst ez ej
      exact r4
  · rintro H ⟨acc, hl, hd, s, hR⟩
    exact done acc H hl (fun i y h => mono _ _ _ _ hide_sub (hR i y h)) s hd
/-- .. with a test: R i none: the i-th is left out -/
theorem lcF (w : Walk J n G Y) (R : Nat → Option V → Hp → Prop) (hn : n ≤ 1000000) (hD : H1 D = none) (hG : ∀ H, Same H1 H → G H) (mono : ∀ i y H H', Same H H' → R i y H → R i y H')
    (turn : ∀ i x H H' acc (Nx : V → Hp → Prop) (No : Hp → Prop), i < n → Same H1 H → H D = some (.lst acc) → Y i H x H' → (∀ y H4, Same H H4 → R i (some y) (hide D H4) → Nx y H4) → (∀ H4, Same H H4 → R i none (hide D H4) → No H4) →
      g x (wipe σ vs) H' fun σ2 H2 => wipe σ2 vs = wipe σ vs ∧ tt σ2 H2 fun b H3 => if b = true then te σ2 H3 Nx else No H3)
    (done : ∀ (os : List (Option V)) H, os.length = n → (∀ i o, os[i]? = some o → R i o H) → Same H1 H → H D = some (.lst (os.filterMap id)) → Qd H) : LcW J g tt te vs σ H1 D Qd := by
  refine lc_it w (fun i H => ∃ os : List (Option V), os.length = i ∧ H D = some (.lst (os.filterMap id)) ∧ Same H1 H ∧ ∀ j y, os[j]? = some y → R j y (hide D H)) ⟨[], rfl, upd_same, snew hD, fun j y h => by simp at h⟩ (fun i H _ ⟨_, _, _, s, _⟩ => hG H s) ?_ ?_
  · rintro i x H H' hi ⟨os, hl, hd, s, hR⟩ y
    have len : (os.filterMap id).length ≤ 1000000 := Nat.le_trans (List.length_filterMap_le _ _) (by omega)
    have old : ∀ (o : Option V) H4, Same H H4 → R i o (hide D H4) → ∀ j z, (os ++ [o])[j]? = some z → R j z (hide D H4) := fun o H4 s4 r4 j z hz => by
      by_cases hj : j < os.length
      · rw [List.getElem?_append_left hj] at hz
        exact mono _ _ _ _ (hide_mono s4) (hR j z hz)
      · rw [List.getElem?_append_right (Nat.le_of_not_lt hj)] at hz
        have e0 : j - os.length = 0 := by
          cases e : j - os.length with
          | zero => rfl
          | succ m => rw [e] at hz; simp at hz
        rw [e0] at hz
        have ez : o = z := by simpa using hz
        have ej : j = i := by omega
        subst ez ej
        exact r4
    refine turn i x H H' _ _ _ hi s hd y (fun y H4 s4 r4 => ⟨_, s4 _ _ hd, line_lt len, os ++ [some y], by rw [List.length_append, hl] <;> rfl, ?_, sput (s.trans s4) hD, ?_⟩) fun H4 s4 r4 => ⟨os ++ [none], by rw [List.length_append, hl] <;> rfl, ?_, s.trans s4, ?_⟩
    · rw [List.filterMap_append]
      exact upd_same
    · rw [hide_upd]
      exact old _ _ s4 r4
    · rw [List.filterMap_append]
      show H4 D = some (.lst (os.filterMap id ++ []))
      rw [List.append_nil]
      exact s4 _ _ hd
    · exact old _ _ s4 r4
  · rintro H ⟨os, hl, hd, s, hR⟩
    exact done os H hl (fun i y h => mono _ _ _ _ hide_sub (hR i y h)) s hd
theorem gm_name {i : Nat} : ∀ x σ H (P P' : L2.St → Hp → Prop), (∀ σ2 H2, P σ2 H2 → P' σ2 H2) → gName i x σ H P → gName i x σ H P' := fun _ _ _ _ _ k h => k _ _ h
/-- the results are a function of the turn -/
theorem ys_fn {f : Nat → V} {ys : List V} {n : Nat} (hl : ys.length = n) (h : ∀ i y, ys[i]? = some y → y = f i) : ys = (List.range n).map f := by
  refine List.ext_getElem? fun i => ?_
  rw [List.getElem?_map]
  by_cases hi : i < n
  · obtain ⟨y, hy⟩ : ∃ y, ys[i]? = some y := ⟨ys[i]'(by omega), by rw [List.getElem?_eq_getElem]⟩
    rw [hy, h i y hy, List.getElem?_range hi]
    rfl
  · rw [List.getElem?_eq_none (by omega), List.getElem?_eq_none (by simp; omega)]
    rfl
end
/-- one sign in a text -/
def rInS : R2 := fun x y H Q => match x, y with
  | .str a, .str z => ∃ c, a = ⟨#[c]⟩ ∧ Q (.bl (decide (c ∈ z.cps.toList))) H
  | _, _ => False
theorem o_inS {X : Cx} : OpR X (compareOp .In) rInS := upR op_in_sign fun x y H Q h => by
  unfold rInS at h
  split at h
  · obtain ⟨c, e, q⟩ := h
    subst e
    exact ⟨c, _, rfl, rfl, q⟩
  · exact h.elim
/-- .. where the results are told item by item -/
theorem ys_get {α : Type} {f : α → V} {l : List α} {ys : List V} (hl : ys.length = l.length) (h : ∀ (i : Nat) y, ys[i]? = some y → ∃ a, l[i]? = some a ∧ y = f a) : ys = l.map f := by
  refine List.ext_getElem? fun i => ?_
  rw [List.getElem?_map]
  by_cases hi : i < l.length
  · obtain ⟨y, hy⟩ : ∃ y, ys[i]? = some y := ⟨ys[i]'(by omega), by rw [List.getElem?_eq_getElem]⟩
    obtain ⟨a, ha, e⟩ := h i y hy
    rw [hy, ha, e]
    rfl
  · rw [List.getElem?_eq_none (by omega), List.getElem?_eq_none (by omega)]
    rfl
end F
set_option maxHeartbeats 2000000
/-! F7: methods of texts as functions, fields stored, a def with defaults. -/
namespace F
open PySem PySem.Spec PyProof.Rows L2
def fM1 (r : Str → V → Hp → VK → Prop) (to te : TE) : TE := fun σ H Q => to σ H fun x H1 => match x with
  | .str a => te σ H1 fun y H2 => r a y H2 Q
  | _ => False
def rSplitF : Str → V → Hp → VK → Prop := fun a y H Q => match y with
  | .str b => ((b.length == 0) = false ∧ a.length + 2 ≤ sizeLine) ∧ ∀ p, H p = none → Q (.ref p) (upd H p (.lst ((Txt.split a b).map V.str)))
  | _ => False
def rJoinF (K : PySem.W.Frag) : Str → V → Hp → VK → Prop := fun a y H Q => match y with
  | .ref p => ∃ ys : List Str, (SqL K H p (ys.map V.str) ∨ SqT K H p (ys.map V.str)) ∧ (ys.map (·.length)).sum + ys.length * a.length ≤ 16777216 ∧ Q (.str (Txt.join a ys)) H
  | _ => False
section
variable {X : Cx} {o e : Expr} {to te : TE} {apos pos : Pos}
theorem m1_mk {id : String} {name : Str} {r : V → List V → Hp → VK → Prop} {r' : Str → V → Hp → VK → Prop} (slot : Slot "str" name id) (ty : typeOf (.builtin id) = pure (.type "method_descriptor")) (rule : MtR X id r) (k : ∀ a y H Q, r' a y H Q → r (.str a) [y] H Q) (ho : PE X o to) (he : PE X e te)
    (hs : starEach [e] X.env = [(false, eval e X.env)]) (hbase : attributeBase o name X.env (eval o X.env) = eval o X.env) (hline : (apos.endLine == pos.line) = true) :
    PE X (.Call (.Attribute o name apos) [e] [] pos) (fM1 r' to te) := by
  refine ⟨fun pins s σ H Q I h => ?_⟩
  refine PySem.Call_method1 hbase hs hline (thn (ho.run pins s σ H _ I h) fun v s1 ⟨x, H1, I1, r1, q1⟩ => ?_)
  cases x with
  | str a =>
    obtain ⟨t, rfl⟩ := _root_.id r1
    refine ⟨"str", _, PySem.F.plainAttrs_str, slot, ty, typeIs_str _ _ _, (fun _ e => nomatch e), Calls.callWith_builtin rfl (Calls.evalArgs_plain (Calls.spliced_cons ?_))⟩
    exact thn (he.run pins s1 σ H1 _ I1 q1) fun u s2 ⟨y, H2, I2, r2, q2⟩ => Calls.spliced_nil (rule pins s2 σ H2 _ [y] _ [u] Q I2 r1 (.cons r2 .nil) (k a y H2 Q q2))
  | _ => exact q1.elim
theorem e_split (ho : PE X o to) (he : PE X e te) (hs : starEach [e] X.env = [(false, eval e X.env)] := by rfl) (hbase : attributeBase o "split" X.env (eval o X.env) = eval o X.env := by rfl) (hline : (apos.endLine == pos.line) = true := by rfl) :
    PE X (.Call (.Attribute o "split" apos) [e] [] pos) (fM1 rSplitF to te) :=
  m1_mk PySem.F.slot_str_split PySem.F.type_str_split mt_split (fun a y H Q h => by
    unfold rSplitF at h
    split at h
    · exact ⟨_, _, rfl, rfl, h.1.1, h.1.2, h.2⟩
    · exact h.elim) ho he hs hbase hline
theorem e_join (ho : PE X o to) (he : PE X e te) (hs : starEach [e] X.env = [(false, eval e X.env)] := by rfl) (hbase : attributeBase o "join" X.env (eval o X.env) = eval o X.env := by rfl) (hline : (apos.endLine == pos.line) = true := by rfl) :
    PE X (.Call (.Attribute o "join" apos) [e] [] pos) (fM1 (rJoinF X.K) to te) :=
  m1_mk PySem.F.slot_str_join PySem.F.type_str_join mt_join (fun a y H Q h => by
    unfold rJoinF at h
    split at h
    · obtain ⟨ys, z⟩ := h
      exact ⟨_, _, ys, rfl, rfl, z⟩
    · exact h.elim) ho he hs hbase hline
end
/-! ### o.f = e -/
def fSFld (K : PySem.W.Frag) (ta tv : TE) (f : Str) : TS := fun D σ H => tv σ H fun y H1 => ta σ H1 fun x H2 => match x with
  | .ref a => ∃ C dx fs, H2 a = some (.ins C dx fs) ∧ Cls K C ∧ NoAttr K C f ∧ fs.length < 1000 ∧ D.nx σ (upd H2 a (.ins C dx (putF f y fs)))
  | _ => False
section
variable {X : Cx} {o e value : Expr} {ta tv : TE} {f : Str} {pos pos' : Pos}
theorem s_fld (ha : PE X o ta) (hv : PE X value tv) (hs : swapsWith value (some (.Attribute o f pos')) pos.line X.env = pure false := by rfl) : PS X (.Assign [.Attribute o f pos'] value pos) (fSFld X.K ta tv f) := by
  refine ⟨fun pins s σ H D I h => ?_⟩
  refine plainObj_wpAny_Assign_Attribute (thn (hv.run pins s σ H _ I h) fun u s1 ⟨y, H1, I1, ry, q⟩ => thn (ha.run pins s1 σ H1 _ I1 q) fun ov s2 ⟨x, H2, I2, rx, q2⟩ => ?_) hs
  cases x with
  | ref a =>
    obtain ⟨C, dx, fs, ea, c, n, l, q2⟩ := q2
    obtain rfl : ov = Value.ref a := rx
    exact setattr_ok I2 ea c n l ry fun s3 I3 => ⟨σ, _, I3, q2⟩
  | _ => exact q2.elim
end
end F
set_option maxHeartbeats 2000000
/-! F8: {**d, k: v}. -/
namespace F
open PySem PySem.Spec PyProof.Rows L2
section
variable {prog : Program} {w : World} {κ : Type} [DecidableEq κ] {knd : KeyKind prog w κ} {A : Around} {E : Value → Shared → Prop} {s : Shared}
theorem put_pairs {d : Addr} {kvs : List (κ × Value)} {k : κ} {key v : Value} {Q : Unit → Shared → Prop} (hkey : knd.is k key = true) (hm : s.heap.DictOf knd d kvs)
    (hQ : ∀ h', h'.DictOf knd d (stored kvs k v) → Heap.SameBut d s.heap h' → Q () { s with heap := h' }) (hsz : kvs.length ≤ sizeLine) :
    wpAny (model prog w) A (dictPut d (knd.hash k) key v) Q E s := by
  obtain ⟨o, es, ep, ho, hc, hd, hk, hp, hn⟩ := hm
  have hes : es.size ≤ sizeLine := by
    have e1 := hp.length
    have e2 : es.toList.length = es.size := by simp
    omega
  unfold dictPut
  refine wpAny_bind (wpAny_dictFind_of hkey ho hd hk ?_)
  have hidx : (es.findIdx? fun e => knd.is k e.key) = kvs.findIdx? fun kv => decide (kv.1 = k) := by
    rw [← hp.findIdx k]
    obtain ⟨l⟩ := es
    simp
  cases hi : es.findIdx? fun e => knd.is k e.key with
  | some i =>
    refine wpAny_updateDict ho hd (hQ _ ⟨_, _, ep, Heap.get?_update_self _ ho (Obj.isFreed_of_dict (Obj.data_mapDict hd _)), hc.mapDict _, Obj.data_mapDict hd _, hk.modify _ _, ?_, ?_⟩ (Heap.SameBut.update ..))
    · rw [stored, if_pos (any_of_findIdx_some (hidx ▸ hi))]
      have hl : (es.toList.findIdx? fun e => knd.is k e.key) = some i := by
        rw [← hi]
        obtain ⟨l⟩ := es
        simp
      have := hp.modify hn hl v
      obtain ⟨l⟩ := es
      simpa using this
    · rw [stored, if_pos (any_of_findIdx_some (hidx ▸ hi)), keys_map_store]
      exact hn
  | none =>
    have hnot : k ∉ kvs.map (·.1) := not_mem_of_findIdx_none (hidx ▸ hi)
    have hany : ¬ (kvs.any fun kv => decide (kv.1 = k)) = true := by
      rw [List.any_eq_true]
      rintro ⟨kv, hkv, he⟩
      exact hnot (List.mem_map.mpr ⟨kv, hkv, of_decide_eq_true he⟩)
    refine wpAny_updateDictKeys (hz := hes) ho hd (hQ _ ⟨_, _, ep + 1, Heap.get?_update_self _ ho (Obj.isFreed_of_dict (Obj.data_mapDictKeys hd _)), hc.mapDictKeys _, Obj.data_mapDictKeys hd _, hk.push hkey _, ?_, ?_⟩ (Heap.SameBut.update ..))
    · rw [stored, if_neg hany]
      have := hp.append hkey (knd.hash k) v
      obtain ⟨l⟩ := es
      simpa using this
    · rw [stored, if_neg hany, List.map_append, List.nodup_append]
      refine ⟨hn, by simp, ?_⟩
      intro a ha b hb
      simp only [List.map_cons, List.map_nil, List.mem_singleton] at hb
      subst hb
      exact fun e => hnot (e ▸ ha)
theorem merge_map {d o : Addr} {kvs more : List (κ × Value)} {Q : Unit → Shared → Prop} (hdo : d ≠ o) (hoS : (o == sysModules) = false) (hd : s.heap.DictOf knd d kvs) (ho : s.heap.DictOf knd o more)
    (hQ : ∀ h', h'.DictOf knd d (merged kvs more) → Heap.SameBut d s.heap h' → Q () { s with heap := h' }) (hsz : kvs.length + more.length ≤ sizeLine) :
    wpAny (model prog w) A (mergeMapping d (.ref o) false) Q E s := by
  have hTo := ho.typeIs
  obtain ⟨od, esd, epd, hod, hcd, hdd, hkd, hpd, hnd⟩ := id hd
  obtain ⟨oo, eso, epo, hoo, hco, hdo', hko, hpo, hno⟩ := id ho
  have hlen : more.length = eso.size := by rw [← hpo.length]; simp
  have loop : ∀ h1, h1 = s.heap → wpAny (model prog w) A (do
      let l ← dictEntries o
      let epoch ← dictEpoch o
      for i in List.range l.size do
        let some e := (← dictEntries o)[i]? | unsupported "dict.changed-during-merge"
        holding [e.key, e.val] do
          if false = true then
            if (← dictFind d e.key e.hash).isSome then rule "dict.merge.duplicate-key"; raiseNew (← newExc (.type "KeyError") [e.key])
          dictPut d e.hash e.key e.val
        if (← dictEpoch o) != epoch then unsupported "dict.changed-during-merge") Q E s := by
    intro _ _
    refine wpAny_bind (wpAny_dictEntries hoo hdo' ?_)
    refine wpAny_bind (wpAny_dictEpoch hoo hdo' ?_)
    refine wpAny_bind ?_
    refine wpAny_forIn_list _ (fun rest _ s' => ∃ h' i, s' = { s with heap := h' } ∧ rest = List.range' i (eso.size - i) ∧ i ≤ eso.size ∧ h'.DictOf knd d (merged kvs (more.take i)) ∧ h'.get? o = some oo ∧ Heap.SameBut d s.heap h') _ ?_ ?_ _ _
      ⟨s.heap, 0, rfl, by rw [List.range_eq_range']; simp, Nat.zero_le _, by simpa [merged] using hd, hoo, Heap.SameBut.refl _ _⟩
    · rintro x rest b s' ⟨h', i, rfl, hr, hi, hd', hoo', hs'⟩
      have hlt : i < eso.size := by
        rcases Nat.lt_or_ge i eso.size with h | h
        · exact h
        · rw [Nat.sub_eq_zero_of_le h] at hr
          simp at hr
      obtain ⟨rfl, hrest⟩ : x = i ∧ rest = List.range' (i + 1) (eso.size - (i + 1)) := by
        have e : eso.size - i = (eso.size - (i + 1)) + 1 := by omega
        rw [e, List.range'_succ] at hr
        injection hr with h1 h2
        exact ⟨h1, h2⟩
      refine wpAny_bind (wpAny_dictEntries hoo' hdo' ?_)
      rw [Array.getElem?_eq_getElem hlt]
      obtain ⟨kv, hkv⟩ : ∃ kv, more[x]? = some kv := ⟨more[x]'(by rw [hlen]; exact hlt), List.getElem?_eq_getElem _⟩
      obtain ⟨k, v⟩ := kv
      obtain ⟨hkey, hval⟩ := hpo.get? (e := eso[x]) (by simp [hlt]) hkv
      obtain ⟨k', hkey', hhash⟩ := hko eso[x] (Array.getElem_mem hlt)
      obtain rfl : k' = k := knd.inj _ _ _ hkey' hkey
      have hmx : (merged kvs (more.take x)).length ≤ sizeLine := by
        have e1 := merged_length_le kvs (more.take x)
        have e2 : (more.take x).length ≤ more.length := by rw [List.length_take]; omega
        omega
      dsimp only
      refine wpAny_bind (wpAny_holding ?_)
      simp only [Bool.false_eq_true, if_false]
      try refine wpAny_bind (wpAny_pure ?_)
      rw [hhash, hval]
      refine put_pairs (hsz := hmx) hkey hd' fun h'' hd'' hs'' => ?_
      have hoo'' : h''.get? o = some oo := (hs''.2 o (Ne.symm hdo)).trans hoo'
      refine wpAny_bind (wpAny_dictEpoch hoo'' hdo' ?_)
      rw [if_neg (by simp)]
      repeat (first | exact wpAny_pure ⟨h'', x + 1, rfl, hrest, hlt, by rw [merged_take_succ kvs more x (k', v) hkv]; exact hd'', hoo'', hs'.trans hs''⟩ | refine wpAny_bind (wpAny_pure ?_))
    · rintro b s' ⟨h', i, rfl, hr, hi, hd', hoo', hs'⟩
      have hin : i = eso.size := by
        rcases Nat.lt_or_ge i eso.size with h | h
        · have e : eso.size - i = (eso.size - (i + 1)) + 1 := by omega
          rw [e, List.range'_succ] at hr
          exact nomatch hr
        · exact Nat.le_antisymm hi h
      have q := hQ h' (by rw [hin, ← hlen, List.take_length] at hd'; exact hd') hs'
      first | exact wpAny_pure q | exact q
  unfold mergeMapping
  refine wpAny_bind (m := isInstance _ _) (wpAny_isInstance hTo isSubtype_dict_dict ?_)
  simp only [if_true]
  refine wpAny_bind (m := specialOf _ _) (wpAny_specialOf hTo F.slot_dict_iter.lookup ?_)
  try refine wpAny_bind (wpAny_pure ?_)
  simp only [beq_self_eq_true, hoS, Bool.false_eq_true, if_false]
  refine wpAny_bind (wpAny_dictEntries hod hdd ?_)
  split
  · refine wpAny_bind (wpAny_dictEntries hoo hdo' ?_)
    have hl : ∀ f : DictEntry → PUnit → Sem (ForInStep PUnit), (∀ e, e ∈ eso.toList → f e PUnit.unit = pure (.yield PUnit.unit)) → forIn eso PUnit.unit f = pure PUnit.unit := fun f hf => by
      rw [← Array.forIn_toList]
      exact forIn_yield_id _ fun e he c => hf e he
    rw [hl _ fun e he => ?_]
    · refine wpAny_bind (wpAny_pure ?_)
      exact loop _ rfl
    · obtain ⟨k, hkey, _⟩ := hko e (Array.mem_toList_iff.mp he)
      have hb := knd.byValue k _ hkey
      split
      · rename_i a q
        rw [q] at hb
        cases hb
      · rfl
  · exact loop _ rfl
/-- {**e, k: v} -/
def tStar1 (te tk tv : TE) : TE := fun σ H Q => ∀ p, H p = none → te σ (upd H p (.dK [])) fun x H1 => match x with
  | .ref o => ∃ kvs : List (Key × V), H1 o = some (.dK kvs) ∧ H1 p = some (.dK []) ∧ o ≠ p ∧ ∀ q, H1 q = none → tk σ (upd (upd H1 p (.dK (mergeK [] kvs))) q (.dK [])) fun y H2 => tv σ H2 fun z H3 =>
      ∃ k : Key, y = kV k ∧ H3 q = some (.dK []) ∧ H3 p = some (.dK (mergeK [] kvs)) ∧ (mergeK [] kvs).length < sizeLine ∧ Q (.ref p) (upd (upd H3 q (.dK [(k, z)])) p (.dK (putK (mergeK [] kvs) k z)))
  | _ => False
end
section
variable {X : Cx} {e k v : Expr} {te tk tv : TE} {pos : Pos}
theorem e_star1 (he : PE X e te) (hk : PE X k tk) (hv : PE X v tv) : PE X (.Dict [none, some k] [e, v] pos) (tStar1 te tk tv) := by
  refine ⟨fun pins s σ H Q I h => ?_⟩
  rw [arm_eval_Dict]
  refine wpAny_bind (wpAny_standAt ?_)
  unfold dictDisplay
  simp only [evalEachOpt, evalOpt, evalEach, List.map_cons, List.map_nil, List.zip_cons_cons, List.zip_nil_left, List.forIn_cons, List.forIn_nil, List.isEmpty_nil, if_true, pure_bind, bind_assoc, List.nil_append, List.length_cons, List.length_nil]
  have hn := I.hok.fresh (Nat.le_refl s.heap.objs.size)
  have I1 := I.laid (a := s.heap.objs.size) (o := .dK []) (h' := s.heap.push { cls := .type "dict", data := .dict #[] }) (t' := s.toks) (fun _ _ q => Heap.get?_push_of_some _ q) (Nat.le_refl _) (dk_empty s.heap I.big)
  have hm := h _ hn
  refine wpAny_bind (wpAny_alloc ?_)
  refine wpAny_bind (wpAny_holding (wpAny_bind (thn (he.run pins _ σ _ _ I1 hm) fun u s1 ⟨x, H1, I2, rx, q1⟩ => wpAny_bind (wpAny_standAt (wpAny_pure ?_)))))
  cases x with
  | ref o =>
    obtain ⟨kvs, eo, ep, hop, q2⟩ := q1
    obtain rfl : u = Value.ref o := rx
    obtain ⟨zo, hoS, vs, ro, ddo⟩ := dk_of I2.hok eo
    obtain ⟨zp, hpS, vp, rp, ddp⟩ := dk_of I2.hok ep
    cases rp
    have hz : (mergeK [] kvs).length ≤ sizeLine := by
      have h1 := length_mergeK kvs []
      rw [List.length_nil] at h1
      omega
    refine wpAny_bind (wpAny_onRaise (wpAny_tryCatch (wpAny_onRaise (wpAny_holding (merge_map (knd := mixKind X.prog X.w) (Ne.symm hop) hoS ddp ddo (fun h' dd' hs' => ?_) (by have := ro.length; rw [List.length_nil]; omega))))))
    have he' : ∃ q, h'.get? s.heap.objs.size = some q := let ⟨q, _, _, hq, _⟩ := dd'; ⟨q, hq⟩
    have I3 := d_write (t' := s1.toks) I2 (by rw [ep]; exact True.intro) hs' he' (dk_new hz hpS (ro.merge .nil) dd')
    simp only [Nat.zero_add, Nat.reduceBEq, Bool.false_eq_true, if_false, pure_bind, List.isEmpty_cons]
    refine wpAny_bind ?_
    refine wpAny_bind (wpAny_holding ?_)
    have hn2 := I3.hok.fresh (Nat.le_refl h'.objs.size)
    have I4 := I3.laid (a := h'.objs.size) (o := .dK []) (h' := h'.push { cls := .type "dict", data := .dict #[] }) (t' := s1.toks) (fun _ _ q => Heap.get?_push_of_some _ q) (Nat.le_refl _) (dk_empty h' I3.big)
    have npq : s.heap.objs.size ≠ h'.objs.size := fun e => by
      rw [← e, upd_same] at hn2
      cases hn2
    have hn3 : H1 h'.objs.size = none := by
      rw [upd_ne (Ne.symm npq)] at hn2
      exact hn2
    refine wpAny_subDict (knd := mixKind X.prog X.w) (by simp) (evalPairs_cons ?_)
    refine thn (hk.run pins _ σ _ _ I4 (q2 _ hn3)) fun ku s3 ⟨y, H2, I5, ry, q3⟩ => ?_
    refine wpAny_bind (thn (hv.run pins _ σ _ _ I5 q3) fun vu s4 ⟨z, H3, I6, rz, k0, ey, eq, ep2, lz, q4⟩ => wpAny_bind (wpAny_standAt (wpAny_pure (evalPairs_nil ?_))))
    subst ey
    obtain ⟨zq, hqS, vq, rq, ddq⟩ := dk_of I6.hok eq
    cases rq
    have rk : KV [(k0, z)] [(k0, vu)] := .cons ⟨rfl, rz⟩ .nil
    refine ⟨[(k0, vu)], ⟨kV_is ry, rfl, True.intro⟩, ddq, fun h2 dd2 hs2 => ?_⟩
    have he2 : ∃ q, h2.get? h'.objs.size = some q := let ⟨q, _, _, hq, _⟩ := dd2; ⟨q, hq⟩
    have I7 := d_write (t' := s4.toks + 1) I6 (by rw [eq]; exact True.intro) hs2 he2 (dk_new (kvs := [(k0, z)]) (by rw [sizeLine_eq]; simp) hqS rk dd2)
    have ep3 : upd H3 h'.objs.size (.dK [(k0, z)]) s.heap.objs.size = some (.dK (mergeK [] kvs)) := by
      rw [upd_ne npq]
      exact ep2
    obtain ⟨_, _, vs5, r5, dd5⟩ := dk_of I7.hok ep3
    refine wpAny_bind (wpAny_onRaise (wpAny_holding (merge_map (knd := mixKind X.prog X.w) npq hqS dd5 dd2 (fun h3 dd3 hs3 => ?_) (by have := r5.length; have e : (merged ([] : List (Key × Value)) [(k0, vu)]).length = 1 := rfl; omega))))
    have he3 : ∃ q, h3.get? s.heap.objs.size = some q := let ⟨q, _, _, hq, _⟩ := dd3; ⟨q, hq⟩
    have I8 := d_write (t' := s4.toks + 1) I7 (by rw [ep3]; exact True.intro) hs3 he3 (dk_new (kvs := putK (mergeK [] kvs) k0 z) (by have := length_putK (mergeK [] kvs) k0 z; omega) hpS (r5.put k0 rz) dd3)
    refine wpAny_pure (wpAny_pure ?_)
    exact ⟨.ref s.heap.objs.size, _, I8, rfl, q4⟩
  | _ => exact q1.elim
end
end F
set_option maxHeartbeats 2000000
/-! F9: fields of numbers with zeros, keyword calls, defaults, own == of nested things, keys of a dict. -/
namespace F
open PySem PySem.Spec PyProof.Rows L2
section
variable {X : Cx} {e spec : Expr} {te : TE} {pos : Pos} {pins : List (Addr × Obj)} {σ : L2.St} {H : Hp} {s : Shared}
abbrev NoLim (K : PySem.W.Frag) : Prop := PySem.W.nsIn K cStatics "sys.int_max_str_digits" = some none
theorem noDig (hn : NoLim X.K) (I : Inv X pins σ H s) : s.heap.NoDigits := by
  obtain ⟨m, hF⟩ := I.fr
  obtain ⟨mc, h1, _⟩ := I.ok.mod.nolimit
  have N : X.base.NoDigits := ⟨mc, h1, PySem.W.ns_none_of I.ok.mod.kin h1 hn⟩
  exact N.keeps hF.keep
theorem e_fmtZ {sp : Str} {W : Nat} (hn : NoLim X.K) (hok : PyProof.Rows.intSpecOk sp = true) (hW : PyProof.Rows.intSpecWidthOf sp = W) (hz : PyProof.Rows.intSpecZeroOf sp = true) (hsz : sp.length ≤ sizeLine) (he : PE X e te) (hs : PE X spec (tC (.str sp))) :
    PE X (.FormattedValue e (-1) (some spec) pos) (fFmtZ W te) := by
  refine ⟨fun pins s σ H Q I h => ?_⟩
  refine wpAny_FormattedValue_spec (thn (he.run pins s σ H _ I h) fun v s1 ⟨x, H1, I1, r1, q⟩ => thn (hs.run pins s1 σ H1 (fun v H2 => v = .str sp ∧ H2 = H1) I1 ⟨rfl, rfl⟩) fun r s2 ⟨z, H2, I2, r2, e1, e2⟩ => ?_)
  subst e1 e2
  obtain ⟨t2, rfl⟩ := r2
  refine ⟨sp, t2, rfl, ?_⟩
  cases x with
  | int i =>
    obtain ⟨t, rfl⟩ := r1
    refine PySem.W.KXf.field_sym (W := W) (noDig hn I2) q.1.1 q.1.2 hok hW hsz fun t' k f _ _ => ?_
    refine ⟨.str (zpad W i), _, I2.tok k, ⟨t', ?_⟩, q.2⟩
    rw [f.zeroG hz q.1.1]
    rfl
  | _ => exact q.elim
end
/-! ### f(k = v) -/
structure Fck (P : Program) (w : World) (K : PySem.W.Frag) (mg : Str → Option Value) (base : Heap) (k : Nat) (x : Str) (ps : List Str) (sp : Sp) : Prop where
  ex : ∃ f fd, FnOk P w K mg base (L2.CX P w) k f fd ps sp ∧ KBinds K fd ps ps (fun us ws => us ++ ws) (fun vs zs => vs ++ zs) ∧ mg x = some (.ref f) ∧ PySem.W.keepIn K (.ref f) = true
def fCallK (sp : Sp) (E : XK) (tk : TA) : TE := fun σ H Q => tk σ H fun zs H1 => sp zs H1 Q E
section
variable {X : Cx} {k j : Nat} {sp : Sp} {x : Str} {p pos : Pos} {ps : List Str} {kws : List Keyword} {tk : TA}
theorem e_ck0 (c : Fck X.prog X.w X.K X.mg X.base k x ps sp) (hr : Room j X.A) (hkw : PK X kws tk) (hk : k ≤ j := by decide) (hg : Gl X x := by rfl) (hall : (backToKw pos (keywordEach kws X.env)).all (·.1.isSome) = true := by rfl)
    (hks : (backToKw pos (keywordEach kws X.env)).filterMap (·.1) = ps := by rfl) (hdb : (x == ("__debug__" : Str)) = false := by decide)
    (hpl : ((backTo pos (starEach [] X.env)).any (·.1) || (backToKw pos (keywordEach kws X.env)).any (·.1.isNone)) = false := by rfl) :
    PE X (.Call (.Name x p) [] kws pos) (fCallK sp E0 tk) := by
  obtain ⟨f, fd, G, hb, hm, kp⟩ := c.ex
  refine ⟨fun pins s σ H Q I h => ?_⟩
  refine wpAny_Call_Name_kw (ld_glob I hg hm ?_ hdb)
  refine PySem.W.callWith_KW0 (h₀ := X.base) I.ok.mod.kin kp hall ?_ hpl
  refine thn (hkw.run pos pins s σ H _ I h) fun ws s2 ⟨zs, H2, I2, rz, q2⟩ => ⟨I2.kIn, ?_⟩
  rw [hks]
  exact run_fnk (us := []) (vs := []) G (hr.mono hk) hb passE I2 .nil rz q2
end
/-! ### defaults -/
section
variable {P : Program} {w : World} {K : PySem.W.Frag} {mg : Str → Option Value} {base : Heap} {x qual : Str} {f : Addr} {fd : FuncData} {params : Arguments} {body : List Stmt} {scope : Scope} {N ps : List Str} {k : Nat} {sp : Sp} {dvs : List V}
abbrev BindD (x qual : Str) (params : Arguments) (body : List Stmt) (scope : Scope) (ps : List Str) (n j : Nat) (dn : Nat) : Prop :=
  ∀ (T : Addr) (kV doc pm : Value) (an : Option Addr) (cdv ct : Value) (us its : List Value), us.length = n → its.length = dn →
    ∃ k, bindArgs (PySem.W.fnOf x qual params body scope (.ref T) kV doc pm an cdv ct) ⟨us, []⟩ = seqItems? (.ref T) >>= k ∧ k (some its.toArray) = pure (ps.zip (us ++ its.drop j))
theorem fr_of (F1 : FunD K x qual params body scope [] [] f fd) (ok : FnOk P w K mg base (L2.CX P w) k f fd ps sp) (bd : BindN x qual params body scope ps) : F.Fr P w K mg base k f sp :=
  (FnOk.raw ok (F1.bindsN bd) .nil).imp (fun vs H Q E h => by rw [List.append_nil]; exact h)
theorem _root_.L2.FunD.kb {ks : List Str} (F1 : FunD K x qual params body scope [] [] f fd) (e : ks = ps)
    (h : ∀ (kV doc pm : Value) (an : Option Addr) (cdv ct : Value) (us ws : List Value), (us ++ ws).length = ps.length → bindArgs (PySem.W.fnOf x qual params body scope .none kV doc pm an cdv ct) ⟨us, ks.zip ws⟩ = pure (ps.zip (us ++ ws))) :
    KBinds K fd ps ks (fun us ws => us ++ ws) (fun vs zs => vs ++ zs) := by
  obtain ⟨oc, od, dV, kV, doc, pm, an, cdv, ct, osl, rfl, lk, hcd, hD, hK⟩ := F1.ex
  rcases hD with ⟨_, rfl⟩ | ⟨e, _⟩
  · exact ⟨fun s us ws X hl => .of_eq (h kV doc pm an cdv ct us ws hl), fun r1 r2 => r1.append r2⟩
  · exact absurd rfl e
/-- the last values are the defaults behind the first j -/
theorem fr_dfl (F1 : FunD K x qual params body scope dvs [] f fd) (ok : FnOk P w K mg base (L2.CX P w) k f fd ps sp) (n j : Nat) (hd : dvs ≠ []) (hn : n + (dvs.length - j) = ps.length) (h : BindD x qual params body scope ps n j dvs.length) :
    F.Fr P w K mg base k f (fun vs H Q E => sp (vs ++ dvs.drop j) H Q E) := by
  obtain ⟨ds, r, b⟩ := F1.binds1 n j hd hn h
  exact FnOk.raw ok b r
/-- all values given -/
theorem fr_full (F1 : FunD K x qual params body scope dvs [] f fd) (ok : FnOk P w K mg base (L2.CX P w) k f fd ps sp) (hd : dvs ≠ []) (h : BindD x qual params body scope ps ps.length dvs.length dvs.length) : F.Fr P w K mg base k f sp :=
  (fr_dfl F1 ok ps.length dvs.length hd (by omega) h).imp fun vs H Q E z => by
    rw [List.drop_length, List.append_nil]
    exact z
end
/-! ### own == -/
section
variable {X : Cx} {n : Nat} {C f : Addr} {R : Addr → Addr → Hp → Prop}
theorem rcG_insR (G : F.Fr X.prog X.w X.K X.mg X.base n f (spEq R)) (o : OwnM X.K C "__eq__" f) : RcG X n (DIns C R) := by
  intro A pins s σ H x y u v sb I rx ry d
  obtain ⟨a, b, dx, dy, fs, gs, rfl, rfl, ha, hb', hr⟩ := d
  cases rx
  cases ry
  obtain ⟨mA, J, _⟩ := ins_get I.hok ha
  obtain ⟨mB, J', _⟩ := ins_get I.hok hb'
  obtain ⟨od, J, _⟩ := J.look
  obtain ⟨od', J', _⟩ := J'.look
  obtain ⟨m, hF⟩ := I.fr
  refine PySem.W.cmp_K (op := .Eq) (tb := .ref C) sb.room.units0 hF I.ok.mod.kin J J'.type (by simp [PySem.W.notFirst]) o.at_ o.fn ?_
  have hsp : spEq R [.ref a, .ref b] H (fun v H' => v = .bl true ∧ Ext H H') E0 := ⟨a, b, rfl, hr, fun H' e => ⟨rfl, e⟩⟩
  have e0 : Env0 X.prog X.w X.K X.mg X.base A X.stack s H := by
    have e := I.env0
    exact ⟨by rw [sb.fr]; exact e.frames, e.mod, e.bs, e.bsz, e.funs, e.frf, e.hok, e.bare⟩
  refine wpAny_call (codeAny_mono (G A X.stack s H [.ref a, .ref b] [.ref a, .ref b] _ E0 sb.room e0 (.cons rfl (.cons rfl .nil)) hsp) fun r s' hq => ?_)
  cases r with
  | error e => exact passE pins σ H s e s' I hq
  | ok fl =>
    cases fl with
    | ret w =>
      obtain ⟨z, H', I', rz, ez, ex⟩ := I.after hq
      subst ez
      cases rz
      exact ⟨rfl, H', I', ex⟩
    | next => exact False.elim hq
    | brk => exact False.elim hq
    | cont => exact False.elim hq
theorem eqG_insR (G : F.Fr X.prog X.w X.K X.mg X.base n f (spEq R)) (o : OwnM X.K C "__eq__" f) : EqG X n (DIns C R) := (rcG_insR G o).eqG fun _ _ _ d => let ⟨a, b, _, _, _, _, hx, hy, _⟩ := d; ⟨a, b, hx, hy⟩
end
/-! ### the keys of a dict -/
section
variable {H H' : Hp} {d : Addr} {u f : HO}
theorem unlock (hd : H d = some u) (s : Same (upd H d f) H') : Same H (upd H' d u) := fun b o h => by
  by_cases e : b = d
  · subst e
    rw [upd_same]
    rw [hd] at h
    exact h
  · rw [upd_ne e]
    exact s b o (by rw [upd_ne e]; exact h)
theorem unlock_at (hd : H d = some u) (hD : H p = none) (h : H' p = some o) : upd H' d u p = some o := by
  rw [upd_ne (fun e => by rw [e, hd] at hD; cases hD)]
  exact h
end
section
variable {K : PySem.W.Frag} {H : Hp} {d : Addr} {kvs : List (Key × V)} {ns : List Int} {σ : L2.St} {Q : VK} {td : TE} {i : Nat}
theorem nth_set : ∀ {σ : Sl} {i : Nat} {v : V}, i < σ.length → nth (σ.set i (some v)) i = some v
  | [], _, _, h => by simp at h
  | _ :: _, 0, _, _ => rfl
  | _ :: r, i + 1, v, h => nth_set (σ := r) (by simpa using h)
/-- [int(one) for one in d] -/
theorem keysInt (hd : H d = some (.dK kvs)) (hk : kvs.map (fun kv => kV kv.1) = ns.map V.int) (hn : kvs.length ≤ 1000000) (hi : i < σ.length) (htd : ∀ od R, R (.ref d) (upd H d (.frz od (.dK kvs))) → td σ (upd H d (.frz od (.dK kvs))) R)
    (k : ∀ p H', Same H H' → H' p = some (.lst (ns.map V.int)) → Q (.ref p) H') :
    ∃ d u, H d = some u ∧ Mut (some u) ∧ ∀ od, tLc (iKeys td) (gName i) tYes (tCB rIntF (tCons (fVar i) tNil)) [i] σ (upd H d (.frz od u)) fun v H' => H' d = some (.frz od u) ∧ Q v (upd H' d u) := by
  refine ⟨d, _, hd, True.intro, fun od => ?_⟩
  unfold tLc iKeys
  refine htd od _ ⟨d, od, rfl, .inl ⟨kvs, upd_same, fun D hD => ?_⟩⟩
  refine lcW (walk_keys (d := d) (o := od) (kvs := kvs)) (fun i v _ => ∃ a, ns[i]? = some a ∧ v = V.int a) hn hD (fun H' s => s _ _ upd_same) (fun _ _ _ _ _ z => z) ?_ gm_name ?_
  · rintro j x H1 H2 acc Nx hj s hd' ⟨rfl, k0, v0, hk0, rfl⟩ nx
    have e1 : (kvs.map fun kv => kV kv.1)[j]? = some (kV k0) := by rw [List.getElem?_map, hk0]; rfl
    rw [hk, List.getElem?_map] at e1
    obtain ⟨a, ha, e2⟩ := Option.map_eq_some_iff.mp e1
    have e3 : wipe ((wipe σ [i]).set i (some (kV k0))) [i] = wipe σ [i] := by
      show ((σ.set i none).set i (some (kV k0))).set i none = σ.set i none
      rw [List.set_set, List.set_set]
    refine ⟨e3, ?_⟩
    show fVar i ((σ.set i none).set i (some (kV k0))) _ _
    rw [List.set_set]
    unfold fVar
    rw [nth_set hi, ← e2]
    exact nx _ _ (Same.refl _) ⟨a, ha, rfl⟩
  · intro ys H1 hl hy s hD'
    have hl2 : ys.length = ns.length := by
      rw [hl]
      have := congrArg List.length hk
      simpa using this
    have e := ys_get (l := ns) (f := V.int) hl2 hy
    rw [e] at hD'
    refine ⟨s _ _ upd_same, k D _ (unlock hd s) (unlock_at hd ?_ hD')⟩
    rw [upd_ne (fun e => by rw [e, upd_same] at hD; cases hD)] at hD
    exact hD
end
/-! ### comparisons as tests; in a dict -/
section
variable {X : Cx} {a b : Expr} {ta tb : TE} {pos : Pos} {op : CmpOp} {r : R2}
theorem t_cmp (ho : OpR X (compareOp op) r) (ha : PE X a ta) (hb : PE X b tb) (hm : behindInMarks op b = false) : PT X (.Compare a [op] [b] pos) (fB (tOp r ta tb)) := by
  refine ⟨fun pins s σ H Q I h => ?_⟩
  refine wpAny_isTrue_Compare1 (thn (ha.run pins s σ H _ I h) fun v s1 ⟨x, H1, I1, r1, q1⟩ => thn (hb.run pins s1 σ H1 _ I1 q1) fun u s2 ⟨y, H2, I2, r2, q2⟩ =>
    thn (ho pins s2 σ H2 x y v u _ I2 r1 r2 q2) fun c s3 ⟨z, H3, I3, r3, q3⟩ => ?_) hm
  cases z with
  | bl k =>
    cases r3
    exact wpAny_truthy_bool ⟨H3, I3, q3⟩
  | _ => exact q3.elim
def rInK : R2 := fun x y H Q => match y with
  | .ref d => ∃ o, DGet H d x o ∧ Q (.bl o.isSome) H
  | _ => False
def rNotInK : R2 := fun x y H Q => match y with
  | .ref d => ∃ o, DGet H d x o ∧ Q (.bl (!o.isSome)) H
  | _ => False
theorem o_inK (hu : X.A.units + 1 < cLine) : OpR X (compareOp .In) rInK := by
  intro pins s σ H x y v u Q I rx ry h
  cases y with
  | ref d =>
    obtain ⟨o, g, q⟩ := h
    obtain rfl : u = Value.ref d := ry
    exact d_in hu I g rx fun s3 I3 => ⟨.bl o.isSome, H, I3, rfl, q⟩
  | _ => exact h.elim
theorem o_notInK (hu : X.A.units + 1 < cLine) : OpR X (compareOp .NotIn) rNotInK := by
  intro pins s σ H x y v u Q I rx ry h
  cases y with
  | ref d =>
    obtain ⟨o, g, q⟩ := h
    obtain rfl : u = Value.ref d := ry
    exact d_notIn hu I g rx fun s3 I3 => ⟨.bl (!o.isSome), H, I3, rfl, q⟩
  | _ => exact h.elim
end
end F
set_option maxHeartbeats 2000000
/-! F10: heaps the same but at one place; fields; instances made. -/
namespace F
open PySem PySem.Spec PyProof.Rows L2
section
variable {H H1 H2 H' : Hp} {a p x dx D : Addr} {o o' : HO} {C : Addr}
/-- all objects kept but what stands at a -/
def SB (a : Addr) (H H' : Hp) : Prop := ∀ b o, b ≠ a → H b = some o → H' b = some o
theorem sb_refl : SB a H H := fun _ _ _ h => h
theorem SB.trans (s : SB a H H1) (t : SB a H1 H2) : SB a H H2 := fun b o n h => t b o n (s b o n h)
theorem sb_same (s : Same H H') : SB a H H' := fun b o _ h => s b o h
theorem sb_upd : SB a H (upd H a o) := fun b o n h => by
  rw [upd_ne n]
  exact h
theorem SB.upd (s : SB a H H1) : SB a H (L2.upd H1 a o) := s.trans sb_upd
theorem SB.same (s : SB a H H1) (t : Same H1 H2) : SB a H H2 := s.trans (sb_same t)
theorem SB.new (s : SB a H H1) (hp : H1 p = none) : SB a H (L2.upd H1 p o) := s.same (snew hp)
/-- what stands elsewhere -/
theorem SB.at (s : SB a H H1) (h : H p = some o) (h0 : H a = some o') (n : o ≠ o') : H1 p = some o := s p o (fun e => n (by rw [e, h0] at h; exact (Option.some.inj h).symm)) h
theorem SB.at2 (s : SB a H H1) (h : H p = some o) (n : p ≠ a) : H1 p = some o := s p o n h
theorem SB.free (s : SB a H H1) (n : p ≠ a) (h : H1 p = none) : H p = none := by
  cases e : H p with
  | none => rfl
  | some o => rw [s p o n e] at h; cases h
theorem same_of_sb (s : SB a H H') (h : H' a = some o) (h0 : H a = some o) : Same H H' := fun b u q => by
  by_cases e : b = a
  · subst e
    rw [h0] at q
    rw [h, q]
  · exact s b u e q
/-- .. with a new one at a -/
theorem SB.fresh (s : SB a H H') (h0 : H a = none) : Same H H' := fun b u q => s b u (fun e => by rw [e, h0] at q; cases q) q
/-- from a new instance's heap back to the elder -/
theorem SB.made (s : SB x (L2.upd (L2.upd H dx (.own x)) x (.ins C dx [])) H') (hx : H x = none) (hdx : H dx = none) : Same H H' := fun b u q => by
  have n1 : b ≠ x := fun e => by rw [e, hx] at q; cases q
  have n2 : b ≠ dx := fun e => by rw [e, hdx] at q; cases q
  refine s b u n1 ?_
  rw [upd_ne n1, upd_ne n2]
  exact q
end
section
variable {f g : Str} {v : V} {fs : List (Str × V)} {n : Nat}
theorem lf0 : ([] : List (Str × V)).length ≤ 0 := Nat.le_refl _
theorem lf (h : fs.length ≤ n) : (putF f v fs).length ≤ n + 1 := Nat.le_trans (length_putF _ _ _) (Nat.succ_le_succ h)
theorem lk_here : (putF f v fs).lookup f = some v := by rw [lookup_putF, if_pos rfl]
theorem lk_next {r : Option V} (ne : g ≠ f) (h : fs.lookup g = r) : (putF f v fs).lookup g = r := by rw [lookup_putF, if_neg ne]; exact h
end
end F
set_option maxHeartbeats 2000000
/-! F11: dicts from whole numbers to objects, as tables; sorted walks over them; either a list or a tuple. -/
namespace F
open PySem PySem.Spec PyProof.Rows L2
section
variable {α β : Type} {k : α → Int} {c : α → β} {ts us : List (Addr × α)} {t u : Addr × α} {n : Int} {H H' : Hp} {d : Addr}
def keysT (k : α → Int) (ts : List (Addr × α)) : List Int := ts.map fun t => k t.2
def kvT (k : α → Int) (ts : List (Addr × α)) : List (Key × V) := ts.map fun t => (.inl (k t.2), .ref t.1)
/-- the dict at d -/
structure Tab (k : α → Int) (H : Hp) (d : Addr) (ts : List (Addr × α)) : Prop where
  at_ : H d = some (.dK (kvT k ts))
  nd : (keysT k ts).Nodup
theorem Tab.same (h : Tab k H d ts) (s : Same H H') : Tab k H' d ts := ⟨s _ _ h.at_, h.nd⟩
theorem Tab.sb {a : Addr} (h : Tab k H d ts) (s : SB a H H') (n : d ≠ a) : Tab k H' d ts := ⟨s _ _ n h.at_, h.nd⟩
theorem tab_nil (h : H d = some (.dK [])) : Tab k H d [] := ⟨h, List.nodup_nil⟩
theorem kvT_len : (kvT k ts).length = ts.length := List.length_map ..
theorem kvT_keys : (kvT k ts).map (fun kv => kV kv.1) = (keysT k ts).map V.int := by
  unfold kvT keysT
  rw [List.map_map, List.map_map]
  rfl
theorem val_some : ∀ {ts : List (Addr × α)}, (keysT k ts).Nodup → ∀ {t}, t ∈ ts → valV (kvT k ts) (Sum.inl (k t.2) : Key) = some (.ref t.1)
  | [], _, _, h => by simp at h
  | u :: r, nd, t, h => by
    have nd2 : (k u.2 :: keysT k r).Nodup := nd
    rw [List.nodup_cons] at nd2
    by_cases e : u = t
    · subst e
      exact valV_pos (p := ((Sum.inl (k u.2) : Key), V.ref u.1)) rfl
    · have hr : t ∈ r := by
        rcases List.mem_cons.mp h with h | h
        · exact absurd h.symm e
        · exact h
      have ne : ¬ (Sum.inl (k u.2) : Key) = (Sum.inl (k t.2) : Key) := fun z => nd2.1 (by
        rw [Sum.inl.inj z]
        exact List.mem_map.mpr ⟨t, hr, rfl⟩)
      show valV ((.inl (k u.2), .ref u.1) :: kvT k r) (.inl (k t.2)) = _
      rw [valV_neg ne]
      exact val_some nd2.2 hr
theorem val_none : ∀ {ts : List (Addr × α)}, n ∉ keysT k ts → valV (kvT k ts) (Sum.inl n : Key) = none
  | [], _ => rfl
  | u :: r, h => by
    have h1 : n ∉ k u.2 :: keysT k r := h
    simp only [List.mem_cons, not_or] at h1
    show valV ((.inl (k u.2), .ref u.1) :: kvT k r) (.inl n) = _
    rw [valV_neg (fun z => h1.1 (Sum.inl.inj z).symm)]
    exact val_none h1.2
theorem Tab.get (h : Tab k H d ts) (ht : t ∈ ts) : DGet H d (.int (k t.2)) (some (.ref t.1)) := by
  rw [← val_some h.nd ht]
  exact DGet.k (k := .inl (k t.2)) h.at_
theorem mem_keysT : n ∈ keysT k ts ↔ ∃ t, t ∈ ts ∧ k t.2 = n := List.mem_map
theorem Tab.has (h : Tab k H d ts) (n : Int) : ∃ o, DGet H d (.int n) o ∧ (o.isSome = true ↔ n ∈ keysT k ts) := by
  refine ⟨_, DGet.k (k := .inl n) h.at_, ?_⟩
  by_cases e : n ∈ keysT k ts
  · obtain ⟨t, ht, rfl⟩ := mem_keysT.mp e
    rw [val_some h.nd ht]
    exact ⟨fun _ => e, fun _ => rfl⟩
  · rw [val_none e]
    exact Iff.intro (fun z => absurd z (by decide)) fun z => absurd z e
open Classical in
/-- in its place, or at the end -/
noncomputable def putT (k : α → Int) (ts : List (Addr × α)) (t : Addr × α) : List (Addr × α) := if k t.2 ∈ keysT k ts then ts.map fun u => if k u.2 = k t.2 then t else u else ts ++ [t]
theorem any_keys : ((kvT k ts).any fun kv => decide (kv.1 = .inl n)) = true ↔ n ∈ keysT k ts := by
  unfold kvT keysT
  rw [List.any_map, List.any_eq_true, List.mem_map]
  constructor
  · rintro ⟨u, hu, e⟩
    exact ⟨u, hu, Sum.inl.inj (of_decide_eq_true e)⟩
  · rintro ⟨u, hu, e⟩
    exact ⟨u, hu, decide_eq_true (congrArg Sum.inl e)⟩
theorem kvT_put : putK (kvT k ts) (.inl (k t.2)) (.ref t.1) = kvT k (putT k ts t) := by
  unfold putK putT
  by_cases e : k t.2 ∈ keysT k ts
  · rw [if_pos (any_keys.mpr e), if_pos e]
    unfold kvT
    rw [List.map_map, List.map_map]
    refine List.map_congr_left fun u _ => ?_
    show (if (Sum.inl (k u.2) : Key) = .inl (k t.2) then _ else _) = _
    by_cases q : k u.2 = k t.2
    · rw [if_pos (congrArg Sum.inl q)]
      show _ = (Sum.inl (k (if k u.2 = k t.2 then t else u).2), V.ref (if k u.2 = k t.2 then t else u).1)
      rw [if_pos q]
      show ((Sum.inl (k u.2) : Key), V.ref t.1) = _
      rw [q]
    · rw [if_neg fun z => q (Sum.inl.inj z)]
      show _ = (Sum.inl (k (if k u.2 = k t.2 then t else u).2), V.ref (if k u.2 = k t.2 then t else u).1)
      rw [if_neg q]
  · rw [if_neg fun z => e (any_keys.mp z), if_neg e]
    unfold kvT
    rw [List.map_append]
    rfl
theorem keys_put : keysT k (putT k ts t) = if k t.2 ∈ keysT k ts then keysT k ts else keysT k ts ++ [k t.2] := by
  unfold putT
  by_cases e : k t.2 ∈ keysT k ts
  · rw [if_pos e, if_pos e]
    unfold keysT
    rw [List.map_map]
    refine List.map_congr_left fun u _ => ?_
    show k (if k u.2 = k t.2 then t else u).2 = _
    by_cases q : k u.2 = k t.2
    · rw [if_pos q, q]
    · rw [if_neg q]
  · rw [if_neg e, if_neg e]
    unfold keysT
    rw [List.map_append]
    rfl
theorem put_nd (h : (keysT k ts).Nodup) : (keysT k (putT k ts t)).Nodup := by
  rw [keys_put]
  split
  · exact h
  · rename_i e
    rw [List.nodup_append]
    refine ⟨h, by simp, fun a ha b hb z => ?_⟩
    simp at hb
    subst hb
    rw [z] at ha
    exact e ha
theorem put_len : (putT k ts t).length ≤ ts.length + 1 := by
  unfold putT
  split
  · rw [List.length_map]
    omega
  · rw [List.length_append]
    simp
theorem mem_put {u : Addr × α} (h : u ∈ putT k ts t) : u = t ∨ u ∈ ts := by
  unfold putT at h
  split at h
  · obtain ⟨v, hv, e⟩ := List.mem_map.mp h
    by_cases q : k v.2 = k t.2
    · rw [if_pos q] at e
      exact .inl e.symm
    · rw [if_neg q] at e
      subst e
      exact .inr hv
  · rcases List.mem_append.mp h with h | h
    · exact .inr h
    · exact .inl (by simpa using h)
theorem put_mem : t ∈ putT k ts t := by
  unfold putT
  split
  · rename_i e
    obtain ⟨u, hu, q⟩ := mem_keysT.mp e
    exact List.mem_map.mpr ⟨u, hu, if_pos q⟩
  · simp
theorem put_old {u : Addr × α} (h : u ∈ ts) (n : k u.2 ≠ k t.2) : u ∈ putT k ts t := by
  unfold putT
  split
  · exact List.mem_map.mpr ⟨u, h, if_neg n⟩
  · exact List.mem_append_left _ h
/-- what the table tells -/
def conT (c : α → β) (ts : List (Addr × α)) : List β := ts.map fun t => c t.2
theorem mem_conT {y : β} : y ∈ conT c ts ↔ ∃ t, t ∈ ts ∧ c t.2 = y := List.mem_map
theorem con_put (inj : ∀ u, u ∈ ts → k u.2 = k t.2 → c u.2 = c t.2) (y : β) : y ∈ conT c (putT k ts t) ↔ y ∈ conT c ts ∨ y = c t.2 := by
  rw [mem_conT, mem_conT]
  constructor
  · rintro ⟨u, hu, rfl⟩
    rcases mem_put hu with rfl | hu
    · exact .inr rfl
    · exact .inl ⟨u, hu, rfl⟩
  · rintro (⟨u, hu, rfl⟩ | rfl)
    · by_cases q : k u.2 = k t.2
      · exact ⟨t, put_mem, (inj u hu q).symm⟩
      · exact ⟨u, put_old hu q, rfl⟩
    · exact ⟨t, put_mem, rfl⟩
theorem Tab.put (h : Tab k H d ts) (hl : ts.length < sizeLine) : DPut H d (.int (k t.2)) (.ref t.1) (upd H d (.dK (kvT k (putT k ts t)))) ∧ Tab k (upd H d (.dK (kvT k (putT k ts t)))) d (putT k ts t) := by
  refine ⟨?_, ⟨upd_same, put_nd h.nd⟩⟩
  rw [← kvT_put]
  exact DPut.k (k := .inl (k t.2)) h.at_ (by rw [kvT_len]; exact hl)
/-- the table's items in the order of their keys -/
theorem Tab.sorted (h : Tab k H d ts) {ms : List Int} (hp : ms.Perm (keysT k ts)) (hs : ms.Pairwise (· ≤ ·)) :
    ∃ us : List (Addr × α), us.map (fun u => k u.2) = ms ∧ (∀ u, u ∈ us ↔ u ∈ ts) ∧ us.Pairwise (fun a b => k a.2 < k b.2) ∧ us.length = ts.length := by
  have nd : ms.Nodup := hp.nodup_iff.mpr h.nd
  have lt : ms.Pairwise (· < ·) := by
    have := hs.and nd
    exact this.imp fun {a b} z => by have := z.1; have := z.2; omega
  have ex : ∀ ms' : List Int, (∀ m, m ∈ ms' → m ∈ keysT k ts) → ∃ us : List (Addr × α), us.map (fun u => k u.2) = ms' ∧ ∀ u, u ∈ us → u ∈ ts := by
    intro ms'
    induction ms' with
    | nil => exact fun _ => ⟨[], rfl, fun u hu => by simp at hu⟩
    | cons m r ih =>
      intro hm
      obtain ⟨us, e, hu⟩ := ih fun x hx => hm x (List.mem_cons_of_mem _ hx)
      obtain ⟨t, ht, q⟩ := mem_keysT.mp (hm m List.mem_cons_self)
      refine ⟨t :: us, by rw [List.map_cons, e, q], fun u z => ?_⟩
      rcases List.mem_cons.mp z with rfl | z
      · exact ht
      · exact hu u z
  obtain ⟨us, e, hu⟩ := ex ms fun m hm => hp.mem_iff.mp hm
  refine ⟨us, e, fun u => ⟨hu u, fun z => ?_⟩, ?_, ?_⟩
  rotate_left
  rotate_left
  · have := hp.length_eq
    rw [← e] at this
    unfold keysT at this
    simpa using this
  · have : k u.2 ∈ ms := hp.mem_iff.mpr (mem_keysT.mpr ⟨u, z, rfl⟩)
    rw [← e] at this
    obtain ⟨v, hv, q⟩ := List.mem_map.mp this
    have hvt := hu v hv
    have g1 := val_some h.nd z
    have g2 := val_some h.nd hvt
    -- the same key stands once
    have : v = u := by
      have nodup_inj : ∀ {l : List (Addr × α)}, (keysT k l).Nodup → ∀ {a b}, a ∈ l → b ∈ l → k a.2 = k b.2 → a = b := by
        intro l
        induction l with
        | nil => intro _ a b ha; simp at ha
        | cons x r ih =>
          intro nd a b ha hb q
          have nd2 : (k x.2 :: keysT k r).Nodup := nd
          rw [List.nodup_cons] at nd2
          rcases List.mem_cons.mp ha with ea | ha <;> rcases List.mem_cons.mp hb with eb | hb
          · rw [ea, eb]
          · exact absurd (mem_keysT.mpr ⟨b, hb, by rw [← q, ea]⟩) nd2.1
          · exact absurd (mem_keysT.mpr ⟨a, ha, by rw [q, eb]⟩) nd2.1
          · exact ih nd2.2 ha hb q
      exact nodup_inj h.nd hvt z q
    rw [← this]
    exact hv
  · rw [← e] at lt
    exact List.pairwise_map.mp lt
end
theorem con_take {α β : Type} {c : α → β} {ps : List (Addr × α)} {i : Nat} {t : Addr × α} (h : ps[i]? = some t) (y : β) : y ∈ conT c (ps.take (i + 1)) ↔ y ∈ conT c (ps.take i) ∨ y = c t.2 := by
  unfold conT
  rw [List.take_add_one, h, List.map_append, List.mem_append]
  simp
/-- two strictly sorted lists of the same members -/
theorem sorted_ext {α : Type} (f : α → Int) : ∀ {l m : List α}, l.Pairwise (fun a b => f a < f b) → m.Pairwise (fun a b => f a < f b) → (∀ x, x ∈ l ↔ x ∈ m) → l = m
  | [], [], _, _, _ => rfl
  | [], b :: m, _, _, h => by have := (h b).mpr List.mem_cons_self; simp at this
  | a :: l, [], _, _, h => by have := (h a).mp List.mem_cons_self; simp at this
  | a :: l, b :: m, hl, hm, h => by
    rw [List.pairwise_cons] at hl hm
    have e : a = b := by
      rcases List.mem_cons.mp ((h a).mp List.mem_cons_self) with z | z
      · exact z
      · rcases List.mem_cons.mp ((h b).mpr List.mem_cons_self) with y | y
        · exact y.symm
        · have := hl.1 b y
          have := hm.1 a z
          omega
    subst e
    rw [sorted_ext f hl.2 hm.2 fun x => ?_]
    constructor
    · intro hx
      rcases List.mem_cons.mp ((h x).mp (List.mem_cons_of_mem _ hx)) with z | z
      · subst z
        have := hl.1 x hx
        omega
      · exact z
    · intro hx
      rcases List.mem_cons.mp ((h x).mpr (List.mem_cons_of_mem _ hx)) with z | z
      · subst z
        have := hm.1 x hx
        omega
      · exact z
theorem merge_app {α : Type} {k : α → Int} : ∀ (more acc : List (Addr × α)), (keysT k (acc ++ more)).Nodup → mergeK (kvT k acc) (kvT k more) = kvT k (acc ++ more)
  | [], acc, _ => by rw [List.append_nil]; rfl
  | t :: r, acc, h => by
    have h2 : (keysT k (acc ++ [t] ++ r)).Nodup := by rw [List.append_assoc]; exact h
    have hn : k t.2 ∉ keysT k acc := fun z => by
      unfold keysT at h z
      rw [List.map_append, List.nodup_append] at h
      exact h.2.2 _ z _ (List.mem_cons_self) rfl
    have e : putK (kvT k acc) (Sum.inl (k t.2)) (.ref t.1) = kvT k (acc ++ [t]) := by
      rw [putK_new _ (val_none hn)]
      unfold kvT
      rw [List.map_append]
      rfl
    show mergeK (putK (kvT k acc) (Sum.inl (k t.2)) (.ref t.1)) (kvT k r) = _
    rw [e, merge_app r (acc ++ [t]) h2, List.append_assoc]
    rfl
theorem merge_nil {α : Type} {k : α → Int} {ts : List (Addr × α)} (h : (keysT k ts).Nodup) : mergeK [] (kvT k ts) = kvT k ts := merge_app ts [] h
/-! ### a list or a tuple -/
section
variable {X : Cx} {tg l : Expr} {tl : TE} {wi wi' : TI}
theorem PI.or (h : PI X tg l wi) (h' : PI X tg l wi') : PI X tg l (fun σ H R => wi σ H R ∨ wi' σ H R) := ⟨fun pins s σ H R I z => z.elim (fun z => h.run pins s σ H R I z) fun z => h'.run pins s σ H R I z⟩
def iSeq (K : PySem.W.Frag) (tl : TE) : TI := fun σ H R => tl σ H fun x H1 => match x with
  | .ref a => ∃ xs, (SqL K H1 a xs ∨ SqT K H1 a xs) ∧ ∀ J G, Walk J xs.length G (YAt xs) → (∀ H', (∀ o, H1 a = some o → (∀ kvs, o ≠ .dK kvs) → H' a = some o) → G H') → R J H1
  | _ => False
theorem pi_seq (hl : PE X l tl) : PI X tg l (iSeq X.K tl) := by
  refine ⟨fun pins s σ H R I h => ?_⟩
  refine thn (hl.run pins s σ H _ I h) fun v s1 ⟨x, H1, I1, r1, q1⟩ => ?_
  cases x with
  | ref a =>
    obtain ⟨xs, hq, k⟩ := q1
    cases r1
    have fp : ∀ b ∈ [s1.heap.objs.size], H1 b = none ∧ FpOk X pins H1 b := fun b hb => by
      have e : b = s1.heap.objs.size := by simpa using hb
      subst e
      exact ⟨I1.hok.fresh (Nat.le_refl _), I1.fpOk (Nat.le_refl _) (I1.hok.fresh (Nat.le_refl _))⟩
    rcases hq with hq | hq
    · obtain ⟨its, rv, p, hz⟩ := I1.list hq
      refine wpAny_pyIter_list p.isList ?_
      exact ⟨s1.heap.objs.size, [s1.heap.objs.size], _, _, H1, rfl, I1.kept (t' := s1.toks) fun b o e => Heap.get?_push_of_some _ e, turn_list a _, ⟨_, Heap.get?_push_size _ rfl, rfl, rfl⟩, fun b hb => (fp b hb).2, k _ _ (walk_list (xs := xs)) fun H' g => hq.elim (fun z => z.elim (fun z => .inl (.inl (g _ z fun _ e => by cases e))) fun ⟨o, z⟩ => .inl (.inr ⟨o, g _ z fun _ e => by cases e⟩)) .inr⟩
    · obtain ⟨its, rv, p, hz⟩ := I1.tuple hq
      refine wpAny_pyIter_tuple (show s1.heap.IsTuple a its.toArray from p) ?_
      exact ⟨s1.heap.objs.size, [s1.heap.objs.size], _, _, H1, rfl, I1.kept (t' := s1.toks) fun b o e => Heap.get?_push_of_some _ e, turn_tuple a _, ⟨_, Heap.get?_push_size _ rfl, rfl, rfl⟩, fun b hb => (fp b hb).2, k _ _ (walk_tup (xs := xs)) fun H' g => hq.elim (fun z => z.elim (fun z => .inl (.inl (g _ z fun _ e => by cases e))) fun ⟨o, z⟩ => .inl (.inr ⟨o, g _ z fun _ e => by cases e⟩)) .inr⟩
  | _ => exact q1.elim
end
/-! ### targets that are tuples -/
def fGNil : TGs := fun vs σ H Q => match vs with
  | [] => Q σ H
  | _ => False
def fGCons (t : TG) (u : TGs) : TGs := fun vs σ H Q => match vs with
  | v :: r => t v σ H fun σ' H' => u r σ' H' Q
  | [] => False
def fGTup (K : PySem.W.Frag) (n : Nat) (t : TGs) : TG := fun v σ H Q => match v with
  | .ref a => ∃ xs, SqT K H a xs ∧ xs.length = n ∧ t xs σ H Q
  | _ => False
section
variable {X : Cx}
theorem upG {e : Expr} {g g' : TG} (h : PG X e g) (m : ∀ v σ H Q, g' v σ H Q → g v σ H Q) : PG X e g' := ⟨fun pins s σ H v u Q I r z => h.run pins s σ H v u Q I r (m _ _ _ _ z)⟩
theorem upGs {es : List Expr} {g g' : TGs} (h : PGs X es g) (m : ∀ v σ H Q, g' v σ H Q → g v σ H Q) : PGs X es g' := ⟨fun pins s σ H v u Q I r z => h.run pins s σ H v u Q I r (m _ _ _ _ z)⟩
theorem fgs_nil : PGs X [] fGNil := upGs pgs_nil fun v σ H Q h => by
  cases v with
  | nil => exact ⟨rfl, h⟩
  | cons a b => exact h.elim
theorem fgs_cons {e : Expr} {es : List Expr} {t : TG} {u : TGs} (h1 : PG X e t) (h2 : PGs X es u) (hs : (assignEach (e :: es) X.env).map (·.2) = assign e X.env :: (assignEach es X.env).map (·.2) := by rfl) : PGs X (e :: es) (fGCons t u) :=
  upGs (pgs_cons h1 h2 hs) fun v σ H Q h => by
    cases v with
    | nil => exact h.elim
    | cons a b => exact ⟨a, b, rfl, h⟩
theorem fg_tup {es : List Expr} {k : Nat} {t : TGs} {n : Nat} {pos : Pos} (hc : X.calm = true) (h : PGs X es t)
    (hn : (assignEach es X.env).length = n := by rfl) (hst : (assignEach es X.env).findIdx? (·.1) = none := by rfl) : PG X (.Tuple es k pos) (fGTup X.K n t) :=
  upG (pg_tup hc h hn hst) fun v σ H Q h => by
    cases v with
    | ref a =>
      obtain ⟨xs, a1, a2, a3⟩ := h
      exact ⟨_, xs, rfl, a1, a2, a3⟩
    | _ => exact h.elim
end
/-! ### d[k], d[k] = v -/
section
variable {X : Cx} {o i value : Expr} {td ty tv : TE} {j : Nat} {pos pos' : Pos}
theorem e_dget (hr : Room j X.A) (ho : PE X o td) (hi : PE X i ty) (hs : NoSl i := by exact fun _ _ => rfl) : PE X (.Subscript o i pos) (tDGet td ty) := pe_dget (hu_of hr) ho hi hs
end
/-! ### readings with K named (within comprehensions) -/
section
variable {X : Cx} {K : PySem.W.Frag} {e a : Expr} {ta : TE} {f x : Str} {p pos : Pos}
theorem k_fld (K : PySem.W.Frag) (he : PE X e ta) (hK : X.K = K := by rfl) (hb : attributeBase e f X.env (eval e X.env) = eval e X.env := by rfl) : PE X (.Attribute e f pos) (fFld K ta f) := by
  subst hK
  exact e_fld he hb
theorem k_ixT (K : PySem.W.Frag) (hK : X.K = K := by rfl) : IxR X (rIxTF K) := by
  subst hK
  exact ixT
theorem k_ixL (K : PySem.W.Frag) (hK : X.K = K := by rfl) : IxR X (rIxLF K) := by
  subst hK
  exact ixL
theorem kk_len (K : PySem.W.Frag) (hm : X.mg "len" = none) (ha : PE X a ta) (hK : X.K = K := by rfl) (hg : Gl X "len" := by rfl) (hs : starEach (a :: []) X.env = (false, eval a X.env) :: starEach [] X.env := by rfl) : PE X (.Call (.Name "len" p) [a] [] pos) (tCB (rLenF K) (tCons ta tNil)) := by
  subst hK
  exact e_len hm ha hg hs
theorem k_add (K : PySem.W.Frag) (hK : X.K = K := by rfl) : OpR X (binaryOp .Add) (rAddF K) := by
  subst hK
  exact o_add
theorem kg_tup (K : PySem.W.Frag) {es : List Expr} {k : Nat} {t : TGs} {n : Nat} (hc : X.calm = true) (h : PGs X es t) (hK : X.K = K := by rfl)
    (hn : (assignEach es X.env).length = n := by rfl) (hst : (assignEach es X.env).findIdx? (·.1) = none := by rfl) : PG X (.Tuple es k pos) (fGTup K n t) := by
  subst hK
  exact fg_tup hc h hn hst
end
def fJoined (ts : List TE) : TE := fun σ H Q => tJs ts Str.empty σ H fun out H1 => Q (.str out) H1
theorem e_joined {X : Cx} {v1 v2 : Expr} {rest : List Expr} {ts : List TE} {pos : Pos} (h : PJ X (v1 :: v2 :: rest) ts) : PE X (.JoinedStr (v1 :: v2 :: rest) pos) (fJoined ts) := pe_joined h
theorem gm_t2 {K : PySem.W.Frag} {i j : Nat} : ∀ x σ H (P P' : L2.St → Hp → Prop), (∀ σ2 H2, P σ2 H2 → P' σ2 H2) → fGTup K 2 (fGCons (gName i) (fGCons (gName j) fGNil)) x σ H P → fGTup K 2 (fGCons (gName i) (fGCons (gName j) fGNil)) x σ H P' := fun x σ H P P' k h => by
  cases x with
  | ref a =>
    obtain ⟨xs, h1, h2, h3⟩ := h
    refine ⟨xs, h1, h2, ?_⟩
    match xs, h2, h3 with
    | [u, v], _, h3 => exact k _ _ h3
  | _ => exact h.elim
/-- the results told one by one -/
theorem ys_ex {α : Type} {f : α → V} {P : Nat → α → Prop} : ∀ {ys : List V} , (∀ (i : Nat) y, ys[i]? = some y → ∃ a, P i a ∧ y = f a) → ∃ l : List α, ys = l.map f ∧ ∀ (i : Nat) a, l[i]? = some a → P i a := by
  intro ys
  induction ys generalizing P with
  | nil => exact fun _ => ⟨[], rfl, fun i a h => by simp at h⟩
  | cons y r ih =>
    intro h
    obtain ⟨a, pa, e⟩ := h 0 y rfl
    obtain ⟨l, e2, hl⟩ := ih (P := fun i => P (i + 1)) fun i z hz => h (i + 1) z (by simpa using hz)
    refine ⟨a :: l, by rw [e, e2]; rfl, fun i b hb => ?_⟩
    cases i with
    | zero =>
      simp at hb
      subst hb
      exact pa
    | succ i => exact hl i b (by simpa using hb)
theorem ite_p {p : Prop} [Decidable p] {A B : Prop} (h1 : p → A) (h2 : ¬ p → B) : if decide p = true then A else B := by
  by_cases h : p
  · rw [if_pos (decide_eq_true h)]
    exact h1 h
  · rw [if_neg (by rw [decide_eq_false h]; decide)]
    exact h2 h
/-- two tuples joined, neither empty -/
def rCatT (K : PySem.W.Frag) : R2 := fun x y H Q => match x, y with
  | .ref a, .ref b => ∃ xs ys, SqT K H a xs ∧ SqT K H b ys ∧ (xs.isEmpty = false ∧ ys.isEmpty = false ∧ xs.length + ys.length ≤ 1000) ∧ ∀ p, H p = none → Q (.ref p) (upd H p (.tup (xs ++ ys)))
  | _, _ => False
theorem k_catT (K : PySem.W.Frag) {X : Cx} (hK : X.K = K := by rfl) : OpR X (binaryOp .Add) (rCatT K) := by
  subst hK
  exact upR op_catA fun x y H Q h => by
    unfold rCatT at h
    split at h
    · obtain ⟨xs, ys, h1, h2, ⟨h3, h4, h5⟩, h6⟩ := h
      refine ⟨_, _, xs, ys, rfl, rfl, h1, h2, Nat.le_trans h5 (by decide), fun e => ?_, fun _ e => ?_, fun _ _ => h6⟩
      · rw [e] at h3
        cases h3
      · rw [e] at h4
        cases h4
    · exact h.elim
/-! ### objects in lists -/
theorem con_sorted {α β : Type} {c : α → β} {k : α → Int} {kk : β → Int} {us : List (Addr × α)} (e : ∀ z, k z = kk (c z)) (h : us.Pairwise fun a b => k a.2 < k b.2) : (conT c us).Pairwise fun a b => kk a < kk b := by
  unfold conT
  rw [List.pairwise_map]
  exact h.imp fun {a b} z => by rw [e, e] at z; exact z
theorem mem_con_congr {α β : Type} {c : α → β} {us ts : List (Addr × α)} (h : ∀ u, u ∈ us ↔ u ∈ ts) (x : β) : x ∈ conT c us ↔ x ∈ conT c ts := by
  rw [mem_conT, mem_conT]
  exact ⟨fun ⟨t, a, b⟩ => ⟨t, (h t).mp a, b⟩, fun ⟨t, a, b⟩ => ⟨t, (h t).mpr a, b⟩⟩
theorem con_at {α β : Type} {c : α → β} {us vs : List (Addr × α)} (e : conT c us = conT c vs) {i : Nat} {u v : Addr × α} (h1 : us[i]? = some u) (h2 : vs[i]? = some v) : c u.2 = c v.2 := by
  have := congrArg (·[i]?) e
  unfold conT at this
  simp only [List.getElem?_map, h1, h2, Option.map_some] at this
  exact Option.some.inj this
theorem ref_at {α : Type} {us : List (Addr × α)} {i : Nat} {x : V} (h : (us.map fun t => V.ref t.1)[i]? = some x) : ∃ u, us[i]? = some u ∧ x = .ref u.1 := by
  rw [List.getElem?_map] at h
  cases e : us[i]? with
  | none => rw [e] at h; cases h
  | some u => rw [e] at h; exact ⟨u, rfl, (Option.some.inj h).symm⟩
end F
set_option maxHeartbeats 2000000
/-! F12: what the tests say; the end for promises with exceptions. -/
namespace F
open PySem PySem.Spec PyProof.Rows L2
/-- the end of a law, promises over L2.CX -/
theorem walk_end {l : PySem.W.OpenLaw} {n k : Nat} {q : Program} {loose : List Str} {XP : (Str → Option Value) → Heap → Prop} {YP : World → Heap → Prop} {d : DefRec} {x : Str}
    (hn : l.most = some n) (hn2 : n ≤ sizeLine) (hdf : d.params.defaults = []) (hr : Room k callerA)
    (F : ∀ (w : World) (mg : Str → Option Value) (fa : Addr) (h : Heap), YP w h → h.Ns mainGlobals mg → mg d.name = some (.ref fa) → ∃ (K : PySem.W.Frag) (fd : FuncData) (sp : Sp), K.In h ∧
        (∀ (s : Shared) (u : Value), BindsTo s fd ⟨[u], []⟩ [(x, u)]) ∧
        (∀ (H : Hp) (a : Addr) (ns : List Int), ns.length ≤ n → SqL K H a (ns.map V.int) → sp [.ref a] H (fun v _ => v = .bl true) fun _ _ _ => False) ∧
        ∀ base : Heap, FnOk l.prog w K mg base (L2.CX l.prog w) k fa fd [x] sp) :
    PySem.W.WalkO q loose XP YP l.row.toRowW d [] (fun f vs => PySem.call f vs) := by
  refine Att.attach_call hn hdf fun w z0 z1 mg mb fa o pm cd doc a vs ns Gd Yd _ _ _ hm hob hin hle hge => ?_
  obtain ⟨K, fd, sp, KX, hb, hs, hF⟩ := F w mg fa _ Yd Gd.T.g hm
  refine law_call KX Gd.T.g Gd.T.b Gd.T.builtins Gd.T.nolimit hge hob hin (Nat.le_trans hle hn2) hr (fun base _ _ => hF base) hb (fun H _ hS => hs H a ns hle hS) fun H e s' z => ?_
  obtain ⟨_, _, _, _, _, _, _, _, _, _, _, _, k⟩ := z
  exact k
theorem allB {l : List Bool} (h : l.all id = true) (i : Nat) {b : Bool} (e : l[i]? = some b := by rfl) : b = true := List.all_eq_true.mp h b (List.mem_of_getElem? e)
theorem gloB_ok {K : PySem.W.Frag} {h0 : Heap} {mg : Str → Option Value} (X0 : K.In h0) (G0 : h0.Ns mainGlobals mg) {x : Str} (h : gloB K x (He.ga K x) = true) : mg x = some (.ref (He.ga K x)) := He.glo_ok X0 G0 h
theorem clsB_ok {K : PySem.W.Frag} {C : Addr} (h : clsB K C = true) : Cls K C := ⟨(He.ba h).1, (He.ba (He.ba h).2).1, (He.ba (He.ba (He.ba h).2).2).1, He.eqO_ok (He.ba (He.ba (He.ba h).2).2).2⟩
theorem noatB_ok {K : PySem.W.Frag} {C : Addr} {f : Str} (h : noatB K C f = true) : NoAttr K C f := He.eqO_ok h
theorem methB_ok {K : PySem.W.Frag} {C : Addr} {m : Str} {a : Addr} (h : methB K C m a = true) : Meth K C m a := ⟨He.eqO_ok (He.ba h).1, (He.ba (He.ba h).2).1, (He.ba (He.ba h).2).2⟩
theorem mkrB_ok {K : PySem.W.Frag} {C a : Addr} (h : mkrB K C a = true) : Mk K C a := ⟨(He.ba h).1, He.eqO_ok (He.ba (He.ba h).2).1, (He.ba (He.ba (He.ba h).2).2).1, (He.ba (He.ba (He.ba h).2).2).2⟩
theorem isCB_ok {K : PySem.W.Frag} {C : Addr} (h : (isCB K C && clsB K C) = true) : IsC K C := by
  obtain ⟨h1, h2⟩ := He.ba h
  unfold isCB at h1
  exact ⟨clsB_ok h2, He.eqO_ok (allB h1 0), He.eqO_ok (allB h1 1), of_decide_eq_true (allB h1 2), of_decide_eq_true (allB h1 3), of_decide_eq_true (allB h1 4), of_decide_eq_true (allB h1 5), of_decide_eq_true (allB h1 6), of_decide_eq_true (allB h1 7), of_decide_eq_true (allB h1 8)⟩
theorem creadB_ok {K : PySem.W.Frag} {C : Addr} (h : creadB K C = true) : ClX.CRead K C (.type "type") := ⟨(He.ba h).1, He.eqO_ok (He.ba h).2⟩
theorem cvalB_ok {K : PySem.W.Frag} {C : Addr} {f : Str} {v : V} (h : cvalB K C f v = true) : ∃ u, ClX.CVal K C (.type "type") f v u := by
  unfold cvalB at h
  split at h
  · rename_i u e
    exact ⟨u, e, He.relB_ok h⟩
  · cases h
theorem neB_ok {K : PySem.W.Frag} {C : Addr} (h : neB K C = true) : NeC K C := ⟨He.eqO_ok (He.ba h).1, of_decide_eq_true (He.ba h).2⟩
theorem fmB_ok {K : PySem.W.Frag} {C : Addr} (h : fmB K C = true) : FmtC K C := ⟨He.eqO_ok (He.ba h).1, of_decide_eq_true (He.ba h).2⟩
theorem propB_ok {K : PySem.W.Frag} {C : Addr} {m : Str} (h : propB K C m (He.ma K C m) = true) : PropOf K C m (He.ma K C m) (He5.wf K C "property" m) := by
  unfold propB at h
  refine ⟨He.eqO_ok (allB h 0), He.eqO_ok (allB h 1), of_decide_eq_true (allB h 2), ?_⟩
  have h3 := allB h 3
  unfold He5.wf
  split at h3
  · rename_i f r e
    exact ⟨r, by rw [e]⟩
  · cases h3
theorem tup0B_ok {K : PySem.W.Frag} {a : Addr} (h : tup0B K a = true) (H : Hp) : SqT K H a [] := by
  unfold tup0B at h
  split at h
  · rename_i c d its n sl e
    obtain ⟨h1, h2⟩ := He.ba h
    obtain rfl := of_decide_eq_true h1
    obtain rfl := of_decide_eq_true h2
    exact .inr ⟨_, _, n, e, rfl, rfl, by decide, .nil⟩
  · cases h
theorem noLimB_ok {K : PySem.W.Frag} (h : noLimB K = true) : NoLim K := He.eqO_ok h
end F
set_option maxHeartbeats 2000000
/-! E1: an own exception over ValueError (through own classes) whose __init__ says super().__init__(text) and then stores its parameters. -/
namespace F
open PySem PySem.Spec PyProof.Rows PySem.HandSPX
/-- self.x = x, in the order of the names -/
inductive Sets : List Stmt → List Str → Prop where
  | nil : Sets [] []
  | cons {x : Str} {q1 q2 q3 q4 : Pos} {r : List Stmt} {xs : List Str} (h : Sets r xs) : Sets (.Assign [.Attribute (.Name "self" q1) x q2] (.Name x q3) q4 :: r) (x :: xs)
/-- super().__init__(msg) -/
inductive SupInit : Stmt → Prop where
  | mk {msg : Str} {k : Nat} {p0 p1 p2 p3 p4 p5 p6 : Pos} (hl : (p2.endLine == p5.line) = true) : SupInit (.Expr (.Call (.Attribute (.Call (.Name "super" p0) [] [] p1) "__init__" p2) [.Constant (.str msg) k p3] [] p5) p6)
/-- what the written part says of an own exception class at C and of its __init__ -/
structure BadTxt (prog : Program) (K : PySem.W.Frag) (mg : Str → Option Value) (C : Addr) (x : Str) (fs : List Str) : Prop where
  gC : mg x = some (.ref C)
  oex : L2.OexC K C
  noN : ∀ f ∈ fs, PySem.W.findIn K (.ref C) f = some none
  veC : PySem.W.subIn K (.ref C) (.type "ValueError") = some true
  me : PySem.W.mroIn K C (.ref C) = some true
  sup : PySem.W.ks_superIn K C C "__init__" = some (some (.builtin "ValueError.__init__"))
  sg : PySem.W.nsIn K mainGlobals "super" = some none
  tp : PySem.W.nsIn K cStatics "thirdparty.any" = some none
  iC : ∃ fI, PySem.W.findIn K (.ref C) "__init__" = some (some (.ref fI)) ∧ PySem.W.typeIn K (.ref fI) = some (.type "function") ∧
    ∃ (oc : Value) (od : Option Addr) (qual : Str) (params : Arguments) (st : Stmt) (rest : List Stmt) (scope : Scope) (doc pm : Value) (an : Option Addr) (cda cc : Addr) (ct : Value) (osl : Array (Option Value)),
      K.lookup fI = some ⟨oc, od, .func (PySem.W.ksFn "__init__" qual params (st :: rest) scope .none .none doc pm an (.ref cda) ct cc), osl⟩ ∧ PySem.W.codeIn K (.ref cda) qual = true ∧ SupInit st ∧ Sets rest fs ∧
      (∃ ccl cdd vs ccs file tf, K.lookup cda = some ⟨ccl, cdd, .fields vs, ccs⟩ ∧ vs[2]? = some (.str file tf) ∧ ((prog.main.file : Str) == file) = true) ∧ (∃ cl cld csl, K.lookup cc = some ⟨cl, cld, .cell (some (.ref C)), csl⟩) ∧
      (∃ p0, (params.posonlyargs ++ params.args).head? = some p0 ∧ p0.arg = ("self" : Str)) ∧ scope.kind = .function ∧ scope.isCoroutine = false ∧ scope.isGenerator = false ∧ (∀ y ∈ scope.names, y.2 ≠ .cell) ∧
      scope.names.lookup ("super" : Str) = some .globalImplicit ∧ scope.names.lookup ("__class__" : Str) = some .free ∧ (∀ y ∈ (("self" : Str) :: fs), scope.names.lookup y = some .local ∧ (y == ("__debug__" : Str)) = false) ∧ (("self" : Str) :: fs).Nodup ∧ fs ≠ [] ∧ fs.length ≤ 20 ∧
      ∀ (us : List Value) (s : Shared), us.length = fs.length + 1 → BindsTo s (PySem.W.ksFn "__init__" qual params (st :: rest) scope .none .none doc pm an (.ref cda) ct cc) ⟨us, []⟩ ((("self" : Str) :: fs).zip us)
  top : (prog.main.scope.names.lookup ("super" : Str)).isSome = false
section
open PySem.W PySem.Calls
variable {prog : Program} {w : World} {A : Around} {E : Value → Shared → Prop} {s : Shared} {K : PySem.W.Frag} {mg mb : Str → Option Value} {C x fI cda cc t0 : Addr} {st : Stmt} {body : List Stmt} {qual : Str} {params : Arguments} {scope : Scope} {L : Addr} {m : Str → Option Value} {pa : Arg}
  {oc : Value} {od : Option Addr} {doc pm ct : Value} {an : Option Addr} {osl : Array (Option Value)} {bd : List Stmt} {ccl cl : Value} {cdd cld : Option Addr} {vs : Array Value} {ccs csl : Array (Option Value)} {file : Str} {tf : Tok}
theorem mw_call {u e : Addr} {rest : List Value} {Q : Value → Shared → Prop} {h : Heap} {g : Array GenState} {d : Drawn} {t : Nat} {os : OsState} (T : L2.OexC K C) (X : K.In h) (he : h.get? e = some (HandSPX.excO C t0)) (hu : h.get? u = some (kxs_mw "ValueError.__init__" e)) (hrest : rest.length ≤ sizeLine)
    (hq : ∀ h' t1, (∀ b o, b ≠ e → h.get? b = some o → h'.get? b = some o) → h'.get? e = some (HandSPX.excO C t1) → Q .none ⟨h', g, d, t, os⟩) :
    wpAny (model prog w) A (call (.ref u) rest) Q E ⟨h, g, d, t, os⟩ := by
  obtain ⟨nm, q, N, bs, bm, sn, sub, ab, col, dd, k0, k1, k2, k3, k5, hC, hbm⟩ := T.cls
  refine wpAny_call (codeAny_of_tree ?_)
  show wpAny _ A.in1 (callAny (.ref u) ⟨rest, []⟩) _ _ _
  simp only [callAny]
  refine wpAny_bind (wpAny_load hu ?_)
  simp only [kxs_mw, show (Value.type "method-wrapper" == Value.type "method" || Value.type "method-wrapper" == Value.type "builtin_function_or_method" || Value.type "method-wrapper" == Value.type "method-wrapper") = true by decide, if_true]
  refine KFB.if_so (by decide) ?_
  refine wpAny_bind (check_bound_init PySem.F.excBase_ValueError.toExcCallFacts (X _ _ hC) he rfl ?_)
  refine wpAny_bind (wpAny_pure (wpAny_pure ?_))
  refine ⟨plainId_quiet PySem.F.excBase_ValueError.init.plain _, codeAny_builtin PySem.F.excBase_ValueError.initEntry ?_⟩
  exact exc_init_tree (cls := .ref C) (t0 := t0) (dv := none) (c2 := .none) (c3 := .none) (b4 := .bool false) he hrest fun h' k e' _ => hq h' _ k e'
theorem sup_stmt (T : L2.OexC K C) (hst : SupInit st) {Q : Flow → Shared → Prop} (X : K.In s.heap) (hg : s.heap.Ns mainGlobals mg) (hsg : mg "super" = none) (hb : s.heap.Ns builtinsNs mb) (hbs : mb "super" = some (.type "super"))
    (hf : K.lookup fI = some ⟨oc, od, .func (ksFn "__init__" qual params bd scope .none .none doc pm an (.ref cda) ct cc), osl⟩) (hp : (params.posonlyargs ++ params.args).head? = some pa) (hpa : pa.arg = ("self" : Str))
    (hcode : K.lookup cda = some ⟨ccl, cdd, .fields vs, ccs⟩) (hvs : vs[2]? = some (.str file tf)) (hfile : ((prog.main.file : Str) == file) = true) (hcell : K.lookup cc = some ⟨cl, cld, .cell (some (.ref C)), csl⟩)
    (me : mroIn K C (.ref C) = some true) (veC : subIn K (.ref C) (.type "ValueError") = some true) (sup : ks_superIn K C C "__init__" = some (some (.builtin "ValueError.__init__"))) (tp : nsIn K cStatics "thirdparty.any" = some none)
    (hk : scope.kind = .function) (hks : scope.names.lookup ("super" : Str) = some .globalImplicit) (hkc : scope.names.lookup ("__class__" : Str) = some .free) (hka : scope.names.lookup ("self" : Str) = some .local)
    (htop : (prog.main.scope.names.lookup ("super" : Str)).isSome = false) (hns : s.heap.Ns L m) (hv : m "self" = some (.ref x)) (hx : s.heap.get? x = some (HandSPX.excO C t0))
    (hq : ∀ h' tk t1, (∀ b o, b ≠ x → s.heap.get? b = some o → h'.get? b = some o) → h'.get? x = some (HandSPX.excO C t1) → Q .next { s with heap := h', toks := tk }) :
    _root_.PySem.wpAt (model prog w) A (.func body (ksEnv qual scope L fI (.ref cda) cc)) (exec st (ksEnv qual scope L fI (.ref cda) cc)) Q E s := by
  obtain ⟨nm, q, N, bs, bm, sn, sub, ab, col, dd, k0, k1, k2, k3, k5, hC, hbm⟩ := T.cls
  have hcl : clsIn K C = some { name := nm, bases := bs, mro := .ref C :: bm, ns := N, qualname := q, hasDict := true, slotNames := sn, subclasses := sub, abstract := ab, collection := col, hasDel := false } := by unfold clsIn; rw [hC] <;> rfl
  cases hst with
  | @mk msg k p0 p1 p2 p3 p4 p5 p6 hl =>
  have hi : interactive (ksEnv qual scope L fI (.ref cda) cc) = false := by
    unfold interactive
    show (scope.kind == .module && _) = false
    rw [hk]
    rfl
  refine ks_wpAt_Expr_any (hi := hi) (ks_wpAt_MethodCall (pl := L2.plainOf (.Call (.Name "super" p0) [] [] p1) (ksEnv qual scope L fI (.ref cda) cc)) ?_ ?he)
  case he =>
    rw [arm_eval_Call]
    exact congrArg _ (funext fun ov => congrArg _ (funext fun _ => L2.mcall_line rfl hl))
  refine ks_wpAt_super_base (f := fI) (cc := cda) hks hkc (by decide) rfl (X _ _ hf) rfl hp rfl (X _ _ hcode) rfl hvs hfile htop ?_
  refine ks_loadName_global hk hks (loadGlobal_builtin (env := ksEnv qual scope L fI (.ref cda) cc) hg hsg hb hbs ⟨rfl, ?_⟩)
  refine wpAny_loadName_free hk hkc rfl ⟨_, X _ _ hcell, rfl⟩ ?_
  refine wpAny_loadName_local (name := pa.arg) (v := .ref x) hk (by rw [hpa]; exact hka) hns (by rw [hpa]; exact hv) ?_
  refine ks_wpAny_isType_cls (X _ _ hC) rfl ⟨rfl, ?_⟩
  obtain ⟨h0, g, d, tk, os⟩ := s
  refine ks_wpAny_call_super (X _ _ hC) rfl hx rfl (fun c e => by cases e) (looks_mroIn X me) fun h1 e1 k1 => ?_
  have X1 : K.In h1 := X.keeps k1
  have hx1 := k1 _ _ hx
  have hxC : x ≠ C := fun z => by
    have y := X _ _ hC
    rw [← z, hx] at y
    cases y
  have I1 : InstAt h1 x (HandSPX.excO C t0) C none := ⟨hx1, rfl, rfl, trivial⟩
  unfold ks_superIn at sup
  rw [hcl] at sup
  refine kxs_getMethod kxs_ValueError e1 (looks_opaque X1 tp) (l₀ := .ref C :: bm) ?_ rfl X1 sup (I1.type.andThen (looks_subIn X1 veC)) hxC (by decide) ?_
  · exact fun A Q E s k q => wpAny_bind ((looks_clsIn X1 hcl) A _ E s k (wpAny_pure q))
  have he : starEach [.Constant (.str msg) k p3] (ksEnv qual scope L fI (.ref cda) cc) = [(false, eval (.Constant (.str msg) k p3) (ksEnv qual scope L fI (.ref cda) cc))] := rfl
  rw [he]
  refine kxs_callWith (i := "ValueError.__init__") (x := x) rfl (evalArgs_plain (spliced_cons (Constant_str (k := k) (pos := p3) (spliced_nil ⟨?_, ?_⟩))))
  · exact Heap.get?_push_size _ rfl
  refine mw_call (t0 := t0) T (X1.keeps fun b o e => Heap.get?_push_of_some _ e) (Heap.get?_push_of_some _ hx1) (Heap.get?_push_size _ rfl) (by show 1 ≤ sizeLine; decide) fun h2 t1 k2 e2 => ?_
  exact hq h2 _ t1 (fun b o nb e => k2 b o nb (Heap.get?_push_of_some _ (k1 b o e))) e2

/-- a namespace, some names stored -/
def stN (val : Str → Value) : List Str → (Str → Option Value) → Str → Option Value
  | [], m0 => m0
  | f :: r, m0 => stN val r fun y => if y = f then some (val f) else m0 y
theorem ld_local {env : Env} {x : Str} {pos : Pos} {v : Value} {Q : Value → Shared → Prop} {M : Model} (hk : env.scope.kind = .function) (hl : env.scope.names.lookup x = some .local) (hd : (x == ("__debug__" : Str)) = false) (hn : s.heap.Ns env.locals m) (hv : m x = some v) (h : Q v s) : wpAny M A (eval (.Name x pos) env) Q E s :=
  wpAny_Name (wpAny_loadName_local hk hl hn hv h) hd
section
variable {env : Env} {cd : ClassData} {val : Str → Value} {Q : Flow → Shared → Prop}
theorem in_but {K : PySem.W.Frag} {h h' : Heap} {c : Addr} (X : K.In h) (hc : K.lookup c = none) (k : ∀ b o, b ≠ c → h.get? b = some o → h'.get? b = some o) : K.In h' :=
  fun a o e => k a o (fun z => by rw [z, hc] at e; cases e) (X a o e)
theorem in_new {K : PySem.W.Frag} {h : Heap} {c : Addr} (X : K.In h) (hc : h.objs.size ≤ c) : K.lookup c = none := by
  cases e : K.lookup c with
  | none => rfl
  | some o => exact absurd (Heap.lt_size (X _ _ e)) (Nat.not_lt.2 hc)
theorem ns_but {h h' : Heap} {L c : Addr} {m : Str → Option Value} (hn : h.Ns L m) (n : L ≠ c) (k : ∀ b o, b ≠ c → h.get? b = some o → h'.get? b = some o) : h'.Ns L m := by
  obtain ⟨o, es, ep, ho, r⟩ := hn
  exact ⟨o, es, ep, k _ o n ho, r⟩
theorem sets_old {dx : Addr} {fv : Array Value} (nL : env.locals ≠ dx) (hKd : K.lookup dx = none) (hcd : clsIn K C = some cd) (hm : refsVE cd.mro = true) (hh : cd.hasDict = true) (sa : findIn K (.ref C) "__setattr__" = some (some (.builtin "object.__setattr__")))
    (hk : env.scope.kind = .function) (hself : env.scope.names.lookup ("self" : Str) = some .local) (hsv : m "self" = some (.ref x)) (xd : x ≠ dx) :
    ∀ {rest : List Stmt} {fs : List Str}, Sets rest fs → (∀ f ∈ fs, findIn K (.ref C) f = some none ∧ m f = some (val f) ∧ env.scope.names.lookup f = some .local ∧ (f == ("__debug__" : Str)) = false) → ∀ {s : Shared} {m0 : Str → Option Value} {nl : List Str}, K.In s.heap →
      s.heap.Ns env.locals m → s.heap.get? x = some { cls := .ref C, dict := some dx, data := .fields fv } → s.heap.Ns1 dx m0 → Within m0 nl → nl.length + fs.length ≤ 900 →
      (∀ h' tk, (∀ b o, b ≠ dx → s.heap.get? b = some o → h'.get? b = some o) → h'.Ns1 dx (stN val fs m0) → Q .next { s with heap := h', toks := tk }) →
      wpAny (model prog w) A (execs rest env) Q E s
  | _, _, .nil, _, s, m0, nl, _, _, _, hn, _, _, hq => wpAny_execs_nil (hq s.heap s.toks (fun b o _ e => e) hn)
  | _, _, .cons (x := f) (r := r) (xs := xs) hS, hf, s, m0, nl, X, hns, hx, hn, hw, hz, hq => by
    obtain ⟨f1, f2, f3, f4⟩ := hf f List.mem_cons_self
    refine wpAny_execs_cons (plainObj_wpAny_Assign_Attribute (ld_local hk f3 f4 hns f2 (ld_local hk hself (by decide) hns hsv ?_)))
    obtain ⟨oD, _, _, hoD, _, _⟩ := hn.count hw
    obtain ⟨h0, g, d, tk, os⟩ := s
    refine set_plain X (ox := { cls := .ref C, dict := some dx, data := .fields fv }) (od := some oD) ⟨hx, rfl, rfl, hoD⟩ sa ?_
    refine PySem.OEX.osa_old X hx hn hw (by omega) hcd hm hh f1 fun h1 tk1 k1 hn1 => ?_
    show wpAny _ _ (execs r env) _ _ _
    refine sets_old nL hKd hcd hm hh sa hk hself hsv xd hS (fun y hy => hf y (List.mem_cons_of_mem _ hy)) (s := ⟨h1, g, d, tk1, os⟩) (nl := f :: nl) (in_but X hKd k1) (ns_but hns nL k1) (k1 x _ xd hx) hn1 (Within.cons f (val f) hw) (by simp at hz ⊢; omega) fun h2 tk2 k2 hn2 => ?_
    exact hq h2 tk2 (fun b o nb e => k2 b o nb (k1 b o nb e)) hn2
/-- the first one makes the dict -/
theorem sets_new {fv : Array Value} {rest : List Stmt} {fs : List Str} (X : K.In s.heap) (hKx : K.lookup x = none) (hne : fs ≠ []) (hl : fs.length ≤ 20) (hcd : clsIn K C = some cd) (hm : refsVE cd.mro = true) (hh : cd.hasDict = true) (sa : findIn K (.ref C) "__setattr__" = some (some (.builtin "object.__setattr__")))
    (hk : env.scope.kind = .function) (hself : env.scope.names.lookup ("self" : Str) = some .local) (hsv : m "self" = some (.ref x)) (hS : Sets rest fs) (hf : ∀ f ∈ fs, findIn K (.ref C) f = some none ∧ m f = some (val f) ∧ env.scope.names.lookup f = some .local ∧ (f == ("__debug__" : Str)) = false)
    (hns : s.heap.Ns env.locals m) (hx : s.heap.get? x = some { cls := .ref C, data := .fields fv })
    (hq : ∀ h' tk dx, (∀ b o, b ≠ x → s.heap.get? b = some o → h'.get? b = some o) → s.heap.objs.size ≤ dx → dx ≠ x → h'.get? x = some { cls := .ref C, dict := some dx, data := .fields fv } → h'.Ns1 dx (stN val fs fun _ => none) → Q .next { s with heap := h', toks := tk }) :
    wpAny (model prog w) A (execs rest env) Q E s := by
  cases hS with
  | nil => exact absurd rfl hne
  | @cons f q1 q2 q3 q4 r xs hS =>
    obtain ⟨f1, f2, f3, f4⟩ := hf f List.mem_cons_self
    refine wpAny_execs_cons (plainObj_wpAny_Assign_Attribute (ld_local hk f3 f4 hns f2 (ld_local hk hself (by decide) hns hsv ?_)))
    obtain ⟨h0, g, d, tk, os⟩ := s
    have hLx : env.locals ≠ x := fun z => by
      obtain ⟨o, es, ep, ho, hd, _⟩ := hns
      rw [z, hx] at ho
      cases ho
      cases hd
    refine set_plain X (ox := { cls := .ref C, data := .fields fv }) (od := none) ⟨hx, rfl, rfl, trivial⟩ sa ?_
    refine exc_osa X hx hcd hm hh f1 fun h1 tk1 dx k1 dn dne hx1 hn1 => ?_
    show wpAny _ _ (execs r env) _ _ _
    have nK : ∀ b o, h0.get? b = some o → b ≠ dx := fun b o e => Nat.ne_of_lt (Nat.lt_of_lt_of_le (Heap.lt_size e) dn)
    have nLd : env.locals ≠ dx := by
      obtain ⟨o, es, ep, ho, r⟩ := hns
      exact nK _ o ho
    refine sets_old nLd (in_new X dn) hcd hm hh sa hk hself hsv dne.symm hS (fun y hy => hf y (List.mem_cons_of_mem _ hy)) (s := ⟨h1, g, d, tk1, os⟩) (nl := [f]) (in_but X hKx k1) (ns_but hns hLx k1) hx1 hn1 ?_ (by simp at hl ⊢; omega) fun h2 tk2 k2 hn2 => ?_
    · exact Within.cons f (val f) (Within.nil)
    · exact hq h2 tk2 dx (fun b o nb e => k2 b o (nK b o e) (k1 b o nb e)) dn dne (k2 x _ dne.symm hx1) hn2
end
theorem mem_of_lk {β : Type} : ∀ {l : List (Str × β)} {k : Str} {v : β}, l.lookup k = some v → k ∈ l.map (·.1)
  | [], _, _, h => by cases h
  | a :: l, k, v, h => by
    by_cases e : k = a.1
    · subst e; exact List.mem_cons_self
    · have n : (k == a.1) = false := by simpa using e
      rw [show (a :: l).lookup k = l.lookup k by simp [List.lookup, n]] at h
      exact List.mem_cons_of_mem _ (mem_of_lk h)
theorem lookup_rev {β : Type} : ∀ (l : List (Str × β)), (l.map (·.1)).Nodup → ∀ k, l.reverse.lookup k = l.lookup k
  | [], _, _ => rfl
  | a :: l, h, k => by
    obtain ⟨h1, h2⟩ := List.nodup_cons.1 h
    rw [List.reverse_cons, List.lookup_append, lookup_rev l h2 k]
    by_cases e : k = a.1
    · subst e
      have z : l.lookup a.1 = none := by
        cases q : l.lookup a.1 with
        | none => rfl
        | some v =>
          exact absurd (mem_of_lk q) h1
      rw [z]
      simp [List.lookup]
    · have n : (k == a.1) = false := by simpa using e
      simp [List.lookup, n]
theorem zip_keys {α β : Type} : ∀ (xs : List α) (us : List β), us.length = xs.length → (xs.zip us).map (·.1) = xs
  | [], _, _ => by simp
  | x :: xs, [], h => by simp at h
  | x :: xs, u :: us, h => by
    simp only [List.zip_cons_cons, List.map_cons]
    rw [zip_keys xs us (by simpa using h)]
theorem zip_some {β : Type} : ∀ (xs : List Str) (us : List β), us.length = xs.length → ∀ k ∈ xs, ((xs.zip us).lookup k).isSome = true
  | [], _, _, _, h => by cases h
  | x :: xs, [], h, _, _ => by simp at h
  | x :: xs, u :: us, h, k, hk => by
    by_cases e : k = x
    · subst e; simp [List.lookup]
    · have n : (k == x) = false := by simpa using e
      simp only [List.zip_cons_cons, List.lookup, n]
      rcases List.mem_cons.1 hk with z | z
      · exact absurd z e
      · exact zip_some xs us (by simpa using h) k z
/-- the value that the i-th name is given -/
def bv (us : List Value) (fs : List Str) (e : Addr) (y : Str) : Value := (((("self" : Str) :: fs).zip (Value.ref e :: us)).lookup y).getD .none
theorem bad_init {fs : List Str} {h : Heap} {g : Array GenState} {d : Drawn} {t : Nat} {os : OsState} {R : Result → Shared → Prop} {nm : Str} (T : BadTxt prog K mg C nm fs) (O : L2.OexC K C) {e t0 : Addr} {us : List Value} (X : K.In h) (hlim : h.NoLimit) (hg : h.Ns mainGlobals mg) (hsg : mg "super" = none) (hb : h.Ns builtinsNs mb) (hbs : mb "super" = some (.type "super"))
    (he : h.get? e = some (excO C t0)) (hne : K.lookup e = none) (hroom : A.depth < recursionLimit) (hl : us.length = fs.length) (hiC : findIn K (.ref C) "__init__" = some (some (.ref fI)))
    (hq : ∀ h' tk dx t1, (∀ b o, b ≠ e → h.get? b = some o → h'.get? b = some o) → h.objs.size ≤ dx → dx ≠ e → h'.get? e = some { cls := .ref C, dict := some dx, data := .fields #[.ref t1, .none, .none, .none, .bool false, .none] } → h'.Ns1 dx (stN (bv us fs e) fs fun _ => none) → R (.ok (.ret .none)) ⟨h', g, d, tk, os⟩) :
    codeAny (model prog w) A (.call (.ref fI) ⟨.ref e :: us, []⟩) R ⟨h, g, d, t, os⟩ := by
  obtain ⟨f2, i1, i2, oc, od, qual, params, st, rest, scope, doc, pm, an, cda, cc, ct, osl, ho, hcd, hst, hset, ⟨ccl, cdd, vs, ccs, file, tf, hco, hvs, hfile⟩, ⟨cl, cld, csl, hcell⟩, ⟨p0, hp0, hp1⟩, hk, hco2, hgen, hcl, hks, hkc, hloc, hnd, hfs, hf20, hbind⟩ := T.iC
  obtain rfl : f2 = fI := by
    rw [i1] at hiC
    cases hiC
    rfl
  obtain ⟨cnm, q, N, bs, bm, sn, sub, ab, col, dd, k0, k1, k2, k3, k5, hC, hbm⟩ := O.cls
  have hcls : clsIn K C = some { name := cnm, bases := bs, mro := .ref C :: bm, ns := N, qualname := q, hasDict := true, slotNames := sn, subclasses := sub, abstract := ab, collection := col, hasDel := false } := by unfold clsIn; rw [hC] <;> rfl
  have hlen : (Value.ref e :: us).length = (("self" : Str) :: fs).length := by simp [hl]
  have hzk : ((("self" : Str) :: fs).zip (Value.ref e :: us)).map (·.1) = ("self" : Str) :: fs := zip_keys _ _ hlen
  have hm : ∀ y ∈ (("self" : Str) :: fs), ((("self" : Str) :: fs).zip (Value.ref e :: us)).reverse.lookup y = some (bv us fs e y) := fun y hy => by
    rw [lookup_rev _ (by rw [hzk]; exact hnd)]
    have z := zip_some _ _ hlen y hy
    unfold bv
    cases q : ((("self" : Str) :: fs).zip (Value.ref e :: us)).lookup y with
    | none => rw [q] at z; cases z
    | some v => rfl
  have hself : bv us fs e "self" = .ref e := by
    unfold bv
    simp [List.lookup]
  refine ks_codeAny_call_defAt (s := ⟨h, g, d, t, os⟩) (binds := (("self" : Str) :: fs).zip (Value.ref e :: us)) hroom (X _ _ ho) rfl hlim (codeRec_of X hcd) rfl (hbind _ _ (by simp [hl])) (fun y hy => hcl y hy) (fun y hy => (hloc y.1 (hzk ▸ List.mem_map_of_mem hy)).1) (fun h0 hns k => ?_) hco2 hgen hk
  have X0 : K.In h0 := X.keeps k
  have hxL : h.objs.size ≠ e := Nat.ne_of_gt (Heap.lt_size he)
  refine ks_wpAt_execs_cons (sup_stmt (s := ⟨h0, g, d, _, os⟩) (mb := mb) O hst X0 (hg.keeps k) hsg (hb.keeps k) hbs ho hp0 hp1 hco hvs hfile hcell T.me T.veC T.sup T.tp hk hks hkc (hloc _ List.mem_cons_self).1 T.top hns (x := e) (by rw [hm _ List.mem_cons_self, hself]) (k _ _ he) fun h1 tk1 t1 k1 e1 => ?_)
  refine wpAt_of_wpAny ?_
  refine sets_new (s := ⟨h1, g, d, tk1, os⟩) (val := bv us fs e) (in_but X0 hne k1) hne hfs hf20 hcls (show refsVE (.ref C :: bm) = true from hbm) rfl O.sa hk (hloc _ List.mem_cons_self).1 (by show _ = some (Value.ref e); rw [hm _ List.mem_cons_self, hself]) hset (fun f hf => ⟨T.noN f hf, hm f (List.mem_cons_of_mem _ hf), hloc f (List.mem_cons_of_mem _ hf)⟩) (ns_but hns hxL k1) e1 fun h2 tk2 dx k2 dn dne hx2 hn2 => ?_
  have z : h.objs.size ≤ dx := by
    have y : h.objs.size < h0.objs.size := hns.lt
    have y2 : h.objs.size < h1.objs.size := (ns_but hns hxL k1).lt
    exact Nat.le_of_lt (Nat.lt_of_lt_of_le y2 dn)
  exact hq h2 tk2 dx t1 (fun b o nb eo => k2 b o nb (k1 b o nb (k b o eo))) z dne hx2 hn2
theorem bad_made {fs : List Str} {h : Heap} {g : Array GenState} {d : Drawn} {t : Nat} {os : OsState} {R : Result → Shared → Prop} {nm : Str} (T : BadTxt prog K mg C nm fs) (O : L2.OexC K C) {us : List Value} (X : K.In h) (hlim : h.NoLimit) (hg : h.Ns mainGlobals mg) (hsg : mg "super" = none) (hb : h.Ns builtinsNs mb) (hbs : mb "super" = some (.type "super"))
    (hroom : A.depth + 1 < recursionLimit) (hl : us.length = fs.length)
    (hq : ∀ h' tk e dx t1, (∀ b o, h.get? b = some o → h'.get? b = some o) → h.objs.size ≤ e → h.objs.size ≤ dx → dx ≠ e → h'.get? e = some { cls := .ref C, dict := some dx, data := .fields #[.ref t1, .none, .none, .none, .bool false, .none] } → h'.Ns1 dx (stN (bv us fs e) fs fun _ => none) → R (.ok (.ret (.ref e))) ⟨h', g, d, tk, os⟩) :
    codeAny (model prog w) A (.call (.ref C) ⟨us, []⟩) R ⟨h, g, d, t, os⟩ := by
  obtain ⟨cnm, q, N, bs, bm, sn, sub, ab, col, dd, k0, k1, k2, k3, k5, hC, hbm⟩ := O.cls
  obtain ⟨fI, i1, i2, _⟩ := T.iC
  have hf20 : fs.length ≤ 20 := by
    obtain ⟨_, _, _, _, _, _, _, _, _, _, _, _, _, _, _, _, _, _, _, _, _, _, _, _, _, _, _, _, _, _, _, _, _, hf20, _⟩ := T.iC
    exact hf20
  have k : ∀ b o, h.get? b = some o → ((h.push (kdv_tup us)).push (excO C h.objs.size)).get? b = some o := fun b o e => Heap.get?_push_of_some _ (Heap.get?_push_of_some _ e)
  have hget : ((h.push (kdv_tup us)).push (excO C h.objs.size)).get? (h.objs.size + 1) = some (excO C h.objs.size) := by heap_get
  have hus : us.length ≤ sizeLine := by
    have : 20 ≤ sizeLine := by rw [sizeLine_eq]; decide
    omega
  refine call_own PySem.F.excBase_ValueError (fun X => refsVE_contains X bm hbm) (X _ _ hC) (looks_findIn X i1) (fun self => bind_fn X self i2) hus ?_
  refine bad_init T O (X.keeps k) (hlim.keeps k) (hg.keeps k) hsg (hb.keeps k) hbs hget (in_new X (Nat.le_succ _)) (by show A.depth + 1 < recursionLimit; exact hroom) hl i1 fun h' tk' dx t1 k' dn dne hx hns => ?_
  have old : ∀ b o, h.get? b = some o → h'.get? b = some o := fun b o e => k' b o (Nat.ne_of_lt (Nat.lt_succ_of_lt (Heap.lt_size e))) (k b o e)
  have z : h.objs.size + 1 + 1 ≤ dx := by
    first
      | (simpa only [Heap.size_push] using dn)
      | exact dn
      | (have q := dn; rw [Heap.size_push, Heap.size_push] at q; exact q)
  exact ⟨rfl, hq h' tk' (h.objs.size + 1) dx t1 old (Nat.le_succ _) (Nat.le_trans (Nat.le_trans (Nat.le_succ _) (Nat.le_succ _)) z) dne hx hns⟩
end
/-! ### raise C(e, ..) -/
section
open L2
theorem st_in {val : Str → Value} : ∀ (fs : List Str) (m0 : Str → Option Value) (f : Str), stN val fs m0 f = if f ∈ fs then some (val f) else m0 f
  | [], m0, f => by simp [stN]
  | g :: r, m0, f => by
    show stN val r _ f = _
    rw [st_in r]
    by_cases h : f ∈ r
    · rw [if_pos h, if_pos (List.mem_cons_of_mem _ h)]
    · rw [if_neg h]
      by_cases e : f = g
      · rw [if_pos e, e, if_pos List.mem_cons_self]
      · rw [if_neg e, if_neg]
        intro z
        rcases List.mem_cons.1 z with z | z
        · exact e z
        · exact h z
theorem zip_rel : ∀ {fs : List Str} {vs : List V} {us : List Value}, Vals vs us → vs.length = fs.length → ∀ f, RelO ((fs.zip vs).lookup f) ((fs.zip us).lookup f)
  | [], _, _, _, _, f => by simp [RelO]
  | x :: fs, _, _, .nil, h, f => by simp at h
  | x :: fs, _, _, .cons (a := v) (b := u) r rr, h, f => by
    by_cases e : f = x
    · subst e
      simp [List.lookup, RelO]
      exact r
    · have n : (f == x) = false := by simpa using e
      simp only [List.zip_cons_cons, List.lookup, n]
      exact zip_rel rr (by simpa using h) f
theorem zip_none {β : Type} : ∀ (xs : List Str) (us : List β) (k : Str), k ∉ xs → (xs.zip us).lookup k = none
  | [], _, _, _ => by simp
  | x :: xs, [], _, _ => by simp
  | x :: xs, u :: us, k, h => by
    have e : k ≠ x := fun z => h (by rw [z]; exact List.mem_cons_self)
    have n : (k == x) = false := by simpa using e
    simp only [List.zip_cons_cons, List.lookup, n]
    exact zip_none xs us k fun z => h (List.mem_cons_of_mem _ z)
/-- what is known of an own exception class, by its name -/
structure XC (prog : Program) (K : PySem.W.Frag) (mg : Str → Option Value) (nm : Str) (C : Addr) (fs : List Str) : Prop where
  t : BadTxt prog K mg C nm fs
  o : L2.OexC K C
  b : mg "super" = none
def tMkX (C : Addr) (fs : List Str) (ta : TA) : L2.St → Hp → XK → Prop := fun σ H Q => ta σ H fun vs H1 => vs.length = fs.length ∧ ∀ d, H1 d = none → Q (.ref C) (some d) (upd H1 d (.xd (fs.zip vs)))
theorem pmk_x {X : Cx} {C : Addr} {nm : Str} {fs : List Str} {k : Nat} {a : Expr} {as : List Expr} {ta : TA} {p pos : Pos} (T : XC X.prog X.K X.mg nm C fs) (hr : Room k X.A) (ha : PA X (a :: as) ta) (hk : 1 ≤ k := by decide) (hg : Gl X nm := by rfl) (hdb : (nm == ("__debug__" : Str)) = false := by decide)
    (he : starEach (a :: as) X.env = (false, eval a X.env) :: starEach as X.env := by rfl) (hpl : (backTo pos (starEach as X.env)).any (·.1) = false := by rfl) :
    PMk X (.Call (.Name nm p) (a :: as) [] pos) (tMkX C fs ta) := by
  intro pins s σ H Q I h
  refine wpAny_Call_Name_kw (ld_glob I hg T.t.gC ?_ hdb)
  refine PySem.W.callWith_K (h₀ := X.base) I.ok.mod.kin T.o.kC (thn (ha.run pos pins s σ H _ I h) fun us s1 hh => ?_) he hpl
  obtain ⟨vs, H1, I1, r1, hl, q1⟩ := hh
  refine ⟨I1.kIn, ?_⟩
  show wpAny _ _ (call (.ref C) us) _ _ _
  obtain ⟨mb, b1, b2⟩ := I1.mod.blt
  have hlim := I1.nolimit
  have hul : us.length = fs.length := by rw [← hl]; exact r1.length.symm
  have hkI := I1.kIn
  have hglob := I1.mod.glob.keeps I1.bk
  have hblt := b1.keeps I1.bk
  obtain ⟨hp, g, dr, tk, os⟩ := s1
  refine wpAny_call (bad_made T.t T.o hkI hlim hglob T.b hblt ((b2 "super" (by decide)).trans (by rfl)) (by have := hr.dp; omega) hul fun h' tk' e d t1 kp ne nd dne hoe hns => ?_)
  show MkP X pins σ Q (.ref e) ⟨h', g, dr, tk', os⟩
  obtain ⟨_, _, _, _, _, _, _, _, _, _, _, _, _, _, _, _, _, _, _, _, _, _, _, _, _, _, _, _, _, _, _, hnd, _⟩ := T.t.iC
  obtain ⟨G', g1, g2⟩ := restrict h' fun b => decide (b ≠ e)
  have gk : ∀ b, b ≠ e → G'.get? b = h'.get? b := fun b hb => g1 b (decide_eq_true hb)
  have ge : G'.get? e = none := g2 e (by simp)
  have old : ∀ b o, hp.get? b = some o → G'.get? b = some o := fun b o q => (gk b (Nat.ne_of_lt (Nat.lt_of_lt_of_le (Heap.lt_size q) ne))).trans (kp b o q)
  have ob : ObjOk X.prog X.w (upd H1 d (.xd (fs.zip vs))) G' d (.xd (fs.zip vs)) :=
    ⟨_, hns.at (fun o q => (gk d dne).trans q), fun f => by
      rw [st_in]
      by_cases hf : f ∈ fs
      · rw [if_pos hf]
        have z : some (bv us fs e f) = (fs.zip us).lookup f := by
          unfold bv
          have nf : (f == ("self" : Str)) = false := by
            have : f ≠ ("self" : Str) := fun z => (List.nodup_cons.1 hnd).1 (z ▸ hf)
            simpa using this
          simp only [List.zip_cons_cons, List.lookup, nf]
          have := zip_some fs us hul f hf
          cases q : (fs.zip us).lookup f with
          | none => rw [q] at this; cases this
          | some v => rfl
        rw [z]
        exact zip_rel r1 hl f
      · rw [if_neg hf, zip_none _ _ _ hf]
        trivial⟩
  have J : Inv X pins σ (upd H1 d (.xd (fs.zip vs))) ⟨G', g, dr, tk', os⟩ := I1.laid (t' := tk') old nd ob
  refine ⟨e, _, _, ⟨G', g, dr, tk', os⟩, _, .ref C, some d, rfl, J, fun b o q => ?_, ge, hoe, ⟨rfl, rfl⟩, rfl, rfl, ?_, rfl, I1.bare, raises_own T.o.exC T.o.tyC, q1 d (I1.hok.fresh nd)⟩
  · by_cases hb : b = e
    · have q' : G'.get? b = some o := q
      rw [hb, ge] at q'; cases q'
    · exact (gk b hb).symm.trans q
  · rw [upd_ne (Ne.symm dne)]
    exact I1.hok.fresh ne
/-- raise C(e, ..), the exception goes to E -/
def tRaiseX (C : Addr) (fs : List Str) (W : WX) (ta : TA) : TS := fun _ σ H => tMkX C fs ta σ H fun cls d H' => W cls d σ H'
theorem s_raise {X : Cx} {C : Addr} {nm : Str} {fs : List Str} {k : Nat} {a : Expr} {as : List Expr} {ta : TA} {W : WX} {p pos pos2 : Pos} (T : XC X.prog X.K X.mg nm C fs) (hr : Room k X.A) (tk : Takes X W) (ha : PA X (a :: as) ta) (hc : X.calm = true := by rfl) (hk : 1 ≤ k := by decide) (hg : Gl X nm := by rfl) (hdb : (nm == ("__debug__" : Str)) = false := by decide)
    (he : starEach (a :: as) X.env = (false, eval a X.env) :: starEach as X.env := by rfl) (hpl : (backTo pos (starEach as X.env)).any (·.1) = false := by rfl) :
    PS X (.Raise (some (.Call (.Name nm p) (a :: as) [] pos)) none pos2) (tRaiseX C fs W ta) := ps_raise hc tk (pmk_x T hr ha hk hg hdb he hpl)
end
end F
set_option maxHeartbeats 2000000
/-! E2: a caught exception with fields: isinstance, its fields; calls that raise. -/
namespace F
open PySem PySem.Spec PySem.Calls PyProof.Rows PySem.W
section
variable {prog : Program} {w : World} {A : Around} {E : Value → Shared → Prop} {s : Shared} {K : Frag} {x D : Addr} {ox : Obj} {od : Option Obj}
theorem kin_classD {Q : Option Value → Shared → Prop} (C : L2.ExcC K D) (hf : findObj K D od "__class__" = some (.bind (.builtin "getset_descriptor.__get__") (.builtin "object.__class__")))
    (X : K.In s.heap) (I : InstAt s.heap x ox D od) (h : Q (some (.ref D)) { s with toks := s.toks + 1 }) : wpAny (model prog w) A (getAttr? (.ref x) "__class__") Q E s := by
  obtain ⟨hp, g, d, t, os⟩ := s
  have L0 := I.type (M := model prog w)
  have L1 := looks_findIn (M := model prog w) X C.hg
  have L2 := looks_findIn (M := model prog w) X C.hk
  have L3 := looks_find (M := model prog w) X I hf
  have sub : Looks (model prog w) hp (isInstance (.ref x) (.type "BaseException")) true := L0.andThen (looks_subIn X C.hs)
  have hx0 : (false && onTheHeap (Value.builtin "BaseException.__getattribute__")) = false := rfl
  have hx2 : (Value.builtin "BaseException.__getattribute__" == Value.builtin "object.__getattribute__") = false := by decide +kernel
  have hx1 : (onTheHeap (Value.ref D) && Value.builtin "BaseException.__getattribute__" == Value.builtin "object.__getattribute__") = false := by rw [hx2]; rfl
  unfold getAttr? getAttrBy? getAttrBy
  refine wpAny_bind (wpAny_mkText (wpAny_bind (wpAny_attempt (wpAny_holding (wpAny_bind (L0.at (wpAny_bind (L1.at ?_))))))))
  show wpAny _ _ (if (onTheHeap (Value.ref D) && Value.builtin "BaseException.__getattribute__" == Value.builtin "object.__getattribute__") = true then _ else _) _ _ _
  rw [hx1, if_neg Bool.false_ne_true]
  unfold getAttrByItsOwn hookBefore
  refine wpAny_bind ?_
  rw [if_pos (show onTheHeap (Value.ref D) = true from rfl)]
  refine L2.at ?_
  refine wpAny_bind (wpAny_attempt (wpAny_holding ?_))
  unfold callGetattribute
  rw [hx0, if_neg Bool.false_ne_true]
  unfold boundAndCalled
  rw [PySem.F.excAttr_ValueError.ga.bind (.ref x)]
  refine wpAny_bind (wpAny_pure ?_)
  show wpAny _ _ (call (.builtin "BaseException.__getattribute__") [.ref x, .str "__class__" t]) _ _ _
  refine wpAny_call (codeAny_call_builtin PySem.F.excAttr_ValueError.ga.plain PySem.F.entry_bexc_ga ?_)
  refine @check_slot (model prog w) _ _ ⟨hp, g, d, t + 1, os⟩ "BaseException.__getattribute__" "BaseException" "__getattribute__" (.ref x) [.str "__class__" t] [] _ (by decide +kernel) (by decide +kernel) sub (PySem.F.args_bexc_ga (.ref x) (.str "__class__" t)) ?_
  unfold Builtin.«object.__getattribute__»
  refine wpAny_bind (wpAny_of_eq (a := ((Value.ref x : Value), [Value.str "__class__" t])) (by first | rfl | (simp only [slotArgs]; rfl)) ?_)
  refine wpAny_bind (wpAny_pure (wpAny_bind (L0.at (wpAny_bind (L3.at ?_)))))
  show wpAny _ _ (holding [Value.builtin "object.__class__"] (call (.builtin "getset_descriptor.__get__") [.builtin "object.__class__", .ref x, .ref D]) >>= ret) _ _ _
  refine wpAny_bind (wpAny_holding (wpAny_call (class_get (s := ⟨hp, g, d, t + 1, os⟩) (ox := ox) (od := od) X I C.hm ?_)))
  refine wpAny_pure ?_
  show wpAny _ _ (handedOut (.ref D)) _ _ _
  rw [handedOut_of (v := .ref D) rfl]
  first
    | exact wpAny_pure (wpAny_pure h)
    | exact wpAny_pure h
    | exact wpAny_pure (wpAny_bind (wpAny_pure (wpAny_pure h)))
theorem kitx_excD (C : L2.ExcC K D) (hf : findObj K D od "__class__" = some (.bind (.builtin "getset_descriptor.__get__") (.builtin "object.__class__"))) :
    KitX K (.ref x) (.ref D) (fun h => InstAt h x ox D od) where
  ty := fun _ _ _ I => I.type
  it := fun _ _ X _ => by
    obtain ⟨cdD, hcD, _⟩ := any_some C.hd
    unfold clsIn at hcD
    split at hcD
    · rename_i c' d' cd' sl' ho
      intro A' Q' E' s' k q
      unfold isType loadHead
      exact wpAny_bind (wpAny_loadPart (k _ _ (X _ _ ho)) (wpAny_pure q))
    · cases hcD
  ne := fun h tp dd its n sl X htp => by
    obtain ⟨cdD, hcD, _⟩ := any_some C.hd
    refine Bool.eq_false_iff.mpr fun q => ?_
    have e : D = tp := Value.ref.inj (beq_iff_eq.mp q)
    subst e
    unfold clsIn at hcD
    split at hcD
    · rename_i c' d' cd' sl' ho
      have z := (X _ _ ho).symm.trans htp
      cases z
    · cases hcD
  ca := fun X I k => kin_classD C hf X I k
end
open L2
section
variable {X : Cx} {a : Addr} {oe : Obj} {cls : Value} {d : Option Addr} {pn : List (Addr × Obj)} {e : Expr} {te : TE} {p p2 pos : Pos} {x : Str} {Cc : Addr}
/-- isinstance(e, C), e the exception that the suite holds, with fields -/
def tIsX (K : PySem.W.Frag) (a : Addr) (cls : Value) (d : Option Addr) (Cc : Addr) (te : TE) : TE := fun σ H Q => te σ H fun x H1 => x = .ref a ∧ ∃ (D dd : Addr) (fs : List (Str × V)) (b : Bool), cls = .ref D ∧ ExcC K D ∧ d = some dd ∧ H1 dd = some (.xd fs) ∧ PySem.W.kitOne K (.ref D) (.ref Cc) = some b ∧ Q (.bl b) H1
theorem call_isX (hz : Zc cls d oe) (hf : ∃ vs, oe.data = .fields vs) : CallR (X.suite a ((a, oe) :: pn)) (.builtin "isinstance") (fun xs H Q => ∃ (D dd : Addr) (fs : List (Str × V)) (b : Bool), xs = [.ref a, .ref Cc] ∧ cls = .ref D ∧ ExcC X.K D ∧ d = some dd ∧ H dd = some (.xd fs) ∧ PySem.W.kitOne X.K (.ref D) (.ref Cc) = some b ∧ Q (.bl b) H) := by
  intro pins s σ H xs us Q I r h
  obtain ⟨D, dd, fs, b, rfl, rfl, C, rfl, ed, e, q⟩ := h
  cases r with
  | cons rx rr =>
    cases rr with
    | cons rt rr =>
      cases rr
      cases rx
      cases rt
      obtain ⟨hget, _⟩ := I.pin (a, oe) (List.mem_append.mpr (.inl List.mem_cons_self))
      obtain ⟨vs, hv⟩ := hf
      have hx : ObjOk X.prog X.w H s.heap dd (.xd fs) := I.hok dd _ ed
      obtain ⟨mA, hns, hr⟩ := hx
      obtain ⟨od, ho, hl⟩ := lookIn_ns hns
      have J : PySem.W.InstAt s.heap a oe D (some od) := ⟨hget, hz.1, by unfold PySem.W.notCls; rw [hv] <;> rfl, by rw [hz.2]; exact ho⟩
      have hc : (PySem.W.clsIn X.K D).isSome = true := by
        obtain ⟨cd, hc, _⟩ := PySem.W.any_some C.hd
        rw [hc]; rfl
      exact PySem.W.kia_one (kitx_excD C (PySem.W.findObj_data hc C.ha C.hn C.ht)) I.kIn J e (fun z => nomatch z) fun tk => ⟨.bl b, H, I.kept (t' := tk) fun _ _ z => z, rfl, q⟩
def rIsX (K : PySem.W.Frag) (a : Addr) (cls : Value) (d : Option Addr) (Cc : Addr) : List V → Hp → VK → Prop := fun xs H Q => ∃ (D dd : Addr) (fs : List (Str × V)) (b : Bool), xs = [.ref a, .ref Cc] ∧ cls = .ref D ∧ ExcC K D ∧ d = some dd ∧ H dd = some (.xd fs) ∧ PySem.W.kitOne K (.ref D) (.ref Cc) = some b ∧ Q (.bl b) H
theorem e_isX (hz : Zc cls d oe) (hf : ∃ vs, oe.data = .fields vs) (gC : X.mg x = some (.ref Cc)) (hi : X.mg "isinstance" = none) (ha : PE (X.suite a ((a, oe) :: pn)) e te) (hg : Gl X "isinstance" := by rfl) (hg2 : Gl X x := by rfl) (hd : (x == ("__debug__" : Str)) = false := by decide)
    (he : starEach (e :: [.Name x p2]) X.env = (false, eval e X.env) :: starEach [.Name x p2] X.env := by rfl) :
    PE (X.suite a ((a, oe) :: pn)) (.Call (.Name "isinstance" p) [e, .Name x p2] [] pos) (tCB (rIsX X.K a cls d Cc) (tCons te (tCons (tC (.ref Cc)) tNil))) :=
  pe_callB (X := X.suite a ((a, oe) :: pn)) (call_isX hz hf) hg hi (by decide +kernel) (pa_cons ha (pa_cons (pe_glob hg2 gC rfl hd) pa_nil (by rfl)) he) (he := he) (hpl := by rfl)
end
end F
set_option maxHeartbeats 2000000
/-! E3: a list comprehension whose items may raise (by a call). -/
namespace F
open PySem PySem.Spec PySem.Calls PyProof.Rows
section
variable {M : Model} {A : Around} {E : Value → Shared → Prop} {s : Shared} {env : Env}
/-- what is wanted behind a comprehension's block, the frame that its environment notes told -/
def postX (M : Model) (A : Around) (E : Value → Shared → Prop) (use : Option (Value → Sem Unit)) (Q : Value → Shared → Prop) (acc : Value) (C : Addr) (fr : Option Addr) (r : Result) (s' : Shared) : Prop :=
  match r with
  | .ok f => compPost M A E use Q acc C (.ok f) s'
  | .error x => ∃ m, s'.heap.Ns C m ∧ ∀ h', Heap.SameBut C s'.heap h' → ∀ cenv : Env, cenv.frame = fr → wpAny M A (passOn "comprehension.variables-let-go" x cenv : Sem Value) (fun _ _ => False) E { s' with heap := h' }
theorem comp_freeX {e : Expr} {scope : Scope} {pos : Pos} {newAcc first : Sem Value} {g : Comprehension} {gs : List Comprehension} {cl : List (Str × Addr)} {use : Option (Value → Sem Unit)} {Q : Value → Shared → Prop}
    (hcl : clausesOf e = g :: gs) (hs : ∀ x, foldedSetIterable g.iter env x = pure x) (hclos : closureFor scope env = pure cl) (hkind : scope.kind = .function) (hnames : ∀ x ∈ scope.names, x.2 = .local → scope.names.lookup x.1 = some .local)
    (h : wpAny M A first (fun x s₁ => wpAny M A (pyIter x) (fun it s₂ => wpAny M A newAcc (fun acc s₃ =>
      wpAny M A (newFunctionEnv scope env.globals cl [] env.qual none .none (some env)) (fun cenv s₄ =>
        codeAny M A (.compStart e 0 it acc { cenv with scope := relabel scope env }) (postX M A E use Q acc cenv.locals cenv.frame) s₄) E s₃) E s₂) E s₁) E s) :
    wpAny M A (comprehension e scope env pos newAcc false first use) Q E s := by
  unfold comprehension
  rw [hclos, hcl]
  have local_ : ∀ (cenv : Env), ∀ x ∈ (scope.names.filter fun x => (x.2 == .local || x.2 == .cell) && x.1 != (".0" : Str)).reverse, x.2 = .local → Env.kindOf { cenv with scope := relabel scope env } x.1 = some .local :=
    fun cenv x hx hl => lookup_relabel_local (hnames x (List.mem_filter.mp (List.mem_reverse.mp hx)).1 hl)
  refine wpAny_bind (wpAny_mono h (fun x s₁ h₁ => wpAny_bind (wpAny_standAt (wpAny_bind (wpAny_of_eq (hs x) (wpAny_bind (wpAny_holding (wpAny_mono h₁ (fun it s₂ h₂ =>
    wpAny_standIf (wpAny_bind (wpAny_mono h₂ (fun acc s₃ h₃ => wpAny_bind (wpAny_pure (wpAny_bind (wpAny_mono h₃ (fun cenv s₄ h₄ => ?_) fun _ _ z => z)))) fun _ _ z => z)))
      fun _ _ z => z))))))) fun _ _ z => z)
  dsimp only
  have hv := local_ cenv
  refine wpAny_holding (wpAny_bind (wpAny_attempt (wpAny_holding (wpAny_run (codeAny_mono h₄ fun r s' hr => ?_)))))
  cases r with
  | error x =>
    obtain ⟨m, hn, hr⟩ := hr
    exact wpAny_bind (wpAny_holding (wpAny_comp_letGo (cenv := { cenv with scope := relabel scope env }) hkind _ s' m hv hn fun h' m' _ sb => wpAny_mono (hr h' sb _ rfl) (fun _ _ f => f.elim) fun _ _ y => y))
  | ok f =>
    cases use with
    | none =>
      obtain ⟨m, hn, hr⟩ := hr
      exact wpAny_bind (wpAny_holding (wpAny_comp_letGo (cenv := { cenv with scope := relabel scope env }) hkind _ s' m hv hn fun h' m' _ sb => wpAny_pure (hr h' sb)))
    | some u =>
      refine wpAny_bind (wpAny_rule (wpAny_bind (wpAny_holding (wpAny_mono hr (fun _ s2 hr2 => ?_) fun _ _ z => z))))
      obtain ⟨m, hn, hr3⟩ := hr2
      refine wpAny_bind (wpAny_comp_letGo (cenv := { cenv with scope := relabel scope env }) hkind _ s2 m (fun x hx hl => ?_) hn fun h' m' _ sb => wpAny_pure (hr3 h' sb))
      rcases List.mem_append.mp hx with z | z
      · exact hv x (List.mem_of_mem_drop z) hl
      · exact hv x (List.mem_of_mem_take z) hl
end
open L2
section
variable {X : Cx}
theorem note_frame {e : Value} {env env' : Env} (h : env.frame = env'.frame) : noteFrame e env = noteFrame e env' := by
  have z : PySem.frameOf env = PySem.frameOf env' := by
    unfold PySem.frameOf
    rw [h]
  unfold noteFrame
  rw [h, z]
theorem frs_mem {h base : Heap} : ∀ {l : List Env} {b : Addr}, h.FunFrames base l → b ∈ frs l → base.get? b = none ∧ ∃ o, h.get? b = some o ∧ ∀ vs, o.data ≠ .fields vs
  | [], b, _, hb => by cases hb
  | env :: l, b, hh, hb => by
    obtain ⟨hk, ⟨L, o, hf, hbn, ho, hd⟩, hr⟩ := hh
    obtain ⟨e, he, q⟩ := List.mem_filterMap.mp hb
    rcases List.mem_cons.mp he with z | z
    · subst z
      rw [hf] at q
      cases q
      refine ⟨hbn, o, ho, ?_⟩
      first | exact hd | (intro vs z; simp_all)
    · exact frs_mem hr (List.mem_filterMap.mpr ⟨e, z, q⟩)
theorem fun_less {h base base' : Heap} : ∀ {l : List Env}, h.FunFrames base l → (∀ b, base.get? b = none → base'.get? b = none) → h.FunFrames base' l
  | [], _, _ => trivial
  | env :: l, hh, k => by
    obtain ⟨hk, ⟨L, o, hf, hbn, ho, hd⟩, hr⟩ := hh
    exact ⟨hk, ⟨L, o, hf, k _ hbn, ho, hd⟩, fun_less hr k⟩
theorem fun_but {h h' base : Heap} {C : Addr} : ∀ {l : List Env}, h.FunFrames base l → C ∉ frs l → (∀ b, b ≠ C → h'.get? b = h.get? b) → h'.FunFrames base l
  | [], _, _, _ => trivial
  | env :: l, hh, hC, k => by
    obtain ⟨hk, ⟨L, o, hf, hbn, ho, hd⟩, hr⟩ := hh
    have n : L ≠ C := fun z => hC (List.mem_filterMap.mpr ⟨env, List.mem_cons_self, by rw [hf, z]⟩)
    exact ⟨hk, ⟨L, o, hf, hbn, (k L n).trans ho, hd⟩, fun_but hr (fun z => by
      obtain ⟨e, he, q⟩ := List.mem_filterMap.mp z
      exact hC (List.mem_filterMap.mpr ⟨e, List.mem_cons_of_mem _ he, q⟩)) k⟩
/-- an exception of a call in the block: the block's own names go, the def's frame notes it -/
theorem blk_lands {pins pb : List (Addr × Obj)} {σ σ1 : L2.St} {H3 H1 : Hp} {s3 s1 s' : Shared} {scope : Scope} {ce : Env} {fp : List Addr} {W : WX} {E : XK} {e : Value} {use : Option (Value → Sem Unit)} {Qf : Value → Shared → Prop} {acc : Value}
    (hs : X.stack = X.env :: X.outer) (hf : X.env.frame = some X.env.locals) (tk : Takes X W) (hW : ∀ cls d H, E cls d H → W cls d σ H) (I3 : L2.Inv X pins σ H3 s3) (hfp : ∀ b ∈ fp, FpOk X pins H3 b ∧ b < s3.heap.objs.size) (hC : ce.locals = s3.heap.objs.size) (hfr : ce.frame = X.env.frame)
    (I1 : L2.Inv (X.blk s3 H3 scope ce fp) pb σ1 H1 s1) (c : L2.CX X.prog X.w X.stack H1 s1 E e s') :
    notedBy (model X.prog X.w) X.A ce (fun x z => postX (model X.prog X.w) X.A X.xe use Qf acc ce.locals ce.frame (.error x) z) e s' := by
  obtain ⟨a, B, H', cls, d, rfl, fl, hok, ub, na, os, ag, hE⟩ := c
  unfold notedBy
  rw [note_frame hfr]
  have hA : X.A.frames = some (X.env :: X.outer) := by rw [I3.ok.frames, hs]
  have fl0 := fl
  rw [hs] at fl
  refine HandSPX.looks_onZ Zc.steady hA hf fl fun h' hd up => ?_
  -- C: the block's names
  generalize hCe : ce.locals = C at hC
  have C1 : H1 C = none := by rw [← hCe]; exact I1.free
  obtain ⟨m, hn1, _⟩ := I1.loc
  have hn1 : s1.heap.Ns C m := by rw [← hCe]; exact hn1
  obtain ⟨oC, esC, epC, hoC, rC⟩ := hn1
  have nC : C ∉ frs X.stack := fun z => by
    rcases List.mem_cons.mp (I3.stkSub C z) with y | y
    · exact absurd I3.lt (by rw [← y, hC]; exact Nat.lt_irrefl _)
    · exact I3.nofs (Nat.le_of_eq hC.symm) y
  have hBC : B.get? C = some oC := ub.keep C oC hoC C1 nC
  refine ⟨m, ⟨oC, esC, epC, hd.1 C oC hBC, rC⟩, fun h2 sb cenv hcf => ?_⟩
  -- the ground without C
  obtain ⟨B2, b1, b2⟩ := restrict B fun b => decide (b ≠ C)
  have bk : ∀ b, b ≠ C → B2.get? b = B.get? b := fun b hb => b1 b (decide_eq_true hb)
  have bC : B2.get? C = none := b2 C (by simp)
  have bs : ∀ b o, B2.get? b = some o → b ≠ C ∧ B.get? b = some o := fun b o q => by
    by_cases z : b = C
    · rw [z, bC] at q; cases q
    · exact ⟨z, (bk b z).symm.trans q⟩
  have b0 : ∀ b, B.get? b = none → B2.get? b = none := fun b q => by
    by_cases z : b = C
    · rw [z]; exact bC
    · rw [bk b z]; exact q
  have hd2 : HandSPX.HeldZ B2 (X.env :: X.outer) a (Zc cls d) X.env.locals h2 := by
    obtain ⟨g1, g2, g3, oe, vs, T, oT, ts, q1, q2, q3, q4, q5, q6, q7, q8, q9⟩ := hd
    have aC : a ≠ C := fun z => by rw [z, hBC] at g2; cases g2
    have TC : T ≠ C := fun z => by rw [z, hBC] at q5; cases q5
    refine ⟨fun b o q => (sb.2 b (bs b o q).1).trans (g1 b o (bs b o q).2), b0 a g2, fun_less (fun_but g3 (by rw [← hs]; exact nC) sb.2) b0, oe, vs, T, oT, ts, (sb.2 a aC).trans q1, q2, q3, q4, b0 T q5, q6, (sb.2 T TC).trans q7, q8, q9⟩
  obtain ⟨oe, vs, T, oT, ts, q1, q2, q3, q4, q5, q6, q7, q8, q9⟩ := hd2.2.2.2
  unfold PySem.passOn
  refine wpAny_bind (wpAny_field (s := { s' with heap := h2 }) q1 q3 q4 ?_)
  rw [if_neg (show ¬ ((Value.ref T == Value.none) = true) from by simp)]
  rw [hcf, hfr, hf]
  refine wpAny_bind (HandSPX.setFlight_onZ (s := { s' with heap := h2 }) hd2 fun h4 hd4 up4 => wpAny_throw (tk _ _ ?_))
  -- the state without the exception
  obtain ⟨G, g1, g2⟩ := restrict h4 fun b => (B2.get? b).isSome || decide (b ∈ frs X.stack)
  have gB : ∀ b o, B2.get? b = some o → G.get? b = some o := fun b o q => by
    rw [g1 b (by simp [q])]
    exact hd4.1 b o q
  have gF : ∀ b, b ∈ frs X.stack → G.get? b = h4.get? b := fun b hb => g1 b (by simp [hb])
  have og : ∀ b o, G.get? b = some o → h4.get? b = some o ∧ ((B2.get? b).isSome = true ∨ b ∈ frs X.stack) := fun b o q => by
    cases z : ((B2.get? b).isSome || decide (b ∈ frs X.stack)) with
    | false => rw [g2 b z] at q; cases q
    | true =>
      rw [g1 b z] at q
      exact ⟨q, by simpa [Bool.or_eq_true] using z⟩
  have C3 : ∀ b o, s3.heap.get? b = some o → b ≠ C := fun b o q z => by
    have y := Heap.lt_size q
    rw [z, hC] at y
    exact Nat.lt_irrefl _ y
  have C' : H' C = none := ub.free C oC hoC C1
  have hok2 : HOk X.prog X.w H' B2 := fun b o q => (hok b o q).stay (fun y u hy r => (bk y fun z => by
      rcases hy with hy | hy
      · rw [z] at hy; rw [← hy, C'] at q; cases q
      · rw [z, C'] at hy; cases hy).trans r) (fun _ r => r) fun _ _ r => r
  have notf : ∀ b o, b ∈ frs X.stack → s3.heap.get? b = some o → ∀ vs, o.data ≠ .fields vs := fun b o hb q => by
    obtain ⟨_, o', e', hnf⟩ := I3.stack.mem hb
    rw [q] at e'; cases e'
    exact hnf
  have u3 := I1.base
  have un : Un (frs X.stack) fp H3 H' s3.heap G := by
    refine ⟨fun b o q n hb hx => ?_, fun b o q n hb hx => ?_, fun b o q n hx => ?_, fun b o q hx => ?_, fun b xs q => ub.tups b xs (u3.tups b xs q), fun b o u q => ub.frzs b o u (u3.frzs b o u q), fun b ps q => ?_⟩
    · have z := u3.keep b o q n hb hx
      exact gB b o ((bk b (C3 b o q)).trans (ub.keep b o z (u3.free b o q n hx) hb))
    · obtain ⟨sl, z⟩ := u3.slot b o q n hb hx
      obtain ⟨sl2, z2⟩ := ub.slot b _ z hb
      obtain ⟨sl3, z3⟩ := up b _ z2 (notf b o hb q)
      have z4 : h2.get? b = some { o with slots := sl3 } := (sb.2 b fun y => nC (y ▸ hb)).trans z3
      obtain ⟨sl5, z5⟩ := up4 b _ z4 (notf b o hb q)
      exact ⟨sl5, by rw [gF b hb]; exact z5⟩
    · have z := u3.any q n hx
      obtain ⟨sl, z⟩ := z
      exact ub.free b _ z (u3.free b o q n hx)
    · obtain ⟨o1, z⟩ := u3.there b o q hx
      by_cases hb : b ∈ frs X.stack
      · obtain ⟨sl2, z2⟩ := ub.slot b _ z hb
        obtain ⟨_, o0, e0, hnf⟩ := I1.stack.mem hb
        rw [z] at e0; cases e0
        obtain ⟨sl3, z3⟩ := up b _ z2 hnf
        have z4 : h2.get? b = some { o1 with slots := sl3 } := (sb.2 b fun y => nC (y ▸ hb)).trans z3
        obtain ⟨sl5, z5⟩ := up4 b _ z4 hnf
        exact ⟨_, by rw [gF b hb]; exact z5⟩
      · obtain ⟨o', z2⟩ := ub.there b o1 z hb
        exact ⟨o', gB b o' ((bk b (C3 b o q)).trans z2)⟩
    · obtain ⟨more, z⟩ := u3.tbls b ps q
      obtain ⟨more2, z2⟩ := ub.tbls b _ z
      exact ⟨more ++ more2, by rw [z2, Array.append_assoc]⟩
  have J : L2.Inv X pins σ H' { s3 with heap := G, gens := s'.gens, drawn := s'.drawn, toks := s'.toks } := I3.call un (hok2.kept gB) ag fun b hb => ⟨(hfp b hb).1.2.2.2.1, (hfp b hb).1.2.1, (hfp b hb).1.2.2.2.2.1, (hfp b hb).1.2.2.2.2.2⟩
  refine ⟨a, B2, _, pins, σ, H', cls, d, rfl, J, fun b o q hb => ?_, Heap.UpToSlots.of_keeps fun b o q => (og b o q).1, .inr (.inr (by rw [hs]; exact hd4)), na, os.trans I1.os, ag, hW _ _ _ hE⟩
  obtain ⟨e', hh⟩ := og b o q
  rcases hh with hh | hh
  · obtain ⟨o', z⟩ := Option.isSome_iff_exists.mp hh
    have y := hd4.1 b o' z
    rw [e'] at y; cases y
    exact z
  · exact absurd hh hb
/-- [elt for tg in iter if ..], elt may raise by a call: E its promise's wish -/
theorem lc_x {pins : List (Addr × Obj)} {s : Shared} {σ : L2.St} {H : Hp} {Q : VK} {elt tg iter : Expr} {ifs : List Expr} {scope : Scope} {own : List (Str × Nat)} {pos pos' : Pos} {wi : TI} {g : TG} {tt : TT} {te : TE} {use : Option (Value → Sem Unit)} {Qf : Value → Shared → Prop} {W : WX} {E : XK}
    (hc : X.calm = true) (hN : X.N.Nodup) (hs0 : X.stack = X.env :: X.outer) (hf0 : X.env.frame = some X.env.locals) (tk : Takes X W) (hW : ∀ cls d σ H, E cls d H → W cls d σ H) (I : L2.Inv X pins σ H s) (hi : PI X tg iter wi) (ok : BlkOk X.N X.env.scope scope own)
    (hg : ∀ (s : Shared) (H : Hp) (C : Addr) (cl : List (Str × Addr)) (fp : List Addr), PG (X.blk s H scope (compEnvC scope cl C X.env) fp) tg g) (ht : ∀ (s : Shared) (H : Hp) (C : Addr) (cl : List (Str × Addr)) (fp : List Addr), PTs (X.blk s H scope (compEnvC scope cl C X.env) fp) ifs tt)
    (he : ∀ (s : Shared) (H : Hp) (C : Addr) (cl : List (Str × Addr)) (fp : List Addr) (xe : Value → Shared → Prop), Passes (L2.CX X.prog X.w) ((X.blk s H scope (compEnvC scope cl C X.env) fp).wish xe) E → PE ((X.blk s H scope (compEnvC scope cl C X.env) fp).wish xe) elt te)
    (hs : ∀ x, foldedSetIterable iter X.env x = pure x) (h : tLc wi g tt te (own.map (·.2)) σ H Q)
    (hRR : ∀ D C s' m H', L2.Inv X pins σ H' s' → Q (.ref D) H' → s'.heap.Ns C m → FpOk X pins H' C → compPost (model X.prog X.w) X.A X.xe use Qf (.ref D) C (.ok .next) s') :
    wpAny (model X.prog X.w) X.A (comprehension (.ListComp elt [⟨tg, iter, ifs, 0⟩] scope pos) scope X.env pos' (newList []) false (eval iter X.env) use) Qf X.xe s := by
  have hfree : ∀ y ∈ scope.names, y.2 = .free → ∃ c, X.env.cells.lookup y.1 = some c := fun y hy e => (ok.free y hy e).elim (fun k => I.ok.has _ (.inl k)) fun k => I.ok.has _ (.inr k)
  refine comp_freeX (use := use) rfl hs (closure_ok hfree) ok.kind (fun y hy e => by rw [ok.uniq y hy, e])
    (thn (hi.run pins s σ H _ I h) fun xv s1 hx => thn hx fun itv s2 h2 => ?_)
  obtain ⟨it, fp, tn, J, H2, e, I2, T, st2, f2, q⟩ := h2
  subst e
  refine wpAny_newObj_type (newEnv_comp ?_) (by show 0 ≤ sizeLine; decide)
  generalize hD : s2.heap.objs.size = D
  obtain ⟨Wt, ⟨m0, w0⟩, turn⟩ := q D (I2.hok.fresh (Nat.le_of_eq hD))
  generalize hs3 : ({ s2 with heap := s2.heap.push { cls := .type "list", data := .seq ([] : List Value).toArray } } : Shared) = s3
  have h3 : s3.heap = s2.heap.push { cls := .type "list", data := .seq ([] : List Value).toArray } := by rw [← hs3]
  have I3 : L2.Inv X pins σ (upd H2 D (.lst [])) s3 := by
    rw [← hs3]
    refine I2.laid (t' := s2.toks) (fun b o e => Heap.get?_push_of_some _ e) (Nat.le_of_eq hD) ⟨Nat.zero_le _, [], 0, .nil, ?_⟩
    rw [← hD]
    exact Heap.get?_push_size _ rfl
  have f3 : ∀ b ∈ fp, FpOk X pins (upd H2 D (.lst [])) b ∧ b < s3.heap.objs.size := fun b hb => by
    obtain ⟨o, e, _⟩ := T.obj _ _ st2 b hb
    have hlt := Heap.lt_size e
    exact ⟨⟨by rw [upd_ne (by rw [← hD]; exact Nat.ne_of_lt hlt)]; exact (f2 b hb).1, (f2 b hb).2⟩, by rw [h3, Heap.size_push]; exact Nat.lt_succ_of_lt hlt⟩
  have st3 : tn 0 s3.heap := T.keep _ _ _ st2 fun b _ o e => by rw [h3]; exact Heap.get?_push_of_some _ e
  have I4 := block_start I3 ok hN f3
  have pg := hg s3 (upd H2 D (.lst [])) s3.heap.objs.size (cellsFrom (s3.heap.objs.size + 1) scope.names (cloFrom X.env.cells scope.names [])) fp
  have pt := ht s3 (upd H2 D (.lst [])) s3.heap.objs.size (cellsFrom (s3.heap.objs.size + 1) scope.names (cloFrom X.env.cells scope.names [])) fp
  have pe := he s3 (upd H2 D (.lst [])) s3.heap.objs.size (cellsFrom (s3.heap.objs.size + 1) scope.names (cloFrom X.env.cells scope.names [])) fp
  show codeAny _ _ (.compStart (.ListComp elt [⟨tg, iter, ifs, 0⟩] scope pos) 0 (.ref it) (.ref D) (compEnvC scope (cellsFrom (s3.heap.objs.size + 1) scope.names (cloFrom X.env.cells scope.names [])) s3.heap.objs.size X.env))
    (postX (model X.prog X.w) X.A X.xe use Qf (.ref D) s3.heap.objs.size X.env.frame) { s3 with heap := pushCells (s3.heap.push { cls := .type "dict", data := .dict #[] }) scope.names }
  have nfp : ∀ b ∈ fp, (upd H2 D (.lst [])) b = none := fun b hb => (f3 b hb).1.1
  generalize hce : compEnvC scope (cellsFrom (s3.heap.objs.size + 1) scope.names (cloFrom X.env.cells scope.names [])) s3.heap.objs.size X.env = ce at I4 pg pt pe ⊢
  have cL : ce.locals = s3.heap.objs.size := by subst hce; rfl
  have cF : ce.frame = X.env.frame := by subst hce; rfl
  generalize hH3 : upd H2 D (.lst []) = H3 at I3 I4 pg pt pe w0 nfp f3
  generalize hs4 : ({ s3 with heap := pushCells (s3.heap.push { cls := .type "dict", data := .dict #[] }) scope.names } : Shared) = s4 at I4 ⊢
  have st4 : tn 0 s4.heap := T.keep _ _ _ st3 fun b _ o e => by rw [← hs4]; exact pushCells_keeps _ _ _ _ (Heap.get?_push_of_some _ e)
  have stat : ∀ {σ' : L2.St} {H' : Hp} {s' : Shared}, L2.Inv (X.blk s3 H3 scope ce fp) [] σ' H' s' → (∀ b ∈ fp, H' b = none) → ∀ b ∈ fp, FpOk (X.blk s3 H3 scope ce fp) [] H' b := fun {σ' H' s'} I' hn b hb =>
    ⟨hn b hb, (I'.ok.exf b hb).1, I'.ok.exfs b hb, .inl hb, fun x c e => (I'.ok.exf b hb).2 x c e, fun p hp => absurd (show p ∈ ([] : List (Addr × Obj)) ++ [] from hp) (by simp)⟩
  have land : Passes (L2.CX X.prog X.w) ((X.blk s3 H3 scope ce fp).wish (notedBy (model X.prog X.w) X.A ce fun x z => postX (model X.prog X.w) X.A X.xe use Qf (.ref D) s3.heap.objs.size X.env.frame (.error x) z)) E := fun pins' σ' H' s5 e s6 I5 c => by
    have z := blk_lands (use := use) (Qf := Qf) (acc := .ref D) hs0 hf0 tk (fun cls d H hh => hW cls d σ H hh) I3 f3 cL cF I5.unwish c
    rw [cL, cF] at z
    exact z
  have pe' := pe _ land
  have loop : codeAny (model X.prog X.w) X.A (.compLoop (.ListComp elt [⟨tg, iter, ifs, 0⟩] scope pos) 0 (.ref it) (.ref D) ce) (postX (model X.prog X.w) X.A X.xe use Qf (.ref D) s3.heap.objs.size X.env.frame) s4 := by
    refine compLoop_any (fun n s' => ∃ i H', L2.Inv (X.blk s3 H3 scope ce fp) [] (wipe σ (own.map (·.2))) H' s' ∧ tn i s'.heap ∧ (∀ b ∈ fp, H' b = none) ∧ Wt i n H') ?_ m0 ⟨0, H3, I4, st4, nfp, w0⟩
    rintro n s5 ⟨i, H5, I5, st5, n5, w5⟩
    rcases turn i n H5 w5 with ⟨stop, qq⟩ | ⟨go, Nx, hNx, step⟩
    · refine thnF (T.done (X.blk s3 H3 scope ce fp) rfl rfl rfl hc i [] s5 _ H5 (fun _ _ => False) I5 (stat I5 n5) st5 stop) fun r s6 ⟨hr, I6⟩ => ?_
      subst hr
      have I7 : L2.Inv X pins σ H5 s6 := I3.call' (ch := fp) I6.os I6.base I6.hok I6.bare fun b hb => ⟨(f3 b hb).1.2.2.2.1, (f3 b hb).1.2.1, (f3 b hb).1.2.2.2.2.1, (f3 b hb).1.2.2.2.2.2⟩
      have nC : H5 s3.heap.objs.size = none := by
        have z := I6.free
        rw [← cL]
        exact z
      obtain ⟨m, hn, _⟩ := I6.loc
      have hn : s6.heap.Ns ce.locals m := hn
      rw [cL] at hn
      exact hRR D s3.heap.objs.size s6 m H5 I7 qq hn (I3.fpOk (Nat.le_refl _) nC)
    · refine thnF (T.item (X.blk s3 H3 scope ce fp) rfl rfl rfl hc i [] s5 _ H5 (fun _ _ => False) I5 (stat I5 n5) st5 go) fun r s6 ⟨u, hr, h6⟩ => ?_
      subst hr
      refine thnF h6 fun _ s7 ⟨x, H7, I7, r7, y7, st7, n7⟩ => ?_
      refine thnF (pg.run _ s7 _ H7 x u _ (I7.pinned (stat I7 n7) (T.obj _ _ st7)) r7 (step x H7 y7)) fun _ s8 ⟨σ8, H8, I8, hw8, q8⟩ => ?_
      refine thnF (pt.run _ s8 σ8 H8 _ I8 q8) fun b s9 ⟨H9, I9, q9⟩ => ?_
      have fin : ∀ {s' : Shared} {H' : Hp}, L2.Inv (X.blk s3 H3 scope ce fp) ([] ++ pinsAt fp s7.heap) σ8 H' s' → Nx H' → ∃ m, m < n ∧ ∃ i H', L2.Inv (X.blk s3 H3 scope ce fp) [] (wipe σ (own.map (·.2))) H' s' ∧ tn i s'.heap ∧ (∀ b ∈ fp, H' b = none) ∧ Wt i m H' := fun {s' H'} I' nx => by
        obtain ⟨m', hm, w'⟩ := hNx H' nx
        have pin' : ∀ b ∈ fp, ∀ o, s7.heap.get? b = some o → s'.heap.get? b = some o ∧ H' b = none := fun b hb o e =>
          let z := I'.pin (b, o) (List.mem_append_right _ (List.mem_append_right _ (mem_pinsAt hb e)))
          ⟨z.1, z.2.1⟩
        have hl : (wipe σ (own.map (·.2))).length = σ8.length := by rw [← hw8, wipe_length]
        refine ⟨m', hm, i + 1, H', (I'.unpinned (pins := [])).weak hl (fun j v e => ?_), T.keep _ _ _ st7 fun b hb o e => (pin' b hb o e).1, fun b hb => ?_, w'⟩
        · rw [← hw8] at e
          exact (wipe_some e).1
        · obtain ⟨o, e, _⟩ := T.obj _ _ st7 b hb
          exact (pin' b hb o e).2
      cases b with
      | false =>
        simp only [Bool.false_eq_true, if_false] at q9 ⊢
        exact fin I9 q9
      | true =>
        simp only [if_true] at q9 ⊢
        refine thn (pe'.run _ s9 σ8 H9 _ (I9.wish _) q9) fun z s10 ⟨yv, H10, I10, r10, acc, hD10, hz10, nx⟩ => ?_
        exact app_ok (X := X.blk s3 H3 scope ce fp) I10.unwish hD10 hz10 r10 fun s11 I11 => fin I11 nx
  exact codeAny_compStart_list loop (T.self X.A 0 _ _ _ st4 loop)
/-- name = [..], the name a local -/
theorem ps_setLcX {i : Nat} {y : Str} {py : Pos} {elt tg iter : Expr} {ifs : List Expr} {scope : Scope} {own : List (Str × Nat)} {pos spos : Pos} {wi : TI} {g : TG} {tt : TT} {te : TE} {W : WX} {E : XK} (hc : X.calm = true) (hN : X.N.Nodup) (hs0 : X.stack = X.env :: X.outer) (hf0 : X.env.frame = some X.env.locals) (tk : Takes X W) (hW : ∀ cls d σ H, E cls d H → W cls d σ H)
    (hy : X.N[i]? = some y) (hyl : X.env.scope.names.lookup y = some .local) (hsw : swapsWith (.ListComp elt [⟨tg, iter, ifs, 0⟩] scope pos) (some (.Name y py)) spos.line X.env = pure true) (hi : PI X tg iter wi) (ok : BlkOk X.N X.env.scope scope own)
    (hg : ∀ (s : Shared) (H : Hp) (C : Addr) (cl : List (Str × Addr)) (fp : List Addr), PG (X.blk s H scope (compEnvC scope cl C X.env) fp) tg g) (ht : ∀ (s : Shared) (H : Hp) (C : Addr) (cl : List (Str × Addr)) (fp : List Addr), PTs (X.blk s H scope (compEnvC scope cl C X.env) fp) ifs tt)
    (he : ∀ (s : Shared) (H : Hp) (C : Addr) (cl : List (Str × Addr)) (fp : List Addr) (xe : Value → Shared → Prop), Passes (L2.CX X.prog X.w) ((X.blk s H scope (compEnvC scope cl C X.env) fp).wish xe) E → PE ((X.blk s H scope (compEnvC scope cl C X.env) fp).wish xe) elt te) (hs : ∀ x, foldedSetIterable iter X.env x = pure x := by intro _; rfl) :
    PS X (.Assign [.Name y py] (.ListComp elt [⟨tg, iter, ifs, 0⟩] scope pos) spos) (tAsg (tLc wi g tt te (own.map (·.2))) (gName i)) := by
  refine ⟨fun pins s σ H D I h => ?_⟩
  rw [exec_Assign_Name_used _ _ _ _ hsw]
  refine wpAny_bind (wpAny_standAt (wpAny_bind ?_))
  show wpAny _ X.A (do let _ ← comprehension (.ListComp elt [⟨tg, iter, ifs, 0⟩] scope pos) scope X.env (firstIterPos [⟨tg, iter, ifs, 0⟩] pos) (newList []) false (eval iter X.env) (some (assign (.Name y py) X.env))) _ _ s
  have h : tLc wi g tt te (own.map (·.2)) σ H (fun x H1 => gName i x σ H1 D.nx) := h
  refine wpAny_bind (thn (lc_x (Qf := fun _ s' => SP X pins D .next s') hc hN hs0 hf0 tk hW I hi ok hg ht he hs h fun L C s' m H' I' q hn f => ?_) fun _ s' hq => wpAny_pure (wpAny_pure hq))
  show wpAny _ _ (assign (.Name y py) X.env (.ref L)) _ _ _
  refine wpAny_assign_Name (store_ok2 (v := V.ref L) I' hN hy (.inl hyl) rfl (fun s2 I2 ⟨a, sb, ha⟩ => ?_) (.inr hyl))
  obtain ⟨f0, f1, f2, f3, f4, f5⟩ := f
  have n : C ≠ a := ha.elim (fun z => by rw [z]; exact f1) fun z e => f4 y a z e.symm
  exact ⟨m, hn.sameBut sb n, fun h3 sb3 => ⟨_, H', I2.turned (t' := s2.toks) (fun b o hb e => (sb3.2 b hb).trans e) f0 f1 f3 f4 f5, q⟩⟩
/-- f(e, ..) that may raise -/
theorem e_cP {k j : Nat} {x : Str} {sp : Sp} {E : XK} {p pos : Pos} {e : Expr} {es : List Expr} {t : TA} (c : Fc X.prog X.w X.K X.mg X.base k x sp) (hr : Room j X.A) (hx : Passes (L2.CX X.prog X.w) X E) (ha : PA X (e :: es) t) (hk : k ≤ j := by decide) (hg : Gl X x := by rfl) (hdb : (x == ("__debug__" : Str)) = false := by decide)
    (he : starEach (e :: es) X.env = (false, eval e X.env) :: starEach es X.env := by rfl) (hpl : (backTo pos (starEach es X.env)).any (·.1) = false := by rfl) : PE X (.Call (.Name x p) (e :: es) [] pos) (fCall sp E t) :=
  e_c' c hr hk hx hg ha hdb he hpl
theorem passE' {E : XK} (tk : Takes X fun cls d _ H => E cls d H) : Passes (L2.CX X.prog X.w) X E := passes_call tk fun _ _ _ _ h => h
end
end F
set_option maxHeartbeats 2000000
/-! E4: comprehensions with what was before; the facts of an own exception class. -/
namespace F
open PySem PySem.Spec PyProof.Rows L2
section
variable {J : It} {n : Nat} {G : Hp → Prop} {Y : Nat → Hp → V → Hp → Prop} {g : TG} {te : TE} {tt : TT} {vs : List Nat} {σ : L2.St} {H1 : Hp} {D : Addr} {Qd : Hp → Prop}
/-- as lcW; a turn knows of those before -/
theorem lcH (w : Walk J n G Y) (R : Nat → V → Hp → Prop) (hn : n ≤ 1000000) (hD : H1 D = none) (hG : ∀ H, Same H1 H → G H) (mono : ∀ i y H H', Same H H' → R i y H → R i y H')
    (turn : ∀ i x H H' acc (Nx : V → Hp → Prop), i < n → Same H1 H → H D = some (.lst acc) → (∀ j, j < i → ∃ z, R j z (hide D H)) → Y i H x H' → (∀ y H4, Same H H4 → R i y (hide D H4) → Nx y H4) → g x (wipe σ vs) H' fun σ2 H2 => wipe σ2 vs = wipe σ vs ∧ te σ2 H2 Nx)
    (gm : ∀ x σ H (P P' : L2.St → Hp → Prop), (∀ σ2 H2, P σ2 H2 → P' σ2 H2) → g x σ H P → g x σ H P')
    (done : ∀ ys H, ys.length = n → (∀ i y, ys[i]? = some y → R i y H) → Same H1 H → H D = some (.lst ys) → Qd H) : LcW J g tYes te vs σ H1 D Qd := by
  refine lc_it w (fun i H => ∃ acc : List V, acc.length = i ∧ H D = some (.lst acc) ∧ Same H1 H ∧ ∀ j y, acc[j]? = some y → R j y (hide D H)) ⟨[], rfl, upd_same, snew hD, fun j y h => by simp at h⟩ (fun i H _ ⟨_, _, _, s, _⟩ => hG H s) ?_ ?_
  · rintro i x H H' hi ⟨acc, hl, hd, s, hR⟩ y
    let Nx : V → Hp → Prop := fun y H4 => ∃ acc, H4 D = some (.lst acc) ∧ acc.length < sizeLine ∧ ∃ acc' : List V, acc'.length = i + 1 ∧ upd H4 D (.lst (acc ++ [y])) D = some (.lst acc') ∧ Same H1 (upd H4 D (.lst (acc ++ [y]))) ∧ ∀ j z, acc'[j]? = some z → R j z (hide D (upd H4 D (.lst (acc ++ [y]))))
    have t := turn i x H H' acc Nx hi s hd (fun j hj => ⟨acc[j]'(by omega), hR j _ (List.getElem?_eq_getElem (by omega))⟩) y ?_
    · refine gm _ _ _ _ _ (fun σ2 H2 z => ⟨z.1, ?_⟩) t
      simp only [tYes, ↓reduceIte]
      exact z.2
    refine fun y H4 s4 r4 => ⟨acc, s4 _ _ hd, line_lt (by omega), acc ++ [y], by rw [List.length_append, hl] <;> rfl, upd_same, sput (s.trans s4) hD, fun j z hz => ?_⟩
    rw [hide_upd]
    by_cases hj : j < acc.length
    · rw [List.getElem?_append_left hj] at hz
      exact mono _ _ _ _ (hide_mono s4) (hR j z hz)
    · rw [List.getElem?_append_right (Nat.le_of_not_lt hj)] at hz
      have e0 : j - acc.length = 0 := by
        cases e : j - acc.length with
        | zero => rfl
        | succ m => rw [e] at hz; simp at hz
      rw [e0] at hz
      have ez : y = z := by simpa using hz
      have ej : j = i := by omega
      subst ez ej
      exact r4
  · rintro H ⟨acc, hl, hd, s, hR⟩
    exact done acc H hl (fun i y h => mono _ _ _ _ hide_sub (hR i y h)) s hd
end
/-- one sign not in a text -/
def rNotInS : R2 := fun x y H Q => match x, y with
  | .str a, .str z => ∃ c, a = ⟨#[c]⟩ ∧ Q (.bl (!decide (c ∈ z.cps.toList))) H
  | _, _ => False
theorem o_notInS {X : Cx} : OpR X (compareOp .NotIn) rNotInS := upR op_notIn_sign fun x y H Q h => by
  unfold rNotInS at h
  split at h
  · obtain ⟨c, e, q⟩ := h
    subst e
    exact ⟨c, _, rfl, rfl, q⟩
  · exact h.elim
/-- a call of a local name that holds one of some functions -/
def tCallF (i : Nat) (S : Addr → Sp → Prop) (E : XK) (t : TA) : TE := fun σ H Q => ∃ f sp, σ[i]? = some (some (.ref f)) ∧ S f sp ∧ t σ H fun vs H1 => sp vs H1 Q E
theorem e_cL {X : Cx} {k j i : Nat} {S : Addr → Sp → Prop} {E : XK} {x : Str} {p pos : Pos} {e : Expr} {es : List Expr} {t : TA} (A : ∀ f sp, S f sp → F.Fr X.prog X.w X.K X.mg X.base k f sp ∧ PySem.W.keepIn X.K (.ref f) = true) (hr : Room j X.A) (hx : Passes (L2.CX X.prog X.w) X E) (hN : X.N[i]? = some x) (hv : Vis X.env.scope x) (ha : PA X (e :: es) t)
    (hk : k ≤ j := by decide) (hdb : (x == ("__debug__" : Str)) = false := by decide) (hcd : (x == ("__classdict__" : Str)) = false := by decide)
    (he : starEach (e :: es) X.env = (false, eval e X.env) :: starEach es X.env := by rfl) (hpl : (backTo pos (starEach es X.env)).any (·.1) = false := by rfl) : PE X (.Call (.Name x p) (e :: es) [] pos) (tCallF i S E t) := by
  refine ⟨fun pins s σ H Q I h => ?_⟩
  obtain ⟨f, sp, hs, hS, ht⟩ := h
  obtain ⟨G, kp⟩ := A f sp hS
  refine wpAny_Call_Name_kw (thn ((pe_var (pos := p) hN hv hdb hcd).run pins s σ H (fun v H1 => v = .ref f ∧ H1 = H) I ⟨.ref f, hs, rfl, rfl⟩) fun u s1 ⟨v, H1, I1, r1, q1⟩ => ?_)
  obtain ⟨rfl, rfl⟩ := q1
  cases r1
  refine PySem.W.callWith_K (h₀ := X.base) I.ok.mod.kin kp (thn (ha.run pos pins s1 σ _ _ I1 ht) fun us s2 ⟨vs, H2, I2, r, q⟩ => ⟨I2.kIn, ?_⟩) he hpl
  exact wpAny_call (run_fnR G (hr.mono hk) hx I2 r q)
/-- a text so many times -/
def rMulS : R2 := fun x y H Q => match x, y with
  | .str a, .int n => PySem.MulOk a n ∧ Q (.str (PySem.Txt.mul a n)) H
  | _, _ => False
theorem o_mulS {X : Cx} : OpR X (binaryOp .Mult) rMulS := fun pins s σ H x y v u Q I rx ry h => by
  unfold rMulS at h
  split at h
  · obtain ⟨hok, q⟩ := h
    obtain ⟨t, rfl⟩ := rx
    obtain ⟨t2, rfl⟩ := ry
    exact PySem.SB.mul hok fun t' k => ⟨.str _, H, I.kept (t' := k) fun _ _ e => e, ⟨t', rfl⟩, q⟩
  · exact h.elim
/-- y.join(e), K named (within comprehensions) -/
theorem k_join (K : PySem.W.Frag) {X : Cx} {o e : Expr} {to te : TE} {apos pos : Pos} (ho : PE X o to) (he : PE X e te) (hK : X.K = K := by rfl) (hs : starEach [e] X.env = [(false, eval e X.env)] := by rfl) (hbase : attributeBase o "join" X.env (eval o X.env) = eval o X.env := by rfl) (hline : (apos.endLine == pos.line) = true := by rfl) :
    PE X (.Call (.Attribute o "join" apos) [e] [] pos) (fM1 (rJoinF K) to te) := by
  subst hK
  exact e_join ho he hs hbase hline
end F
set_option maxHeartbeats 2000000
/-! E5: lambdas without parameters handed to a def; heaps that are the same but for tables of code. -/
namespace F
open PySem PySem.Spec PyProof.Rows L2
section
variable {P : Program} {w : World} {K : PySem.W.Frag} {mg : Str → Option Value} {base : Heap} {CX : CXT} {x qual : Str} {params : Arguments} {body : List Stmt} {scope : Scope} {dvs : List V} {kws : List (Str × V)} {f : Addr} {fd : FuncData} {N ps : List Str} {k : Nat} {sp : Sp}
theorem okC (F1 : FunD K x qual params body scope dvs kws f fd) (m : makB K f = true) (S : FnScope N ps scope) (len : ∀ vs H Q E, sp vs H Q E → vs.length = ps.length)
    (hbody : ∀ (A : Around) (outer : List Env) (s : Shared) (H : Hp) (vs : List V) (Q : VK) (E : XK), Room k (A.deeper (envOfC qual scope s.heap.objs.size f (.ref (cAt K f)))) → sp vs H Q E →
      ∃ t, PSs (cxOf CX P w K mg base N qual scope f (.ref (cAt K f)) A outer s H E) body t ∧ t { nx := fun _ H' => Q .non H', rt := Q } (L2.start N vs) H) : FnOk P w K mg base CX (k + 1) f fd ps sp := by
  obtain ⟨oc, od, dV, kV, doc, pm, an, cdv, ct, osl, rfl, lk, hcd, _, _⟩ := F1.ex
  have e : cdv = .ref (cAt K f) := by
    obtain ⟨m1, _⟩ := He.ba m
    rw [lk] at m1
    have e2 : cAt K f = refOf cdv := by
      unfold cAt
      rw [lk] <;> rfl
    have m1 : isRef cdv = true := m1
    cases cdv with
    | ref c => rw [e2] <;> rfl
    | _ => cases m1
  subst e
  exact fn_of lk hcd S len fun A outer s H vs Q E hr hsp => hbody A outer s H vs Q E hr hsp
end
/-- all kept but tables of code; those told by T are told again -/
structure Sx (T : List (Addr × Str)) (H H' : Hp) : Prop where
  k : LamX.ExtN H H'
  t : LamX.Tabs T H → LamX.Tabs T H'
section
variable {T : List (Addr × Str)} {H H1 H2 H' : Hp} {a b p : Addr} {o u : HO} {K : PySem.W.Frag}
theorem Sx.refl : Sx T H H := ⟨.refl H, fun z => z⟩
theorem Sx.trans (s : Sx T H H1) (t : Sx T H1 H2) : Sx T H H2 := ⟨s.k.trans t.k, fun z => t.t (s.t z)⟩
theorem sx_same (s : Same H H') : Sx T H H' := ⟨.of fun b o h => s b o h, fun z => z.ext fun b o h => s b o h⟩
theorem Sx.same (s : Sx T H H1) (t : Same H1 H2) : Sx T H H2 := s.trans (sx_same t)
theorem sx_ext (e : LamX.ExtN H H') (t : LamX.Tabs T H') : Sx T H H' := ⟨e, fun _ => t⟩
theorem Sx.at (s : Sx T H H') (h : H a = some o) (n : ∀ ps, o ≠ .tbl ps := by intro ps z; cases z) : H' a = some o := s.k a o h n
theorem Sx.new (s : Sx T H H') (hp : H' p = none) : Sx T H (upd H' p o) := s.same (snew hp)
theorem Sx.sl {xs : List V} (s : Sx T H H') (h : SqL K H a xs) : SqL K H' a xs := h.elim (fun z => z.elim (fun z => .inl (.inl (s.at z))) fun ⟨o, z⟩ => .inl (.inr ⟨o, s.at z⟩)) .inr
theorem Sx.st {xs : List V} (s : Sx T H H') (h : SqT K H a xs) : SqT K H' a xs := h.elim (fun z => z.elim (fun z => .inl (.inl (s.at z))) fun ⟨o, z⟩ => .inl (.inr ⟨o, s.at z⟩)) .inr
/-- nothing there, but for a table -/
def Nt (H : Hp) (p : Addr) : Prop := ∀ o, H p = some o → ∃ ps, o = .tbl ps
theorem Sx.nt (s : Sx T H H') (h : H' p = none) : Nt H p := fun o e => by
  by_cases q : ∃ ps, o = .tbl ps
  · exact q
  · rw [s.k p o e fun ps z => q ⟨ps, z⟩] at h
    cases h
/-- put at an address that the elder heap has not -/
theorem Sx.put (s : Sx T H H') (hp : Nt H p) (hq : H' p = some u) (n : ∀ ps, u ≠ .tbl ps) (nc : ∀ q, u ≠ LamX.CodeO p q) : Sx T H (upd H' p o) := by
  refine ⟨fun b v h m => ?_, fun z => ?_⟩
  · rw [upd_ne fun e => by
      obtain ⟨ps, e2⟩ := hp v (by rw [← e]; exact h)
      exact m ps e2]
    exact s.k b v h m
  · have z2 := s.t z
    intro r hr
    obtain ⟨ps, e1, e2, e3⟩ := z2 r hr
    have n1 : r.1 ≠ p := fun e => by rw [e, hq] at e1; exact n _ (Option.some.inj e1)
    refine ⟨ps, by rw [upd_ne n1]; exact e1, e2, fun pos cv hc => ?_⟩
    obtain ⟨c, e4, e5⟩ := e3 pos cv hc
    have n2 : c ≠ p := fun e => by
      rw [e] at e5
      rw [hq] at e5
      exact nc _ (Option.some.inj e5)
    exact ⟨c, e4, by rw [upd_ne n2]; exact e5⟩
/-- .. and what stands at g may have changed -/
structure SBx (T : List (Addr × Str)) (g : Addr) (H H' : Hp) : Prop where
  k : ∀ b o, b ≠ g → H b = some o → (∀ ps, o ≠ .tbl ps) → H' b = some o
  t : LamX.Tabs T H → LamX.Tabs T H'
theorem SBx.refl {g : Addr} : SBx T g H H := ⟨fun _ _ _ h _ => h, fun z => z⟩
theorem SBx.trans {g : Addr} (s : SBx T g H H1) (t : SBx T g H1 H2) : SBx T g H H2 := ⟨fun b o n h m => t.k b o n (s.k b o n h m) m, fun z => t.t (s.t z)⟩
theorem sbx_sx {g : Addr} (s : Sx T H H') : SBx T g H H' := ⟨fun b o _ h m => s.k b o h m, s.t⟩
theorem SBx.sx {g : Addr} (s : SBx T g H H1) (t : Sx T H1 H2) : SBx T g H H2 := s.trans (sbx_sx t)
theorem SBx.same {g : Addr} (s : SBx T g H H1) (t : Same H1 H2) : SBx T g H H2 := s.sx (sx_same t)
/-- what stands at g is no table and no code -/
theorem sbx_sb {g : Addr} (s : SB g H H') (hg : H g = some u) (n : ∀ ps, u ≠ .tbl ps) (nc : ∀ q, u ≠ LamX.CodeO g q) : SBx T g H H' := by
  refine ⟨fun b o m h _ => s b o m h, fun z r hr => ?_⟩
  obtain ⟨ps, e1, e2, e3⟩ := z r hr
  have n1 : r.1 ≠ g := fun e => by rw [e, hg] at e1; exact n _ (Option.some.inj e1)
  refine ⟨ps, s _ _ n1 e1, e2, fun pos cv hc => ?_⟩
  obtain ⟨c, e4, e5⟩ := e3 pos cv hc
  have n2 : c ≠ g := fun e => by
    rw [e] at e5
    rw [hg] at e5
    exact nc _ (Option.some.inj e5)
  exact ⟨c, e4, s _ _ n2 e5⟩
theorem SBx.at {g : Addr} (s : SBx T g H H') (h : H a = some o) (hn : a ≠ g) (n : ∀ ps, o ≠ .tbl ps := by intro ps z; cases z) : H' a = some o := s.k a o hn h n
end
/-- slices, K named -/
theorem k_slL (K : PySem.W.Frag) {X : Cx} (hK : X.K = K := by rfl) : SlR X (rSlL K) := by
  subst hK
  exact sl_list
theorem k_slT (K : PySem.W.Frag) {X : Cx} (hK : X.K = K := by rfl) : SlR X (rSlT K) := by
  subst hK
  exact sl_tup
section
variable {X : Cx}
/-- x(lambda: body), x a def with one parameter -/
theorem e_lam {T : List (Addr × Str)} {TT : (XK → Hp → VK → Prop) → Hp → VK → Prop} {x a : Str} {g f P : Addr} {k j : Nat} {pg : Arguments} {bg : List Stmt} {sg : Scope} {Ng : List Str} {fd : FuncData}
    {params : Arguments} {body : Expr} {scope : Scope} {t : XK → TE} {p lpos pos : Pos} (F1 : FunD X.K x x pg bg sg [] [] g fd) (bd : BindN x x pg bg sg [a]) (hm : X.mg x = some (.ref g)) (Sg : FnScope Ng [a] sg)
    (hG : ∀ cdv, LamX.GivesTo X Ng x sg g cdv bg a (X.env.qual ++ "<lambda>") TT) (TB : LamX.TabB X.base X.mg (cAt X.K f) P) (hmT : (P, X.env.qual ++ "<lambda>") ∈ T) (hu : ∀ p ∈ T, p.1 = P → p.2 = X.env.qual ++ "<lambda>") (hr : Room j X.A)
    (hbody : ∀ (A : Around) (outer : List Env) (s : Shared) (H : Hp) (E : XK) (f c' : Addr), Room k (A.deeper (LamX.lamEnv X scope s.heap.objs.size f c')) → PE (LamX.lamCx X A outer s H E scope f c') body (t E))
    (hcode : X.env.code = .ref (cAt X.K f) := by rfl) (hj : k + 2 ≤ j := by decide) (hg : Gl X x := by rfl) (L : LamX.LamS X.env.scope scope := by exact LamX.lamS_by (by decide +kernel)) (hdef : defaultsOf params X.env = ([], []) := by rfl)
    (hbind : ∀ (q : Str) (cl : List (Str × Addr)) (pm cv ctv : Value), bindArgs (PySem.W.kla_fn "<lambda>" q params body scope cl pm cv ctv) ⟨[], []⟩ = pure [] := by intro _ _ _ _ _; rfl)
    (hNg : Ng[0]? = some a := by rfl) (hva : Vis sg a := by exact .inl rfl) (hdb : (x == ("__debug__" : Str)) = false := by decide) (hd : (a == ("__debug__" : Str)) = false := by decide) (hcd : (a == ("__classdict__" : Str)) = false := by decide) :
    PE X (.Call (.Name x p) [.Lambda params body scope lpos] [] pos) (LamX.tLam T TT t) := by
  have kb := F1.bindsN bd
  obtain ⟨oc, od, dV, kV, doc, pm, an, cdv, ct, osl, rfl, lk, hcd', _, _⟩ := F1.ex
  exact LamX.pe_lamcall (k := k) (c := cAt X.K f) (P := P) hg hm F1.kp lk hcd' kb Sg hNg hva (hG cdv) TB hcode hmT hu (hr.mono hj) L hdef hbind hbody hdb hd hcd
end
end F
set_option maxHeartbeats 2000000
/-! H2: the hook with empty tables of code and the __init__ of own exceptions; the law's end with them. -/
namespace F
open PySem PySem.Spec PyProof.Rows L2
theorem supB_ok {st : Stmt} (h : supB st = true) : SupInit st := by
  unfold supB at h
  split at h
  · rename_i a p0 p1 b p2 msg k p3 p5 p6
    obtain ⟨h1, h2⟩ := He.ba h
    obtain ⟨h2, h3⟩ := He.ba h2
    obtain rfl : a = ("super" : Str) := of_decide_eq_true h1
    obtain rfl : b = ("__init__" : Str) := of_decide_eq_true h2
    exact @SupInit.mk msg k p0 p1 p2 p3 p5 p5 p6 h3
  · cases h
theorem setsB_ok : ∀ {l : List Stmt} {fs : List Str}, setsB l fs = true → Sets l fs
  | l, fs, h => by
    fun_induction setsB l fs with
    | case1 => exact .nil
    | case2 a q1 x q2 y q3 q4 r z zs ih =>
      obtain ⟨h1, h⟩ := He.ba h
      obtain ⟨h2, h⟩ := He.ba h
      obtain ⟨h3, h4⟩ := He.ba h
      obtain rfl : a = ("self" : Str) := of_decide_eq_true h1
      obtain rfl : x = z := of_decide_eq_true h2
      obtain rfl : y = x := of_decide_eq_true h3
      exact .cons (ih h4)
    | case3 => cases h
def codB (K : PySem.W.Frag) (file n2 : Str) (v : Value) : Bool := match v with
  | .ref cda => PySem.W.codeIn K (.ref cda) n2 && (match K.lookup cda with
    | some ⟨_, _, .fields vs, _⟩ => (match (vs[2]? : Option Value) with
      | some (.str f _) => decide (file = f)
      | _ => false)
    | _ => false)
  | _ => false
def nonB (v : Value) : Bool := match v with
  | .none => true
  | _ => false
def cloB (K : PySem.W.Frag) (C : Addr) (l : List (Str × Addr)) : Bool := match l with
  | [(x, cc)] => decide (x = ("__class__" : Str)) && (match K.lookup cc with
    | some ⟨_, _, .cell (some (.ref C')), _⟩ => decide (C' = C)
    | _ => false)
  | _ => false
theorem xc_ok {prog : Program} {K : PySem.W.Frag} {h0 : Heap} {mg : Str → Option Value} {nm : Str} {C fI : Addr} {fs : List Str} {qual : Str} {params : Arguments} {body : List Stmt} {scope : Scope} (X0 : K.In h0) (G0 : h0.Ns mainGlobals mg) (hs : (He.Fa.free "super").ok K = true) (h : xB K prog.main.file nm C fI fs qual = true)
    (hC : mg nm = some (.ref C)) (e : fnXK K fI = (some ("__init__", qual, params, .stmts body, scope, mainGlobals, ["__class__"], builtinsNs) : FnX)) (S : XSyn prog params body scope fs) : XC prog K mg nm C fs := by
  unfold xB at h
  have O := oexB_ok (allB h 1)
  refine ⟨⟨hC, O, fun f hf => He.eqO_ok (List.all_eq_true.mp (allB h 2) f hf), of_decide_eq_true (allB h 3), of_decide_eq_true (allB h 4), He.eqO_ok (allB h 5), ?_, He.eqO_ok (allB h 6), ⟨fI, He.eqO_ok (allB h 7), tyB_ok (allB h 8), ?_⟩, S.top⟩, O, He.free_ok X0 G0 hs⟩
  · exact He.eqO_ok hs
  · have h9 := allB h 9
    unfold fnXK at e
    cases q : K.lookup fI with
    | none => rw [q] at e; cases e
    | some o =>
      obtain ⟨oc, od, dt, osl⟩ := o
      rw [q] at e h9
      cases dt with
      | func fd =>
        obtain ⟨n1, n2, n3, n4, n5, n6, n7, n8, n9, n10, n11, n12, n13, n14, n15⟩ := fd
        have e2 : (some (n1, n2, n3, n4, n5, n6, n7.map (·.1), n15) : FnX) = (some ("__init__", qual, params, .stmts body, scope, mainGlobals, ["__class__"], builtinsNs) : FnX) := e
        simp only [Option.some.injEq, Prod.mk.injEq] at e2
        obtain ⟨h1, h2, h3, h4, h5, h6, h7, h8⟩ := e2
        subst h1 h2 h3 h4 h5 h6 h8
        have z : (codB K prog.main.file n2 n13 && (nonB n8 && (nonB n9 && cloB K C n7))) = true := h9
        obtain ⟨z1, z⟩ := He.ba z
        obtain ⟨z2, z⟩ := He.ba z
        obtain ⟨z3, z4⟩ := He.ba z
        cases n13 with
        | ref cda =>
          obtain ⟨z5, z6⟩ := He.ba z1
          have z5 : PySem.W.codeIn K (.ref cda) n2 = true := z5
          cases n8 with
          | none =>
            cases n9 with
            | none =>
              rcases n7 with _ | ⟨⟨x, cc⟩, _ | ⟨w1, w2⟩⟩
              · cases z4
              · obtain ⟨z7, z8⟩ := He.ba z4
                obtain rfl : x = ("__class__" : Str) := of_decide_eq_true z7
                cases body with
                | nil => exact absurd S.b (by simp)
                | cons st rest =>
                  obtain ⟨y1, y2⟩ := He.ba (show (supB st && setsB rest fs) = true from S.b)
                  have hp := S.p
                  cases hp0 : (n3.posonlyargs ++ n3.args).head? with
                  | none => rw [hp0] at hp; cases hp
                  | some p0 =>
                    rw [hp0] at hp
                    refine ⟨oc, od, n2, n3, st, rest, n5, n10, n11, n12, cda, cc, n14, osl, rfl, z5, supB_ok y1, setsB_ok y2, ?_, ?_, ⟨p0, hp0, Option.some.inj hp⟩, S.kind, S.co, S.gen, fun y hy => ?_, S.sup, S.cls, fun y hy => ?_, S.nd, S.ne, S.le, fun us s hl => .of_eq (S.bind _ _ _ _ _ _ _ us hl)⟩
                    · split at z6
                      · rename_i c1 c2 vs c3 q2
                        split at z6
                        · rename_i f t q3
                          exact ⟨_, _, vs, _, f, t, q2, q3, by rw [of_decide_eq_true z6]; simp⟩
                        · cases z6
                      · cases z6
                    · split at z8
                      · rename_i c1 c2 C' c3 q2
                        obtain rfl : C' = C := of_decide_eq_true z8
                        exact ⟨_, _, _, q2⟩
                      · cases z8
                    · have := List.all_eq_true.mp S.cells y hy
                      simpa using this
                    · have := List.all_eq_true.mp S.loc y hy
                      simpa using this
              · cases z4
            | _ => cases z3
          | _ => cases z2
        | _ => cases z1
      | _ => cases e
/-- the end of a law with tables, promises over L2.CX -/
theorem walk_endT {l : PySem.W.OpenLaw} {n k : Nat} {q : Program} {loose : List Str} {XP : (Str → Option Value) → Heap → Prop} {YP : World → Heap → Prop} {d : DefRec} {x : Str}
    (hn : l.most = some n) (hn2 : n ≤ sizeLine) (hdf : d.params.defaults = []) (hr : Room k callerA)
    (F : ∀ (w : World) (mg : Str → Option Value) (fa : Addr) (h : Heap), YP w h → h.Ns mainGlobals mg → mg d.name = some (.ref fa) → ∃ K : PySem.W.Frag, K.In h ∧ LamX.LawAtS l w K (L2.CX l.prog w) k n x mg fa h) :
    PySem.W.WalkO q loose XP YP l.row.toRowW d [] (fun f vs => PySem.call f vs) :=
  LamX.walk_ofTsE (CX := fun w => L2.CX l.prog w) hn hn2 hdf hr F fun w H s e s' z => by
    obtain ⟨_, _, _, _, _, _, _, _, _, _, _, _, k⟩ := z
    exact k
theorem xiB_ok {K : PySem.W.Frag} {D : Addr} (h : xiB K D = true) : ExcC K D := by
  unfold xiB at h
  exact ⟨He.eqO_ok (allB h 0), He.eqO_ok (allB h 1), of_decide_eq_true (allB h 2), allB h 3, He.eqO_ok (allB h 4), He.eqO_ok (allB h 5), of_decide_eq_true (allB h 6), of_decide_eq_true (allB h 7)⟩
theorem codeHd_mk {K : PySem.W.Frag} {h : Heap} {f : Addr} (X : K.In h) (e : makB K f = true) : PySem.W.CodeHd h (cAt K f) (tAt K f) := PySem.W.codeHd_of_K X (He.ba (He.ba e).2).1
theorem noK_mk {K : PySem.W.Frag} {f : Addr} (e : makB K f = true) : K.lookup (tAt K f) = none := by
  have z := (He.ba (He.ba e).2).2
  cases q : K.lookup (tAt K f) with
  | none => rfl
  | some o => rw [q] at z; cases z
theorem tabs_nil {T : List (Addr × Str)} {H : Hp} (h : ∀ p ∈ T, H p.1 = some (.tbl #[])) : LamX.Tabs T H := fun p hp => .nil (h p hp)
end F
set_option maxHeartbeats 400000
namespace G
open PySem PySem.Spec PyProof.Rows L2 F
@[irreducible] def P : Program := R.prog
theorem P_eq : P = R.prog := by unfold P; rfl
structure Tx (K : PySem.W.Frag) (mg : Str → Option Value) : Prop where
  x_BadText : XC P K mg "BadText" (He.ga K "BadText") ["word", "item"]
  xf_BadText : XfC K (He.ga K "BadText")
  xi_BadText : ExcC K (He.ga K "BadText")
  xm_BadText_RungError : PySem.W.exmOne K (.ref (He.ga K "BadText")) (.ref (He.ga K "RungError")) = some true
  xk_BadText_BadText : PySem.W.kitOne K (.ref (He.ga K "BadText")) (.ref (He.ga K "BadText")) = some true
  xk_BadText_BadWatch : PySem.W.kitOne K (.ref (He.ga K "BadText")) (.ref (He.ga K "BadWatch")) = some false
  xk_BadText_TooMany : PySem.W.kitOne K (.ref (He.ga K "BadText")) (.ref (He.ga K "TooMany")) = some false
  x_BadWatch : XC P K mg "BadWatch" (He.ga K "BadWatch") ["part"]
  xf_BadWatch : XfC K (He.ga K "BadWatch")
  xi_BadWatch : ExcC K (He.ga K "BadWatch")
  xm_BadWatch_RungError : PySem.W.exmOne K (.ref (He.ga K "BadWatch")) (.ref (He.ga K "RungError")) = some true
  xk_BadWatch_BadText : PySem.W.kitOne K (.ref (He.ga K "BadWatch")) (.ref (He.ga K "BadText")) = some false
  xk_BadWatch_BadWatch : PySem.W.kitOne K (.ref (He.ga K "BadWatch")) (.ref (He.ga K "BadWatch")) = some true
  xk_BadWatch_TooMany : PySem.W.kitOne K (.ref (He.ga K "BadWatch")) (.ref (He.ga K "TooMany")) = some false
  x_TooMany : XC P K mg "TooMany" (He.ga K "TooMany") ["what", "most"]
  xf_TooMany : XfC K (He.ga K "TooMany")
  xi_TooMany : ExcC K (He.ga K "TooMany")
  xm_TooMany_RungError : PySem.W.exmOne K (.ref (He.ga K "TooMany")) (.ref (He.ga K "RungError")) = some true
  xk_TooMany_BadText : PySem.W.kitOne K (.ref (He.ga K "TooMany")) (.ref (He.ga K "BadText")) = some false
  xk_TooMany_BadWatch : PySem.W.kitOne K (.ref (He.ga K "TooMany")) (.ref (He.ga K "BadWatch")) = some false
  xk_TooMany_TooMany : PySem.W.kitOne K (.ref (He.ga K "TooMany")) (.ref (He.ga K "TooMany")) = some true
  g__wall : mg "_wall" = some (.ref (He.ga K "_wall"))
  g_RungError : mg "RungError" = some (.ref (He.ga K "RungError"))
  g_BadMoment : mg "BadMoment" = some (.ref (He.ga K "BadMoment"))
  g_BadText : mg "BadText" = some (.ref (He.ga K "BadText"))
  g_BadWatch : mg "BadWatch" = some (.ref (He.ga K "BadWatch"))
  g_TooMany : mg "TooMany" = some (.ref (He.ga K "TooMany"))
  g_NoEntry : mg "NoEntry" = some (.ref (He.ga K "NoEntry"))
  g_is_whole : mg "is_whole" = some (.ref (He.ga K "is_whole"))
  g_is_between : mg "is_between" = some (.ref (He.ga K "is_between"))
  g_is_leap : mg "is_leap" = some (.ref (He.ga K "is_leap"))
  g_month_length : mg "month_length" = some (.ref (He.ga K "month_length"))
  g_days_ahead : mg "days_ahead" = some (.ref (He.ga K "days_ahead"))
  g_day_number : mg "day_number" = some (.ref (He.ga K "day_number"))
  g_date_of : mg "date_of" = some (.ref (He.ga K "date_of"))
  g_weekday_of : mg "weekday_of" = some (.ref (He.ga K "weekday_of"))
  g_wrong_part : mg "wrong_part" = some (.ref (He.ga K "wrong_part"))
  g_number_in : mg "number_in" = some (.ref (He.ga K "number_in"))
  g_date_in : mg "date_in" = some (.ref (He.ga K "date_in"))
  g_time_in : mg "time_in" = some (.ref (He.ga K "time_in"))
  g_moment_at : mg "moment_at" = some (.ref (He.ga K "moment_at"))
  g_Moment : mg "Moment" = some (.ref (He.ga K "Moment"))
  g_need_watch : mg "need_watch" = some (.ref (He.ga K "need_watch"))
  g_span_code : mg "span_code" = some (.ref (He.ga K "span_code"))
  g_with_ring : mg "with_ring" = some (.ref (He.ga K "with_ring"))
  g_rings_in : mg "rings_in" = some (.ref (He.ga K "rings_in"))
  g_spans_in : mg "spans_in" = some (.ref (He.ga K "spans_in"))
  g_Book : mg "Book" = some (.ref (He.ga K "Book"))
  g_moment_in : mg "moment_in" = some (.ref (He.ga K "moment_in"))
  g_moment_of : mg "moment_of" = some (.ref (He.ga K "moment_of"))
  g_need_end : mg "need_end" = some (.ref (He.ga K "need_end"))
  g_read_entry : mg "read_entry" = some (.ref (He.ga K "read_entry"))
  g_lines_in : mg "lines_in" = some (.ref (He.ga K "lines_in"))
  g_read_book : mg "read_book" = some (.ref (He.ga K "read_book"))
  g__law_bag : mg "_law_bag" = some (.ref (He.ga K "_law_bag"))
  g__law_draw : mg "_law_draw" = some (.ref (He.ga K "_law_draw"))
  g__law_length : mg "_law_length" = some (.ref (He.ga K "_law_length"))
  g__law_date : mg "_law_date" = some (.ref (He.ga K "_law_date"))
  g__law_number : mg "_law_number" = some (.ref (He.ga K "_law_number"))
  g__law_heard : mg "_law_heard" = some (.ref (He.ga K "_law_heard"))
  g__law_digits : mg "_law_digits" = some (.ref (He.ga K "_law_digits"))
  g__law_date_in : mg "_law_date_in" = some (.ref (He.ga K "_law_date_in"))
  g__law_time_in : mg "_law_time_in" = some (.ref (He.ga K "_law_time_in"))
  g__law_line_due : mg "_law_line_due" = some (.ref (He.ga K "_law_line_due"))
  g__law_due : mg "_law_due" = some (.ref (He.ga K "_law_due"))
  g__law_spoilt : mg "_law_spoilt" = some (.ref (He.ga K "_law_spoilt"))
  g__law_many_right : mg "_law_many_right" = some (.ref (He.ga K "_law_many_right"))
  g_law : mg "law" = some (.ref (He.ga K "law"))
  b_NotImplemented : mg "NotImplemented" = none
  b_ValueError : mg "ValueError" = none
  b_abs : mg "abs" = none
  b_all : mg "all" = none
  b_bool : mg "bool" = none
  b_classmethod : mg "classmethod" = none
  b_enumerate : mg "enumerate" = none
  b_int : mg "int" = none
  b_isinstance : mg "isinstance" = none
  b_len : mg "len" = none
  b_list : mg "list" = none
  b_property : mg "property" = none
  b_range : mg "range" = none
  b_sorted : mg "sorted" = none
  b_staticmethod : mg "staticmethod" = none
  b_str : mg "str" = none
  b_sum : mg "sum" = none
  b_super : mg "super" = none
  b_tuple : mg "tuple" = none
  v_ROUND_YEARS : ∃ u, mg "ROUND_YEARS" = some u ∧ RelV (.int 400) u
  v_ROUND_DAYS : ∃ u, mg "ROUND_DAYS" = some u ∧ RelV (.int 146097) u
  v_DAY_MINUTES : ∃ u, mg "DAY_MINUTES" = some u ∧ RelV (.int 1440) u
  v_LENGTHS : ∃ u, mg "LENGTHS" = some u ∧ RelV (.ref (He.ga K "LENGTHS")) u
  t_LENGTHS : ∀ H : Hp, SqT K H (He.ga K "LENGTHS") [(.int 31), (.int 28), (.int 31), (.int 30), (.int 31), (.int 30), (.int 31), (.int 31), (.int 30), (.int 31), (.int 30), (.int 31)]
  v_DIGITS : ∃ u, mg "DIGITS" = some u ∧ RelV (.str "0123456789") u
  v_Moment : ∃ u, mg "Moment" = some u ∧ RelV (.ref (He.ga K "Moment")) u
  c_Moment : Cls K (He.ga K "Moment")
  n_Moment_year : NoAttr K (He.ga K "Moment") "year"
  n_Moment_month : NoAttr K (He.ga K "Moment") "month"
  n_Moment_day : NoAttr K (He.ga K "Moment") "day"
  n_Moment_hour : NoAttr K (He.ga K "Moment") "hour"
  n_Moment_minute : NoAttr K (He.ga K "Moment") "minute"
  n_Moment_date : NoAttr K (He.ga K "Moment") "date"
  n_Moment_weekday : NoAttr K (He.ga K "Moment") "weekday"
  n_Moment_number : NoAttr K (He.ga K "Moment") "number"
  is_Moment : IsC K (He.ga K "Moment")
  r_Moment : ClX.CRead K (He.ga K "Moment") (.type "type")
  sf_Moment : PySem.W.selfFirst K (He.ga K "Moment") = true
  cv_Moment_MOST_YEAR : ∃ u, ClX.CVal K (He.ga K "Moment") (.type "type") "MOST_YEAR" (.int 999999) u
  mk_Moment : Mk K (He.ga K "Moment") (He.ma K (He.ga K "Moment") "__init__")
  m_Moment___init__ : Meth K (He.ga K "Moment") "__init__" (He.ma K (He.ga K "Moment") "__init__")
  o_Moment___init__ : OwnM K (He.ga K "Moment") "__init__" (He.ma K (He.ga K "Moment") "__init__")
  m_Moment___add__ : Meth K (He.ga K "Moment") "__add__" (He.ma K (He.ga K "Moment") "__add__")
  o_Moment___add__ : OwnM K (He.ga K "Moment") "__add__" (He.ma K (He.ga K "Moment") "__add__")
  m_Moment___radd__ : Meth K (He.ga K "Moment") "__radd__" (He.ma K (He.ga K "Moment") "__radd__")
  o_Moment___radd__ : OwnM K (He.ga K "Moment") "__radd__" (He.ma K (He.ga K "Moment") "__radd__")
  m_Moment___sub__ : Meth K (He.ga K "Moment") "__sub__" (He.ma K (He.ga K "Moment") "__sub__")
  o_Moment___sub__ : OwnM K (He.ga K "Moment") "__sub__" (He.ma K (He.ga K "Moment") "__sub__")
  m_Moment___floordiv__ : Meth K (He.ga K "Moment") "__floordiv__" (He.ma K (He.ga K "Moment") "__floordiv__")
  o_Moment___floordiv__ : OwnM K (He.ga K "Moment") "__floordiv__" (He.ma K (He.ga K "Moment") "__floordiv__")
  m_Moment___mod__ : Meth K (He.ga K "Moment") "__mod__" (He.ma K (He.ga K "Moment") "__mod__")
  o_Moment___mod__ : OwnM K (He.ga K "Moment") "__mod__" (He.ma K (He.ga K "Moment") "__mod__")
  m_Moment___lt__ : Meth K (He.ga K "Moment") "__lt__" (He.ma K (He.ga K "Moment") "__lt__")
  o_Moment___lt__ : OwnM K (He.ga K "Moment") "__lt__" (He.ma K (He.ga K "Moment") "__lt__")
  m_Moment___le__ : Meth K (He.ga K "Moment") "__le__" (He.ma K (He.ga K "Moment") "__le__")
  o_Moment___le__ : OwnM K (He.ga K "Moment") "__le__" (He.ma K (He.ga K "Moment") "__le__")
  m_Moment___gt__ : Meth K (He.ga K "Moment") "__gt__" (He.ma K (He.ga K "Moment") "__gt__")
  o_Moment___gt__ : OwnM K (He.ga K "Moment") "__gt__" (He.ma K (He.ga K "Moment") "__gt__")
  m_Moment___ge__ : Meth K (He.ga K "Moment") "__ge__" (He.ma K (He.ga K "Moment") "__ge__")
  o_Moment___ge__ : OwnM K (He.ga K "Moment") "__ge__" (He.ma K (He.ga K "Moment") "__ge__")
  m_Moment___eq__ : Meth K (He.ga K "Moment") "__eq__" (He.ma K (He.ga K "Moment") "__eq__")
  o_Moment___eq__ : OwnM K (He.ga K "Moment") "__eq__" (He.ma K (He.ga K "Moment") "__eq__")
  m_Moment___str__ : Meth K (He.ga K "Moment") "__str__" (He.ma K (He.ga K "Moment") "__str__")
  o_Moment___str__ : OwnM K (He.ga K "Moment") "__str__" (He.ma K (He.ga K "Moment") "__str__")
  ne_Moment : NeC K (He.ga K "Moment")
  fm_Moment : FmtC K (He.ga K "Moment")
  v_Book : ∃ u, mg "Book" = some u ∧ RelV (.ref (He.ga K "Book")) u
  c_Book : Cls K (He.ga K "Book")
  n_Book_rung : NoAttr K (He.ga K "Book") "rung"
  n_Book_spans : NoAttr K (He.ga K "Book") "spans"
  is_Book : IsC K (He.ga K "Book")
  r_Book : ClX.CRead K (He.ga K "Book") (.type "type")
  sf_Book : PySem.W.selfFirst K (He.ga K "Book") = true
  cv_Book_MOST_RINGS : ∃ u, ClX.CVal K (He.ga K "Book") (.type "type") "MOST_RINGS" (.int 2000) u
  cv_Book_MOST_WATCHES : ∃ u, ClX.CVal K (He.ga K "Book") (.type "type") "MOST_WATCHES" (.int 12) u
  cv_Book_LONGEST : ∃ u, ClX.CVal K (He.ga K "Book") (.type "type") "LONGEST" (.int 1152000) u
  mk_Book : Mk K (He.ga K "Book") (He.ma K (He.ga K "Book") "__init__")
  m_Book___init__ : Meth K (He.ga K "Book") "__init__" (He.ma K (He.ga K "Book") "__init__")
  o_Book___init__ : OwnM K (He.ga K "Book") "__init__" (He.ma K (He.ga K "Book") "__init__")
  p_Book_rings : PropOf K (He.ga K "Book") "rings" (He.ma K (He.ga K "Book") "rings") (He5.wf K (He.ga K "Book") "property" "rings")
  p_Book_watches : PropOf K (He.ga K "Book") "watches" (He.ma K (He.ga K "Book") "watches") (He5.wf K (He.ga K "Book") "property" "watches")
  m_Book___iadd__ : Meth K (He.ga K "Book") "__iadd__" (He.ma K (He.ga K "Book") "__iadd__")
  o_Book___iadd__ : OwnM K (He.ga K "Book") "__iadd__" (He.ma K (He.ga K "Book") "__iadd__")
  m_Book___isub__ : Meth K (He.ga K "Book") "__isub__" (He.ma K (He.ga K "Book") "__isub__")
  o_Book___isub__ : OwnM K (He.ga K "Book") "__isub__" (He.ma K (He.ga K "Book") "__isub__")
  m_Book___contains__ : Meth K (He.ga K "Book") "__contains__" (He.ma K (He.ga K "Book") "__contains__")
  o_Book___contains__ : OwnM K (He.ga K "Book") "__contains__" (He.ma K (He.ga K "Book") "__contains__")
  m_Book_watch : Meth K (He.ga K "Book") "watch" (He.ma K (He.ga K "Book") "watch")
  m_Book___or__ : Meth K (He.ga K "Book") "__or__" (He.ma K (He.ga K "Book") "__or__")
  o_Book___or__ : OwnM K (He.ga K "Book") "__or__" (He.ma K (He.ga K "Book") "__or__")
  m_Book___eq__ : Meth K (He.ga K "Book") "__eq__" (He.ma K (He.ga K "Book") "__eq__")
  o_Book___eq__ : OwnM K (He.ga K "Book") "__eq__" (He.ma K (He.ga K "Book") "__eq__")
  ne_Book : NeC K (He.ga K "Book")
  d_Book___init___0 : ∀ H : Hp, SqT K H (dfl0 (fun K => He.ma K (He.ga K "Book") "__init__") 0 K) []
  d_Book___init___1 : ∀ H : Hp, SqT K H (dfl0 (fun K => He.ma K (He.ga K "Book") "__init__") 1 K) []
  lim : NoLim K
  mka : ∀ f ∈ ([(He.ga K "_law_many_right"), (He.ga K "law")] : List Addr), makB K f = true
  mkd : (([(He.ga K "_law_many_right"), (He.ga K "law")] : List Addr).map fun f => tAt K f).Nodup
  f_is_whole : ∃ fd, FunD K "is_whole" "is_whole" (defArgs s_is_whole) (defBody s_is_whole) (defScope s_is_whole) [] [] (He.ga K "is_whole") fd
  f_is_between : ∃ fd, FunD K "is_between" "is_between" (defArgs s_is_between) (defBody s_is_between) (defScope s_is_between) [] [] (He.ga K "is_between") fd
  f_is_leap : ∃ fd, FunD K "is_leap" "is_leap" (defArgs s_is_leap) (defBody s_is_leap) (defScope s_is_leap) [] [] (He.ga K "is_leap") fd
  f_month_length : ∃ fd, FunD K "month_length" "month_length" (defArgs s_month_length) (defBody s_month_length) (defScope s_month_length) [] [] (He.ga K "month_length") fd
  f_days_ahead : ∃ fd, FunD K "days_ahead" "days_ahead" (defArgs s_days_ahead) (defBody s_days_ahead) (defScope s_days_ahead) [] [] (He.ga K "days_ahead") fd
  f_day_number : ∃ fd, FunD K "day_number" "day_number" (defArgs s_day_number) (defBody s_day_number) (defScope s_day_number) [] [] (He.ga K "day_number") fd
  f_date_of : ∃ fd, FunD K "date_of" "date_of" (defArgs s_date_of) (defBody s_date_of) (defScope s_date_of) [] [] (He.ga K "date_of") fd
  f_weekday_of : ∃ fd, FunD K "weekday_of" "weekday_of" (defArgs s_weekday_of) (defBody s_weekday_of) (defScope s_weekday_of) [] [] (He.ga K "weekday_of") fd
  f_wrong_part : ∃ fd, FunD K "wrong_part" "wrong_part" (defArgs s_wrong_part) (defBody s_wrong_part) (defScope s_wrong_part) [] [] (He.ga K "wrong_part") fd
  f_number_in : ∃ fd, FunD K "number_in" "number_in" (defArgs s_number_in) (defBody s_number_in) (defScope s_number_in) [] [] (He.ga K "number_in") fd
  f_date_in : ∃ fd, FunD K "date_in" "date_in" (defArgs s_date_in) (defBody s_date_in) (defScope s_date_in) [] [] (He.ga K "date_in") fd
  f_time_in : ∃ fd, FunD K "time_in" "time_in" (defArgs s_time_in) (defBody s_time_in) (defScope s_time_in) [] [] (He.ga K "time_in") fd
  f_moment_at : ∃ fd, FunD K "moment_at" "moment_at" (defArgs s_moment_at) (defBody s_moment_at) (defScope s_moment_at) [] [] (He.ga K "moment_at") fd
  f_Moment___init__ : ∃ fd, FunD K "__init__" "Moment.__init__" (defArgs s_Moment___init__) (defBody s_Moment___init__) (defScope s_Moment___init__) [(.int 0), (.int 0)] [] (He.ma K (He.ga K "Moment") "__init__") fd
  f_Moment_at : ∃ fd, FunD K "at" "Moment.at" (defArgs s_Moment_at) (defBody s_Moment_at) (defScope s_Moment_at) [] [] (He5.wf K (He.ga K "Moment") "staticmethod" "at") fd
  f_Moment_read : ∃ fd, FunD K "read" "Moment.read" (defArgs s_Moment_read) (defBody s_Moment_read) (defScope s_Moment_read) [] [] (He5.wf K (He.ga K "Moment") "classmethod" "read") fd
  f_Moment___add__ : ∃ fd, FunD K "__add__" "Moment.__add__" (defArgs s_Moment___add__) (defBody s_Moment___add__) (defScope s_Moment___add__) [] [] (He.ma K (He.ga K "Moment") "__add__") fd
  f_Moment___radd__ : ∃ fd, FunD K "__radd__" "Moment.__radd__" (defArgs s_Moment___radd__) (defBody s_Moment___radd__) (defScope s_Moment___radd__) [] [] (He.ma K (He.ga K "Moment") "__radd__") fd
  f_Moment___sub__ : ∃ fd, FunD K "__sub__" "Moment.__sub__" (defArgs s_Moment___sub__) (defBody s_Moment___sub__) (defScope s_Moment___sub__) [] [] (He.ma K (He.ga K "Moment") "__sub__") fd
  f_Moment___floordiv__ : ∃ fd, FunD K "__floordiv__" "Moment.__floordiv__" (defArgs s_Moment___floordiv__) (defBody s_Moment___floordiv__) (defScope s_Moment___floordiv__) [] [] (He.ma K (He.ga K "Moment") "__floordiv__") fd
  f_Moment___mod__ : ∃ fd, FunD K "__mod__" "Moment.__mod__" (defArgs s_Moment___mod__) (defBody s_Moment___mod__) (defScope s_Moment___mod__) [] [] (He.ma K (He.ga K "Moment") "__mod__") fd
  f_Moment___lt__ : ∃ fd, FunD K "__lt__" "Moment.__lt__" (defArgs s_Moment___lt__) (defBody s_Moment___lt__) (defScope s_Moment___lt__) [] [] (He.ma K (He.ga K "Moment") "__lt__") fd
  f_Moment___le__ : ∃ fd, FunD K "__le__" "Moment.__le__" (defArgs s_Moment___le__) (defBody s_Moment___le__) (defScope s_Moment___le__) [] [] (He.ma K (He.ga K "Moment") "__le__") fd
  f_Moment___gt__ : ∃ fd, FunD K "__gt__" "Moment.__gt__" (defArgs s_Moment___gt__) (defBody s_Moment___gt__) (defScope s_Moment___gt__) [] [] (He.ma K (He.ga K "Moment") "__gt__") fd
  f_Moment___ge__ : ∃ fd, FunD K "__ge__" "Moment.__ge__" (defArgs s_Moment___ge__) (defBody s_Moment___ge__) (defScope s_Moment___ge__) [] [] (He.ma K (He.ga K "Moment") "__ge__") fd
  f_Moment___eq__ : ∃ fd, FunD K "__eq__" "Moment.__eq__" (defArgs s_Moment___eq__) (defBody s_Moment___eq__) (defScope s_Moment___eq__) [] [] (He.ma K (He.ga K "Moment") "__eq__") fd
  f_Moment___str__ : ∃ fd, FunD K "__str__" "Moment.__str__" (defArgs s_Moment___str__) (defBody s_Moment___str__) (defScope s_Moment___str__) [] [] (He.ma K (He.ga K "Moment") "__str__") fd
  f_need_watch : ∃ fd, FunD K "need_watch" "need_watch" (defArgs s_need_watch) (defBody s_need_watch) (defScope s_need_watch) [] [] (He.ga K "need_watch") fd
  f_span_code : ∃ fd, FunD K "span_code" "span_code" (defArgs s_span_code) (defBody s_span_code) (defScope s_span_code) [] [] (He.ga K "span_code") fd
  f_with_ring : ∃ fd, FunD K "with_ring" "with_ring" (defArgs s_with_ring) (defBody s_with_ring) (defScope s_with_ring) [] [] (He.ga K "with_ring") fd
  f_rings_in : ∃ fd, FunD K "rings_in" "rings_in" (defArgs s_rings_in) (defBody s_rings_in) (defScope s_rings_in) [] [] (He.ga K "rings_in") fd
  f_spans_in : ∃ fd, FunD K "spans_in" "spans_in" (defArgs s_spans_in) (defBody s_spans_in) (defScope s_spans_in) [] [] (He.ga K "spans_in") fd
  f_Book___init__ : ∃ fd, FunD K "__init__" "Book.__init__" (defArgs s_Book___init__) (defBody s_Book___init__) (defScope s_Book___init__) [(.ref (dfl0 (fun K => He.ma K (He.ga K "Book") "__init__") 0 K)), (.ref (dfl0 (fun K => He.ma K (He.ga K "Book") "__init__") 1 K))] [] (He.ma K (He.ga K "Book") "__init__") fd
  f_Book_rings : ∃ fd, FunD K "rings" "Book.rings" (defArgs s_Book_rings) (defBody s_Book_rings) (defScope s_Book_rings) [] [] (He5.wf K (He.ga K "Book") "property" "rings") fd
  f_Book_watches : ∃ fd, FunD K "watches" "Book.watches" (defArgs s_Book_watches) (defBody s_Book_watches) (defScope s_Book_watches) [] [] (He5.wf K (He.ga K "Book") "property" "watches") fd
  f_Book___iadd__ : ∃ fd, FunD K "__iadd__" "Book.__iadd__" (defArgs s_Book___iadd__) (defBody s_Book___iadd__) (defScope s_Book___iadd__) [] [] (He.ma K (He.ga K "Book") "__iadd__") fd
  f_Book___isub__ : ∃ fd, FunD K "__isub__" "Book.__isub__" (defArgs s_Book___isub__) (defBody s_Book___isub__) (defScope s_Book___isub__) [] [] (He.ma K (He.ga K "Book") "__isub__") fd
  f_Book___contains__ : ∃ fd, FunD K "__contains__" "Book.__contains__" (defArgs s_Book___contains__) (defBody s_Book___contains__) (defScope s_Book___contains__) [] [] (He.ma K (He.ga K "Book") "__contains__") fd
  f_Book_watch : ∃ fd, FunD K "watch" "Book.watch" (defArgs s_Book_watch) (defBody s_Book_watch) (defScope s_Book_watch) [] [] (He.ma K (He.ga K "Book") "watch") fd
  f_Book___or__ : ∃ fd, FunD K "__or__" "Book.__or__" (defArgs s_Book___or__) (defBody s_Book___or__) (defScope s_Book___or__) [] [] (He.ma K (He.ga K "Book") "__or__") fd
  f_Book___eq__ : ∃ fd, FunD K "__eq__" "Book.__eq__" (defArgs s_Book___eq__) (defBody s_Book___eq__) (defScope s_Book___eq__) [] [] (He.ma K (He.ga K "Book") "__eq__") fd
  f_moment_in : ∃ fd, FunD K "moment_in" "moment_in" (defArgs s_moment_in) (defBody s_moment_in) (defScope s_moment_in) [] [] (He.ga K "moment_in") fd
  f_moment_of : ∃ fd, FunD K "moment_of" "moment_of" (defArgs s_moment_of) (defBody s_moment_of) (defScope s_moment_of) [] [] (He.ga K "moment_of") fd
  f_need_end : ∃ fd, FunD K "need_end" "need_end" (defArgs s_need_end) (defBody s_need_end) (defScope s_need_end) [] [] (He.ga K "need_end") fd
  f_read_entry : ∃ fd, FunD K "read_entry" "read_entry" (defArgs s_read_entry) (defBody s_read_entry) (defScope s_read_entry) [] [] (He.ga K "read_entry") fd
  f_lines_in : ∃ fd, FunD K "lines_in" "lines_in" (defArgs s_lines_in) (defBody s_lines_in) (defScope s_lines_in) [] [] (He.ga K "lines_in") fd
  f_read_book : ∃ fd, FunD K "read_book" "read_book" (defArgs s_read_book) (defBody s_read_book) (defScope s_read_book) [] [] (He.ga K "read_book") fd
  f__law_bag : ∃ fd, FunD K "_law_bag" "_law_bag" (defArgs s__law_bag) (defBody s__law_bag) (defScope s__law_bag) [] [] (He.ga K "_law_bag") fd
  f__law_draw : ∃ fd, FunD K "_law_draw" "_law_draw" (defArgs s__law_draw) (defBody s__law_draw) (defScope s__law_draw) [] [] (He.ga K "_law_draw") fd
  f__law_length : ∃ fd, FunD K "_law_length" "_law_length" (defArgs s__law_length) (defBody s__law_length) (defScope s__law_length) [] [] (He.ga K "_law_length") fd
  f__law_date : ∃ fd, FunD K "_law_date" "_law_date" (defArgs s__law_date) (defBody s__law_date) (defScope s__law_date) [] [] (He.ga K "_law_date") fd
  f__law_number : ∃ fd, FunD K "_law_number" "_law_number" (defArgs s__law_number) (defBody s__law_number) (defScope s__law_number) [] [] (He.ga K "_law_number") fd
  f__law_heard : ∃ fd, FunD K "_law_heard" "_law_heard" (defArgs s__law_heard) (defBody s__law_heard) (defScope s__law_heard) [] [] (He.ga K "_law_heard") fd
  f__law_digits : ∃ fd, FunD K "_law_digits" "_law_digits" (defArgs s__law_digits) (defBody s__law_digits) (defScope s__law_digits) [] [] (He.ga K "_law_digits") fd
  f__law_date_in : ∃ fd, FunD K "_law_date_in" "_law_date_in" (defArgs s__law_date_in) (defBody s__law_date_in) (defScope s__law_date_in) [] [] (He.ga K "_law_date_in") fd
  f__law_time_in : ∃ fd, FunD K "_law_time_in" "_law_time_in" (defArgs s__law_time_in) (defBody s__law_time_in) (defScope s__law_time_in) [] [] (He.ga K "_law_time_in") fd
  f__law_line_due : ∃ fd, FunD K "_law_line_due" "_law_line_due" (defArgs s__law_line_due) (defBody s__law_line_due) (defScope s__law_line_due) [] [] (He.ga K "_law_line_due") fd
  f__law_due : ∃ fd, FunD K "_law_due" "_law_due" (defArgs s__law_due) (defBody s__law_due) (defScope s__law_due) [] [] (He.ga K "_law_due") fd
  f__law_spoilt : ∃ fd, FunD K "_law_spoilt" "_law_spoilt" (defArgs s__law_spoilt) (defBody s__law_spoilt) (defScope s__law_spoilt) [] [] (He.ga K "_law_spoilt") fd
  f__law_many_right : ∃ fd, FunD K "_law_many_right" "_law_many_right" (defArgs s__law_many_right) (defBody s__law_many_right) (defScope s__law_many_right) [] [] (He.ga K "_law_many_right") fd
  f_law : ∃ fd, FunD K "law" "law" (defArgs s_law) (defBody s_law) (defScope s_law) [] [] (He.ga K "law") fd
/-- the defs that make lambdas -/
def mkl (K : PySem.W.Frag) : List Addr := [(He.ga K "_law_many_right"), (He.ga K "law")]
def mkq : List Str := ["_law_many_right", "law"]
def lamQ (q : Str) : Str := (q ++ ".<locals>.") ++ "<lambda>"
/-- the tables of code -/
def TT (K : PySem.W.Frag) : List (Addr × Str) := ((mkl K).map fun f => tAt K f).zip (mkq.map lamQ)
structure Ty (K : PySem.W.Frag) (mg : Str → Option Value) (base : Heap) : Prop extends Tx K mg where
  tb : ∀ f ∈ mkl K, LamX.TabB base mg (cAt K f) (tAt K f)
instance {K : PySem.W.Frag} {mg : Str → Option Value} {base : Heap} : CoeOut (Ty K mg base) (Tx K mg) := ⟨Ty.toTx⟩
theorem nd_zip {T : List Addr} {q : List Str} : T.Nodup → ∀ {i : Nat} {a : Addr} {x : Str}, T[i]? = some a → q[i]? = some x → (a, x) ∈ T.zip q ∧ ∀ p ∈ T.zip q, p.1 = a → p.2 = x := fun nd {i a x} h1 h2 => by
  have hz : (T.zip q)[i]? = some (a, x) := by rw [List.getElem?_zip_eq_some]; exact ⟨h1, h2⟩
  refine ⟨List.mem_of_getElem? hz, fun p hp e => ?_⟩
  obtain ⟨j, hj⟩ := List.getElem?_of_mem hp
  rw [List.getElem?_zip_eq_some] at hj
  obtain ⟨j1, j2⟩ := hj
  rw [e] at j1
  have hi : i < T.length := (List.getElem?_eq_some_iff.mp h1).1
  have e2 : i = j := (List.getElem?_inj hi nd).mp (h1.trans j1.symm)
  subst e2
  rw [h2] at j2
  exact (Option.some.inj j2).symm

end G
set_option maxHeartbeats 400000
namespace G
open PySem PySem.Spec PyProof.Rows L2 F
local macro_rules | `(tactic| walk_at "side") => `(tactic| first | rfl | decide | omega | assumption | (unfold CMul; omega) | (unfold CPow; omega) | (unfold CDiv; omega))
local macro_rules | `(tactic| walk_at "hp") => `(tactic| first | assumption | exact upd_same | (refine upd_keep (by assumption) ?_; walk_at "hp") | (refine sm (by assumption) ?_; walk_at "hp"))
local macro_rules | `(tactic| walk_at "n") => `(tactic| ((try conv => whnf); repeat ((first | with_reducible refine cond_t rfl ?_ | with_reducible refine cond_f rfl ?_ | with_reducible refine cond_n ?_); (try conv => whnf))))
local macro_rules | `(tactic| walk_at "go") => `(tactic| (walk_at "n"; repeat (refine And.intro ?side ?_; (case side => walk_at "side"); walk_at "n")))

open M
/-- an error of the class nm, with the fields fs -/
def Rz (K : PySem.W.Frag) (nm : Str) (fs : List (Str × V)) (H : Hp) (E : XK) : Prop := ∀ d H', Same H H' → H d = none → H' d = some (.xd fs) → E (.ref (He.ga K nm)) (some d) H'
theorem Rz.same {K : PySem.W.Frag} {nm : Str} {fs : List (Str × V)} {H H1 : Hp} {E : XK} (h : Rz K nm fs H E) (s : Same H H1) : Rz K nm fs H1 E := fun d H' s1 hd e => h d H' (s.trans s1) (s.free hd) e
theorem Rz.go {K : PySem.W.Frag} {nm : Str} {fs : List (Str × V)} {H : Hp} {E : XK} (h : Rz K nm fs H E) (d : Addr) (hd : H d = none) : E (.ref (He.ga K nm)) (some d) (upd H d (.xd fs)) := h d _ (snew hd) hd upd_same
/-- what is wrong with a watch -/
def spanBad (q p : Mo) : Option Str := if p.num ≤ q.num then some "order" else if 1152000 < p.num - q.num then some "length" else none

end G
set_option maxHeartbeats 400000
namespace G
open PySem PySem.Spec PyProof.Rows L2 F
local macro_rules | `(tactic| walk_at "side") => `(tactic| first | rfl | decide | omega | assumption | (unfold CMul; omega) | (unfold CPow; omega) | (unfold CDiv; omega))
local macro_rules | `(tactic| walk_at "hp") => `(tactic| first | assumption | exact upd_same | (refine upd_keep (by assumption) ?_; walk_at "hp") | (refine sm (by assumption) ?_; walk_at "hp"))
local macro_rules | `(tactic| walk_at "n") => `(tactic| ((try conv => whnf); repeat ((first | with_reducible refine cond_t rfl ?_ | with_reducible refine cond_f rfl ?_ | with_reducible refine cond_n ?_); (try conv => whnf))))
local macro_rules | `(tactic| walk_at "go") => `(tactic| (walk_at "n"; repeat (refine And.intro ?side ?_; (case side => walk_at "side"); walk_at "n")))

open M
/-- an object that is no number -/
def Plain (K : PySem.W.Frag) (H : Hp) (x : V) : Prop := match x with
  | .ref a => NotTy K H a (.type "int") ∧ NotTy K H a (.type "bool")
  | .int _ => True
  | .bl _ => True
  | .str _ => True
  | .non => True
  | _ => False
def whole : V → Bool
  | .int _ => true
  | _ => false
def betw (x : V) (lo hi : Int) : Bool := match x with
  | .int i => decide (lo ≤ i) && decide (i ≤ hi)
  | _ => false
def toI : V → Int
  | .int i => i
  | _ => 0
theorem at_lens {m : Int} (h1 : 1 ≤ m) (h2 : m ≤ 12) : atI ([.int 31, .int 28, .int 31, .int 30, .int 31, .int 30, .int 31, .int 31, .int 30, .int 31, .int 30, .int 31] : List V) (m - 1) = some (.int (lens.getD (m - 1).toNat 0)) := by
  obtain ⟨k, hk⟩ : ∃ k : Nat, m = (k : Int) + 1 := ⟨(m - 1).toNat, by omega⟩
  subst hk
  have hk : k < 12 := by omega
  have e : ((k : Int) + 1 - 1) = (k : Int) := by omega
  rw [e, atI_nat (j := k) (v := .int (lens.getD k 0))]
  · rfl
  · rcases k with _ | _ | _ | _ | _ | _ | _ | _ | _ | _ | _ | _ | k <;> first | rfl | omega
def sp_is_leap (K : PySem.W.Frag) : Sp := fun vs H Q E => match vs with
  | [.int y] => Q (.bl (isLeap y)) H
  | _ => False
theorem sc_is_leap : FnScope ["year"] ["year"] (defScope s_is_leap) := ⟨rfl, rfl, rfl, by decide +kernel, rfl, by decide +kernel, by decide +kernel⟩
theorem okF_is_leap {w : World} {K : PySem.W.Frag} {mg : Str → Option Value} {base : Heap} {fd : FuncData} (TB : Ty K mg base) (F1 : FunD K "is_leap" "is_leap" (defArgs s_is_leap) (defBody s_is_leap) (defScope s_is_leap) [] [] (He.ga K "is_leap") fd) : FnOk P w K mg base (L2.CX P w) 1 (He.ga K "is_leap") fd ["year"] (sp_is_leap K) := by
  have T : Tx K mg := TB.toTx
  refine F1.ok sc_is_leap (fun vs H Q E h => ?_) (fun cdv A outer s H vs Q E hr h => ?_)
  · unfold sp_is_leap at h
    split at h
    · rfl
    · exact h.elim
  · unfold sp_is_leap at h
    split at h
    rotate_left
    · exact h.elim
    · rename_i y
      refine ⟨_, (pss_one (ps_ret (e_and (pe_cmpR o_eq (pe_op o_mod (e_v 0) pe_int) pe_int (nomark _)) (pe_one (e_or (pe_cmpR o_ne (pe_op o_mod (e_v 0) pe_int) pe_int (nomark _)) (pe_one (pe_cmpR o_eq (pe_op o_mod (e_v 0) pe_int) pe_int (nomark _)))))))), ?_⟩
      walk_at "go"
      unfold isLeap at h
      refine cond_p (fun h1 => ?_) (fun h1 => ?_)
      · walk_at "go"
        refine cond_p (fun h2 => ?_) (fun h2 => ?_)
        · walk_at "go"
          simpa [h1, h2] using h
        · simpa [h1, h2] using h
      · simpa [h1] using h
theorem ok_is_leap {w : World} {K : PySem.W.Frag} {mg : Str → Option Value} {base : Heap} (TB : Ty K mg base) : F.Fr P w K mg base 1 (He.ga K "is_leap") (sp_is_leap K) := (TB.toTx.f_is_leap).elim fun fd F1 => fr_of F1 (okF_is_leap TB F1) (fun _ _ _ _ _ _ us hl => match us, hl with | [_], _ => rfl)
def sp_days_ahead (K : PySem.W.Frag) : Sp := fun vs H Q E => match vs with
  | [.int y] => Q (.int (daysAhead y)) H
  | _ => False
theorem sc_days_ahead : FnScope ["year", "past"] ["year"] (defScope s_days_ahead) := ⟨rfl, rfl, rfl, by decide +kernel, rfl, by decide +kernel, by decide +kernel⟩
theorem okF_days_ahead {w : World} {K : PySem.W.Frag} {mg : Str → Option Value} {base : Heap} {fd : FuncData} (TB : Ty K mg base) (F1 : FunD K "days_ahead" "days_ahead" (defArgs s_days_ahead) (defBody s_days_ahead) (defScope s_days_ahead) [] [] (He.ga K "days_ahead") fd) : FnOk P w K mg base (L2.CX P w) 1 (He.ga K "days_ahead") fd ["year"] (sp_days_ahead K) := by
  have T : Tx K mg := TB.toTx
  refine F1.ok sc_days_ahead (fun vs H Q E h => ?_) (fun cdv A outer s H vs Q E hr h => ?_)
  · unfold sp_days_ahead at h
    split at h
    · rfl
    · exact h.elim
  · unfold sp_days_ahead at h
    split at h
    rotate_left
    · exact h.elim
    · rename_i y
      refine ⟨_, (pss_cons (ps_set (i := 1) sc_days_ahead.nd rfl (Or.inl rfl) (pe_op o_sub (e_v 0) pe_int))
        (pss_one (ps_ret (pe_op (k_add K) (pe_op o_sub (pe_op (k_add K) (pe_op o_mul pe_int (e_v 1)) (pe_op o_div (e_v 1) pe_int)) (pe_op o_div (e_v 1) pe_int)) (pe_op o_div (e_v 1) pe_int))))), ?_⟩
      walk_at "go"
      exact h
theorem ok_days_ahead {w : World} {K : PySem.W.Frag} {mg : Str → Option Value} {base : Heap} (TB : Ty K mg base) : F.Fr P w K mg base 1 (He.ga K "days_ahead") (sp_days_ahead K) := (TB.toTx.f_days_ahead).elim fun fd F1 => fr_of F1 (okF_days_ahead TB F1) (fun _ _ _ _ _ _ us hl => match us, hl with | [_], _ => rfl)
def sp_weekday_of (K : PySem.W.Frag) : Sp := fun vs H Q E => match vs with
  | [.int n] => Q (.int (n % 7)) H
  | _ => False
theorem sc_weekday_of : FnScope ["number"] ["number"] (defScope s_weekday_of) := ⟨rfl, rfl, rfl, by decide +kernel, rfl, by decide +kernel, by decide +kernel⟩
theorem okF_weekday_of {w : World} {K : PySem.W.Frag} {mg : Str → Option Value} {base : Heap} {fd : FuncData} (TB : Ty K mg base) (F1 : FunD K "weekday_of" "weekday_of" (defArgs s_weekday_of) (defBody s_weekday_of) (defScope s_weekday_of) [] [] (He.ga K "weekday_of") fd) : FnOk P w K mg base (L2.CX P w) 1 (He.ga K "weekday_of") fd ["number"] (sp_weekday_of K) := by
  have T : Tx K mg := TB.toTx
  refine F1.ok sc_weekday_of (fun vs H Q E h => ?_) (fun cdv A outer s H vs Q E hr h => ?_)
  · unfold sp_weekday_of at h
    split at h
    · rfl
    · exact h.elim
  · unfold sp_weekday_of at h
    split at h
    rotate_left
    · exact h.elim
    · rename_i n
      refine ⟨_, (pss_one (ps_ret (pe_op o_mod (e_v 0) pe_int))), ?_⟩
      walk_at "go"
      exact h
theorem ok_weekday_of {w : World} {K : PySem.W.Frag} {mg : Str → Option Value} {base : Heap} (TB : Ty K mg base) : F.Fr P w K mg base 1 (He.ga K "weekday_of") (sp_weekday_of K) := (TB.toTx.f_weekday_of).elim fun fd F1 => fr_of F1 (okF_weekday_of TB F1) (fun _ _ _ _ _ _ us hl => match us, hl with | [_], _ => rfl)
def sp_is_whole (K : PySem.W.Frag) : Sp := fun vs H Q E => match vs with
  | [x] => Plain K H x ∧ Q (.bl (whole x)) H
  | _ => False
theorem sc_is_whole : FnScope ["value"] ["value"] (defScope s_is_whole) := ⟨rfl, rfl, rfl, by decide +kernel, rfl, by decide +kernel, by decide +kernel⟩
theorem okF_is_whole {w : World} {K : PySem.W.Frag} {mg : Str → Option Value} {base : Heap} {fd : FuncData} (TB : Ty K mg base) (F1 : FunD K "is_whole" "is_whole" (defArgs s_is_whole) (defBody s_is_whole) (defScope s_is_whole) [] [] (He.ga K "is_whole") fd) : FnOk P w K mg base (L2.CX P w) 1 (He.ga K "is_whole") fd ["value"] (sp_is_whole K) := by
  have T : Tx K mg := TB.toTx
  refine F1.ok sc_is_whole (fun vs H Q E h => ?_) (fun cdv A outer s H vs Q E hr h => ?_)
  · unfold sp_is_whole at h
    split at h
    · rfl
    · exact h.elim
  · unfold sp_is_whole at h
    split at h
    rotate_left
    · exact h.elim
    · rename_i x
      refine ⟨_, (pss_one (ps_ret (e_and (e_is_int T.b_int T.b_isinstance (e_v 0)) (pe_one (e_not (e_is_bool T.b_bool T.b_isinstance (e_v 0))))))), ?_⟩
      obtain ⟨hp, h⟩ := h
      cases x with
      | int i =>
        walk_at "go"
        exact h
      | bl i =>
        walk_at "go"
        exact h
      | str i =>
        walk_at "go"
        exact h
      | non =>
        walk_at "go"
        exact h
      | ref a =>
        walk_at "go"
        refine ⟨hp.1, ?_⟩
        walk_at "n"
        exact h
      | _ => exact hp.elim
theorem ok_is_whole {w : World} {K : PySem.W.Frag} {mg : Str → Option Value} {base : Heap} (TB : Ty K mg base) : F.Fr P w K mg base 1 (He.ga K "is_whole") (sp_is_whole K) := (TB.toTx.f_is_whole).elim fun fd F1 => fr_of F1 (okF_is_whole TB F1) (fun _ _ _ _ _ _ us hl => match us, hl with | [_], _ => rfl)
def sp_is_between (K : PySem.W.Frag) : Sp := fun vs H Q E => match vs with
  | [x, .int lo, .int hi] => Plain K H x ∧ Q (.bl (betw x lo hi)) H
  | _ => False
theorem sc_is_between : FnScope ["value", "low", "high"] ["value", "low", "high"] (defScope s_is_between) := ⟨rfl, rfl, rfl, by decide +kernel, rfl, by decide +kernel, by decide +kernel⟩
theorem okF_is_between {w : World} {K : PySem.W.Frag} {mg : Str → Option Value} {base : Heap} {fd : FuncData} (TB : Ty K mg base) (F1 : FunD K "is_between" "is_between" (defArgs s_is_between) (defBody s_is_between) (defScope s_is_between) [] [] (He.ga K "is_between") fd) : FnOk P w K mg base (L2.CX P w) 2 (He.ga K "is_between") fd ["value", "low", "high"] (sp_is_between K) := by
  have T : Tx K mg := TB.toTx
  have c_is_whole : Fc P w K mg base 1 "is_whole" (sp_is_whole K) := ⟨_, ok_is_whole TB, T.g_is_whole, (T.f_is_whole).elim fun _ z => z.kp⟩
  refine F1.ok sc_is_between (fun vs H Q E h => ?_) (fun cdv A outer s H vs Q E hr h => ?_)
  · unfold sp_is_between at h
    split at h
    · rfl
    · exact h.elim
  · unfold sp_is_between at h
    split at h
    rotate_left
    · exact h.elim
    · rename_i x lo hi
      refine ⟨_, (pss_one (ps_ret (e_and (e_c c_is_whole hr (pa_cons (e_v 0) pa_nil)) (pe_one (e_chain o_le o_le (e_v 1) (e_v 0) (e_v 2)))))), ?_⟩
      obtain ⟨hp, h⟩ := h
      walk_at "n"
      refine ⟨hp, ?_⟩
      walk_at "n"
      cases x with
      | int i =>
        refine cond_t rfl ?_
        walk_at "n"
        refine cond_p (fun h1 => ?_) (fun h1 => ?_)
        · walk_at "n"
          simpa [betw, h1] using h
        · simpa [betw, h1] using h
      | ref a => exact cond_f rfl h
      | bl a => exact cond_f rfl h
      | str a => exact cond_f rfl h
      | non => exact cond_f rfl h
      | _ => exact hp.elim
theorem ok_is_between {w : World} {K : PySem.W.Frag} {mg : Str → Option Value} {base : Heap} (TB : Ty K mg base) : F.Fr P w K mg base 2 (He.ga K "is_between") (sp_is_between K) := (TB.toTx.f_is_between).elim fun fd F1 => fr_of F1 (okF_is_between TB F1) (fun _ _ _ _ _ _ us hl => match us, hl with | [_, _, _], _ => rfl)
def sp_month_length (K : PySem.W.Frag) : Sp := fun vs H Q E => match vs with
  | [.int y, .int m] => (1 ≤ m ∧ m ≤ 12) ∧ Q (.int (monthLen y m)) H
  | _ => False
theorem sc_month_length : FnScope ["year", "month"] ["year", "month"] (defScope s_month_length) := ⟨rfl, rfl, rfl, by decide +kernel, rfl, by decide +kernel, by decide +kernel⟩
theorem okF_month_length {w : World} {K : PySem.W.Frag} {mg : Str → Option Value} {base : Heap} {fd : FuncData} (TB : Ty K mg base) (F1 : FunD K "month_length" "month_length" (defArgs s_month_length) (defBody s_month_length) (defScope s_month_length) [] [] (He.ga K "month_length") fd) : FnOk P w K mg base (L2.CX P w) 2 (He.ga K "month_length") fd ["year", "month"] (sp_month_length K) := by
  have T : Tx K mg := TB.toTx
  have c_is_leap : Fc P w K mg base 1 "is_leap" (sp_is_leap K) := ⟨_, ok_is_leap TB, T.g_is_leap, (T.f_is_leap).elim fun _ z => z.kp⟩
  refine F1.ok sc_month_length (fun vs H Q E h => ?_) (fun cdv A outer s H vs Q E hr h => ?_)
  · unfold sp_month_length at h
    split at h
    · rfl
    · exact h.elim
  · unfold sp_month_length at h
    split at h
    rotate_left
    · exact h.elim
    · rename_i y m
      refine ⟨_, (pss_one (ps_ret (pe_op (k_add K) (pe_ix (k_ixT K) (e_g T.v_LENGTHS) (pe_op o_sub (e_v 1) pe_int) (fun _ _ => rfl)) (e_int T.b_int (e_and (pe_cmpR o_eq (e_v 1) pe_int (nomark _)) (pe_one (e_c c_is_leap hr (pa_cons (e_v 0) pa_nil)))))))), ?_⟩
      obtain ⟨⟨h1, h2⟩, h⟩ := h
      walk_at "n"
      refine ⟨_, _, T.t_LENGTHS _, at_lens h1 h2, ?_⟩
      walk_at "n"
      unfold monthLen at h
      refine cond_p (fun h3 => ?_) (fun h3 => ?_)
      · walk_at "n"
        simpa [h3] using h
      · walk_at "n"
        simpa [h3] using h
theorem ok_month_length {w : World} {K : PySem.W.Frag} {mg : Str → Option Value} {base : Heap} (TB : Ty K mg base) : F.Fr P w K mg base 2 (He.ga K "month_length") (sp_month_length K) := (TB.toTx.f_month_length).elim fun fd F1 => fr_of F1 (okF_month_length TB F1) (fun _ _ _ _ _ _ us hl => match us, hl with | [_, _], _ => rfl)
def sp_day_number (K : PySem.W.Frag) : Sp := fun vs H Q E => match vs with
  | [.int y, .int m, .int d] => (1 ≤ m ∧ m ≤ 12) ∧ ∀ H', Same H H' → Q (.int (dayNumber y m d)) H'
  | _ => False
theorem sc_day_number : FnScope ["year", "month", "day", "one"] ["year", "month", "day"] (defScope s_day_number) := ⟨rfl, rfl, rfl, by decide +kernel, rfl, by decide +kernel, by decide +kernel⟩
theorem okF_day_number {w : World} {K : PySem.W.Frag} {mg : Str → Option Value} {base : Heap} {fd : FuncData} (TB : Ty K mg base) (F1 : FunD K "day_number" "day_number" (defArgs s_day_number) (defBody s_day_number) (defScope s_day_number) [] [] (He.ga K "day_number") fd) : FnOk P w K mg base (L2.CX P w) 3 (He.ga K "day_number") fd ["year", "month", "day"] (sp_day_number K) := by
  have T : Tx K mg := TB.toTx
  have c_days_ahead : Fc P w K mg base 1 "days_ahead" (sp_days_ahead K) := ⟨_, ok_days_ahead TB, T.g_days_ahead, (T.f_days_ahead).elim fun _ z => z.kp⟩
  have c_month_length : Fc P w K mg base 2 "month_length" (sp_month_length K) := ⟨_, ok_month_length TB, T.g_month_length, (T.f_month_length).elim fun _ z => z.kp⟩
  refine F1.ok sc_day_number (fun vs H Q E h => ?_) (fun cdv A outer s H vs Q E hr h => ?_)
  · unfold sp_day_number at h
    split at h
    · rfl
    · exact h.elim
  · unfold sp_day_number at h
    split at h
    rotate_left
    · exact h.elim
    · rename_i y m d
      refine ⟨_, (pss_one (ps_ret (pe_op o_sub (pe_op (k_add K) (pe_op (k_add K) (e_c c_days_ahead hr (pa_cons (e_v 0) pa_nil)) (e_sum rfl T.b_sum (pe_lc (own := [("one", 3)]) (g := gName 3) (tt := tYes) rfl sc_day_number.nd (pi_range2 rfl T.b_range (pa_cons pe_int (pa_cons (e_v 1) pa_nil))) (blkOk_by (own := [("one", 3)]) (N := ["year", "month", "day", "one"]) (sc := defScope s_day_number) (by decide +kernel)) (fun _ _ _ _ _ => (pg_name (i := 3) sc_day_number.nd rfl (Or.inl rfl))) (fun _ _ _ _ _ => pts_nil) (fun _ _ _ _ _ => (e_c c_month_length hr (pa_cons (e_v 0) (pa_cons (e_v 3) pa_nil))))))) (e_v 2)) pe_int))), ?_⟩
      obtain ⟨⟨h1, h2⟩, h⟩ := h
      walk_at "n"
      refine ⟨1, m, rfl, by omega, fun D hD => lcW (walk_range (lo := 1) (n := (m - 1).toNat)) (fun i v _ => v = .int (monthLen y (1 + (i : Int)))) (by omega) hD (fun _ _ => trivial) (fun _ _ _ _ _ z => z) ?_ gm_name ?_⟩
      · rintro i x H1 H2 acc Nx hi s hd ⟨rfl, rfl⟩ nx
        refine ⟨rfl, ?_⟩
        walk_at "n"
        refine ⟨by omega, ?_⟩
        exact nx _ _ (Same.refl _) rfl
      · intro ys H1 hl hy s hd
        have e := ys_fn hl hy
        walk_at "n"
        refine ⟨(List.range (m - 1).toNat).map fun (i : Nat) => monthLen y (1 + (i : Int)), ?_, ?_⟩
        · rw [List.map_map]
          rw [e] at hd
          exact SqL.of hd
        · walk_at "n"
          exact h _ s
theorem ok_day_number {w : World} {K : PySem.W.Frag} {mg : Str → Option Value} {base : Heap} (TB : Ty K mg base) : F.Fr P w K mg base 3 (He.ga K "day_number") (sp_day_number K) := (TB.toTx.f_day_number).elim fun fd F1 => fr_of F1 (okF_day_number TB F1) (fun _ _ _ _ _ _ us hl => match us, hl with | [_, _, _], _ => rfl)
end G
set_option maxHeartbeats 400000
namespace G
open PySem PySem.Spec PyProof.Rows L2 F
local macro_rules | `(tactic| walk_at "side") => `(tactic| first | rfl | decide | omega | assumption | (unfold CMul; omega) | (unfold CPow; omega) | (unfold CDiv; omega))
local macro_rules | `(tactic| walk_at "hp") => `(tactic| first | assumption | exact upd_same | (refine upd_keep (by assumption) ?_; walk_at "hp") | (refine sm (by assumption) ?_; walk_at "hp"))
local macro_rules | `(tactic| walk_at "n") => `(tactic| ((try conv => whnf); repeat ((first | with_reducible refine cond_t rfl ?_ | with_reducible refine cond_f rfl ?_ | with_reducible refine cond_n ?_); (try conv => whnf))))
local macro_rules | `(tactic| walk_at "go") => `(tactic| (walk_at "n"; repeat (refine And.intro ?side ?_; (case side => walk_at "side"); walk_at "n")))

open M
/-- the name of the first part that is wrong, as a value -/
def wrongPart (y m d h i : V) : V :=
  if betw y 1 999999 = false then .str "year" else if betw m 1 12 = false then .str "month" else if betw d 1 (monthLen (toI y) (toI m)) = false then .str "day" else if betw h 0 23 = false then .str "hour" else if betw i 0 59 = false then .str "minute" else .non
theorem betw_int {x : V} {lo hi : Int} (h : betw x lo hi = true) : ∃ i, x = .int i ∧ lo ≤ i ∧ i ≤ hi := by
  unfold betw at h
  split at h
  · simp at h
    exact ⟨_, rfl, h.1, h.2⟩
  · cases h
def sp_wrong_part (K : PySem.W.Frag) : Sp := fun vs H Q E => match vs with
  | [y, m, d, h1, i] => (Plain K H y ∧ Plain K H m ∧ Plain K H d ∧ Plain K H h1 ∧ Plain K H i) ∧ Q (wrongPart y m d h1 i) H
  | _ => False
theorem sc_wrong_part : FnScope ["year", "month", "day", "hour", "minute"] ["year", "month", "day", "hour", "minute"] (defScope s_wrong_part) := ⟨rfl, rfl, rfl, by decide +kernel, rfl, by decide +kernel, by decide +kernel⟩
theorem okF_wrong_part {w : World} {K : PySem.W.Frag} {mg : Str → Option Value} {base : Heap} {fd : FuncData} (TB : Ty K mg base) (F1 : FunD K "wrong_part" "wrong_part" (defArgs s_wrong_part) (defBody s_wrong_part) (defScope s_wrong_part) [] [] (He.ga K "wrong_part") fd) : FnOk P w K mg base (L2.CX P w) 3 (He.ga K "wrong_part") fd ["year", "month", "day", "hour", "minute"] (sp_wrong_part K) := by
  have T : Tx K mg := TB.toTx
  have c_is_between : Fc P w K mg base 2 "is_between" (sp_is_between K) := ⟨_, ok_is_between TB, T.g_is_between, (T.f_is_between).elim fun _ z => z.kp⟩
  have c_month_length : Fc P w K mg base 2 "month_length" (sp_month_length K) := ⟨_, ok_month_length TB, T.g_month_length, (T.f_month_length).elim fun _ z => z.kp⟩
  refine F1.ok sc_wrong_part (fun vs H Q E h => ?_) (fun cdv A outer s H vs Q E hr h => ?_)
  · unfold sp_wrong_part at h
    split at h
    · rfl
    · exact h.elim
  · unfold sp_wrong_part at h
    split at h
    rotate_left
    · exact h.elim
    · rename_i y m d h1 i
      refine ⟨_, (pss_cons (s_if (pt_not (t_b (e_c c_is_between hr (pa_cons (e_v 0) (pa_cons pe_int (pa_cons (e_cval rfl T.g_Moment T.r_Moment T.cv_Moment_MOST_YEAR) pa_nil)))))) (pss_one (ps_ret pe_str)) pss_nil)
        (pss_cons (s_if (pt_not (t_b (e_c c_is_between hr (pa_cons (e_v 1) (pa_cons pe_int (pa_cons pe_int pa_nil)))))) (pss_one (ps_ret pe_str)) pss_nil)
        (pss_cons (s_if (pt_not (t_b (e_c c_is_between hr (pa_cons (e_v 2) (pa_cons pe_int (pa_cons (e_c c_month_length hr (pa_cons (e_v 0) (pa_cons (e_v 1) pa_nil))) pa_nil)))))) (pss_one (ps_ret pe_str)) pss_nil)
        (pss_cons (s_if (pt_not (t_b (e_c c_is_between hr (pa_cons (e_v 3) (pa_cons pe_int (pa_cons pe_int pa_nil)))))) (pss_one (ps_ret pe_str)) pss_nil)
        (pss_one (ps_ret (e_if (t_b (e_c c_is_between hr (pa_cons (e_v 4) (pa_cons pe_int (pa_cons pe_int pa_nil))))) pe_non pe_str))))))), ?_⟩
      obtain ⟨⟨p1, p2, p3, p4, p5⟩, h⟩ := h
      walk_at "n"
      refine ⟨p1, ?_⟩
      walk_at "n"
      unfold wrongPart at h
      refine cond_b (fun b1 => ?_) (fun b1 => ?_)
      rotate_left
      · walk_at "n"
        rw [if_pos b1] at h
        exact h
      rw [if_neg (by rw [b1]; decide)] at h
      walk_at "n"
      refine ⟨p2, ?_⟩
      walk_at "n"
      refine cond_b (fun b2 => ?_) (fun b2 => ?_)
      rotate_left
      · walk_at "n"
        rw [if_pos b2] at h
        exact h
      rw [if_neg (by rw [b2]; decide)] at h
      obtain ⟨y, rfl, y1, y2⟩ := betw_int b1
      obtain ⟨m, rfl, m1, m2⟩ := betw_int b2
      walk_at "n"
      refine ⟨⟨m1, m2⟩, ?_⟩
      walk_at "n"
      refine ⟨p3, ?_⟩
      walk_at "n"
      refine cond_b (fun b3 => ?_) (fun b3 => ?_)
      rotate_left
      · walk_at "n"
        rw [if_pos (show betw d 1 (monthLen (toI (.int y)) (toI (.int m))) = false from b3)] at h
        exact h
      rw [if_neg (show ¬ betw d 1 (monthLen (toI (.int y)) (toI (.int m))) = false from by rw [show betw d 1 (monthLen (toI (.int y)) (toI (.int m))) = true from b3]; decide)] at h
      walk_at "n"
      refine ⟨p4, ?_⟩
      walk_at "n"
      refine cond_b (fun b4 => ?_) (fun b4 => ?_)
      rotate_left
      · walk_at "n"
        rw [if_pos b4] at h
        exact h
      rw [if_neg (by rw [b4]; decide)] at h
      walk_at "n"
      refine ⟨p5, ?_⟩
      walk_at "n"
      refine cond_b (fun b5 => ?_) (fun b5 => ?_)
      · walk_at "n"
        rw [if_neg (by rw [b5]; decide)] at h
        exact h
      · walk_at "n"
        rw [if_pos b5] at h
        exact h
theorem ok_wrong_part {w : World} {K : PySem.W.Frag} {mg : Str → Option Value} {base : Heap} (TB : Ty K mg base) : F.Fr P w K mg base 3 (He.ga K "wrong_part") (sp_wrong_part K) := (TB.toTx.f_wrong_part).elim fun fd F1 => fr_of F1 (okF_wrong_part TB F1) (fun _ _ _ _ _ _ us hl => match us, hl with | [_, _, _, _, _], _ => rfl)
/-- the number that a text of so many digits writes -/
def isDig (c : Nat) : Bool := decide (48 ≤ c) && decide (c ≤ 57)
def numIn (z : Str) (lo hi : Int) : Option Int := if (decide (lo ≤ z.length) && decide ((z.length : Int) ≤ hi)) && z.cps.toList.all isDig then some ((NumText.digitsVal z.cps.toList : Nat) : Int) else none
def optI : Option Int → V
  | none => .non
  | some i => .int i
theorem dig_in (c : Nat) : decide (c ∈ (Str.ofString "0123456789").cps.toList) = isDig c := by
  have e : (Str.ofString "0123456789").cps.toList = [48, 49, 50, 51, 52, 53, 54, 55, 56, 57] := by decide +kernel
  rw [e]
  unfold isDig
  by_cases h : 48 ≤ c ∧ c ≤ 57
  · rw [decide_eq_true h.1, decide_eq_true h.2]
    refine decide_eq_true ?_
    simp only [List.mem_cons, List.mem_nil_iff, or_false]
    omega
  · have e2 : (decide (48 ≤ c) && decide (c ≤ 57)) = false := by
      simp only [Bool.and_eq_false_iff, decide_eq_false_iff_not]
      omega
    rw [e2]
    refine decide_eq_false fun z => h ?_
    simp only [List.mem_cons, List.mem_nil_iff, or_false] at z
    omega
theorem numIn_int {z : Str} {lo hi : Int} (h1 : lo ≤ z.length) (h2 : (z.length : Int) ≤ hi) (h0 : 1 ≤ lo) (h6 : hi ≤ 600) (hd : z.cps.toList.all isDig = true) : intText? z = some ((NumText.digitsVal z.cps.toList : Nat) : Int) ∧ z.length ≤ 640 := by
  refine ⟨PySem.intText_digits (fun c hc => ?_) (fun e => ?_) (by omega), by omega⟩
  · have q := List.all_eq_true.mp hd c hc
    unfold isDig at q
    simpa using q
  · have q : z.length = 0 := by
      show z.cps.size = 0
      rw [← Array.length_toList, e]
      rfl
    omega
def sp_number_in (K : PySem.W.Frag) : Sp := fun vs H Q E => match vs with
  | [.str z, .int lo, .int hi] => (1 ≤ lo ∧ hi ≤ 600 ∧ z.length ≤ sizeLine) ∧ ∀ H', Same H H' → Q (optI (numIn z lo hi)) H'
  | _ => False
theorem sc_number_in : FnScope ["text", "least", "most", "sign"] ["text", "least", "most"] (defScope s_number_in) := ⟨rfl, rfl, rfl, by decide +kernel, rfl, by decide +kernel, by decide +kernel⟩
theorem okF_number_in {w : World} {K : PySem.W.Frag} {mg : Str → Option Value} {base : Heap} {fd : FuncData} (TB : Ty K mg base) (F1 : FunD K "number_in" "number_in" (defArgs s_number_in) (defBody s_number_in) (defScope s_number_in) [] [] (He.ga K "number_in") fd) : FnOk P w K mg base (L2.CX P w) 1 (He.ga K "number_in") fd ["text", "least", "most"] (sp_number_in K) := by
  have T : Tx K mg := TB.toTx
  refine F1.ok sc_number_in (fun vs H Q E h => ?_) (fun cdv A outer s H vs Q E hr h => ?_)
  · unfold sp_number_in at h
    split at h
    · rfl
    · exact h.elim
  · unfold sp_number_in at h
    split at h
    rotate_left
    · exact h.elim
    · rename_i z lo hi
      refine ⟨_, (pss_cons (s_if (PW.pt (w_or (pt_not (t_chain o_le o_le (e_v 1) (kk_len K T.b_len (e_v 0)) (e_v 2))) (w_or1 (pt_not (t_b (e_all rfl T.b_all (pe_lc (own := [("sign", 3)]) (g := gName 3) (tt := tYes) rfl sc_number_in.nd (pi_str (e_v 0)) (blkOk_by (own := [("sign", 3)]) (N := ["text", "least", "most", "sign"]) (sc := defScope s_number_in) (by decide +kernel)) (fun _ _ _ _ _ => (pg_name (i := 3) sc_number_in.nd rfl (Or.inl rfl))) (fun _ _ _ _ _ => pts_nil) (fun _ _ _ _ _ => (pe_cmpR o_inS (e_v 3) (e_g T.v_DIGITS) (by rfl)))))))))) (pss_one (ps_ret pe_non)) pss_nil)
        (pss_one (ps_ret (e_int T.b_int (e_v 0))))), ?_⟩
      obtain ⟨⟨h0, h6, hz⟩, h⟩ := h
      walk_at "n"
      refine ⟨hz, ?_⟩
      walk_at "n"
      have out : ∀ H', Same H H' → (decide (lo ≤ z.length) && decide ((z.length : Int) ≤ hi)) = false → Q .non H' := fun H' s e => by
        have q := h H' s
        unfold numIn at q
        rw [e] at q
        exact q
      refine cond_p (fun h1 => ?_) (fun h1 => ?_)
      rotate_left
      · walk_at "n"
        exact out _ (Same.refl _) (by simp [h1])
      walk_at "n"
      refine cond_p (fun h2 => ?_) (fun h2 => ?_)
      rotate_left
      · walk_at "n"
        exact out _ (Same.refl _) (by simp [h2])
      walk_at "n"
      refine ⟨z, rfl, fun D hD => lcW (walk_str (z := z)) (fun i v _ => ∃ c, z.cps.toList[i]? = some c ∧ v = .bl (isDig c)) (show z.length ≤ 1000000 by omega) hD (fun _ _ => trivial) (fun _ _ _ _ _ z => z) ?_ gm_name ?_⟩
      · rintro i x H1 H2 acc Nx hi s hd ⟨rfl, c, hc, rfl⟩ nx
        refine ⟨rfl, ?_⟩
        walk_at "n"
        refine ⟨c, rfl, ?_⟩
        refine nx _ _ (Same.refl _) ⟨c, by rw [Array.getElem?_toList]; exact hc, ?_⟩
        exact congrArg V.bl (dig_in c)
      · intro ys H1 hl hy s hd
        have e := ys_get (l := z.cps.toList) (f := fun c => V.bl (isDig c)) (by rw [Array.length_toList]; exact hl) hy
        walk_at "n"
        refine ⟨z.cps.toList.map isDig, ?_, ?_⟩
        · rw [List.map_map]
          rw [e] at hd
          exact SqL.of hd
        walk_at "n"
        have q := h H1 s
        unfold numIn at q
        rw [decide_eq_true h1, decide_eq_true h2] at q
        rw [show (List.map isDig z.cps.toList).all id = z.cps.toList.all isDig from by rw [List.all_map]; rfl]
        refine cond_b (fun h3 => ?_) (fun h3 => ?_)
        · walk_at "n"
          rw [h3] at q
          obtain ⟨i1, i2⟩ := numIn_int h1 h2 h0 h6 h3
          refine ⟨_, i1, i2, ?_⟩
          exact q
        · walk_at "n"
          rw [h3] at q
          exact q
theorem ok_number_in {w : World} {K : PySem.W.Frag} {mg : Str → Option Value} {base : Heap} (TB : Ty K mg base) : F.Fr P w K mg base 1 (He.ga K "number_in") (sp_number_in K) := (TB.toTx.f_number_in).elim fun fd F1 => fr_of F1 (okF_number_in TB F1) (fun _ _ _ _ _ _ us hl => match us, hl with | [_, _, _], _ => rfl)
end G
set_option maxHeartbeats 400000
namespace G
open PySem PySem.Spec PyProof.Rows L2 F
local macro_rules | `(tactic| walk_at "side") => `(tactic| first | rfl | decide | omega | assumption | (unfold CMul; omega) | (unfold CPow; omega) | (unfold CDiv; omega))
local macro_rules | `(tactic| walk_at "hp") => `(tactic| first | assumption | exact upd_same | (refine upd_keep (by assumption) ?_; walk_at "hp") | (refine sm (by assumption) ?_; walk_at "hp"))
local macro_rules | `(tactic| walk_at "n") => `(tactic| ((try conv => whnf); repeat ((first | with_reducible refine cond_t rfl ?_ | with_reducible refine cond_f rfl ?_ | with_reducible refine cond_n ?_); (try conv => whnf))))
local macro_rules | `(tactic| walk_at "go") => `(tactic| (walk_at "n"; repeat (refine And.intro ?side ?_; (case side => walk_at "side"); walk_at "n")))

open TL
/-- the parts of a text cut at a sign are no longer than it -/
theorem spl_le (S : List Nat) : ∀ (l : List Nat) (k : Nat) (acc : List Nat), ∀ p ∈ spl S k acc l, p.length ≤ acc.length + l.length
  | [], k, acc, p, h => by
    rw [spl_nil] at h
    simp at h
    subst h
    simp
  | c :: r, 0, acc, p, h => by
    by_cases e : pre S (c :: r) = true
    · rw [spl_hit e] at h
      rcases List.mem_cons.mp h with h | h
      · subst h
        omega
      · have := spl_le S r _ _ p h
        simp at this ⊢
        omega
    · rw [spl_miss (by simpa using e)] at h
      have := spl_le S r _ _ p h
      simp at this ⊢
      omega
  | c :: r, k + 1, acc, p, h => by
    have := spl_le S r k acc p h
    simp at this ⊢
    omega
theorem split_le {z y : Str} (hy : tl y ≠ []) (hk : y.cps.all (· < 256) = true) {p : Str} (h : p ∈ Txt.split z y) : p.length ≤ z.length := by
  have q := split_spl z y hy (kind_ok hk)
  have m : tl p ∈ (Txt.split z y).map tl := List.mem_map_of_mem h
  rw [q] at m
  have := spl_le _ _ _ _ _ m
  rw [len_tl, len_tl]
  simpa using this
/-- a year of more than four signs must not begin with 0 -/
def badYear (a : Str) : Bool := decide (4 < (a.length : Int)) && decide ((⟨#[a.cps.toList.headD 0]⟩ : Str) = "0")
def dateIn (z : Str) : Option (Int × Int × Int) := match Txt.split z "-" with
  | [a, b, c] => if badYear a = true then none else match numIn a 4 6, numIn b 2 2, numIn c 2 2 with
    | some y, some m, some d => if wrongPart (.int y) (.int m) (.int d) (.int 0) (.int 0) = .non then some (y, m, d) else none
    | _, _, _ => none
  | _ => none
/-- .. of the parts -/
def dateIn' (a b c : Str) : Option (Int × Int × Int) := if badYear a = true then none else match numIn a 4 6, numIn b 2 2, numIn c 2 2 with
    | some y, some m, some d => if wrongPart (.int y) (.int m) (.int d) (.int 0) (.int 0) = .non then some (y, m, d) else none
    | _, _, _ => none
theorem wrong_none1 (m d h i : V) : wrongPart .non m d h i ≠ .non := by
  unfold wrongPart
  rw [if_pos (show betw .non _ _ = false from rfl)]
  exact fun e => by cases e
theorem wrong_none2 (y d h i : V) : wrongPart y .non d h i ≠ .non := by
  unfold wrongPart
  split
  · exact fun e => by cases e
  · rw [if_pos (show betw .non _ _ = false from rfl)]
    exact fun e => by cases e
theorem wrong_none3 (y m h i : V) : wrongPart y m .non h i ≠ .non := by
  unfold wrongPart
  split
  · exact fun e => by cases e
  split
  · exact fun e => by cases e
  · rw [if_pos (show betw .non _ _ = false from rfl)]
    exact fun e => by cases e
theorem dateIn_key {a b c : Str} (by0 : badYear a = false) : dateIn' a b c = none ∧ wrongPart (optI (numIn a 4 6)) (optI (numIn b 2 2)) (optI (numIn c 2 2)) (.int 0) (.int 0) ≠ .non ∨
    ∃ y m d, numIn a 4 6 = some y ∧ numIn b 2 2 = some m ∧ numIn c 2 2 = some d ∧ wrongPart (.int y) (.int m) (.int d) (.int 0) (.int 0) = .non ∧ dateIn' a b c = some (y, m, d) := by
  unfold dateIn'
  rw [if_neg (by rw [by0]; decide)]
  cases numIn a 4 6 with
  | none => exact .inl ⟨rfl, wrong_none1 _ _ _ _⟩
  | some y =>
    cases numIn b 2 2 with
    | none => exact .inl ⟨rfl, wrong_none2 _ _ _ _⟩
    | some m =>
      cases numIn c 2 2 with
      | none => exact .inl ⟨rfl, wrong_none3 _ _ _ _⟩
      | some d =>
        by_cases e : wrongPart (.int y) (.int m) (.int d) (.int 0) (.int 0) = .non
        · exact .inr ⟨y, m, d, rfl, rfl, rfl, e, if_pos e⟩
        · exact .inl ⟨if_neg e, e⟩
def timeIn (z : Str) : Option (Int × Int) := match Txt.split z ":" with
  | [a, b] => match numIn a 2 2, numIn b 2 2 with
    | some h, some i => if wrongPart (.int 1) (.int 1) (.int 1) (.int h) (.int i) = .non then some (h, i) else none
    | _, _ => none
  | _ => none
theorem wrong_none4 (y m d i : V) : wrongPart y m d .non i ≠ .non := by
  unfold wrongPart
  split
  · exact fun e => by cases e
  split
  · exact fun e => by cases e
  split
  · exact fun e => by cases e
  · rw [if_pos (show betw .non _ _ = false from rfl)]
    exact fun e => by cases e
theorem wrong_none5 (y m d h : V) : wrongPart y m d h .non ≠ .non := by
  unfold wrongPart
  split
  · exact fun e => by cases e
  split
  · exact fun e => by cases e
  split
  · exact fun e => by cases e
  split
  · exact fun e => by cases e
  · rw [if_pos (show betw .non _ _ = false from rfl)]
    exact fun e => by cases e
def timeIn' (a b : Str) : Option (Int × Int) := match numIn a 2 2, numIn b 2 2 with
    | some h, some i => if wrongPart (.int 1) (.int 1) (.int 1) (.int h) (.int i) = .non then some (h, i) else none
    | _, _ => none
theorem timeIn_key {a b : Str} : timeIn' a b = none ∧ wrongPart (.int 1) (.int 1) (.int 1) (optI (numIn a 2 2)) (optI (numIn b 2 2)) ≠ .non ∨
    ∃ h i, numIn a 2 2 = some h ∧ numIn b 2 2 = some i ∧ wrongPart (.int 1) (.int 1) (.int 1) (.int h) (.int i) = .non ∧ timeIn' a b = some (h, i) := by
  unfold timeIn'
  cases numIn a 2 2 with
  | none => exact .inl ⟨rfl, wrong_none4 _ _ _ _⟩
  | some y =>
    cases numIn b 2 2 with
    | none => exact .inl ⟨rfl, wrong_none5 _ _ _ _⟩
    | some m =>
      by_cases e : wrongPart (.int 1) (.int 1) (.int 1) (.int y) (.int m) = .non
      · exact .inr ⟨y, m, rfl, rfl, e, if_pos e⟩
      · exact .inl ⟨if_neg e, e⟩
theorem wrong_non {x : V} {lo hi : Int} (h : x = .non) : betw x lo hi = false := by subst h; rfl
theorem atI_head {a : Str} (h : 4 < (a.length : Int)) : atI a.cps.toList 0 = some (a.cps.toList.headD 0) := by
  have hl : a.cps.toList.length = a.length := by rw [Array.length_toList]; rfl
  rw [atI_lt (by decide) (by omega)]
  cases e : a.cps.toList with
  | nil => rw [e] at hl; simp at hl; omega
  | cons c r => rfl
theorem plain_opt {K : PySem.W.Frag} {H : Hp} (o : Option Int) : Plain K H (optI o) := by cases o <;> trivial
def sp_date_in (K : PySem.W.Frag) : Sp := fun vs H Q E => match vs with
  | [.str z] => z.length + 2 ≤ sizeLine ∧ (dateIn z = none → ∀ H', Same H H' → Q .non H') ∧ (∀ y m d, dateIn z = some (y, m, d) → ∀ p H', Same H H' → H p = none → H' p = some (.lst [.int y, .int m, .int d]) → Q (.ref p) H')
  | _ => False
theorem sc_date_in : FnScope ["word", "parts", "found"] ["word"] (defScope s_date_in) := ⟨rfl, rfl, rfl, by decide +kernel, rfl, by decide +kernel, by decide +kernel⟩
theorem okF_date_in {w : World} {K : PySem.W.Frag} {mg : Str → Option Value} {base : Heap} {fd : FuncData} (TB : Ty K mg base) (F1 : FunD K "date_in" "date_in" (defArgs s_date_in) (defBody s_date_in) (defScope s_date_in) [] [] (He.ga K "date_in") fd) : FnOk P w K mg base (L2.CX P w) 4 (He.ga K "date_in") fd ["word"] (sp_date_in K) := by
  have T : Tx K mg := TB.toTx
  have c_number_in : Fc P w K mg base 1 "number_in" (sp_number_in K) := ⟨_, ok_number_in TB, T.g_number_in, (T.f_number_in).elim fun _ z => z.kp⟩
  have c_wrong_part : Fc P w K mg base 3 "wrong_part" (sp_wrong_part K) := ⟨_, ok_wrong_part TB, T.g_wrong_part, (T.f_wrong_part).elim fun _ z => z.kp⟩
  refine F1.ok sc_date_in (fun vs H Q E h => ?_) (fun cdv A outer s H vs Q E hr h => ?_)
  · unfold sp_date_in at h
    split at h
    · rfl
    · exact h.elim
  · unfold sp_date_in at h
    split at h
    rotate_left
    · exact h.elim
    · rename_i z
      refine ⟨_, (pss_cons (ps_set (i := 1) sc_date_in.nd rfl (Or.inl rfl) (e_split (e_v 0) pe_str))
        (pss_cons (s_if (PW.pt (w_or (t_cmp o_ne (kk_len K T.b_len (e_v 1)) pe_int (nomark _)) (w_or1 (PW.pt (w_and (t_cmp o_gt (kk_len K T.b_len (pe_ix (k_ixL K) (e_v 1) pe_int (fun _ _ => rfl))) pe_int (nomark _)) (w_and1 (t_cmp o_eq (pe_ix ixS (pe_ix (k_ixL K) (e_v 1) pe_int (fun _ _ => rfl)) pe_int (fun _ _ => rfl)) pe_str (nomark _)))))))) (pss_one (ps_ret pe_non)) pss_nil)
        (pss_cons (ps_set (i := 2) sc_date_in.nd rfl (Or.inl rfl) (pe_lst (pa_cons (e_c c_number_in hr (pa_cons (pe_ix (k_ixL K) (e_v 1) pe_int (fun _ _ => rfl)) (pa_cons pe_int (pa_cons pe_int pa_nil)))) (pa_cons (e_c c_number_in hr (pa_cons (pe_ix (k_ixL K) (e_v 1) pe_int (fun _ _ => rfl)) (pa_cons pe_int (pa_cons pe_int pa_nil)))) (pa_cons (e_c c_number_in hr (pa_cons (pe_ix (k_ixL K) (e_v 1) pe_int (fun _ _ => rfl)) (pa_cons pe_int (pa_cons pe_int pa_nil)))) pa_nil)))))
        (pss_one (ps_ret (e_if (t_cmp o_is (e_c c_wrong_part hr (pa_cons (pe_ix (k_ixL K) (e_v 2) pe_int (fun _ _ => rfl)) (pa_cons (pe_ix (k_ixL K) (e_v 2) pe_int (fun _ _ => rfl)) (pa_cons (pe_ix (k_ixL K) (e_v 2) pe_int (fun _ _ => rfl)) (pa_cons pe_int (pa_cons pe_int pa_nil)))))) pe_non (nomark _)) (e_v 2) pe_non)))))), ?_⟩
      obtain ⟨hz, hn, hs⟩ := h
      walk_at "n"
      refine ⟨⟨rfl, hz⟩, fun p hp => ?_⟩
      walk_at "n"
      have le : ∀ q, q ∈ Txt.split z "-" → q.length ≤ sizeLine := fun q hq => Nat.le_trans (split_le (y := "-") (by decide +kernel) (by decide +kernel) hq) (by omega)
      have out : dateIn z = none → Q .non (upd H p (.lst ((Txt.split z "-").map V.str))) := fun e => hn e _ (snew hp)
      unfold dateIn at hn hs out
      refine .inl ⟨_, .inl (SqL.of upd_same), ?_⟩
      rcases e : Txt.split z "-" with _ | ⟨a, _ | ⟨b, _ | ⟨c, _ | ⟨d, r⟩⟩⟩⟩ <;> rw [e] at hn hs out le
      · walk_at "n"
        exact out rfl
      · walk_at "n"
        exact out rfl
      · walk_at "n"
        exact out rfl
      rotate_left
      · walk_at "n"
        exact out rfl
      walk_at "n"
      have ha := le a (by simp)
      have hb := le b (by simp)
      have hc := le c (by simp)
      have sq : SqL K (upd H p (.lst ([a, b, c].map V.str))) p [.str a, .str b, .str c] := SqL.of upd_same
      refine ⟨_, _, sq, rfl, ?_⟩
      walk_at "n"
      refine ⟨ha, ?_⟩
      walk_at "n"
      refine cond_p (fun h4 => ?a1) (fun h4 => ?a2)
      case' a1 =>
        walk_at "n"
        refine ⟨_, _, sq, rfl, ?_⟩
        walk_at "n"
        refine ⟨_, ha, atI_head h4, ?_⟩
        walk_at "n"
        refine cond_p (fun h0 => ?a3) (fun h0 => ?a4)
        case' a3 =>
          walk_at "n"
          exact out (if_pos (by unfold badYear; rw [decide_eq_true h4, decide_eq_true h0]; rfl))
      all_goals
        have by0 : badYear a = false := by
          unfold badYear
          first | (rw [decide_eq_false h0, Bool.and_false]) | (rw [decide_eq_false h4, Bool.false_and])
        walk_at "n"
        refine ⟨_, _, sq, rfl, ?_⟩
        walk_at "n"
        refine ⟨⟨by decide, by decide, ha⟩, fun H2 s2 => ?_⟩
        walk_at "n"
        refine ⟨_, _, sl s2 sq, rfl, ?_⟩
        walk_at "n"
        refine ⟨⟨by decide, by decide, hb⟩, fun H3 s3 => ?_⟩
        walk_at "n"
        refine ⟨_, _, sl (s2.trans s3) sq, rfl, ?_⟩
        walk_at "n"
        refine ⟨⟨by decide, by decide, hc⟩, fun H4 s4 => ?_⟩
        walk_at "n"
        refine ⟨line_of (by simp), fun q hq => ?_⟩
        walk_at "n"
        have sf : SqL K (upd H4 q (.lst [optI (numIn a 4 6), optI (numIn b 2 2), optI (numIn c 2 2)])) q [optI (numIn a 4 6), optI (numIn b 2 2), optI (numIn c 2 2)] := SqL.of upd_same
        have sg : Same H (upd H4 q (.lst [optI (numIn a 4 6), optI (numIn b 2 2), optI (numIn c 2 2)])) := sto ((snew hp).trans (s2.trans (s3.trans s4))) hq
        refine ⟨_, _, sf, rfl, ?_⟩
        walk_at "n"
        refine ⟨_, _, sf, rfl, ?_⟩
        walk_at "n"
        refine ⟨_, _, sf, rfl, ?_⟩
        walk_at "n"
        refine ⟨⟨plain_opt _, plain_opt _, plain_opt _, trivial, trivial⟩, ?_⟩
        walk_at "n"
        have hq0 : H q = none := ((snew hp).trans (s2.trans (s3.trans s4))).free hq
        have key : dateIn' a b c = none ∧ wrongPart (optI (numIn a 4 6)) (optI (numIn b 2 2)) (optI (numIn c 2 2)) (.int 0) (.int 0) ≠ .non ∨ ∃ y m d, numIn a 4 6 = some y ∧ numIn b 2 2 = some m ∧ numIn c 2 2 = some d ∧ wrongPart (.int y) (.int m) (.int d) (.int 0) (.int 0) = .non ∧ dateIn' a b c = some (y, m, d) := dateIn_key by0
        rcases key with ⟨k1, k2⟩ | ⟨y, m, d, e1, e2, e3, e4, e5⟩
        · have r := hn k1 _ sg
          revert k2
          generalize wrongPart (optI (numIn a 4 6)) (optI (numIn b 2 2)) (optI (numIn c 2 2)) (.int 0) (.int 0) = u
          intro k2
          cases u with
          | non => exact absurd rfl k2
          | _ =>
            walk_at "n"
            exact r
        · have r := hs _ _ _ e5 q _ sg hq0 (by rw [e1, e2, e3]; exact upd_same)
          rw [e1, e2, e3] at r ⊢
          rw [show wrongPart (optI (some y)) (optI (some m)) (optI (some d)) (.int 0) (.int 0) = .non from e4]
          walk_at "n"
          exact r
theorem ok_date_in {w : World} {K : PySem.W.Frag} {mg : Str → Option Value} {base : Heap} (TB : Ty K mg base) : F.Fr P w K mg base 4 (He.ga K "date_in") (sp_date_in K) := (TB.toTx.f_date_in).elim fun fd F1 => fr_of F1 (okF_date_in TB F1) (fun _ _ _ _ _ _ us hl => match us, hl with | [_], _ => rfl)
def sp_time_in (K : PySem.W.Frag) : Sp := fun vs H Q E => match vs with
  | [.str z] => z.length + 2 ≤ sizeLine ∧ (timeIn z = none → ∀ H', Same H H' → Q .non H') ∧ (∀ h i, timeIn z = some (h, i) → ∀ p H', Same H H' → H p = none → H' p = some (.lst [.int h, .int i]) → Q (.ref p) H')
  | _ => False
theorem sc_time_in : FnScope ["word", "parts", "found"] ["word"] (defScope s_time_in) := ⟨rfl, rfl, rfl, by decide +kernel, rfl, by decide +kernel, by decide +kernel⟩
theorem okF_time_in {w : World} {K : PySem.W.Frag} {mg : Str → Option Value} {base : Heap} {fd : FuncData} (TB : Ty K mg base) (F1 : FunD K "time_in" "time_in" (defArgs s_time_in) (defBody s_time_in) (defScope s_time_in) [] [] (He.ga K "time_in") fd) : FnOk P w K mg base (L2.CX P w) 4 (He.ga K "time_in") fd ["word"] (sp_time_in K) := by
  have T : Tx K mg := TB.toTx
  have c_number_in : Fc P w K mg base 1 "number_in" (sp_number_in K) := ⟨_, ok_number_in TB, T.g_number_in, (T.f_number_in).elim fun _ z => z.kp⟩
  have c_wrong_part : Fc P w K mg base 3 "wrong_part" (sp_wrong_part K) := ⟨_, ok_wrong_part TB, T.g_wrong_part, (T.f_wrong_part).elim fun _ z => z.kp⟩
  refine F1.ok sc_time_in (fun vs H Q E h => ?_) (fun cdv A outer s H vs Q E hr h => ?_)
  · unfold sp_time_in at h
    split at h
    · rfl
    · exact h.elim
  · unfold sp_time_in at h
    split at h
    rotate_left
    · exact h.elim
    · rename_i z
      refine ⟨_, (pss_cons (ps_set (i := 1) sc_time_in.nd rfl (Or.inl rfl) (e_split (e_v 0) pe_str))
        (pss_cons (s_if (t_cmp o_ne (kk_len K T.b_len (e_v 1)) pe_int (nomark _)) (pss_one (ps_ret pe_non)) pss_nil)
        (pss_cons (ps_set (i := 2) sc_time_in.nd rfl (Or.inl rfl) (pe_lst (pa_cons (e_c c_number_in hr (pa_cons (pe_ix (k_ixL K) (e_v 1) pe_int (fun _ _ => rfl)) (pa_cons pe_int (pa_cons pe_int pa_nil)))) (pa_cons (e_c c_number_in hr (pa_cons (pe_ix (k_ixL K) (e_v 1) pe_int (fun _ _ => rfl)) (pa_cons pe_int (pa_cons pe_int pa_nil)))) pa_nil))))
        (pss_one (ps_ret (e_if (t_cmp o_is (e_c c_wrong_part hr (pa_cons pe_int (pa_cons pe_int (pa_cons pe_int (pa_cons (pe_ix (k_ixL K) (e_v 2) pe_int (fun _ _ => rfl)) (pa_cons (pe_ix (k_ixL K) (e_v 2) pe_int (fun _ _ => rfl)) pa_nil)))))) pe_non (nomark _)) (e_v 2) pe_non)))))), ?_⟩
      obtain ⟨hz, hn, hs⟩ := h
      walk_at "n"
      refine ⟨⟨rfl, hz⟩, fun p hp => ?_⟩
      walk_at "n"
      have le : ∀ q, q ∈ Txt.split z ":" → q.length ≤ sizeLine := fun q hq => Nat.le_trans (split_le (y := ":") (by decide +kernel) (by decide +kernel) hq) (by omega)
      have out : timeIn z = none → Q .non (upd H p (.lst ((Txt.split z ":").map V.str))) := fun e => hn e _ (snew hp)
      unfold timeIn at hn hs out
      refine .inl ⟨_, .inl (SqL.of upd_same), ?_⟩
      rcases e : Txt.split z ":" with _ | ⟨a, _ | ⟨b, _ | ⟨c, r⟩⟩⟩ <;> rw [e] at hn hs out le
      · walk_at "n"
        exact out rfl
      · walk_at "n"
        exact out rfl
      rotate_left
      · walk_at "n"
        exact out rfl
      walk_at "n"
      have ha := le a (by simp)
      have hb := le b (by simp)
      have sq : SqL K (upd H p (.lst ([a, b].map V.str))) p [.str a, .str b] := SqL.of upd_same
      refine ⟨_, _, sq, rfl, ?_⟩
      walk_at "n"
      refine ⟨⟨by decide, by decide, ha⟩, fun H2 s2 => ?_⟩
      walk_at "n"
      refine ⟨_, _, sl s2 sq, rfl, ?_⟩
      walk_at "n"
      refine ⟨⟨by decide, by decide, hb⟩, fun H3 s3 => ?_⟩
      walk_at "n"
      refine ⟨line_of (by simp), fun q hq => ?_⟩
      walk_at "n"
      have sf : SqL K (upd H3 q (.lst [optI (numIn a 2 2), optI (numIn b 2 2)])) q [optI (numIn a 2 2), optI (numIn b 2 2)] := SqL.of upd_same
      have sg : Same H (upd H3 q (.lst [optI (numIn a 2 2), optI (numIn b 2 2)])) := sto ((snew hp).trans (s2.trans s3)) hq
      refine ⟨_, _, sf, rfl, ?_⟩
      walk_at "n"
      refine ⟨_, _, sf, rfl, ?_⟩
      walk_at "n"
      refine ⟨⟨trivial, trivial, trivial, plain_opt _, plain_opt _⟩, ?_⟩
      walk_at "n"
      have hq0 : H q = none := ((snew hp).trans (s2.trans s3)).free hq
      rcases timeIn_key (a := a) (b := b) with ⟨k1, k2⟩ | ⟨h1, i1, e1, e2, e4, e5⟩
      · have r := hn k1 _ sg
        revert k2
        generalize wrongPart (.int 1) (.int 1) (.int 1) (optI (numIn a 2 2)) (optI (numIn b 2 2)) = u
        intro k2
        cases u with
        | non => exact absurd rfl k2
        | _ =>
          walk_at "n"
          exact r
      · have r := hs _ _ e5 q _ sg hq0 (by rw [e1, e2]; exact upd_same)
        rw [e1, e2] at r ⊢
        rw [show wrongPart (.int 1) (.int 1) (.int 1) (optI (some h1)) (optI (some i1)) = .non from e4]
        walk_at "n"
        exact r
theorem ok_time_in {w : World} {K : PySem.W.Frag} {mg : Str → Option Value} {base : Heap} (TB : Ty K mg base) : F.Fr P w K mg base 4 (He.ga K "time_in") (sp_time_in K) := (TB.toTx.f_time_in).elim fun fd F1 => fr_of F1 (okF_time_in TB F1) (fun _ _ _ _ _ _ us hl => match us, hl with | [_], _ => rfl)
end G
set_option maxHeartbeats 400000
namespace G
open PySem PySem.Spec PyProof.Rows L2 F
local macro_rules | `(tactic| walk_at "side") => `(tactic| first | rfl | decide | omega | assumption | (unfold CMul; omega) | (unfold CPow; omega) | (unfold CDiv; omega))
local macro_rules | `(tactic| walk_at "hp") => `(tactic| first | assumption | exact upd_same | (refine upd_keep (by assumption) ?_; walk_at "hp") | (refine sm (by assumption) ?_; walk_at "hp"))
local macro_rules | `(tactic| walk_at "n") => `(tactic| ((try conv => whnf); repeat ((first | with_reducible refine cond_t rfl ?_ | with_reducible refine cond_f rfl ?_ | with_reducible refine cond_n ?_); (try conv => whnf))))
local macro_rules | `(tactic| walk_at "go") => `(tactic| (walk_at "n"; repeat (refine And.intro ?side ?_; (case side => walk_at "side"); walk_at "n")))

open M TL
abbrev CM (K : PySem.W.Frag) : Addr := He.ga K "Moment"
/-- what a moment holds -/
def moF (q : Mo) : List (Str × V) := putF "number" (.int q.num) (putF "weekday" (.int (q.date % 7)) (putF "date" (.int q.date) (putF "minute" (.int q.i) (putF "hour" (.int q.h) (putF "day" (.int q.d) (putF "month" (.int q.m) (putF "year" (.int q.y) [])))))))
def MoAt (K : PySem.W.Frag) (H : Hp) (a : Addr) (q : Mo) : Prop := ∃ dx, H a = some (.ins (CM K) dx (moF q))
theorem MoAt.same {K : PySem.W.Frag} {H H' : Hp} {a : Addr} {q : Mo} (h : MoAt K H a q) (s : Same H H') : MoAt K H' a q := let ⟨dx, e⟩ := h; ⟨dx, s _ _ e⟩
theorem MoAt.put {K : PySem.W.Frag} {H : Hp} {a r : Addr} {q : Mo} {kvs : List (Key × V)} {o : HO} (h : MoAt K H a q) (hr : H r = some (.dK kvs)) : MoAt K (upd H r o) a q := by
  obtain ⟨dx, e⟩ := h
  refine ⟨dx, ?_⟩
  rw [upd_ne fun z => by rw [z, hr] at e; cases e]
  exact e
theorem MoAt.ins {K : PySem.W.Frag} {H : Hp} {a : Addr} {q : Mo} (h : MoAt K H a q) : IsIns H a (CM K) := let ⟨dx, e⟩ := h; ⟨dx, _, e⟩
theorem mo_number (q : Mo) : (moF q).lookup ("number" : Str) = some (.int q.num) := lk_here
theorem mo_weekday (q : Mo) : (moF q).lookup ("weekday" : Str) = some (.int (q.date % 7)) := lk_next (by decide +kernel) lk_here
theorem mo_date (q : Mo) : (moF q).lookup ("date" : Str) = some (.int q.date) := lk_next (by decide +kernel) (lk_next (by decide +kernel) lk_here)
theorem mo_minute (q : Mo) : (moF q).lookup ("minute" : Str) = some (.int q.i) := lk_next (by decide +kernel) (lk_next (by decide +kernel) (lk_next (by decide +kernel) lk_here))
theorem mo_hour (q : Mo) : (moF q).lookup ("hour" : Str) = some (.int q.h) := lk_next (by decide +kernel) (lk_next (by decide +kernel) (lk_next (by decide +kernel) (lk_next (by decide +kernel) lk_here)))
theorem mo_day (q : Mo) : (moF q).lookup ("day" : Str) = some (.int q.d) := lk_next (by decide +kernel) (lk_next (by decide +kernel) (lk_next (by decide +kernel) (lk_next (by decide +kernel) (lk_next (by decide +kernel) lk_here))))
theorem mo_month (q : Mo) : (moF q).lookup ("month" : Str) = some (.int q.m) := lk_next (by decide +kernel) (lk_next (by decide +kernel) (lk_next (by decide +kernel) (lk_next (by decide +kernel) (lk_next (by decide +kernel) (lk_next (by decide +kernel) lk_here)))))
theorem mo_year (q : Mo) : (moF q).lookup ("year" : Str) = some (.int q.y) := lk_next (by decide +kernel) (lk_next (by decide +kernel) (lk_next (by decide +kernel) (lk_next (by decide +kernel) (lk_next (by decide +kernel) (lk_next (by decide +kernel) (lk_next (by decide +kernel) lk_here))))))
section
variable {K : PySem.W.Frag} {mg : Str → Option Value} {H : Hp} {a : Addr} {q : Mo}
theorem MoAt.number (T : Tx K mg) (h : MoAt K H a q) : FieldOf K H a "number" (.int q.num) := let ⟨dx, e⟩ := h; ⟨_, dx, _, e, T.c_Moment, T.n_Moment_number, mo_number q⟩
theorem MoAt.year (T : Tx K mg) (h : MoAt K H a q) : FieldOf K H a "year" (.int q.y) := let ⟨dx, e⟩ := h; ⟨_, dx, _, e, T.c_Moment, T.n_Moment_year, mo_year q⟩
theorem MoAt.month (T : Tx K mg) (h : MoAt K H a q) : FieldOf K H a "month" (.int q.m) := let ⟨dx, e⟩ := h; ⟨_, dx, _, e, T.c_Moment, T.n_Moment_month, mo_month q⟩
theorem MoAt.day (T : Tx K mg) (h : MoAt K H a q) : FieldOf K H a "day" (.int q.d) := let ⟨dx, e⟩ := h; ⟨_, dx, _, e, T.c_Moment, T.n_Moment_day, mo_day q⟩
theorem MoAt.hour (T : Tx K mg) (h : MoAt K H a q) : FieldOf K H a "hour" (.int q.h) := let ⟨dx, e⟩ := h; ⟨_, dx, _, e, T.c_Moment, T.n_Moment_hour, mo_hour q⟩
theorem MoAt.minute (T : Tx K mg) (h : MoAt K H a q) : FieldOf K H a "minute" (.int q.i) := let ⟨dx, e⟩ := h; ⟨_, dx, _, e, T.c_Moment, T.n_Moment_minute, mo_minute q⟩
end
theorem betw_t {i lo hi : Int} (h1 : lo ≤ i) (h2 : i ≤ hi) : ¬ betw (.int i) lo hi = false := by
  simp [betw, h1, h2]
theorem wrongPart_ok {y m d h i : Int} (k : (Mo.mk y m d h i).ok) : wrongPart (.int y) (.int m) (.int d) (.int h) (.int i) = .non := by
  unfold wrongPart
  rw [if_neg (betw_t k.y1 k.y2), if_neg (betw_t k.m1 k.m2), if_neg (show ¬ betw (.int d) 1 (monthLen (toI (.int y)) (toI (.int m))) = false from betw_t k.d1 k.d2), if_neg (betw_t k.h1 k.h2), if_neg (betw_t k.i1 k.i2)]
theorem betw_f {i lo hi : Int} (h : ¬ betw (.int i) lo hi = false) : lo ≤ i ∧ i ≤ hi := by
  simpa [betw] using h
theorem ok_of_wrong {y m d h i : Int} (e : wrongPart (.int y) (.int m) (.int d) (.int h) (.int i) = .non) : (Mo.mk y m d h i).ok := by
  unfold wrongPart at e
  split at e
  · cases e
  split at e
  · cases e
  split at e
  · cases e
  split at e
  · cases e
  split at e
  · cases e
  rename_i a1 a2 a3 a4 a5
  exact ⟨(betw_f a1).1, (betw_f a1).2, (betw_f a2).1, (betw_f a2).2, (betw_f a3).1, (betw_f a3).2, (betw_f a4).1, (betw_f a4).2, (betw_f a5).1, (betw_f a5).2⟩
def sp_Moment___init__ (K : PySem.W.Frag) : Sp := fun vs H Q E => match vs with
  | [.ref a, .int y, .int m, .int d, .int h, .int i] => (∃ dx, H a = some (.ins (CM K) dx []) ∧ ∀ H', SB a H H' → H' a = some (.ins (CM K) dx (moF ⟨y, m, d, h, i⟩)) → Q .non H') ∧ (Mo.mk y m d h i).ok
  | _ => False
theorem sc_Moment___init__ : FnScope ["self", "year", "month", "day", "hour", "minute", "part"] ["self", "year", "month", "day", "hour", "minute"] (defScope s_Moment___init__) := ⟨rfl, rfl, rfl, by decide +kernel, rfl, by decide +kernel, by decide +kernel⟩
theorem okF_Moment___init__ {w : World} {K : PySem.W.Frag} {mg : Str → Option Value} {base : Heap} {fd : FuncData} (TB : Ty K mg base) (F1 : FunD K "__init__" "Moment.__init__" (defArgs s_Moment___init__) (defBody s_Moment___init__) (defScope s_Moment___init__) [(.int 0), (.int 0)] [] (He.ma K (He.ga K "Moment") "__init__") fd) : FnOk P w K mg base (L2.CX P w) 4 (He.ma K (He.ga K "Moment") "__init__") fd ["self", "year", "month", "day", "hour", "minute"] (sp_Moment___init__ K) := by
  have T : Tx K mg := TB.toTx
  have c_wrong_part : Fc P w K mg base 3 "wrong_part" (sp_wrong_part K) := ⟨_, ok_wrong_part TB, T.g_wrong_part, (T.f_wrong_part).elim fun _ z => z.kp⟩
  have c_day_number : Fc P w K mg base 3 "day_number" (sp_day_number K) := ⟨_, ok_day_number TB, T.g_day_number, (T.f_day_number).elim fun _ z => z.kp⟩
  have c_weekday_of : Fc P w K mg base 1 "weekday_of" (sp_weekday_of K) := ⟨_, ok_weekday_of TB, T.g_weekday_of, (T.f_weekday_of).elim fun _ z => z.kp⟩
  refine F1.ok sc_Moment___init__ (fun vs H Q E h => ?_) (fun cdv A outer s H vs Q E hr h => ?_)
  · unfold sp_Moment___init__ at h
    split at h
    · rfl
    · exact h.elim
  · unfold sp_Moment___init__ at h
    split at h
    rotate_left
    · exact h.elim
    · rename_i a y m d h1 i
      refine ⟨_, (pss_cons (ps_set (i := 6) sc_Moment___init__.nd rfl (Or.inl rfl) (e_c c_wrong_part hr (pa_cons (e_v 1) (pa_cons (e_v 2) (pa_cons (e_v 3) (pa_cons (e_v 4) (pa_cons (e_v 5) pa_nil)))))))
        (pss_cons (s_if (t_cmp o_isnot (e_v 6) pe_non (nomark _)) (pss_one ps_never) pss_nil)
        (pss_cons (s_fld (e_v 0) (e_v 1))
        (pss_cons (s_fld (e_v 0) (e_v 2))
        (pss_cons (s_fld (e_v 0) (e_v 3))
        (pss_cons (s_fld (e_v 0) (e_v 4))
        (pss_cons (s_fld (e_v 0) (e_v 5))
        (pss_cons (s_fld (e_v 0) (e_c c_day_number hr (pa_cons (e_v 1) (pa_cons (e_v 2) (pa_cons (e_v 3) pa_nil)))))
        (pss_cons (s_fld (e_v 0) (e_c c_weekday_of hr (pa_cons (k_fld K (e_v 0)) pa_nil)))
        (pss_one (s_fld (e_v 0) (pe_op (k_add K) (pe_op (k_add K) (pe_op o_mul (k_fld K (e_v 0)) (e_g T.v_DAY_MINUTES)) (pe_op o_mul (e_v 4) pe_int)) (e_v 5))))))))))))), ?_⟩
      obtain ⟨⟨dx, ha, k⟩, ok⟩ := h
      walk_at "n"
      refine ⟨⟨trivial, trivial, trivial, trivial, trivial⟩, ?_⟩
      rw [wrongPart_ok ok]
      walk_at "n"
      refine ⟨_, _, _, ha, T.c_Moment, T.n_Moment_year, by decide, ?_⟩
      walk_at "n"
      refine ⟨_, _, _, upd_same, T.c_Moment, T.n_Moment_month, Nat.lt_of_le_of_lt (lf lf0) (by decide), ?_⟩
      walk_at "n"
      refine ⟨_, _, _, upd_same, T.c_Moment, T.n_Moment_day, Nat.lt_of_le_of_lt (lf (lf lf0)) (by decide), ?_⟩
      walk_at "n"
      refine ⟨_, _, _, upd_same, T.c_Moment, T.n_Moment_hour, Nat.lt_of_le_of_lt (lf (lf (lf lf0))) (by decide), ?_⟩
      walk_at "n"
      refine ⟨_, _, _, upd_same, T.c_Moment, T.n_Moment_minute, Nat.lt_of_le_of_lt (lf (lf (lf (lf lf0)))) (by decide), ?_⟩
      walk_at "n"
      refine ⟨⟨ok.m1, ok.m2⟩, fun H2 s2 => ?_⟩
      walk_at "n"
      have e2 := s2 _ _ upd_same
      refine ⟨_, _, _, e2, T.c_Moment, T.n_Moment_date, Nat.lt_of_le_of_lt (lf (lf (lf (lf (lf lf0))))) (by decide), ?_⟩
      walk_at "n"
      refine ⟨_, ⟨_, _, _, upd_same, T.c_Moment, T.n_Moment_date, lk_here⟩, ?_⟩
      walk_at "n"
      refine ⟨_, _, _, upd_same, T.c_Moment, T.n_Moment_weekday, Nat.lt_of_le_of_lt (lf (lf (lf (lf (lf (lf lf0)))))) (by decide), ?_⟩
      walk_at "n"
      refine ⟨_, ⟨_, _, _, upd_same, T.c_Moment, T.n_Moment_date, lk_next (by decide +kernel) lk_here⟩, ?_⟩
      walk_at "n"
      refine ⟨by unfold CMul; omega, ?_⟩
      walk_at "n"
      refine ⟨by unfold CMul; omega, ?_⟩
      walk_at "n"
      refine ⟨_, _, _, upd_same, T.c_Moment, T.n_Moment_number, Nat.lt_of_le_of_lt (lf (lf (lf (lf (lf (lf (lf lf0))))))) (by decide), ?_⟩
      walk_at "n"
      unfold moF at k
      rw [show (Mo.mk y m d h1 i).num = dayNumber y m d * 1440 + h1 * 60 + i by unfold Mo.num Mo.date; rfl, show (Mo.mk y m d h1 i).date = dayNumber y m d by unfold Mo.date; rfl] at k
      exact k _ (((((((sb_upd.upd).upd).upd).upd).same s2).upd.upd).upd) upd_same
theorem ok_Moment___init__ {w : World} {K : PySem.W.Frag} {mg : Str → Option Value} {base : Heap} (TB : Ty K mg base) : F.Fr P w K mg base 4 (He.ma K (He.ga K "Moment") "__init__") (sp_Moment___init__ K) := (TB.toTx.f_Moment___init__).elim fun fd F1 => fr_full F1 (okF_Moment___init__ TB F1) (by simp) (fun _ _ _ _ _ _ _ us its h1 h2 => match us, its, h1, h2 with | [_, _, _, _, _, _], [_, _], _, _ => ⟨_, rfl, rfl⟩)
/-- a moment made -/
theorem mk_mo {K : PySem.W.Frag} {H : Hp} {q : Mo} {Q : VK} (ok : q.ok) (k : ∀ x H', Same H H' → H x = none → MoAt K H' x q → Q (.ref x) H') :
    ∀ x dx, H x = none → H dx = none → dx ≠ x → sp_Moment___init__ K [.ref x, .int q.y, .int q.m, .int q.d, .int q.h, .int q.i] (upd (upd H dx (.own x)) x (.ins (CM K) dx [])) (fun v H2 => v = .non ∧ Q (.ref x) H2) E0 := by
  intro x dx hx hdx ne
  exact ⟨⟨dx, upd_same, fun H' s e => ⟨rfl, k x H' (s.made hx hdx) hx ⟨dx, e⟩⟩⟩, ok⟩

def len_two : True := trivial
def sp_Moment___sub__ (K : PySem.W.Frag) : Sp := fun vs H Q E => match vs with
  | [.ref a, .ref b] => ∃ q p, MoAt K H a q ∧ MoAt K H b p ∧ Q (.int (q.num - p.num)) H
  | _ => False
theorem sc_Moment___sub__ : FnScope ["self", "other"] ["self", "other"] (defScope s_Moment___sub__) := ⟨rfl, rfl, rfl, by decide +kernel, rfl, by decide +kernel, by decide +kernel⟩
theorem okF_Moment___sub__ {w : World} {K : PySem.W.Frag} {mg : Str → Option Value} {base : Heap} {fd : FuncData} (TB : Ty K mg base) (F1 : FunD K "__sub__" "Moment.__sub__" (defArgs s_Moment___sub__) (defBody s_Moment___sub__) (defScope s_Moment___sub__) [] [] (He.ma K (He.ga K "Moment") "__sub__") fd) : FnOk P w K mg base (L2.CX P w) 1 (He.ma K (He.ga K "Moment") "__sub__") fd ["self", "other"] (sp_Moment___sub__ K) := by
  have T : Tx K mg := TB.toTx
  refine F1.ok sc_Moment___sub__ (fun vs H Q E h => ?_) (fun cdv A outer s H vs Q E hr h => ?_)
  · unfold sp_Moment___sub__ at h
    split at h
    · rfl
    · exact h.elim
  · unfold sp_Moment___sub__ at h
    split at h
    rotate_left
    · exact h.elim
    · rename_i a b
      refine ⟨_, (pss_cons (s_if (t_b (e_isC T.g_Moment T.is_Moment T.b_isinstance (e_v 1))) (pss_one (ps_ret (pe_op o_sub (k_fld K (e_v 0)) (k_fld K (e_v 1))))) pss_nil)
        (pss_one ps_never)), ?_⟩
      obtain ⟨q, p, ha, hb, h⟩ := h
      walk_at "n"
      refine ⟨rfl, .inl ⟨hb.ins, ?_⟩⟩
      walk_at "n"
      refine ⟨_, ha.number T, ?_⟩
      walk_at "n"
      refine ⟨_, hb.number T, ?_⟩
      walk_at "n"
      exact h
theorem ok_Moment___sub__ {w : World} {K : PySem.W.Frag} {mg : Str → Option Value} {base : Heap} (TB : Ty K mg base) : F.Fr P w K mg base 1 (He.ma K (He.ga K "Moment") "__sub__") (sp_Moment___sub__ K) := (TB.toTx.f_Moment___sub__).elim fun fd F1 => fr_of F1 (okF_Moment___sub__ TB F1) (fun _ _ _ _ _ _ us hl => match us, hl with | [_, _], _ => rfl)
def sp_Moment___ge__ (K : PySem.W.Frag) : Sp := fun vs H Q E => match vs with
  | [.ref a, .ref b] => ∃ q p, MoAt K H a q ∧ MoAt K H b p ∧ Q (.bl (decide (p.num ≤ q.num))) H
  | _ => False
theorem sc_Moment___ge__ : FnScope ["self", "other"] ["self", "other"] (defScope s_Moment___ge__) := ⟨rfl, rfl, rfl, by decide +kernel, rfl, by decide +kernel, by decide +kernel⟩
theorem okF_Moment___ge__ {w : World} {K : PySem.W.Frag} {mg : Str → Option Value} {base : Heap} {fd : FuncData} (TB : Ty K mg base) (F1 : FunD K "__ge__" "Moment.__ge__" (defArgs s_Moment___ge__) (defBody s_Moment___ge__) (defScope s_Moment___ge__) [] [] (He.ma K (He.ga K "Moment") "__ge__") fd) : FnOk P w K mg base (L2.CX P w) 1 (He.ma K (He.ga K "Moment") "__ge__") fd ["self", "other"] (sp_Moment___ge__ K) := by
  have T : Tx K mg := TB.toTx
  refine F1.ok sc_Moment___ge__ (fun vs H Q E h => ?_) (fun cdv A outer s H vs Q E hr h => ?_)
  · unfold sp_Moment___ge__ at h
    split at h
    · rfl
    · exact h.elim
  · unfold sp_Moment___ge__ at h
    split at h
    rotate_left
    · exact h.elim
    · rename_i a b
      refine ⟨_, (pss_cons (s_if (pt_not (t_b (e_isC T.g_Moment T.is_Moment T.b_isinstance (e_v 1)))) (pss_one ps_never) pss_nil)
        (pss_one (ps_ret (pe_cmpR o_ge (k_fld K (e_v 0)) (k_fld K (e_v 1)) (nomark _))))), ?_⟩
      obtain ⟨q, p, ha, hb, h⟩ := h
      walk_at "n"
      refine ⟨rfl, .inl ⟨hb.ins, ?_⟩⟩
      walk_at "n"
      refine ⟨_, ha.number T, ?_⟩
      walk_at "n"
      refine ⟨_, hb.number T, ?_⟩
      walk_at "n"
      exact h
theorem ok_Moment___ge__ {w : World} {K : PySem.W.Frag} {mg : Str → Option Value} {base : Heap} (TB : Ty K mg base) : F.Fr P w K mg base 1 (He.ma K (He.ga K "Moment") "__ge__") (sp_Moment___ge__ K) := (TB.toTx.f_Moment___ge__).elim fun fd F1 => fr_of F1 (okF_Moment___ge__ TB F1) (fun _ _ _ _ _ _ us hl => match us, hl with | [_, _], _ => rfl)
def sp_Moment___eq__ (K : PySem.W.Frag) : Sp := fun vs H Q E => match vs with
  | [.ref a, .ref b] => ∃ q p, MoAt K H a q ∧ MoAt K H b p ∧ Q (.bl (decide (q.num = p.num))) H
  | _ => False
theorem sc_Moment___eq__ : FnScope ["self", "other"] ["self", "other"] (defScope s_Moment___eq__) := ⟨rfl, rfl, rfl, by decide +kernel, rfl, by decide +kernel, by decide +kernel⟩
theorem okF_Moment___eq__ {w : World} {K : PySem.W.Frag} {mg : Str → Option Value} {base : Heap} {fd : FuncData} (TB : Ty K mg base) (F1 : FunD K "__eq__" "Moment.__eq__" (defArgs s_Moment___eq__) (defBody s_Moment___eq__) (defScope s_Moment___eq__) [] [] (He.ma K (He.ga K "Moment") "__eq__") fd) : FnOk P w K mg base (L2.CX P w) 1 (He.ma K (He.ga K "Moment") "__eq__") fd ["self", "other"] (sp_Moment___eq__ K) := by
  have T : Tx K mg := TB.toTx
  refine F1.ok sc_Moment___eq__ (fun vs H Q E h => ?_) (fun cdv A outer s H vs Q E hr h => ?_)
  · unfold sp_Moment___eq__ at h
    split at h
    · rfl
    · exact h.elim
  · unfold sp_Moment___eq__ at h
    split at h
    rotate_left
    · exact h.elim
    · rename_i a b
      refine ⟨_, (pss_one (ps_ret (e_and (e_isC T.g_Moment T.is_Moment T.b_isinstance (e_v 1)) (pe_one (pe_cmpR o_eq (k_fld K (e_v 0)) (k_fld K (e_v 1)) (nomark _)))))), ?_⟩
      obtain ⟨q, p, ha, hb, h⟩ := h
      walk_at "n"
      refine ⟨rfl, .inl ⟨hb.ins, ?_⟩⟩
      walk_at "n"
      refine ⟨_, ha.number T, ?_⟩
      walk_at "n"
      refine ⟨_, hb.number T, ?_⟩
      walk_at "n"
      exact h
theorem ok_Moment___eq__ {w : World} {K : PySem.W.Frag} {mg : Str → Option Value} {base : Heap} (TB : Ty K mg base) : F.Fr P w K mg base 1 (He.ma K (He.ga K "Moment") "__eq__") (sp_Moment___eq__ K) := (TB.toTx.f_Moment___eq__).elim fun fd F1 => fr_of F1 (okF_Moment___eq__ TB F1) (fun _ _ _ _ _ _ us hl => match us, hl with | [_, _], _ => rfl)
theorem zpad_len {W : Nat} {i : Int} (h0 : 0 ≤ i) (h1 : i < 10 ^ 10) : (zpad W i).length ≤ W + 10 := by
  have d := PySem.W.KXf.digits_le h0 h1
  have e : (Str.ofString (toString i)).length = (Nat.toDigits 10 i.natAbs).length := by
    obtain ⟨n, rfl⟩ : ∃ n : Nat, i = n := ⟨i.toNat, by omega⟩
    rw [len_tl, tl_num]
    unfold numL
    simp
  unfold zpad
  rw [Str.length_append, e]
  have : (⟨(List.replicate (W - (Nat.toDigits 10 i.natAbs).length) 48).toArray⟩ : Str).length = W - (Nat.toDigits 10 i.natAbs).length := by
    rw [len_tl]
    show (List.replicate (W - (Nat.toDigits 10 i.natAbs).length) 48).length = _
    simp
  rw [this]
  omega
/-- a moment as a text -/
def moStr (q : Mo) : Str := Str.empty ++ zpad 4 q.y ++ "-" ++ zpad 2 q.m ++ "-" ++ zpad 2 q.d ++ " " ++ zpad 2 q.h ++ ":" ++ zpad 2 q.i
theorem lim_b {a b : Str} {n m : Nat} (h : a.length ≤ n) (h2 : b.length ≤ m) : (a ++ b).length ≤ n + m := by
  rw [Str.length_append]
  omega
def sp_Moment___str__ (K : PySem.W.Frag) : Sp := fun vs H Q E => match vs with
  | [.ref a] => ∃ q, MoAt K H a q ∧ q.ok ∧ Q (.str (moStr q)) H
  | _ => False
theorem sc_Moment___str__ : FnScope ["self"] ["self"] (defScope s_Moment___str__) := ⟨rfl, rfl, rfl, by decide +kernel, rfl, by decide +kernel, by decide +kernel⟩
theorem okF_Moment___str__ {w : World} {K : PySem.W.Frag} {mg : Str → Option Value} {base : Heap} {fd : FuncData} (TB : Ty K mg base) (F1 : FunD K "__str__" "Moment.__str__" (defArgs s_Moment___str__) (defBody s_Moment___str__) (defScope s_Moment___str__) [] [] (He.ma K (He.ga K "Moment") "__str__") fd) : FnOk P w K mg base (L2.CX P w) 1 (He.ma K (He.ga K "Moment") "__str__") fd ["self"] (sp_Moment___str__ K) := by
  have T : Tx K mg := TB.toTx
  refine F1.ok sc_Moment___str__ (fun vs H Q E h => ?_) (fun cdv A outer s H vs Q E hr h => ?_)
  · unfold sp_Moment___str__ at h
    split at h
    · rfl
    · exact h.elim
  · unfold sp_Moment___str__ at h
    split at h
    rotate_left
    · exact h.elim
    · rename_i a
      refine ⟨_, (pss_one (ps_ret (e_joined (PJ.cons (e_fmtZ (W := 4) (sp := "04d") T.lim (by decide +kernel) (by decide +kernel) (by decide +kernel) (by decide +kernel) (k_fld K (e_v 0)) (pe_joined1 pe_str)) (PJ.cons pe_str (PJ.cons (e_fmtZ (W := 2) (sp := "02d") T.lim (by decide +kernel) (by decide +kernel) (by decide +kernel) (by decide +kernel) (k_fld K (e_v 0)) (pe_joined1 pe_str)) (PJ.cons pe_str (PJ.cons (e_fmtZ (W := 2) (sp := "02d") T.lim (by decide +kernel) (by decide +kernel) (by decide +kernel) (by decide +kernel) (k_fld K (e_v 0)) (pe_joined1 pe_str)) (PJ.cons pe_str (PJ.cons (e_fmtZ (W := 2) (sp := "02d") T.lim (by decide +kernel) (by decide +kernel) (by decide +kernel) (by decide +kernel) (k_fld K (e_v 0)) (pe_joined1 pe_str)) (PJ.cons pe_str (PJ.cons (e_fmtZ (W := 2) (sp := "02d") T.lim (by decide +kernel) (by decide +kernel) (by decide +kernel) (by decide +kernel) (k_fld K (e_v 0)) (pe_joined1 pe_str)) PJ.nil)))))))))))), ?_⟩
      obtain ⟨q, ha, ok, h⟩ := h
      obtain ⟨y1, y2, m1, m2, d1, d2, h1, h2, i1, i2⟩ := ok
      have d3 := (monthLen_ge q.y q.m m1 m2).2
      have l0 : (Str.empty).length ≤ 0 := Nat.le_refl _
      have lm0 : ("-" : Str).length ≤ 1 := by decide
      have lm1 : (" " : Str).length ≤ 1 := by decide
      have lm2 : (":" : Str).length ≤ 1 := by decide
      have ly := zpad_len (W := 4) (i := q.y) (by omega) (by omega)
      have lmo := zpad_len (W := 2) (i := q.m) (by omega) (by omega)
      have ld := zpad_len (W := 2) (i := q.d) (by omega) (by omega)
      have lh := zpad_len (W := 2) (i := q.h) (by omega) (by omega)
      have li := zpad_len (W := 2) (i := q.i) (by omega) (by omega)
      have a0 := lim_b l0 ly
      have a1 := lim_b a0 lm0
      have a2 := lim_b a1 lmo
      have a3 := lim_b a2 lm0
      have a4 := lim_b a3 ld
      have a5 := lim_b a4 lm1
      have a6 := lim_b a5 lh
      have a7 := lim_b a6 lm2
      have a8 := lim_b a7 li
      walk_at "n"
      refine ⟨_, ha.year T, ?_⟩
      walk_at "n"
      refine ⟨⟨by omega, by omega⟩, ?_⟩
      walk_at "n"
      refine ⟨_, rfl, Nat.le_trans a0 (by decide), ?_⟩
      walk_at "n"
      refine ⟨_, rfl, Nat.le_trans a1 (by decide), ?_⟩
      walk_at "n"
      refine ⟨_, ha.month T, ?_⟩
      walk_at "n"
      refine ⟨⟨by omega, by omega⟩, ?_⟩
      walk_at "n"
      refine ⟨_, rfl, Nat.le_trans a2 (by decide), ?_⟩
      walk_at "n"
      refine ⟨_, rfl, Nat.le_trans a3 (by decide), ?_⟩
      walk_at "n"
      refine ⟨_, ha.day T, ?_⟩
      walk_at "n"
      refine ⟨⟨by omega, by omega⟩, ?_⟩
      walk_at "n"
      refine ⟨_, rfl, Nat.le_trans a4 (by decide), ?_⟩
      walk_at "n"
      refine ⟨_, rfl, Nat.le_trans a5 (by decide), ?_⟩
      walk_at "n"
      refine ⟨_, ha.hour T, ?_⟩
      walk_at "n"
      refine ⟨⟨by omega, by omega⟩, ?_⟩
      walk_at "n"
      refine ⟨_, rfl, Nat.le_trans a6 (by decide), ?_⟩
      walk_at "n"
      refine ⟨_, rfl, Nat.le_trans a7 (by decide), ?_⟩
      walk_at "n"
      refine ⟨_, ha.minute T, ?_⟩
      walk_at "n"
      refine ⟨⟨by omega, by omega⟩, ?_⟩
      walk_at "n"
      refine ⟨_, rfl, Nat.le_trans a8 (by decide), ?_⟩
      walk_at "n"
      exact h
theorem ok_Moment___str__ {w : World} {K : PySem.W.Frag} {mg : Str → Option Value} {base : Heap} (TB : Ty K mg base) : F.Fr P w K mg base 1 (He.ma K (He.ga K "Moment") "__str__") (sp_Moment___str__ K) := (TB.toTx.f_Moment___str__).elim fun fd F1 => fr_of F1 (okF_Moment___str__ TB F1) (fun _ _ _ _ _ _ us hl => match us, hl with | [_], _ => rfl)
end G
set_option maxHeartbeats 400000
namespace G
open PySem PySem.Spec PyProof.Rows L2 F
local macro_rules | `(tactic| walk_at "side") => `(tactic| first | rfl | decide | omega | assumption | (unfold CMul; omega) | (unfold CPow; omega) | (unfold CDiv; omega))
local macro_rules | `(tactic| walk_at "hp") => `(tactic| first | assumption | exact upd_same | (refine upd_keep (by assumption) ?_; walk_at "hp") | (refine sm (by assumption) ?_; walk_at "hp"))
local macro_rules | `(tactic| walk_at "n") => `(tactic| ((try conv => whnf); repeat ((first | with_reducible refine cond_t rfl ?_ | with_reducible refine cond_f rfl ?_ | with_reducible refine cond_n ?_); (try conv => whnf))))
local macro_rules | `(tactic| walk_at "go") => `(tactic| (walk_at "n"; repeat (refine And.intro ?side ?_; (case side => walk_at "side"); walk_at "n")))

open M
abbrev CB (K : PySem.W.Frag) : Addr := He.ga K "Book"
/-- a watch may stand from q to p -/
structure SpanOk (q p : Mo) : Prop where
  o1 : q.ok
  o2 : p.ok
  lt : q.num < p.num
  le : p.num - q.num ≤ 1152000
def code (z : Mo × Mo) : Int := z.1.num * 1152001 + z.2.num - z.1.num
theorem code_inj {q p q' p' : Mo} (h : SpanOk q p) (h' : SpanOk q' p') (e : code (q, p) = code (q', p')) : (q, p) = (q', p') := by
  obtain ⟨o1, o2, l1, l2⟩ := h
  obtain ⟨o3, o4, l3, l4⟩ := h'
  have e : q.num * 1152001 + p.num - q.num = q'.num * 1152001 + p'.num - q'.num := e
  have e1 : q.num = q'.num := by omega
  have e2 : p.num = p'.num := by omega
  rw [Mo.num_inj o1 o3 e1, Mo.num_inj o2 o4 e2]

end G
set_option maxHeartbeats 400000
namespace G
open PySem PySem.Spec PyProof.Rows L2 F
local macro_rules | `(tactic| walk_at "side") => `(tactic| first | rfl | decide | omega | assumption | (unfold CMul; omega) | (unfold CPow; omega) | (unfold CDiv; omega))
local macro_rules | `(tactic| walk_at "hp") => `(tactic| first | assumption | exact upd_same | (refine upd_keep (by assumption) ?_; walk_at "hp") | (refine sm (by assumption) ?_; walk_at "hp"))
local macro_rules | `(tactic| walk_at "n") => `(tactic| ((try conv => whnf); repeat ((first | with_reducible refine cond_t rfl ?_ | with_reducible refine cond_f rfl ?_ | with_reducible refine cond_n ?_); (try conv => whnf))))
local macro_rules | `(tactic| walk_at "go") => `(tactic| (walk_at "n"; repeat (refine And.intro ?side ?_; (case side => walk_at "side"); walk_at "n")))

open M
def sp_need_watch (K : PySem.W.Frag) : Sp := fun vs H Q E => match vs with
  | [.ref b, .ref e] => ∃ q p, MoAt K H b q ∧ MoAt K H e p ∧ (spanBad q p = none → ∀ H', Same H H' → Q .non H') ∧ (∀ s, spanBad q p = some s → Rz K "BadWatch" [("part", .str s)] H E)
  | _ => False
theorem sc_need_watch : FnScope ["begin", "end", "part", "value"] ["begin", "end"] (defScope s_need_watch) := ⟨rfl, rfl, rfl, by decide +kernel, rfl, by decide +kernel, by decide +kernel⟩
theorem okF_need_watch {w : World} {K : PySem.W.Frag} {mg : Str → Option Value} {base : Heap} {fd : FuncData} (TB : Ty K mg base) (F1 : FunD K "need_watch" "need_watch" (defArgs s_need_watch) (defBody s_need_watch) (defScope s_need_watch) [] [] (He.ga K "need_watch") fd) : FnOk P w K mg base (L2.CX P w) 3 (He.ga K "need_watch") fd ["begin", "end"] (sp_need_watch K) := by
  have T : Tx K mg := TB.toTx
  refine F1.ok sc_need_watch (fun vs H Q E h => ?_) (fun cdv A outer s H vs Q E hr h => ?_)
  · unfold sp_need_watch at h
    split at h
    · rfl
    · exact h.elim
  · unfold sp_need_watch at h
    split at h
    rotate_left
    · exact h.elim
    · rename_i b e
      refine ⟨_, (pss_cons (ps_for (passes_of rfl) rfl (pi_tup (pe_tup (pa_cons (pe_tup (pa_cons pe_str (pa_cons (e_v 0) pa_nil))) (pa_cons (pe_tup (pa_cons pe_str (pa_cons (e_v 1) pa_nil))) pa_nil)))) (kg_tup K (n := 2) rfl (fgs_cons (pg_name (i := 2) sc_need_watch.nd rfl (Or.inl rfl)) (fgs_cons (pg_name (i := 3) sc_need_watch.nd rfl (Or.inl rfl)) fgs_nil)))
          (pss_one (s_if (pt_not (t_b (e_isC T.g_Moment T.is_Moment T.b_isinstance (e_v 3)))) (pss_one ps_never) pss_nil)))
        (pss_cons (s_if (t_cmp (o_ownCmp (fun _ _ => rfl) T.o_Moment___ge__ (ok_Moment___ge__ TB) hr) (e_v 0) (e_v 1) (nomark _)) (pss_one (s_raise T.x_BadWatch hr (takes_of (E := E) rfl rfl rfl rfl) (pa_cons pe_str pa_nil))) pss_nil)
        (pss_one (s_if (t_cmp o_gt (pe_op (o_ownBin T.sf_Moment T.o_Moment___sub__ (ok_Moment___sub__ TB) hr) (e_v 1) (e_v 0)) (e_cval rfl T.g_Book T.r_Book T.cv_Book_LONGEST) (nomark _)) (pss_one (s_raise T.x_BadWatch hr (takes_of (E := E) rfl rfl rfl rfl) (pa_cons pe_str pa_nil))) pss_nil)))), ?_⟩
      obtain ⟨q, p, hb, he, h, hx⟩ := h
      walk_at "n"
      refine ⟨line_of (by simp), fun t1 h1 => ?_⟩
      walk_at "n"
      refine ⟨line_of (by simp), fun t2 h2 => ?_⟩
      walk_at "n"
      refine ⟨line_of (by simp), fun t3 h3 => ?_⟩
      walk_at "n"
      refine ⟨_, rfl, ⟨_, .inl (.inl upd_same)⟩, for_it (walk_tup (xs := [.ref t1, .ref t2])) (fun i σ H' => (Same H H' ∧ H' t1 = some (.tup [.str "begin", .ref b]) ∧ H' t2 = some (.tup [.str "end", .ref e]) ∧ H' t3 = some (.tup [.ref t1, .ref t2])) ∧ ∃ p v, σ = [some (.ref b), some (.ref e), p, v]) ⟨⟨?_, ?_, ?_, upd_same⟩, _, _, rfl⟩ (fun _ _ _ _ z => .inl (.inl z.1.2.2.2)) ?_ ?_⟩
      · exact sto (sto (snew h1) h2) h3
      · exact upd_keep h3 (upd_keep h2 upd_same)
      · exact upd_keep h3 upd_same
      · rintro i x σ H1 H2 hi ⟨⟨s1, e1, e2, e3⟩, pv, vv, rfl⟩ ⟨rfl, hx⟩
        rcases i with _ | _ | i
        · cases hx
          walk_at "n"
          refine ⟨_, .inl (.inl e1), rfl, ?_⟩
          walk_at "n"
          refine ⟨rfl, .inl ⟨(hb.same s1).ins, ?_⟩⟩
          walk_at "n"
          exact ⟨⟨s1, e1, e2, e3⟩, _, _, rfl⟩
        · cases hx
          walk_at "n"
          refine ⟨_, .inl (.inl e2), rfl, ?_⟩
          walk_at "n"
          refine ⟨rfl, .inl ⟨(he.same s1).ins, ?_⟩⟩
          walk_at "n"
          exact ⟨⟨s1, e1, e2, e3⟩, _, _, rfl⟩
        · have : i + 1 + 1 < 2 := hi
          omega
      · rintro σ H1 ⟨⟨s1, e1, e2, e3⟩, pv, vv, rfl⟩
        unfold spanBad at h hx
        walk_at "n"
        refine ⟨(hb.same s1).ins, (he.same s1).ins, q, p, hb.same s1, he.same s1, ?_⟩
        walk_at "n"
        refine cond_p (fun c => ?_) (fun c => ?_)
        · rw [if_pos c] at hx
          walk_at "n"
          exact ⟨rfl, fun d hd => ((hx _ rfl).same s1).go d hd⟩
        rw [if_neg c] at h hx
        walk_at "n"
        refine ⟨(he.same s1).ins, (hb.same s1).ins, p, q, he.same s1, hb.same s1, ?_⟩
        walk_at "n"
        refine cond_p (fun c2 => ?_) (fun c2 => ?_)
        · rw [if_pos c2] at hx
          walk_at "n"
          exact ⟨rfl, fun d hd => ((hx _ rfl).same s1).go d hd⟩
        rw [if_neg c2] at h
        walk_at "n"
        exact h rfl _ s1
theorem ok_need_watch {w : World} {K : PySem.W.Frag} {mg : Str → Option Value} {base : Heap} (TB : Ty K mg base) : F.Fr P w K mg base 3 (He.ga K "need_watch") (sp_need_watch K) := (TB.toTx.f_need_watch).elim fun fd F1 => fr_of F1 (okF_need_watch TB F1) (fun _ _ _ _ _ _ us hl => match us, hl with | [_, _], _ => rfl)
end G
set_option maxHeartbeats 400000
namespace G
open PySem PySem.Spec PyProof.Rows L2 F
local macro_rules | `(tactic| walk_at "side") => `(tactic| first | rfl | decide | omega | assumption | (unfold CMul; omega) | (unfold CPow; omega) | (unfold CDiv; omega))
local macro_rules | `(tactic| walk_at "hp") => `(tactic| first | assumption | exact upd_same | (refine upd_keep (by assumption) ?_; walk_at "hp") | (refine sm (by assumption) ?_; walk_at "hp"))
local macro_rules | `(tactic| walk_at "n") => `(tactic| ((try conv => whnf); repeat ((first | with_reducible refine cond_t rfl ?_ | with_reducible refine cond_f rfl ?_ | with_reducible refine cond_n ?_); (try conv => whnf))))
local macro_rules | `(tactic| walk_at "go") => `(tactic| (walk_at "n"; repeat (refine And.intro ?side ?_; (case side => walk_at "side"); walk_at "n")))

open M
def sp_span_code (K : PySem.W.Frag) : Sp := fun vs H Q E => match vs with
  | [.ref b, .ref e] => ∃ q p, MoAt K H b q ∧ MoAt K H e p ∧ Q (.int (code (q, p))) H
  | _ => False
theorem sc_span_code : FnScope ["begin", "end"] ["begin", "end"] (defScope s_span_code) := ⟨rfl, rfl, rfl, by decide +kernel, rfl, by decide +kernel, by decide +kernel⟩
theorem okF_span_code {w : World} {K : PySem.W.Frag} {mg : Str → Option Value} {base : Heap} {fd : FuncData} (TB : Ty K mg base) (F1 : FunD K "span_code" "span_code" (defArgs s_span_code) (defBody s_span_code) (defScope s_span_code) [] [] (He.ga K "span_code") fd) : FnOk P w K mg base (L2.CX P w) 1 (He.ga K "span_code") fd ["begin", "end"] (sp_span_code K) := by
  have T : Tx K mg := TB.toTx
  refine F1.ok sc_span_code (fun vs H Q E h => ?_) (fun cdv A outer s H vs Q E hr h => ?_)
  · unfold sp_span_code at h
    split at h
    · rfl
    · exact h.elim
  · unfold sp_span_code at h
    split at h
    rotate_left
    · exact h.elim
    · rename_i b e
      refine ⟨_, (pss_one (ps_ret (pe_op o_sub (pe_op (k_add K) (pe_op o_mul (k_fld K (e_v 0)) (pe_op (k_add K) (e_cval rfl T.g_Book T.r_Book T.cv_Book_LONGEST) pe_int)) (k_fld K (e_v 1))) (k_fld K (e_v 0))))), ?_⟩
      obtain ⟨q, p, hb, he, h⟩ := h
      walk_at "n"
      refine ⟨_, hb.number T, ?_⟩
      walk_at "n"
      refine ⟨by unfold CMul; omega, ?_⟩
      walk_at "n"
      refine ⟨_, he.number T, ?_⟩
      walk_at "n"
      refine ⟨_, hb.number T, ?_⟩
      walk_at "n"
      exact h
theorem ok_span_code {w : World} {K : PySem.W.Frag} {mg : Str → Option Value} {base : Heap} (TB : Ty K mg base) : F.Fr P w K mg base 1 (He.ga K "span_code") (sp_span_code K) := (TB.toTx.f_span_code).elim fun fd F1 => fr_of F1 (okF_span_code TB F1) (fun _ _ _ _ _ _ us hl => match us, hl with | [_, _], _ => rfl)
/-- the rings' dict -/
structure RungAt (K : PySem.W.Frag) (H : Hp) (r : Addr) (rs : List (Addr × Mo)) : Prop where
  tab : Tab Mo.num H r rs
  mo : ∀ t, t ∈ rs → MoAt K H t.1 t.2 ∧ t.2.ok
theorem RungAt.same {K : PySem.W.Frag} {H H' : Hp} {r : Addr} {rs : List (Addr × Mo)} (h : RungAt K H r rs) (s : Same H H') : RungAt K H' r rs := ⟨h.tab.same s, fun t ht => ⟨(h.mo t ht).1.same s, (h.mo t ht).2⟩⟩
theorem RungAt.inj {K : PySem.W.Frag} {H : Hp} {r : Addr} {rs : List (Addr × Mo)} {q : Mo} (h : RungAt K H r rs) (ok : q.ok) (u : Addr × Mo) (hu : u ∈ rs) (e : u.2.num = q.num) : u.2 = q := Mo.num_inj (h.mo u hu).2 ok e
def sp_with_ring (K : PySem.W.Frag) : Sp := fun vs H Q E => match vs with
  | [.ref r, .ref a] => ∃ rs q, RungAt K H r rs ∧ MoAt K H a q ∧ q.ok ∧ rs.length < 2000 ∧ ∀ r' H' rs', Same H H' → H r' = none → RungAt K H' r' rs' → (∀ x, x ∈ conT id rs' ↔ x ∈ conT id rs ∨ x = q) → rs'.length ≤ rs.length + 1 → Q (.ref r') H'
  | _ => False
theorem sc_with_ring : FnScope ["rung", "moment"] ["rung", "moment"] (defScope s_with_ring) := ⟨rfl, rfl, rfl, by decide +kernel, rfl, by decide +kernel, by decide +kernel⟩
theorem okF_with_ring {w : World} {K : PySem.W.Frag} {mg : Str → Option Value} {base : Heap} {fd : FuncData} (TB : Ty K mg base) (F1 : FunD K "with_ring" "with_ring" (defArgs s_with_ring) (defBody s_with_ring) (defScope s_with_ring) [] [] (He.ga K "with_ring") fd) : FnOk P w K mg base (L2.CX P w) 1 (He.ga K "with_ring") fd ["rung", "moment"] (sp_with_ring K) := by
  have T : Tx K mg := TB.toTx
  refine F1.ok sc_with_ring (fun vs H Q E h => ?_) (fun cdv A outer s H vs Q E hr h => ?_)
  · unfold sp_with_ring at h
    split at h
    · rfl
    · exact h.elim
  · unfold sp_with_ring at h
    split at h
    rotate_left
    · exact h.elim
    · rename_i r a
      refine ⟨_, (pss_cons (s_if (pt_not (t_b (e_isC T.g_Moment T.is_Moment T.b_isinstance (e_v 1)))) (pss_one ps_never) pss_nil)
        (pss_cons (s_if (PW.pt (w_and (t_cmp (o_notInK (hu_of hr)) (k_fld K (e_v 1)) (e_v 0) (by rfl)) (w_and1 (t_cmp o_ge (kk_len K T.b_len (e_v 0)) (e_cval rfl T.g_Book T.r_Book T.cv_Book_MOST_RINGS) (nomark _))))) (pss_one ps_never) pss_nil)
        (pss_one (ps_ret (e_star1 (e_v 0) (k_fld K (e_v 1)) (e_v 1)))))), ?_⟩
      obtain ⟨rs, q, hr0, ha, ok, hl, h⟩ := h
      walk_at "n"
      refine ⟨rfl, .inl ⟨ha.ins, ?_⟩⟩
      walk_at "n"
      refine ⟨_, ha.number T, ?_⟩
      walk_at "n"
      obtain ⟨o, ho, hi⟩ := hr0.tab.has q.num
      refine ⟨o, ho, ?_⟩
      walk_at "n"
      refine cond_b (fun hs => ?a1) (fun hs => ?a2)
      case' a2 =>
        walk_at "n"
        refine .inr ⟨_, hr0.tab.at_, ?_⟩
        walk_at "n"
        refine cond_nq (by rw [kvT_len]; omega) ?_
      all_goals
        walk_at "n"
        intro p hp
        walk_at "n"
        have e1 : upd H p (.dK []) r = some (.dK (kvT Mo.num rs)) := upd_keep hp hr0.tab.at_
        have np : r ≠ p := fun e => by rw [e, upd_same] at e1; have := hr0.tab.at_; rw [e, hp] at this; cases this
        refine ⟨_, e1, upd_same, np, fun q1 hq => ?_⟩
        rw [merge_nil hr0.tab.nd]
        have nq : q1 ≠ p := fun e => by rw [e, upd_same] at hq; cases hq
        have hq0 : H q1 = none := by rw [upd_ne nq] at hq; exact hq
        have s1 : SB p H (upd (upd (upd H p (.dK [])) p (.dK (kvT Mo.num rs))) q1 (.dK [])) := (sb_upd.upd).new (by rw [upd_ne nq]; exact hq)
        have ha1 : MoAt K (upd (upd (upd H p (.dK [])) p (.dK (kvT Mo.num rs))) q1 (.dK [])) a q := ha.same (s1.fresh hp)
        walk_at "n"
        refine ⟨_, ha1.number T, ?_⟩
        walk_at "n"
        refine ⟨.inl q.num, rfl, upd_same, ?_, line_lt (by rw [kvT_len]; omega), ?_⟩
        · rw [upd_ne (Ne.symm nq), upd_same]
        rw [show putK (kvT Mo.num rs) (Sum.inl q.num) (.ref a) = kvT Mo.num (putT Mo.num rs (a, q)) from kvT_put (t := (a, q))]
        have sf : Same H (upd (upd (upd (upd (upd H p (.dK [])) p (.dK (kvT Mo.num rs))) q1 (.dK [])) q1 (.dK [(.inl q.num, .ref a)])) p (.dK (kvT Mo.num (putT Mo.num rs (a, q))))) := sput (sput (s1.fresh hp) hq0) hp
        refine h p _ _ sf hp ⟨⟨upd_same, put_nd hr0.tab.nd⟩, fun t ht => ?_⟩ (con_put (t := (a, q)) fun u hu e => hr0.inj ok u hu e) put_len
        rcases mem_put ht with rfl | ht
        · exact ⟨ha.same sf, ok⟩
        · exact ⟨(hr0.mo t ht).1.same sf, (hr0.mo t ht).2⟩
theorem ok_with_ring {w : World} {K : PySem.W.Frag} {mg : Str → Option Value} {base : Heap} (TB : Ty K mg base) : F.Fr P w K mg base 1 (He.ga K "with_ring") (sp_with_ring K) := (TB.toTx.f_with_ring).elim fun fd F1 => fr_of F1 (okF_with_ring TB F1) (fun _ _ _ _ _ _ us hl => match us, hl with | [_, _], _ => rfl)
def sp_rings_in (K : PySem.W.Frag) : Sp := fun vs H Q E => match vs with
  | [.ref l] => ∃ ps : List (Addr × Mo), (SqL K H l (ps.map fun t => .ref t.1) ∨ SqT K H l (ps.map fun t => .ref t.1)) ∧ (∀ t, t ∈ ps → MoAt K H t.1 t.2 ∧ t.2.ok) ∧ ps.length ≤ 2000 ∧ ∀ r H' rs, Same H H' → H r = none → RungAt K H' r rs → (∀ x, x ∈ conT id rs ↔ x ∈ conT id ps) → rs.length ≤ ps.length → Q (.ref r) H'
  | _ => False
theorem sc_rings_in : FnScope ["rings", "found", "moment"] ["rings"] (defScope s_rings_in) := ⟨rfl, rfl, rfl, by decide +kernel, rfl, by decide +kernel, by decide +kernel⟩
theorem okF_rings_in {w : World} {K : PySem.W.Frag} {mg : Str → Option Value} {base : Heap} {fd : FuncData} (TB : Ty K mg base) (F1 : FunD K "rings_in" "rings_in" (defArgs s_rings_in) (defBody s_rings_in) (defScope s_rings_in) [] [] (He.ga K "rings_in") fd) : FnOk P w K mg base (L2.CX P w) 1 (He.ga K "rings_in") fd ["rings"] (sp_rings_in K) := by
  have T : Tx K mg := TB.toTx
  refine F1.ok sc_rings_in (fun vs H Q E h => ?_) (fun cdv A outer s H vs Q E hr h => ?_)
  · unfold sp_rings_in at h
    split at h
    · rfl
    · exact h.elim
  · unfold sp_rings_in at h
    split at h
    rotate_left
    · exact h.elim
    · rename_i l
      refine ⟨_, (pss_cons (ps_set (i := 1) sc_rings_in.nd rfl (Or.inl rfl) pe_dnewK)
        (pss_cons (ps_for (passes_of rfl) rfl (pi_seq (e_v 0)) (pg_name (i := 2) sc_rings_in.nd rfl (Or.inl rfl))
          (pss_cons (s_if (pt_not (t_b (e_isC T.g_Moment T.is_Moment T.b_isinstance (e_v 2)))) (pss_one ps_never) pss_nil)
        (pss_cons (s_if (PW.pt (w_and (t_cmp (o_notInK (hu_of hr)) (k_fld K (e_v 2)) (e_v 1) (by rfl)) (w_and1 (t_cmp o_ge (kk_len K T.b_len (e_v 1)) (e_cval rfl T.g_Book T.r_Book T.cv_Book_MOST_RINGS) (nomark _))))) (pss_one ps_never) pss_nil)
        (pss_one (ps_dput (hu_of hr) (e_v 1) (k_fld K (e_v 2)) (e_v 2) rfl)))))
        (pss_one (ps_ret (e_v 1))))), ?_⟩
      obtain ⟨ps, hl, hm, hn, h⟩ := h
      walk_at "n"
      intro r hr1
      walk_at "n"
      refine ⟨_, hl.imp (sl (snew hr1)) (st (snew hr1)), fun J G wk hG => for_it wk (fun i σ H' => (∃ rs, Same H H' ∧ RungAt K H' r rs ∧ (∀ x, x ∈ conT id rs ↔ x ∈ conT id (ps.take i)) ∧ rs.length ≤ i) ∧ ∃ v, σ = [some (.ref l), some (.ref r), v]) ⟨⟨[], snew hr1, ⟨tab_nil upd_same, fun t ht => by simp at ht⟩, fun x => by simp [conT], Nat.le_refl _⟩, _, rfl⟩ (fun i σ H' _ z => ?_) ?_ ?_⟩
      · obtain ⟨⟨_, s1, _⟩, _⟩ := z
        refine hG _ fun o ho hd => ?_
        by_cases e : l = r
        · subst e
          rw [upd_same] at ho
          exact absurd (Option.some.inj ho).symm (hd _)
        · rw [upd_ne e] at ho
          exact s1 _ _ ho
      · rintro i x σ H1 H2 hi ⟨⟨rs, s1, ra, hc, hl2⟩, v, rfl⟩ ⟨rfl, hx⟩
        rw [List.length_map] at hi
        have gi : ps[i]? = some ps[i] := List.getElem?_eq_getElem hi
        rw [List.getElem?_map, gi] at hx
        obtain rfl : x = .ref ps[i].1 := (Option.some.inj hx).symm
        have hm0 := hm _ (List.getElem_mem hi)
        generalize ps[i] = t at *
        have hm1 := hm0.1.same s1
        refine ⟨rfl, .inl ⟨hm1.ins, ?_⟩⟩
        walk_at "n"
        refine ⟨_, hm1.number T, ?_⟩
        walk_at "n"
        obtain ⟨o, ho, hi2⟩ := ra.tab.has t.2.num
        refine ⟨o, ho, ?_⟩
        walk_at "n"
        refine cond_b (fun hs => ?a1) (fun hs => ?a2)
        case' a2 =>
          walk_at "n"
          refine .inr ⟨_, ra.tab.at_, ?_⟩
          walk_at "n"
          refine cond_nq (by rw [kvT_len]; omega) ?_
        all_goals
          walk_at "n"
          refine ⟨_, hm1.number T, ?_⟩
          walk_at "n"
          obtain ⟨p1, p2⟩ := ra.tab.put (t := t) (line_lt (by omega))
          refine ⟨_, _, rfl, p1, ?_⟩
          walk_at "n"
          have s2 : Same H (upd H2 r (.dK (kvT Mo.num (putT Mo.num rs t)))) := sput s1 hr1
          refine ⟨⟨putT Mo.num rs t, s2, ⟨p2, fun u hu => ?_⟩, fun y => ?_, Nat.le_trans put_len (by omega)⟩, _, rfl⟩
          · rcases mem_put hu with rfl | hu
            · exact ⟨hm0.1.same s2, hm0.2⟩
            · exact ⟨(ra.mo u hu).1.put ra.tab.at_, (ra.mo u hu).2⟩
          · rw [con_put (fun u hu e => ra.inj hm0.2 u hu e), hc]
            exact (con_take (c := id) gi y).symm
      · rintro σ H1 ⟨⟨rs, s1, ra, hc, hl2⟩, v, rfl⟩
        walk_at "n"
        rw [List.length_map] at hl2 hc
        rw [List.take_length] at hc
        exact h r H1 rs s1 hr1 ra hc hl2
theorem ok_rings_in {w : World} {K : PySem.W.Frag} {mg : Str → Option Value} {base : Heap} (TB : Ty K mg base) : F.Fr P w K mg base 1 (He.ga K "rings_in") (sp_rings_in K) := (TB.toTx.f_rings_in).elim fun fd F1 => fr_of F1 (okF_rings_in TB F1) (fun _ _ _ _ _ _ us hl => match us, hl with | [_], _ => rfl)
end G
set_option maxHeartbeats 400000
namespace G
open PySem PySem.Spec PyProof.Rows L2 F
local macro_rules | `(tactic| walk_at "side") => `(tactic| first | rfl | decide | omega | assumption | (unfold CMul; omega) | (unfold CPow; omega) | (unfold CDiv; omega))
local macro_rules | `(tactic| walk_at "hp") => `(tactic| first | assumption | exact upd_same | (refine upd_keep (by assumption) ?_; walk_at "hp") | (refine sm (by assumption) ?_; walk_at "hp"))
local macro_rules | `(tactic| walk_at "n") => `(tactic| ((try conv => whnf); repeat ((first | with_reducible refine cond_t rfl ?_ | with_reducible refine cond_f rfl ?_ | with_reducible refine cond_n ?_); (try conv => whnf))))
local macro_rules | `(tactic| walk_at "go") => `(tactic| (walk_at "n"; repeat (refine And.intro ?side ?_; (case side => walk_at "side"); walk_at "n")))

open M
abbrev WT := (Addr × Mo) × (Addr × Mo)
def wc (z : WT) : Mo × Mo := (z.1.2, z.2.2)
def wk (z : WT) : Int := code (wc z)
structure WAt (K : PySem.W.Frag) (H : Hp) (t : Addr × WT) : Prop where
  tup : SqT K H t.1 [.ref t.2.1.1, .ref t.2.2.1]
  m1 : MoAt K H t.2.1.1 t.2.1.2
  m2 : MoAt K H t.2.2.1 t.2.2.2
  ok : SpanOk t.2.1.2 t.2.2.2
structure SpansAt (K : PySem.W.Frag) (H : Hp) (s : Addr) (ws : List (Addr × WT)) : Prop where
  tab : Tab wk H s ws
  at_ : ∀ t, t ∈ ws → WAt K H t
section
variable {K : PySem.W.Frag} {H H' : Hp} {a b r s : Addr} {q : Mo} {kvs : List (Key × V)} {o : HO} {C dx : Addr} {fs : List (Str × V)} {xs : List V} {t : Addr × WT} {ws : List (Addr × WT)} {rs : List (Addr × Mo)}
theorem WAt.same (h : WAt K H t) (s : Same H H') : WAt K H' t := ⟨st s h.tup, h.m1.same s, h.m2.same s, h.ok⟩
theorem SpansAt.same (h : SpansAt K H b ws) (s : Same H H') : SpansAt K H' b ws := ⟨h.tab.same s, fun t ht => (h.at_ t ht).same s⟩
theorem st_put (h : SqT K H a xs) (hr : H r = some (.dK kvs)) : SqT K (upd H r o) a xs := by
  have n : ∀ o', H a = some o' → (∀ k, o' ≠ .dK k) → upd H r o a = some o' := fun o' h1 h2 => by
    rw [upd_ne fun z => by rw [z, hr] at h1; exact h2 _ (Option.some.inj h1).symm]
    exact h1
  exact h.elim (fun z => z.elim (fun z => .inl (.inl (n _ z fun _ e => by cases e))) fun ⟨o, z⟩ => .inl (.inr ⟨o, n _ z fun _ e => by cases e⟩)) .inr
theorem WAt.put (h : WAt K H t) (hr : H r = some (.dK kvs)) : WAt K (upd H r o) t := ⟨st_put h.tup hr, h.m1.put hr, h.m2.put hr, h.ok⟩
theorem sl_sb (h : SqL K H a xs) (hb : H b = some (.ins C dx fs)) (s : SB b H H') : SqL K H' a xs :=
  h.elim (fun z => z.elim (fun z => .inl (.inl (s.at z hb fun e => by cases e))) fun ⟨o, z⟩ => .inl (.inr ⟨o, s.at z hb fun e => by cases e⟩)) .inr
theorem st_sb (h : SqT K H a xs) (hb : H b = some (.ins C dx fs)) (s : SB b H H') : SqT K H' a xs :=
  h.elim (fun z => z.elim (fun z => .inl (.inl (s.at z hb fun e => by cases e))) fun ⟨o, z⟩ => .inl (.inr ⟨o, s.at z hb fun e => by cases e⟩)) .inr
theorem MoAt.sb (h : MoAt K H a q) (hb : H b = some (.ins C dx fs)) (hn : fs.lookup ("number" : Str) = none) (s : SB b H H') : MoAt K H' a q := by
  obtain ⟨dy, e⟩ := h
  refine ⟨dy, s.at2 e fun z => ?_⟩
  rw [z, hb] at e
  have e2 : fs = moF q := by
    have := Option.some.inj e
    injection this
  rw [e2, mo_number] at hn
  cases hn
theorem WAt.sb (h : WAt K H t) (hb : H b = some (.ins C dx fs)) (hn : fs.lookup ("number" : Str) = none) (s : SB b H H') : WAt K H' t := ⟨st_sb h.tup hb s, h.m1.sb hb hn s, h.m2.sb hb hn s, h.ok⟩
theorem ne_ins (h : H r = some (.dK kvs)) (hb : H b = some (.ins C dx fs)) : r ≠ b := fun z => by rw [z, hb] at h; cases h
theorem RungAt.sb (h : RungAt K H r rs) (hb : H b = some (.ins C dx fs)) (hn : fs.lookup ("number" : Str) = none) (s : SB b H H') : RungAt K H' r rs := ⟨h.tab.sb s (ne_ins h.tab.at_ hb), fun t ht => ⟨(h.mo t ht).1.sb hb hn s, (h.mo t ht).2⟩⟩
theorem SpansAt.sb (h : SpansAt K H r ws) (hb : H b = some (.ins C dx fs)) (hn : fs.lookup ("number" : Str) = none) (s : SB b H H') : SpansAt K H' r ws := ⟨h.tab.sb s (ne_ins h.tab.at_ hb), fun t ht => (h.at_ t ht).sb hb hn s⟩
theorem SpansAt.inj (h : SpansAt K H r ws) (ok : WAt K H' t) (u : Addr × WT) (hu : u ∈ ws) (e : wk u.2 = wk t.2) : wc u.2 = wc t.2 := code_inj (h.at_ u hu).ok ok.ok e
end

end G
set_option maxHeartbeats 400000
namespace G
open PySem PySem.Spec PyProof.Rows L2 F
local macro_rules | `(tactic| walk_at "side") => `(tactic| first | rfl | decide | omega | assumption | (unfold CMul; omega) | (unfold CPow; omega) | (unfold CDiv; omega))
local macro_rules | `(tactic| walk_at "hp") => `(tactic| first | assumption | exact upd_same | (refine upd_keep (by assumption) ?_; walk_at "hp") | (refine sm (by assumption) ?_; walk_at "hp"))
local macro_rules | `(tactic| walk_at "n") => `(tactic| ((try conv => whnf); repeat ((first | with_reducible refine cond_t rfl ?_ | with_reducible refine cond_f rfl ?_ | with_reducible refine cond_n ?_); (try conv => whnf))))
local macro_rules | `(tactic| walk_at "go") => `(tactic| (walk_at "n"; repeat (refine And.intro ?side ?_; (case side => walk_at "side"); walk_at "n")))

open M
/-- a tuple of two moments -/
structure WAq (K : PySem.W.Frag) (H : Hp) (t : Addr × WT) : Prop where
  tup : SqT K H t.1 [.ref t.2.1.1, .ref t.2.2.1]
  m1 : MoAt K H t.2.1.1 t.2.1.2
  m2 : MoAt K H t.2.2.1 t.2.2.2
  o1 : t.2.1.2.ok
  o2 : t.2.2.2.ok
theorem WAq.same {K : PySem.W.Frag} {H H' : Hp} {t : Addr × WT} (h : WAq K H t) (s : Same H H') : WAq K H' t := ⟨st s h.tup, h.m1.same s, h.m2.same s, h.o1, h.o2⟩
theorem spanBad_none {q p : Mo} (h : spanBad q p = none) (o1 : q.ok) (o2 : p.ok) : SpanOk q p := by
  unfold spanBad at h
  split at h
  · cases h
  split at h
  · cases h
  · exact ⟨o1, o2, by omega, by omega⟩
theorem SpanOk.bad {q p : Mo} (h : SpanOk q p) : spanBad q p = none := by
  unfold spanBad
  rw [if_neg (by have := h.lt; omega), if_neg (by have := h.le; omega)]
theorem WAq.at_ {K : PySem.W.Frag} {H : Hp} {t : Addr × WT} (h : WAq K H t) (b : spanBad t.2.1.2 t.2.2.2 = none) : WAt K H t := ⟨h.tup, h.m1, h.m2, spanBad_none b h.o1 h.o2⟩
theorem WAt.q {K : PySem.W.Frag} {H : Hp} {t : Addr × WT} (h : WAt K H t) : WAq K H t := ⟨h.tup, h.m1, h.m2, h.ok.o1, h.ok.o2⟩
inductive SpOut where
  | ok
  | bad (s : Str)
  | many
/-- watches put in one by one; the list: those that stand (the last first) -/
def spansOut : List (Mo × Mo) → List (Mo × Mo) → SpOut
  | _, [] => .ok
  | seen, t :: r => match spanBad t.1 t.2 with
    | some s => .bad s
    | none => if t ∈ seen then spansOut seen r else if 12 ≤ seen.length then .many else spansOut (t :: seen) r
theorem spansOut_cons {seen : List (Mo × Mo)} {t : Mo × Mo} {r : List (Mo × Mo)} : spansOut seen (t :: r) = match spanBad t.1 t.2 with
    | some s => .bad s
    | none => if t ∈ seen then spansOut seen r else if 12 ≤ seen.length then .many else spansOut (t :: seen) r := rfl
theorem drop_cons {α : Type} {l : List α} {i : Nat} {x : α} (h : l[i]? = some x) : l.drop i = x :: l.drop (i + 1) := by
  obtain ⟨hi, e⟩ := List.getElem?_eq_some_iff.mp h
  rw [← e]
  exact (List.getElem_cons_drop (h := hi)).symm
/-- what spans_in has when some watches are put in -/
structure SpMid (K : PySem.W.Frag) (H : Hp) (r : Addr) (seen : List (Mo × Mo)) (ws : List (Addr × WT)) : Prop where
  at_ : SpansAt K H r ws
  con : ∀ x, x ∈ conT wc ws ↔ x ∈ seen
  len : ws.length = seen.length
theorem SpMid.key {K : PySem.W.Frag} {H : Hp} {r : Addr} {seen : List (Mo × Mo)} {ws : List (Addr × WT)} (m : SpMid K H r seen ws) {t : WT} (ok : SpanOk (wc t).1 (wc t).2) : wk t ∈ keysT wk ws ↔ wc t ∈ seen := by
  rw [← m.con, mem_keysT, mem_conT]
  constructor
  · rintro ⟨u, hu, e⟩
    exact ⟨u, hu, (code_inj (m.at_.at_ u hu).ok ok e)⟩
  · rintro ⟨u, hu, e⟩
    refine ⟨u, hu, ?_⟩
    show code (wc u.2) = code (wc t)
    rw [e]
theorem putT_in {α : Type} {k : α → Int} {ts : List (Addr × α)} {t : Addr × α} (h : k t.2 ∈ keysT k ts) : (putT k ts t).length = ts.length := by
  unfold putT
  rw [if_pos h, List.length_map]
theorem putT_new {α : Type} {k : α → Int} {ts : List (Addr × α)} {t : Addr × α} (h : ¬ k t.2 ∈ keysT k ts) : (putT k ts t).length = ts.length + 1 := by
  unfold putT
  rw [if_neg h, List.length_append]
  rfl
def sp_spans_in (K : PySem.W.Frag) : Sp := fun vs H Q E => match vs with
  | [.ref l] => ∃ ps : List (Addr × WT), (SqL K H l (ps.map fun t => .ref t.1) ∨ SqT K H l (ps.map fun t => .ref t.1)) ∧ (∀ t, t ∈ ps → WAq K H t) ∧ ps.length ≤ 1000 ∧ (match spansOut [] (ps.map fun t => wc t.2) with
    | .ok => ∀ r H' ws, Same H H' → H r = none → SpansAt K H' r ws → (∀ x, x ∈ conT wc ws ↔ x ∈ conT wc ps) → ws.length ≤ ps.length → ws.length ≤ 12 → Q (.ref r) H'
    | .bad s => Rz K "BadWatch" [("part", .str s)] H E
    | .many => Rz K "TooMany" [("what", .str "watches"), ("most", .int 12)] H E)
  | _ => False
theorem sc_spans_in : FnScope ["watches", "found", "begin", "end", "code"] ["watches"] (defScope s_spans_in) := ⟨rfl, rfl, rfl, by decide +kernel, rfl, by decide +kernel, by decide +kernel⟩
theorem okF_spans_in {w : World} {K : PySem.W.Frag} {mg : Str → Option Value} {base : Heap} {fd : FuncData} (TB : Ty K mg base) (F1 : FunD K "spans_in" "spans_in" (defArgs s_spans_in) (defBody s_spans_in) (defScope s_spans_in) [] [] (He.ga K "spans_in") fd) : FnOk P w K mg base (L2.CX P w) 4 (He.ga K "spans_in") fd ["watches"] (sp_spans_in K) := by
  have T : Tx K mg := TB.toTx
  have c_need_watch : Fc P w K mg base 3 "need_watch" (sp_need_watch K) := ⟨_, ok_need_watch TB, T.g_need_watch, (T.f_need_watch).elim fun _ z => z.kp⟩
  have c_span_code : Fc P w K mg base 1 "span_code" (sp_span_code K) := ⟨_, ok_span_code TB, T.g_span_code, (T.f_span_code).elim fun _ z => z.kp⟩
  refine F1.ok sc_spans_in (fun vs H Q E h => ?_) (fun cdv A outer s H vs Q E hr h => ?_)
  · unfold sp_spans_in at h
    split at h
    · rfl
    · exact h.elim
  · unfold sp_spans_in at h
    split at h
    rotate_left
    · exact h.elim
    · rename_i l
      refine ⟨_, (pss_cons (ps_set (i := 1) sc_spans_in.nd rfl (Or.inl rfl) pe_dnewK)
        (pss_cons (ps_for (passes_of rfl) rfl (pi_seq (e_v 0)) (kg_tup K (n := 2) rfl (fgs_cons (pg_name (i := 2) sc_spans_in.nd rfl (Or.inl rfl)) (fgs_cons (pg_name (i := 3) sc_spans_in.nd rfl (Or.inl rfl)) fgs_nil)))
          (pss_cons (ps_expr (e_cP c_need_watch hr (passE' (takes_of (E := E) rfl rfl rfl rfl)) (pa_cons (e_v 2) (pa_cons (e_v 3) pa_nil))))
        (pss_cons (ps_set (i := 4) sc_spans_in.nd rfl (Or.inl rfl) (e_c c_span_code hr (pa_cons (e_v 2) (pa_cons (e_v 3) pa_nil))))
        (pss_cons (s_if (PW.pt (w_and (t_cmp (o_notInK (hu_of hr)) (e_v 4) (e_v 1) (by rfl)) (w_and1 (t_cmp o_ge (kk_len K T.b_len (e_v 1)) (e_cval rfl T.g_Book T.r_Book T.cv_Book_MOST_WATCHES) (nomark _))))) (pss_one (s_raise T.x_TooMany hr (takes_of (E := E) rfl rfl rfl rfl) (pa_cons pe_str (pa_cons (e_cval rfl T.g_Book T.r_Book T.cv_Book_MOST_WATCHES) pa_nil)))) pss_nil)
        (pss_one (ps_dput (hu_of hr) (e_v 1) (e_v 4) (pe_tup (pa_cons (e_v 2) (pa_cons (e_v 3) pa_nil))) rfl))))))
        (pss_one (ps_ret (e_v 1))))), ?_⟩
      obtain ⟨ps, hl, hm, hn, h⟩ := h
      walk_at "n"
      intro r hr1
      walk_at "n"
      refine ⟨_, hl.imp (sl (snew hr1)) (st (snew hr1)), fun J G wlk hG => for_it wlk (fun i σ H' => (∃ ws seen, Same H H' ∧ SpMid K H' r seen ws ∧ spansOut [] (ps.map fun t => wc t.2) = spansOut seen ((ps.map fun t => wc t.2).drop i) ∧ (∀ x, x ∈ conT wc ws ↔ x ∈ conT wc (ps.take i)) ∧ ws.length ≤ i ∧ ws.length ≤ 12) ∧ ∃ v1 v2 v3, σ = [some (.ref l), some (.ref r), v1, v2, v3]) ⟨⟨[], [], snew hr1, ⟨⟨tab_nil upd_same, fun t ht => by simp at ht⟩, fun x => by simp [conT], rfl⟩, by simp, fun x => by simp [conT], Nat.le_refl _, by simp⟩, _, _, _, rfl⟩ (fun i σ H' _ z => ?_) ?_ ?_⟩
      · obtain ⟨⟨_, _, s1, _⟩, _⟩ := z
        refine hG _ fun o ho hd => ?_
        by_cases e : l = r
        · subst e
          rw [upd_same] at ho
          exact absurd (Option.some.inj ho).symm (hd _)
        · rw [upd_ne e] at ho
          exact s1 _ _ ho
      · rintro i x σ H1 H2 hi ⟨⟨ws, seen, s1, mid, hso, hc, hl2, hl12⟩, v1, v2, v3, rfl⟩ ⟨rfl, hx⟩
        have ra := mid.at_
        rw [List.length_map] at hi
        have gi : ps[i]? = some ps[i] := List.getElem?_eq_getElem hi
        rw [List.getElem?_map, gi] at hx
        obtain rfl : x = .ref ps[i].1 := (Option.some.inj hx).symm
        have hm0 := hm _ (List.getElem_mem hi)
        generalize ps[i] = t at *
        have gd := drop_cons (l := ps.map fun t => wc t.2) (i := i) (x := wc t.2) (by rw [List.getElem?_map, gi]; rfl)
        rw [gd, spansOut_cons] at hso
        have hm1 := hm0.same s1
        walk_at "n"
        refine ⟨_, hm1.tup, rfl, ?_⟩
        walk_at "n"
        refine ⟨_, _, hm1.m1, hm1.m2, fun hb H3 s3 => ?_, fun s hb => ?_⟩
        rotate_left
        · rw [show spanBad (wc t.2).1 (wc t.2).2 = some s from hb] at hso
          rw [hso] at h
          exact h.same s1
        rw [show spanBad (wc t.2).1 (wc t.2).2 = none from hb] at hso
        dsimp only at hso
        have hm2 := hm1.same s3
        walk_at "n"
        refine ⟨_, _, hm2.m1, hm2.m2, ?_⟩
        walk_at "n"
        have ra2 := ra.same s3
        obtain ⟨o, ho, hi2⟩ := ra2.tab.has (wk t.2)
        refine ⟨o, ho, ?_⟩
        walk_at "n"
        have sk : SpanOk (wc t.2).1 (wc t.2).2 := spanBad_none hb hm0.o1 hm0.o2
        have hkey := mid.key sk
        refine cond_b (fun hs => ?a1) (fun hs => ?a2)
        case' a1 =>
          have hin := hkey.mp (hi2.mp hs)
          rw [if_pos hin] at hso
          have hnx : ∃ seen', (∀ y, y ∈ seen' ↔ y ∈ seen ∨ y = wc t.2) ∧ (∀ p : Addr, (putT wk ws (p, t.2)).length = seen'.length) ∧ spansOut [] (ps.map fun t => wc t.2) = spansOut seen' ((ps.map fun t => wc t.2).drop (i + 1)) ∧ seen'.length ≤ 12 :=
            ⟨seen, fun y => ⟨.inl, fun z => z.elim id fun z => z ▸ hin⟩, fun p => by rw [putT_in (t := (p, t.2)) (hkey.mpr hin), mid.len], hso, by rw [← mid.len]; exact hl12⟩
        case' a2 =>
          have hin : ¬ wc t.2 ∈ seen := fun z => by
            rw [hi2.mpr (hkey.mpr z)] at hs
            cases hs
          rw [if_neg hin] at hso
          walk_at "n"
          refine .inr ⟨_, ra2.tab.at_, ?_⟩
          walk_at "n"
          refine cond_p (fun hf => ?a3) (fun hf => ?a4)
          case' a3 =>
            rw [kvT_len, mid.len] at hf
            rw [if_pos (by omega)] at hso
            rw [hso] at h
            walk_at "n"
            exact ⟨rfl, fun d hd => (h.same (s1.trans s3)).go d hd⟩
          rw [kvT_len, mid.len] at hf
          rw [if_neg (by omega)] at hso
          have hnx : ∃ seen', (∀ y, y ∈ seen' ↔ y ∈ seen ∨ y = wc t.2) ∧ (∀ p : Addr, (putT wk ws (p, t.2)).length = seen'.length) ∧ spansOut [] (ps.map fun t => wc t.2) = spansOut seen' ((ps.map fun t => wc t.2).drop (i + 1)) ∧ seen'.length ≤ 12 :=
            ⟨wc t.2 :: seen, fun y => by rw [List.mem_cons]; exact Or.comm, fun p => by rw [putT_new (t := (p, t.2)) (fun z => hin (hkey.mp z)), mid.len]; rfl, hso, by simp; omega⟩
        all_goals
          obtain ⟨seen', n1, n2, n3, n4⟩ := hnx
          walk_at "n"
          refine ⟨line_of (by simp), fun p hp => ?_⟩
          walk_at "n"
          have ra3 := ra2.same (snew (o := .tup [.ref t.2.1.1, .ref t.2.2.1]) hp)
          obtain ⟨p1, p2⟩ := ra3.tab.put (t := (p, t.2)) (line_lt (by omega))
          refine ⟨_, _, rfl, p1, ?_⟩
          walk_at "n"
          have s2 : Same H (upd (upd H3 p (.tup [.ref t.2.1.1, .ref t.2.2.1])) r (.dK (kvT wk (putT wk ws (p, t.2))))) := sput (sto (s1.trans s3) hp) hr1
          have hm3 := ((hm2.at_ hb).same (snew (o := .tup [.ref t.2.1.1, .ref t.2.2.1]) hp)).put (o := .dK (kvT wk (putT wk ws (p, t.2)))) ra3.tab.at_
          have hcp : ∀ y, y ∈ conT wc (putT wk ws (p, t.2)) ↔ y ∈ conT wc ws ∨ y = wc t.2 := con_put (t := (p, t.2)) fun u hu e => ra3.inj hm3 u hu e
          refine ⟨⟨putT wk ws (p, t.2), seen', s2, ⟨⟨p2, fun u hu => ?_⟩, fun y => by rw [hcp, n1, mid.con], n2 p⟩, n3, fun y => ?_, Nat.le_trans put_len (by omega), by rw [n2 p]; exact n4⟩, _, _, _, rfl⟩
          · rcases mem_put hu with rfl | hu
            · exact ⟨st_put (.inl (.inl upd_same)) ra3.tab.at_, hm3.m1, hm3.m2, hm3.ok⟩
            · exact (ra3.at_ u hu).put ra3.tab.at_
          · rw [hcp, hc]
            exact (con_take (c := wc) gi y).symm
      · rintro σ H1 ⟨⟨rs, seen, s1, mid, hso, hc, hl2, hl12⟩, v1, v2, v3, rfl⟩
        walk_at "n"
        rw [List.length_map] at hl2 hc hso
        rw [List.take_length] at hc
        rw [List.drop_eq_nil_of_le (by rw [List.length_map]; omega)] at hso
        rw [hso] at h
        exact h r H1 rs s1 hr1 mid.at_ hc hl2 hl12
theorem ok_spans_in {w : World} {K : PySem.W.Frag} {mg : Str → Option Value} {base : Heap} (TB : Ty K mg base) : F.Fr P w K mg base 4 (He.ga K "spans_in") (sp_spans_in K) := (TB.toTx.f_spans_in).elim fun fd F1 => fr_of F1 (okF_spans_in TB F1) (fun _ _ _ _ _ _ us hl => match us, hl with | [_], _ => rfl)
end G
set_option maxHeartbeats 400000
namespace G
open PySem PySem.Spec PyProof.Rows L2 F
local macro_rules | `(tactic| walk_at "side") => `(tactic| first | rfl | decide | omega | assumption | (unfold CMul; omega) | (unfold CPow; omega) | (unfold CDiv; omega))
local macro_rules | `(tactic| walk_at "hp") => `(tactic| first | assumption | exact upd_same | (refine upd_keep (by assumption) ?_; walk_at "hp") | (refine sm (by assumption) ?_; walk_at "hp"))
local macro_rules | `(tactic| walk_at "n") => `(tactic| ((try conv => whnf); repeat ((first | with_reducible refine cond_t rfl ?_ | with_reducible refine cond_f rfl ?_ | with_reducible refine cond_n ?_); (try conv => whnf))))
local macro_rules | `(tactic| walk_at "go") => `(tactic| (walk_at "n"; repeat (refine And.intro ?side ?_; (case side => walk_at "side"); walk_at "n")))

open M
def bkF (r s : Addr) : List (Str × V) := putF "spans" (.ref s) (putF "rung" (.ref r) [])
theorem bk_rung (r s : Addr) : (bkF r s).lookup ("rung" : Str) = some (.ref r) := lk_next (by decide +kernel) lk_here
theorem bk_spans (r s : Addr) : (bkF r s).lookup ("spans" : Str) = some (.ref s) := lk_here
theorem bk_number (r s : Addr) : (bkF r s).lookup ("number" : Str) = none := lk_next (by decide +kernel) (lk_next (by decide +kernel) rfl)
theorem bk_put_rung (r r' s : Addr) : putF "rung" (.ref r') (bkF r s) = bkF r' s := by
  unfold bkF
  have n : ("rung" : Str) ≠ "spans" := by decide +kernel
  simp only [putF, if_neg n, if_neg (Ne.symm n), if_true]
theorem bk_put_spans (r s s' : Addr) : putF "spans" (.ref s') (bkF r s) = bkF r s' := by
  unfold bkF
  have n : ("rung" : Str) ≠ "spans" := by decide +kernel
  simp only [putF, if_neg n, if_neg (Ne.symm n), if_true]
theorem bk_len (r s : Addr) : (bkF r s).length < 1000 := Nat.lt_of_le_of_lt (lf (lf lf0)) (by decide)
/-- the parts of a book -/
structure BookP (K : PySem.W.Frag) (H : Hp) (b dx r s : Addr) (rs : List (Addr × Mo)) (ws : List (Addr × WT)) : Prop where
  at_ : H b = some (.ins (CB K) dx (bkF r s))
  r : RungAt K H r rs
  s : SpansAt K H s ws
  nr : rs.length ≤ 2000
  nw : ws.length ≤ 12
/-- a book of the rings R and the watches W -/
def BookAt (K : PySem.W.Frag) (H : Hp) (b : Addr) (R : List Mo) (W : List (Mo × Mo)) : Prop := ∃ dx r s rs ws, BookP K H b dx r s rs ws ∧ conT id rs = R ∧ conT wc ws = W
theorem BookP.same {K : PySem.W.Frag} {H H' : Hp} {b dx r s : Addr} {rs : List (Addr × Mo)} {ws : List (Addr × WT)} (h : BookP K H b dx r s rs ws) (e : Same H H') : BookP K H' b dx r s rs ws := ⟨e _ _ h.at_, h.r.same e, h.s.same e, h.nr, h.nw⟩
theorem BookAt.same {K : PySem.W.Frag} {H H' : Hp} {b : Addr} {R : List Mo} {W : List (Mo × Mo)} (h : BookAt K H b R W) (e : Same H H') : BookAt K H' b R W := let ⟨dx, r, s, rs, ws, p, a, c⟩ := h; ⟨dx, r, s, rs, ws, p.same e, a, c⟩
theorem BookAt.ins {K : PySem.W.Frag} {H : Hp} {b : Addr} {R : List Mo} {W : List (Mo × Mo)} (h : BookAt K H b R W) : IsIns H b (CB K) := let ⟨dx, r, s, rs, ws, p, a, c⟩ := h; ⟨dx, _, p.at_⟩
theorem conT_len {α β : Type} {c : α → β} {ts : List (Addr × α)} : (conT c ts).length = ts.length := List.length_map ..
theorem BookP.okR {K : PySem.W.Frag} {H : Hp} {b dx r s : Addr} {rs : List (Addr × Mo)} {ws : List (Addr × WT)} (h : BookP K H b dx r s rs ws) {q : Mo} (hq : q ∈ conT id rs) : q.ok := by
  obtain ⟨t, ht, rfl⟩ := mem_conT.mp hq
  exact (h.r.mo t ht).2

end G
set_option maxHeartbeats 400000
namespace G
open PySem PySem.Spec PyProof.Rows L2 F
local macro_rules | `(tactic| walk_at "side") => `(tactic| first | rfl | decide | omega | assumption | (unfold CMul; omega) | (unfold CPow; omega) | (unfold CDiv; omega))
local macro_rules | `(tactic| walk_at "hp") => `(tactic| first | assumption | exact upd_same | (refine upd_keep (by assumption) ?_; walk_at "hp") | (refine sm (by assumption) ?_; walk_at "hp"))
local macro_rules | `(tactic| walk_at "n") => `(tactic| ((try conv => whnf); repeat ((first | with_reducible refine cond_t rfl ?_ | with_reducible refine cond_f rfl ?_ | with_reducible refine cond_n ?_); (try conv => whnf))))
local macro_rules | `(tactic| walk_at "go") => `(tactic| (walk_at "n"; repeat (refine And.intro ?side ?_; (case side => walk_at "side"); walk_at "n")))

open M
theorem spansOut_ok : ∀ (l seen : List (Mo × Mo)), (∀ t, t ∈ l → spanBad t.1 t.2 = none) → seen.length + l.length ≤ 12 → spansOut seen l = .ok
  | [], _, _, _ => rfl
  | t :: r, seen, h, n => by
    simp only [List.length_cons] at n
    rw [spansOut_cons, h t List.mem_cons_self]
    dsimp only
    split
    · exact spansOut_ok r seen (fun u hu => h u (List.mem_cons_of_mem _ hu)) (by omega)
    · rw [if_neg (by omega)]
      exact spansOut_ok r (t :: seen) (fun u hu => h u (List.mem_cons_of_mem _ hu)) (by simp; omega)
def sp_Book___init__ (K : PySem.W.Frag) : Sp := fun vs H Q E => match vs with
  | [.ref b, .ref l, .ref m] => ∃ dx ps zs, H b = some (.ins (CB K) dx []) ∧ (SqL K H l (ps.map fun t => .ref t.1) ∨ SqT K H l (ps.map fun t => .ref t.1)) ∧ (∀ t, t ∈ ps → MoAt K H t.1 t.2 ∧ t.2.ok) ∧ ps.length ≤ 2000 ∧ (SqL K H m (zs.map fun t => .ref t.1) ∨ SqT K H m (zs.map fun t => .ref t.1)) ∧ (∀ t, t ∈ zs → WAt K H t) ∧ zs.length ≤ 12 ∧ ∀ H' R W, SB b H H' → BookAt K H' b R W → (∀ x, x ∈ R ↔ x ∈ conT id ps) → (∀ x, x ∈ W ↔ x ∈ conT wc zs) → R.length ≤ ps.length → W.length ≤ zs.length → Q .non H'
  | _ => False
theorem sc_Book___init__ : FnScope ["self", "rings", "watches"] ["self", "rings", "watches"] (defScope s_Book___init__) := ⟨rfl, rfl, rfl, by decide +kernel, rfl, by decide +kernel, by decide +kernel⟩
theorem okF_Book___init__ {w : World} {K : PySem.W.Frag} {mg : Str → Option Value} {base : Heap} {fd : FuncData} (TB : Ty K mg base) (F1 : FunD K "__init__" "Book.__init__" (defArgs s_Book___init__) (defBody s_Book___init__) (defScope s_Book___init__) [(.ref (dfl0 (fun K => He.ma K (He.ga K "Book") "__init__") 0 K)), (.ref (dfl0 (fun K => He.ma K (He.ga K "Book") "__init__") 1 K))] [] (He.ma K (He.ga K "Book") "__init__") fd) : FnOk P w K mg base (L2.CX P w) 6 (He.ma K (He.ga K "Book") "__init__") fd ["self", "rings", "watches"] (sp_Book___init__ K) := by
  have T : Tx K mg := TB.toTx
  have c_rings_in : Fc P w K mg base 1 "rings_in" (sp_rings_in K) := ⟨_, ok_rings_in TB, T.g_rings_in, (T.f_rings_in).elim fun _ z => z.kp⟩
  have c_spans_in : Fc P w K mg base 4 "spans_in" (sp_spans_in K) := ⟨_, ok_spans_in TB, T.g_spans_in, (T.f_spans_in).elim fun _ z => z.kp⟩
  refine F1.ok sc_Book___init__ (fun vs H Q E h => ?_) (fun cdv A outer s H vs Q E hr h => ?_)
  · unfold sp_Book___init__ at h
    split at h
    · rfl
    · exact h.elim
  · unfold sp_Book___init__ at h
    split at h
    rotate_left
    · exact h.elim
    · rename_i b l m
      refine ⟨_, (pss_cons (s_fld (e_v 0) (e_c c_rings_in hr (pa_cons (e_v 1) pa_nil)))
        (pss_one (s_fld (e_v 0) (e_cP c_spans_in hr (passE' (takes_of (E := E) rfl rfl rfl rfl)) (pa_cons (e_v 2) pa_nil))))), ?_⟩
      obtain ⟨dx, ps, zs, hb, hl, hp, hpn, hm, hz, hzn, h⟩ := h
      walk_at "n"
      refine ⟨ps, hl, hp, hpn, fun r H1 rs s1 hr1 ra rc rl => ?_⟩
      walk_at "n"
      have hb1 := s1 _ _ hb
      refine ⟨_, _, _, hb1, T.c_Book, T.n_Book_rung, by decide, ?_⟩
      have sb1 : SB b H1 (upd H1 b (.ins (CB K) dx (putF "rung" (.ref r) []))) := sb_upd
      have sb2 : SB b H (upd H1 b (.ins (CB K) dx (putF "rung" (.ref r) []))) := (sb_same s1).trans sb1
      have ra1 := ra.sb hb1 rfl sb1
      have hno : (putF "rung" (.ref r) []).lookup ("number" : Str) = none := lk_next (by decide +kernel) rfl
      walk_at "n"
      refine ⟨zs, hm.imp (fun z => sl_sb z hb sb2) (fun z => st_sb z hb sb2), fun t ht => ((hz t ht).sb hb rfl sb2).q, by omega, ?_⟩
      rw [spansOut_ok _ _ (fun t ht => by
        obtain ⟨u, hu, rfl⟩ := List.mem_map.mp ht
        exact (hz u hu).ok.bad) (by simp; exact hzn)]
      intro s H2 ws s2 hs1 sa wcn wl wl12
      walk_at "n"
      have hb2 := s2 _ _ upd_same
      refine ⟨_, _, _, hb2, T.c_Book, T.n_Book_spans, Nat.lt_of_le_of_lt (lf lf0) (by decide), ?_⟩
      walk_at "n"
      have sb3 : SB b H2 (upd H2 b (.ins (CB K) dx (bkF r s))) := sb_upd
      exact h _ _ _ ((sb2.trans (sb_same s2)).trans sb3) ⟨dx, r, s, rs, ws, ⟨upd_same, (ra1.same s2).sb hb2 hno sb3, sa.sb hb2 hno sb3, by omega, by omega⟩, rfl, rfl⟩ rc wcn (by rw [conT_len]; exact rl) (by rw [conT_len]; exact wl)
theorem ok_Book___init__ {w : World} {K : PySem.W.Frag} {mg : Str → Option Value} {base : Heap} (TB : Ty K mg base) : F.Fr P w K mg base 6 (He.ma K (He.ga K "Book") "__init__") (sp_Book___init__ K) := (TB.toTx.f_Book___init__).elim fun fd F1 => fr_full F1 (okF_Book___init__ TB F1) (by simp) (fun _ _ _ _ _ _ _ us its h1 h2 => match us, its, h1, h2 with | [_, _, _], [_, _], _, _ => ⟨_, rfl, rfl⟩)
theorem ok0_Book___init__ {w : World} {K : PySem.W.Frag} {mg : Str → Option Value} {base : Heap} (TB : Ty K mg base) : F.Fr P w K mg base 6 (He.ma K (He.ga K "Book") "__init__") (fun vs H Q E => sp_Book___init__ K (vs ++ [(.ref (dfl0 (fun K => He.ma K (He.ga K "Book") "__init__") 0 K)), (.ref (dfl0 (fun K => He.ma K (He.ga K "Book") "__init__") 1 K))]) H Q E) := (TB.toTx.f_Book___init__).elim fun fd F1 => fr_dfl F1 (okF_Book___init__ TB F1) 1 0 (by simp) (by simp) (fun _ _ _ _ _ _ _ us its h1 h2 => match us, its, h1, h2 with | [_], [_, _], _, _ => ⟨_, rfl, rfl⟩)
end G
set_option maxHeartbeats 400000
namespace G
open PySem PySem.Spec PyProof.Rows L2 F
local macro_rules | `(tactic| walk_at "side") => `(tactic| first | rfl | decide | omega | assumption | (unfold CMul; omega) | (unfold CPow; omega) | (unfold CDiv; omega))
local macro_rules | `(tactic| walk_at "hp") => `(tactic| first | assumption | exact upd_same | (refine upd_keep (by assumption) ?_; walk_at "hp") | (refine sm (by assumption) ?_; walk_at "hp"))
local macro_rules | `(tactic| walk_at "n") => `(tactic| ((try conv => whnf); repeat ((first | with_reducible refine cond_t rfl ?_ | with_reducible refine cond_f rfl ?_ | with_reducible refine cond_n ?_); (try conv => whnf))))
local macro_rules | `(tactic| walk_at "go") => `(tactic| (walk_at "n"; repeat (refine And.intro ?side ?_; (case side => walk_at "side"); walk_at "n")))

open M
def sp_Book_rings (K : PySem.W.Frag) : Sp := fun vs H Q E => match vs with
  | [.ref b] => ∃ dx r s rs ws, BookP K H b dx r s rs ws ∧ ∀ p H' (us : List (Addr × Mo)), Same H H' → SqT K H' p (us.map fun t => .ref t.1) → (∀ u, u ∈ us ↔ u ∈ rs) → us.Pairwise (fun x y => x.2.num < y.2.num) → us.length = rs.length → Q (.ref p) H'
  | _ => False
theorem sc_Book_rings : FnScope ["self", "one", "number"] ["self"] (defScope s_Book_rings) := ⟨rfl, rfl, rfl, by decide +kernel, rfl, by decide +kernel, by decide +kernel⟩
theorem okF_Book_rings {w : World} {K : PySem.W.Frag} {mg : Str → Option Value} {base : Heap} {fd : FuncData} (TB : Ty K mg base) (F1 : FunD K "rings" "Book.rings" (defArgs s_Book_rings) (defBody s_Book_rings) (defScope s_Book_rings) [] [] (He5.wf K (He.ga K "Book") "property" "rings") fd) : FnOk P w K mg base (L2.CX P w) 1 (He5.wf K (He.ga K "Book") "property" "rings") fd ["self"] (sp_Book_rings K) := by
  have T : Tx K mg := TB.toTx
  refine F1.ok sc_Book_rings (fun vs H Q E h => ?_) (fun cdv A outer s H vs Q E hr h => ?_)
  · unfold sp_Book_rings at h
    split at h
    · rfl
    · exact h.elim
  · unfold sp_Book_rings at h
    split at h
    rotate_left
    · exact h.elim
    · rename_i b
      refine ⟨_, (pss_one (ps_ret (e_tuple T.b_tuple (pe_lc (own := [("number", 2)]) (g := gName 2) (tt := tYes) rfl sc_Book_rings.nd (pi_list (e_sorted T.b_sorted (pe_lock (pe_lc (own := [("one", 1)]) (g := gName 1) (tt := tYes) rfl sc_Book_rings.nd (pi_keys (k_fld K (e_v 0))) (blkOk_by (own := [("one", 1)]) (N := ["self", "one", "number"]) (sc := defScope s_Book_rings) (by decide +kernel)) (fun _ _ _ _ _ => (pg_name (i := 1) sc_Book_rings.nd rfl (Or.inl rfl))) (fun _ _ _ _ _ => pts_nil) (fun _ _ _ _ _ => (e_int T.b_int (e_v 1))))))) (blkOk_by (own := [("number", 2)]) (N := ["self", "one", "number"]) (sc := defScope s_Book_rings) (by decide +kernel)) (fun _ _ _ _ _ => (pg_name (i := 2) sc_Book_rings.nd rfl (Or.inl rfl))) (fun _ _ _ _ _ => pts_nil) (fun _ _ _ _ _ => (e_dget hr (k_fld K (e_v 0)) (e_v 2))))))), ?_⟩
      obtain ⟨dx, r, s, rs, ws, bp, h⟩ := h
      have hnr := bp.nr
      have hnw := bp.nw
      walk_at "n"
      have nb : b ≠ r := Ne.symm (ne_ins bp.r.tab.at_ bp.at_)
      refine keysInt bp.r.tab.at_ kvT_keys (by rw [kvT_len]; omega) (by show 1 < 3; decide) (fun od R z => ?_) fun p1 H1 s1 e1 => ?_
      · walk_at "n"
        exact ⟨_, ⟨_, _, _, by rw [upd_ne nb]; exact bp.at_, T.c_Book, T.n_Book_rung, bk_rung r s⟩, z⟩
      walk_at "n"
      refine ⟨_, SqL.of e1, fun ms p2 hp hs hp2 => ?_⟩
      walk_at "n"
      obtain ⟨us, e2, hu, hlt, hul⟩ := bp.r.tab.sorted hp hs
      subst e2
      have s2 : Same H (upd H1 p2 (.lst ((us.map fun u => Mo.num u.2).map V.int))) := sto s1 hp2
      have sq : SqL K (upd H1 p2 (.lst ((us.map fun u => Mo.num u.2).map V.int))) p2 ((us.map fun u => Mo.num u.2).map V.int) := SqL.of upd_same
      refine ⟨_, rfl, ⟨_, sq⟩, fun D hD => lcW (walk_list (K := K) (a := p2) (xs := (us.map fun u => Mo.num u.2).map V.int)) (fun i v _ => ∃ t, us[i]? = some t ∧ v = V.ref t.1) ?_ hD (fun H' s => sl s sq) (fun _ _ _ _ _ z => z) ?_ gm_name ?_⟩
      · have := hp.length_eq
        rw [List.length_map] at this ⊢
        unfold keysT at this
        rw [List.length_map] at this
        rw [List.length_map]
        omega
      · rintro j x H2 H3 acc Nx hj s3 hd' ⟨rfl, hx⟩ nx
        rw [List.getElem?_map, List.getElem?_map] at hx
        cases hu2 : us[j]? with
        | none => rw [hu2] at hx; cases hx
        | some t =>
          rw [hu2] at hx
          obtain rfl : x = .int (Mo.num t.2) := (Option.some.inj hx).symm
          have bp2 := bp.same (s2.trans s3)
          refine ⟨rfl, ?_⟩
          walk_at "n"
          refine ⟨_, ⟨_, _, _, bp2.at_, T.c_Book, T.n_Book_rung, bk_rung r s⟩, ?_⟩
          walk_at "n"
          refine ⟨_, _, rfl, bp2.r.tab.get ((hu t).mp (List.mem_of_getElem? hu2)), ?_⟩
          exact nx _ _ (Same.refl _) ⟨t, hu2, rfl⟩
      · intro ys H2 hl hy s3 hd
        have e3 := ys_get (l := us) (f := fun t => V.ref t.1) (by simpa using hl) hy
        walk_at "n"
        rw [e3] at hd
        refine ⟨_, SqL.of hd, fun p hp3 => ?_⟩
        walk_at "n"
        exact h p _ us (sto (s2.trans s3) hp3) (.inl (.inl upd_same)) hu hlt hul
theorem ok_Book_rings {w : World} {K : PySem.W.Frag} {mg : Str → Option Value} {base : Heap} (TB : Ty K mg base) : F.Fr P w K mg base 1 (He5.wf K (He.ga K "Book") "property" "rings") (sp_Book_rings K) := (TB.toTx.f_Book_rings).elim fun fd F1 => fr_of F1 (okF_Book_rings TB F1) (fun _ _ _ _ _ _ us hl => match us, hl with | [_], _ => rfl)
def sp_Book_watches (K : PySem.W.Frag) : Sp := fun vs H Q E => match vs with
  | [.ref b] => ∃ dx r s rs ws, BookP K H b dx r s rs ws ∧ ∀ p H' (us : List (Addr × WT)), Same H H' → SqT K H' p (us.map fun t => .ref t.1) → (∀ u, u ∈ us ↔ u ∈ ws) → us.Pairwise (fun x y => wk x.2 < wk y.2) → us.length = ws.length → Q (.ref p) H'
  | _ => False
theorem sc_Book_watches : FnScope ["self", "one", "code"] ["self"] (defScope s_Book_watches) := ⟨rfl, rfl, rfl, by decide +kernel, rfl, by decide +kernel, by decide +kernel⟩
theorem okF_Book_watches {w : World} {K : PySem.W.Frag} {mg : Str → Option Value} {base : Heap} {fd : FuncData} (TB : Ty K mg base) (F1 : FunD K "watches" "Book.watches" (defArgs s_Book_watches) (defBody s_Book_watches) (defScope s_Book_watches) [] [] (He5.wf K (He.ga K "Book") "property" "watches") fd) : FnOk P w K mg base (L2.CX P w) 1 (He5.wf K (He.ga K "Book") "property" "watches") fd ["self"] (sp_Book_watches K) := by
  have T : Tx K mg := TB.toTx
  refine F1.ok sc_Book_watches (fun vs H Q E h => ?_) (fun cdv A outer s H vs Q E hr h => ?_)
  · unfold sp_Book_watches at h
    split at h
    · rfl
    · exact h.elim
  · unfold sp_Book_watches at h
    split at h
    rotate_left
    · exact h.elim
    · rename_i b
      refine ⟨_, (pss_one (ps_ret (e_tuple T.b_tuple (pe_lc (own := [("code", 2)]) (g := gName 2) (tt := tYes) rfl sc_Book_watches.nd (pi_list (e_sorted T.b_sorted (pe_lock (pe_lc (own := [("one", 1)]) (g := gName 1) (tt := tYes) rfl sc_Book_watches.nd (pi_keys (k_fld K (e_v 0))) (blkOk_by (own := [("one", 1)]) (N := ["self", "one", "code"]) (sc := defScope s_Book_watches) (by decide +kernel)) (fun _ _ _ _ _ => (pg_name (i := 1) sc_Book_watches.nd rfl (Or.inl rfl))) (fun _ _ _ _ _ => pts_nil) (fun _ _ _ _ _ => (e_int T.b_int (e_v 1))))))) (blkOk_by (own := [("code", 2)]) (N := ["self", "one", "code"]) (sc := defScope s_Book_watches) (by decide +kernel)) (fun _ _ _ _ _ => (pg_name (i := 2) sc_Book_watches.nd rfl (Or.inl rfl))) (fun _ _ _ _ _ => pts_nil) (fun _ _ _ _ _ => (e_dget hr (k_fld K (e_v 0)) (e_v 2))))))), ?_⟩
      obtain ⟨dx, r, s, rs, ws, bp, h⟩ := h
      have hnr := bp.nr
      have hnw := bp.nw
      walk_at "n"
      have nb : b ≠ s := Ne.symm (ne_ins bp.s.tab.at_ bp.at_)
      refine keysInt bp.s.tab.at_ kvT_keys (by rw [kvT_len]; omega) (by show 1 < 3; decide) (fun od R z => ?_) fun p1 H1 s1 e1 => ?_
      · walk_at "n"
        exact ⟨_, ⟨_, _, _, by rw [upd_ne nb]; exact bp.at_, T.c_Book, T.n_Book_spans, bk_spans r s⟩, z⟩
      walk_at "n"
      refine ⟨_, SqL.of e1, fun ms p2 hp hs hp2 => ?_⟩
      walk_at "n"
      obtain ⟨us, e2, hu, hlt, hul⟩ := bp.s.tab.sorted hp hs
      subst e2
      have s2 : Same H (upd H1 p2 (.lst ((us.map fun u => wk u.2).map V.int))) := sto s1 hp2
      have sq : SqL K (upd H1 p2 (.lst ((us.map fun u => wk u.2).map V.int))) p2 ((us.map fun u => wk u.2).map V.int) := SqL.of upd_same
      refine ⟨_, rfl, ⟨_, sq⟩, fun D hD => lcW (walk_list (K := K) (a := p2) (xs := (us.map fun u => wk u.2).map V.int)) (fun i v _ => ∃ t, us[i]? = some t ∧ v = V.ref t.1) ?_ hD (fun H' s => sl s sq) (fun _ _ _ _ _ z => z) ?_ gm_name ?_⟩
      · have := hp.length_eq
        rw [List.length_map] at this ⊢
        unfold keysT at this
        rw [List.length_map] at this
        rw [List.length_map]
        omega
      · rintro j x H2 H3 acc Nx hj s3 hd' ⟨rfl, hx⟩ nx
        rw [List.getElem?_map, List.getElem?_map] at hx
        cases hu2 : us[j]? with
        | none => rw [hu2] at hx; cases hx
        | some t =>
          rw [hu2] at hx
          obtain rfl : x = .int (wk t.2) := (Option.some.inj hx).symm
          have bp2 := bp.same (s2.trans s3)
          refine ⟨rfl, ?_⟩
          walk_at "n"
          refine ⟨_, ⟨_, _, _, bp2.at_, T.c_Book, T.n_Book_spans, bk_spans r s⟩, ?_⟩
          walk_at "n"
          refine ⟨_, _, rfl, bp2.s.tab.get ((hu t).mp (List.mem_of_getElem? hu2)), ?_⟩
          exact nx _ _ (Same.refl _) ⟨t, hu2, rfl⟩
      · intro ys H2 hl hy s3 hd
        have e3 := ys_get (l := us) (f := fun t => V.ref t.1) (by simpa using hl) hy
        walk_at "n"
        rw [e3] at hd
        refine ⟨_, SqL.of hd, fun p hp3 => ?_⟩
        walk_at "n"
        exact h p _ us (sto (s2.trans s3) hp3) (.inl (.inl upd_same)) hu hlt hul
theorem ok_Book_watches {w : World} {K : PySem.W.Frag} {mg : Str → Option Value} {base : Heap} (TB : Ty K mg base) : F.Fr P w K mg base 1 (He5.wf K (He.ga K "Book") "property" "watches") (sp_Book_watches K) := (TB.toTx.f_Book_watches).elim fun fd F1 => fr_of F1 (okF_Book_watches TB F1) (fun _ _ _ _ _ _ us hl => match us, hl with | [_], _ => rfl)
end G
set_option maxHeartbeats 400000
namespace G
open PySem PySem.Spec PyProof.Rows L2 F
local macro_rules | `(tactic| walk_at "side") => `(tactic| first | rfl | decide | omega | assumption | (unfold CMul; omega) | (unfold CPow; omega) | (unfold CDiv; omega))
local macro_rules | `(tactic| walk_at "hp") => `(tactic| first | assumption | exact upd_same | (refine upd_keep (by assumption) ?_; walk_at "hp") | (refine sm (by assumption) ?_; walk_at "hp"))
local macro_rules | `(tactic| walk_at "n") => `(tactic| ((try conv => whnf); repeat ((first | with_reducible refine cond_t rfl ?_ | with_reducible refine cond_f rfl ?_ | with_reducible refine cond_n ?_); (try conv => whnf))))
local macro_rules | `(tactic| walk_at "go") => `(tactic| (walk_at "n"; repeat (refine And.intro ?side ?_; (case side => walk_at "side"); walk_at "n")))

open M
def sp_Book___iadd__ (K : PySem.W.Frag) : Sp := fun vs H Q E => match vs with
  | [.ref b, .ref a] => ∃ R W q, BookAt K H b R W ∧ MoAt K H a q ∧ q.ok ∧ R.length < 2000 ∧ ∀ H' R', SB b H H' → BookAt K H' b R' W → (∀ x, x ∈ R' ↔ x ∈ R ∨ x = q) → R'.length ≤ R.length + 1 → Q (.ref b) H'
  | _ => False
theorem sc_Book___iadd__ : FnScope ["self", "moment"] ["self", "moment"] (defScope s_Book___iadd__) := ⟨rfl, rfl, rfl, by decide +kernel, rfl, by decide +kernel, by decide +kernel⟩
theorem okF_Book___iadd__ {w : World} {K : PySem.W.Frag} {mg : Str → Option Value} {base : Heap} {fd : FuncData} (TB : Ty K mg base) (F1 : FunD K "__iadd__" "Book.__iadd__" (defArgs s_Book___iadd__) (defBody s_Book___iadd__) (defScope s_Book___iadd__) [] [] (He.ma K (He.ga K "Book") "__iadd__") fd) : FnOk P w K mg base (L2.CX P w) 2 (He.ma K (He.ga K "Book") "__iadd__") fd ["self", "moment"] (sp_Book___iadd__ K) := by
  have T : Tx K mg := TB.toTx
  have c_with_ring : Fc P w K mg base 1 "with_ring" (sp_with_ring K) := ⟨_, ok_with_ring TB, T.g_with_ring, (T.f_with_ring).elim fun _ z => z.kp⟩
  refine F1.ok sc_Book___iadd__ (fun vs H Q E h => ?_) (fun cdv A outer s H vs Q E hr h => ?_)
  · unfold sp_Book___iadd__ at h
    split at h
    · rfl
    · exact h.elim
  · unfold sp_Book___iadd__ at h
    split at h
    rotate_left
    · exact h.elim
    · rename_i b a
      refine ⟨_, (pss_cons (s_fld (e_v 0) (e_c c_with_ring hr (pa_cons (k_fld K (e_v 0)) (pa_cons (e_v 1) pa_nil))))
        (pss_one (ps_ret (e_v 0)))), ?_⟩
      obtain ⟨R, W, q, ⟨dx, r, s, rs, ws, bp, rfl, rfl⟩, ha, ok, hl, h⟩ := h
      rw [conT_len] at hl h
      walk_at "n"
      refine ⟨_, ⟨_, _, _, bp.at_, T.c_Book, T.n_Book_rung, bk_rung r s⟩, ?_⟩
      walk_at "n"
      refine ⟨rs, q, bp.r, ha, ok, hl, fun r' H1 rs' s1 hr1 ra rc rl => ?_⟩
      walk_at "n"
      have hb1 := s1 _ _ bp.at_
      refine ⟨_, _, _, hb1, T.c_Book, T.n_Book_rung, bk_len r s, ?_⟩
      rw [bk_put_rung]
      walk_at "n"
      have sb1 : SB b H1 (upd H1 b (.ins (CB K) dx (bkF r' s))) := sb_upd
      exact h _ _ ((sb_same s1).trans sb1) ⟨dx, r', s, rs', ws, ⟨upd_same, ra.sb hb1 (bk_number r s) sb1, (bp.s.same s1).sb hb1 (bk_number r s) sb1, by omega, bp.nw⟩, rfl, rfl⟩ rc (by rw [conT_len]; exact rl)
theorem ok_Book___iadd__ {w : World} {K : PySem.W.Frag} {mg : Str → Option Value} {base : Heap} (TB : Ty K mg base) : F.Fr P w K mg base 2 (He.ma K (He.ga K "Book") "__iadd__") (sp_Book___iadd__ K) := (TB.toTx.f_Book___iadd__).elim fun fd F1 => fr_of F1 (okF_Book___iadd__ TB F1) (fun _ _ _ _ _ _ us hl => match us, hl with | [_, _], _ => rfl)
end G
set_option maxHeartbeats 400000
namespace G
open PySem PySem.Spec PyProof.Rows L2 F
local macro_rules | `(tactic| walk_at "side") => `(tactic| first | rfl | decide | omega | assumption | (unfold CMul; omega) | (unfold CPow; omega) | (unfold CDiv; omega))
local macro_rules | `(tactic| walk_at "hp") => `(tactic| first | assumption | exact upd_same | (refine upd_keep (by assumption) ?_; walk_at "hp") | (refine sm (by assumption) ?_; walk_at "hp"))
local macro_rules | `(tactic| walk_at "n") => `(tactic| ((try conv => whnf); repeat ((first | with_reducible refine cond_t rfl ?_ | with_reducible refine cond_f rfl ?_ | with_reducible refine cond_n ?_); (try conv => whnf))))
local macro_rules | `(tactic| walk_at "go") => `(tactic| (walk_at "n"; repeat (refine And.intro ?side ?_; (case side => walk_at "side"); walk_at "n")))

open M
/-- good ones that differ, ahead -/
theorem spansOut_pre : ∀ (l seen r : List (Mo × Mo)), (∀ t, t ∈ l → spanBad t.1 t.2 = none) → l.Nodup → (∀ t, t ∈ l → ¬ t ∈ seen) → seen.length + l.length ≤ 12 → spansOut seen (l ++ r) = spansOut (l.reverse ++ seen) r
  | [], _, _, _, _, _, _ => rfl
  | t :: l, seen, r, h, nd, dj, n => by
    obtain ⟨n1, n2⟩ := List.nodup_cons.mp nd
    simp only [List.length_cons] at n
    show spansOut seen (t :: (l ++ r)) = _
    rw [spansOut_cons, h t List.mem_cons_self]
    dsimp only
    rw [if_neg (dj t List.mem_cons_self), if_neg (by omega), spansOut_pre l (t :: seen) r (fun u hu => h u (List.mem_cons_of_mem _ hu)) n2 (fun u hu z => by
      rcases List.mem_cons.mp z with z | z
      · exact n1 (z ▸ hu)
      · exact dj u (List.mem_cons_of_mem _ hu) z) (by simp; omega)]
    simp
theorem spansOut_congr {a b : List (Mo × Mo)} {t : Mo × Mo} (m : ∀ z, z ∈ a ↔ z ∈ b) (n : a.length = b.length) : spansOut a [t] = spansOut b [t] := by
  rw [spansOut_cons, spansOut_cons]
  cases spanBad t.1 t.2 with
  | some s => rfl
  | none =>
    dsimp only
    by_cases e : t ∈ a
    · rw [if_pos e, if_pos ((m t).mp e)]
      rfl
    · rw [if_neg e, if_neg (fun z => e ((m t).mpr z)), n]
      split <;> rfl
theorem spansOut_app {l W : List (Mo × Mo)} {t : Mo × Mo} (h : ∀ u, u ∈ l → spanBad u.1 u.2 = none) (nd : l.Nodup) (n : l.length ≤ 12) (m : ∀ z, z ∈ l ↔ z ∈ W) (n2 : l.length = W.length) : spansOut [] (l ++ [t]) = spansOut W [t] := by
  rw [spansOut_pre l [] [t] h nd (fun _ _ z => by simp at z) (by simpa using n)]
  refine spansOut_congr (fun z => ?_) (by simpa using n2)
  rw [List.append_nil, List.mem_reverse]
  exact m z
theorem nodup_of_pw {us : List (Addr × WT)} (h : us.Pairwise fun x y => wk x.2 < wk y.2) (ok : ∀ u, u ∈ us → SpanOk (wc u.2).1 (wc u.2).2) : (us.map fun t => wc t.2).Nodup := by
  refine List.pairwise_map.mpr (h.imp fun {x y} hlt e => ?_)
  have : code (wc x.2) = code (wc y.2) := by rw [e]
  have h2 : code (wc x.2) < code (wc y.2) := hlt
  omega
def sp_Book_watch (K : PySem.W.Frag) : Sp := fun vs H Q E => match vs with
  | [.ref b, .ref x, .ref y] => ∃ R W q p, BookAt K H b R W ∧ MoAt K H x q ∧ MoAt K H y p ∧ q.ok ∧ p.ok ∧ (match spansOut W [(q, p)] with
    | .ok => ∀ H' W', SB b H H' → BookAt K H' b R W' → (∀ z, z ∈ W' ↔ z ∈ W ∨ z = (q, p)) → W'.length ≤ W.length + 1 → Q .non H'
    | .bad s => Rz K "BadWatch" [("part", .str s)] H E
    | .many => Rz K "TooMany" [("what", .str "watches"), ("most", .int 12)] H E)
  | _ => False
theorem sc_Book_watch : FnScope ["self", "begin", "end"] ["self", "begin", "end"] (defScope s_Book_watch) := ⟨rfl, rfl, rfl, by decide +kernel, rfl, by decide +kernel, by decide +kernel⟩
theorem okF_Book_watch {w : World} {K : PySem.W.Frag} {mg : Str → Option Value} {base : Heap} {fd : FuncData} (TB : Ty K mg base) (F1 : FunD K "watch" "Book.watch" (defArgs s_Book_watch) (defBody s_Book_watch) (defScope s_Book_watch) [] [] (He.ma K (He.ga K "Book") "watch") fd) : FnOk P w K mg base (L2.CX P w) 6 (He.ma K (He.ga K "Book") "watch") fd ["self", "begin", "end"] (sp_Book_watch K) := by
  have T : Tx K mg := TB.toTx
  have c_spans_in : Fc P w K mg base 4 "spans_in" (sp_spans_in K) := ⟨_, ok_spans_in TB, T.g_spans_in, (T.f_spans_in).elim fun _ z => z.kp⟩
  have c_Book_watches : Fp P w K mg base 1 (He.ga K "Book") "watches" (sp_Book_watches K) := ⟨⟨_, _, ok_Book_watches TB, T.p_Book_watches⟩, T.c_Book⟩
  refine F1.ok sc_Book_watch (fun vs H Q E h => ?_) (fun cdv A outer s H vs Q E hr h => ?_)
  · unfold sp_Book_watch at h
    split at h
    · rfl
    · exact h.elim
  · unfold sp_Book_watch at h
    split at h
    rotate_left
    · exact h.elim
    · rename_i b x y
      refine ⟨_, (pss_one (s_fld (e_v 0) (e_cP c_spans_in hr (passE' (takes_of (E := E) rfl rfl rfl rfl)) (pa_cons (pe_lst (StX.pa_star (e_p c_Book_watches hr (e_v 0)) (pa_cons (pe_tup (pa_cons (e_v 1) (pa_cons (e_v 2) pa_nil))) pa_nil))) pa_nil)))), ?_⟩
      obtain ⟨R, W, q, p, ⟨dx, r, s, rs, ws, bp, rfl, rfl⟩, hx, hy, o1, o2, h⟩ := h
      walk_at "n"
      refine ⟨⟨_, _, bp.at_⟩, dx, r, s, rs, ws, bp, fun t H1 us s1 ht hu hlt hul => ?_⟩
      walk_at "n"
      refine ⟨_, _, rfl, .inl ht, ?_⟩
      walk_at "n"
      refine ⟨line_of (by simp), fun t2 ht2 => ?_⟩
      walk_at "n"
      have bp1 := bp.same s1
      have hnw := bp.nw
      have w1 : ∀ u, u ∈ us → WAt K H1 u := fun u z => bp1.s.at_ u ((hu u).mp z)
      refine ⟨line_of (by simp; omega), fun l hl2 => ?_⟩
      walk_at "n"
      have s2 : Same H1 (upd (upd H1 t2 (.tup [.ref x, .ref y])) l (.lst ((us.map fun t => V.ref t.1) ++ [.ref t2]))) := sto (snew ht2) hl2
      have hso : spansOut [] ((us ++ [(t2, ((x, q), (y, p)))]).map fun t => wc t.2) = spansOut (conT wc ws) [(q, p)] := by
        rw [List.map_append]
        exact spansOut_app (fun t ht => by
          obtain ⟨u, hu2, rfl⟩ := List.mem_map.mp ht
          exact (w1 u hu2).ok.bad) (nodup_of_pw hlt (fun u hu2 => (w1 u hu2).ok)) (by rw [List.length_map]; omega) (fun z => by
          rw [mem_conT, List.mem_map]
          exact ⟨fun ⟨u, a, b⟩ => ⟨u, (hu u).mp a, b⟩, fun ⟨u, a, b⟩ => ⟨u, (hu u).mpr a, b⟩⟩) (by rw [List.length_map, conT_len, hul])
      refine ⟨us ++ [(t2, ((x, q), (y, p)))], .inl ?_, fun t z => ?_, by simp; omega, ?_⟩
      · rw [List.map_append]
        exact SqL.of upd_same
      · rcases List.mem_append.mp z with z | z
        · exact ((w1 t z).same s2).q
        · simp at z
          subst z
          exact ⟨.inl (.inl (upd_keep hl2 upd_same)), (hx.same s1).same s2, (hy.same s1).same s2, o1, o2⟩
      rw [hso]
      cases e : spansOut (conT wc ws) [(q, p)] with
      | bad s0 =>
        rw [e] at h
        exact h.same (s1.trans s2)
      | many =>
        rw [e] at h
        exact h.same (s1.trans s2)
      | ok =>
        rw [e] at h
        intro s' H2 ws' s3 hs1 sa wcn wl wl12
        walk_at "n"
        have bp2 := (bp1.same s2).same s3
        refine ⟨_, _, _, bp2.at_, T.c_Book, T.n_Book_spans, bk_len r s, ?_⟩
        rw [bk_put_spans]
        walk_at "n"
        have sb1 : SB b H2 (upd H2 b (.ins (CB K) dx (bkF r s'))) := sb_upd
        rw [List.length_append] at wl
        simp at wl
        refine h _ _ ((sb_same (s1.trans (s2.trans s3))).trans sb1) ⟨dx, r, s', rs, ws', ⟨upd_same, bp2.r.sb bp2.at_ (bk_number r s) sb1, sa.sb bp2.at_ (bk_number r s) sb1, bp.nr, by omega⟩, rfl, rfl⟩ (fun z => ?_) (by rw [conT_len, conT_len]; omega)
        rw [wcn, mem_conT, mem_conT]
        constructor
        · rintro ⟨u, hu2, rfl⟩
          rcases List.mem_append.mp hu2 with z | z
          · exact .inl ⟨u, (hu u).mp z, rfl⟩
          · simp at z
            subst z
            exact .inr rfl
        · rintro (⟨u, hu2, rfl⟩ | rfl)
          · exact ⟨u, List.mem_append_left _ ((hu u).mpr hu2), rfl⟩
          · exact ⟨_, List.mem_append_right _ List.mem_cons_self, rfl⟩
theorem ok_Book_watch {w : World} {K : PySem.W.Frag} {mg : Str → Option Value} {base : Heap} (TB : Ty K mg base) : F.Fr P w K mg base 6 (He.ma K (He.ga K "Book") "watch") (sp_Book_watch K) := (TB.toTx.f_Book_watch).elim fun fd F1 => fr_of F1 (okF_Book_watch TB F1) (fun _ _ _ _ _ _ us hl => match us, hl with | [_, _, _], _ => rfl)
end G
set_option maxHeartbeats 400000
namespace G
open PySem PySem.Spec PyProof.Rows L2 F
local macro_rules | `(tactic| walk_at "side") => `(tactic| first | rfl | decide | omega | assumption | (unfold CMul; omega) | (unfold CPow; omega) | (unfold CDiv; omega))
local macro_rules | `(tactic| walk_at "hp") => `(tactic| first | assumption | exact upd_same | (refine upd_keep (by assumption) ?_; walk_at "hp") | (refine sm (by assumption) ?_; walk_at "hp"))
local macro_rules | `(tactic| walk_at "n") => `(tactic| ((try conv => whnf); repeat ((first | with_reducible refine cond_t rfl ?_ | with_reducible refine cond_f rfl ?_ | with_reducible refine cond_n ?_); (try conv => whnf))))
local macro_rules | `(tactic| walk_at "go") => `(tactic| (walk_at "n"; repeat (refine And.intro ?side ?_; (case side => walk_at "side"); walk_at "n")))

open M TL
/-- a moment of two words of a line, or the word that is wrong -/
def momOut (zs : List Str) (k : Nat) : Except Nat Mo := match zs[k]? with
  | none => .error zs.length
  | some z1 => match dateIn z1 with
    | none => .error k
    | some (y, m, d) => match zs[k + 1]? with
      | none => .error (k + 1)
      | some z2 => match timeIn z2 with
        | none => .error (k + 1)
        | some (h, i) => .ok ⟨y, m, d, h, i⟩
theorem dateIn_wp {z : Str} {y m d : Int} (e : dateIn z = some (y, m, d)) : wrongPart (.int y) (.int m) (.int d) (.int 0) (.int 0) = .non := by
  unfold dateIn at e
  split at e
  · split at e
    · cases e
    split at e
    · split at e
      · rename_i hw
        cases e
        exact hw
      · cases e
    · cases e
  · cases e
theorem timeIn_wp {z : Str} {h i : Int} (e : timeIn z = some (h, i)) : wrongPart (.int 1) (.int 1) (.int 1) (.int h) (.int i) = .non := by
  unfold timeIn at e
  split at e
  · split at e
    · split at e
      · rename_i hw
        cases e
        exact hw
      · cases e
    · cases e
  · cases e
theorem mo_ok2 {z1 z2 : Str} {y m d h i : Int} (e : dateIn z1 = some (y, m, d)) (e2 : timeIn z2 = some (h, i)) : (Mo.mk y m d h i).ok := by
  have a := ok_of_wrong (dateIn_wp e)
  have b := ok_of_wrong (timeIn_wp e2)
  exact ⟨a.y1, a.y2, a.m1, a.m2, a.d1, a.d2, b.h1, b.h2, b.i1, b.i2⟩
def sp_moment_in (K : PySem.W.Frag) : Sp := fun vs H Q E => match vs with
  | [.ref l, .int at0] => ∃ (zs : List Str) (k : Nat), at0 = k ∧ SqL K H l (zs.map V.str) ∧ (∀ z, z ∈ zs → z.length + 2 ≤ sizeLine) ∧ zs.length ≤ 1000000 ∧ (match momOut zs k with
    | .error n => ∀ t H', Same H H' → H' t = some (.tup [.non, .int (n : Int)]) → Q (.ref t) H'
    | .ok q => ∀ t a H', Same H H' → H' t = some (.tup [.ref a, .non]) → MoAt K H' a q → q.ok → Q (.ref t) H')
  | _ => False
theorem sc_moment_in : FnScope ["words", "at", "date", "time"] ["words", "at"] (defScope s_moment_in) := ⟨rfl, rfl, rfl, by decide +kernel, rfl, by decide +kernel, by decide +kernel⟩
theorem okF_moment_in {w : World} {K : PySem.W.Frag} {mg : Str → Option Value} {base : Heap} {fd : FuncData} (TB : Ty K mg base) (F1 : FunD K "moment_in" "moment_in" (defArgs s_moment_in) (defBody s_moment_in) (defScope s_moment_in) [] [] (He.ga K "moment_in") fd) : FnOk P w K mg base (L2.CX P w) 6 (He.ga K "moment_in") fd ["words", "at"] (sp_moment_in K) := by
  have T : Tx K mg := TB.toTx
  have c_date_in : Fc P w K mg base 4 "date_in" (sp_date_in K) := ⟨_, ok_date_in TB, T.g_date_in, (T.f_date_in).elim fun _ z => z.kp⟩
  have c_time_in : Fc P w K mg base 4 "time_in" (sp_time_in K) := ⟨_, ok_time_in TB, T.g_time_in, (T.f_time_in).elim fun _ z => z.kp⟩
  have c_Moment : Fk P w K mg base 4 "Moment" (He.ga K "Moment") (sp_Moment___init__ K) := ⟨⟨_, ok_Moment___init__ TB, T.mk_Moment⟩, T.g_Moment⟩
  refine F1.ok sc_moment_in (fun vs H Q E h => ?_) (fun cdv A outer s H vs Q E hr h => ?_)
  · unfold sp_moment_in at h
    split at h
    · rfl
    · exact h.elim
  · unfold sp_moment_in at h
    split at h
    rotate_left
    · exact h.elim
    · rename_i l at0
      refine ⟨_, (pss_cons (ps_set (i := 2) sc_moment_in.nd rfl (Or.inl rfl) (e_if (t_cmp o_lt (e_v 1) (kk_len K T.b_len (e_v 0)) (nomark _)) (e_c c_date_in hr (pa_cons (pe_ix (k_ixL K) (e_v 0) (e_v 1) (fun _ _ => rfl)) pa_nil)) pe_non))
        (pss_cons (s_if (t_cmp o_is (e_v 2) pe_non (nomark _)) (pss_one (ps_ret (pe_tup (pa_cons pe_non (pa_cons (e_if (t_cmp o_lt (e_v 1) (kk_len K T.b_len (e_v 0)) (nomark _)) (e_v 1) (kk_len K T.b_len (e_v 0))) pa_nil))))) pss_nil)
        (pss_cons (ps_set (i := 3) sc_moment_in.nd rfl (Or.inl rfl) (e_if (t_cmp o_lt (pe_op (k_add K) (e_v 1) pe_int) (kk_len K T.b_len (e_v 0)) (nomark _)) (e_c c_time_in hr (pa_cons (pe_ix (k_ixL K) (e_v 0) (pe_op (k_add K) (e_v 1) pe_int) (fun _ _ => rfl)) pa_nil)) pe_non))
        (pss_cons (s_if (t_cmp o_is (e_v 3) pe_non (nomark _)) (pss_one (ps_ret (pe_tup (pa_cons pe_non (pa_cons (pe_op (k_add K) (e_v 1) pe_int) pa_nil))))) pss_nil)
        (pss_one (ps_ret (pe_tup (pa_cons (e_k c_Moment hr (pa_cons (pe_ix (k_ixL K) (e_v 2) pe_int (fun _ _ => rfl)) (pa_cons (pe_ix (k_ixL K) (e_v 2) pe_int (fun _ _ => rfl)) (pa_cons (pe_ix (k_ixL K) (e_v 2) pe_int (fun _ _ => rfl)) (pa_cons (pe_ix (k_ixL K) (e_v 3) pe_int (fun _ _ => rfl)) (pa_cons (pe_ix (k_ixL K) (e_v 3) pe_int (fun _ _ => rfl)) pa_nil)))))) (pa_cons pe_non pa_nil))))))))), ?_⟩
      obtain ⟨zs, k, rfl, hl, hzs, hz, h⟩ := h
      walk_at "n"
      refine .inl ⟨_, .inl hl, ?_⟩
      walk_at "n"
      have e1 : (zs.map V.str).length = zs.length := List.length_map ..
      have a1 : ∀ (j : Nat) z, zs[j]? = some z → atI (zs.map V.str) (j : Int) = some (.str z) := fun j z hj => by
        have hlt : j < zs.length := (List.getElem?_eq_some_iff.mp hj).1
        rw [atI_lt (by omega) (by simp; omega), List.getElem?_map]
        simp [hj]
      unfold momOut at h
      cases g1 : zs[k]? with
      | none =>
        have hk : zs.length ≤ k := List.getElem?_eq_none_iff.mp g1
        rw [g1] at h
        dsimp only at h
        refine cond_nq (by rw [e1]; omega) ?_
        walk_at "n"
        refine .inl ⟨_, .inl hl, ?_⟩
        walk_at "n"
        refine cond_nq (by rw [e1]; omega) ?_
        walk_at "n"
        refine .inl ⟨_, .inl hl, ?_⟩
        walk_at "n"
        rw [e1]
        refine ⟨line_of (by simp), fun p hp => ?_⟩
        walk_at "n"
        exact h p _ (snew hp) upd_same
      | some z1 =>
        have hk : k < zs.length := (List.getElem?_eq_some_iff.mp g1).1
        rw [g1] at h
        dsimp only at h
        refine cond_q (by rw [e1]; omega) ?_
        walk_at "n"
        refine ⟨_, _, hl, a1 k z1 g1, ?_⟩
        walk_at "n"
        refine ⟨hzs z1 (List.mem_of_getElem? g1), fun e H1 s1 => ?_, fun y m d e p H1 s1 hp1 e2 => ?_⟩
        · rw [e] at h
          dsimp only at h
          walk_at "n"
          refine .inl ⟨_, .inl (sl s1 hl), ?_⟩
          walk_at "n"
          refine cond_q (by rw [e1]; omega) ?_
          walk_at "n"
          refine ⟨line_of (by simp), fun p hp => ?_⟩
          walk_at "n"
          exact h p _ (sto s1 hp) upd_same
        · rw [e] at h
          dsimp only at h
          walk_at "n"
          have hl1 := sl s1 hl
          refine .inl ⟨_, .inl hl1, ?_⟩
          walk_at "n"
          cases g2 : zs[k + 1]? with
          | none =>
            have hk2 : zs.length ≤ k + 1 := List.getElem?_eq_none_iff.mp g2
            rw [g2] at h
            dsimp only at h
            refine cond_nq (by rw [e1]; omega) ?_
            walk_at "n"
            refine ⟨line_of (by simp), fun p2 hp2 => ?_⟩
            walk_at "n"
            exact h p2 _ (sto s1 hp2) upd_same
          | some z2 =>
            have hk2 : k + 1 < zs.length := (List.getElem?_eq_some_iff.mp g2).1
            rw [g2] at h
            dsimp only at h
            refine cond_q (by rw [e1]; omega) ?_
            walk_at "n"
            refine ⟨_, _, hl1, a1 (k + 1) z2 g2, ?_⟩
            walk_at "n"
            refine ⟨hzs z2 (List.mem_of_getElem? g2), fun e3 H2 s2 => ?_, fun h0 i0 e3 p2 H2 s2 hp2 e4 => ?_⟩
            · rw [e3] at h
              dsimp only at h
              walk_at "n"
              refine ⟨line_of (by simp), fun p2 hp2 => ?_⟩
              walk_at "n"
              exact h p2 _ (sto (s1.trans s2) hp2) upd_same
            · rw [e3] at h
              dsimp only at h
              walk_at "n"
              have ok := mo_ok2 e e3
              have d1 := SqL.of (K := K) (s2 _ _ e2)
              have d2 := SqL.of (K := K) e4
              refine ⟨_, _, d1, rfl, ?_⟩
              walk_at "n"
              refine ⟨_, _, d1, rfl, ?_⟩
              walk_at "n"
              refine ⟨_, _, d1, rfl, ?_⟩
              walk_at "n"
              refine ⟨_, _, d2, rfl, ?_⟩
              walk_at "n"
              refine ⟨_, _, d2, rfl, ?_⟩
              walk_at "n"
              intro x dx hx hdx ne
              refine ⟨⟨dx, upd_same, fun H3 s3 e3 => ⟨rfl, ?_⟩⟩, ok⟩
              have s3 : Same H2 H3 := s3.made hx hdx
              have hm : MoAt K H3 x ⟨y, m, d, h0, i0⟩ := ⟨dx, e3⟩
              walk_at "n"
              refine ⟨line_of (by simp), fun p3 hp3 => ?_⟩
              walk_at "n"
              exact h p3 x _ (sto (s1.trans (s2.trans s3)) hp3) upd_same (hm.same (snew hp3)) ok
theorem ok_moment_in {w : World} {K : PySem.W.Frag} {mg : Str → Option Value} {base : Heap} (TB : Ty K mg base) : F.Fr P w K mg base 6 (He.ga K "moment_in") (sp_moment_in K) := (TB.toTx.f_moment_in).elim fun fd F1 => fr_of F1 (okF_moment_in TB F1) (fun _ _ _ _ _ _ us hl => match us, hl with | [_, _], _ => rfl)
def sp_moment_of (K : PySem.W.Frag) : Sp := fun vs H Q E => match vs with
  | [.int ln, .ref l, .int at0] => ∃ (zs : List Str) (k : Nat), at0 = k ∧ SqL K H l (zs.map V.str) ∧ (∀ z, z ∈ zs → z.length + 2 ≤ sizeLine) ∧ zs.length ≤ 1000000 ∧ (match momOut zs k with
    | .error n => Rz K "BadText" [("word", .int ln), ("item", .int (n : Int))] H E
    | .ok q => ∀ a H', Same H H' → MoAt K H' a q → q.ok → Q (.ref a) H')
  | _ => False
theorem sc_moment_of : FnScope ["line", "words", "at", "moment", "wrong"] ["line", "words", "at"] (defScope s_moment_of) := ⟨rfl, rfl, rfl, by decide +kernel, rfl, by decide +kernel, by decide +kernel⟩
theorem okF_moment_of {w : World} {K : PySem.W.Frag} {mg : Str → Option Value} {base : Heap} {fd : FuncData} (TB : Ty K mg base) (F1 : FunD K "moment_of" "moment_of" (defArgs s_moment_of) (defBody s_moment_of) (defScope s_moment_of) [] [] (He.ga K "moment_of") fd) : FnOk P w K mg base (L2.CX P w) 7 (He.ga K "moment_of") fd ["line", "words", "at"] (sp_moment_of K) := by
  have T : Tx K mg := TB.toTx
  have c_moment_in : Fc P w K mg base 6 "moment_in" (sp_moment_in K) := ⟨_, ok_moment_in TB, T.g_moment_in, (T.f_moment_in).elim fun _ z => z.kp⟩
  refine F1.ok sc_moment_of (fun vs H Q E h => ?_) (fun cdv A outer s H vs Q E hr h => ?_)
  · unfold sp_moment_of at h
    split at h
    · rfl
    · exact h.elim
  · unfold sp_moment_of at h
    split at h
    rotate_left
    · exact h.elim
    · rename_i ln l at0
      refine ⟨_, (pss_cons (ps_asg (e_c c_moment_in hr (pa_cons (e_v 1) (pa_cons (e_v 2) pa_nil))) (kg_tup K (n := 2) rfl (fgs_cons (pg_name (i := 3) sc_moment_of.nd rfl (Or.inl rfl)) (fgs_cons (pg_name (i := 4) sc_moment_of.nd rfl (Or.inl rfl)) fgs_nil))))
        (pss_cons (s_if (t_cmp o_isnot (e_v 4) pe_non (nomark _)) (pss_one (s_raise T.x_BadText hr (takes_of (E := E) rfl rfl rfl rfl) (pa_cons (e_v 0) (pa_cons (e_v 4) pa_nil)))) pss_nil)
        (pss_one (ps_ret (e_v 3))))), ?_⟩
      obtain ⟨zs, k, rfl, hl, hzs, hz, h⟩ := h
      walk_at "n"
      refine ⟨zs, k, rfl, hl, hzs, hz, ?_⟩
      cases e : momOut zs k with
      | error n =>
        rw [e] at h
        dsimp only at h ⊢
        intro t H1 s1 e1
        walk_at "n"
        refine ⟨_, .inl (.inl e1), rfl, ?_⟩
        walk_at "n"
        exact ⟨rfl, fun d hd => (h.same s1).go d hd⟩
      | ok q =>
        rw [e] at h
        dsimp only at h ⊢
        intro t a H1 s1 e1 hm ok
        walk_at "n"
        refine ⟨_, .inl (.inl e1), rfl, ?_⟩
        walk_at "n"
        exact h a H1 s1 hm ok
theorem ok_moment_of {w : World} {K : PySem.W.Frag} {mg : Str → Option Value} {base : Heap} (TB : Ty K mg base) : F.Fr P w K mg base 7 (He.ga K "moment_of") (sp_moment_of K) := (TB.toTx.f_moment_of).elim fun fd F1 => fr_of F1 (okF_moment_of TB F1) (fun _ _ _ _ _ _ us hl => match us, hl with | [_, _, _], _ => rfl)
def sp_need_end (K : PySem.W.Frag) : Sp := fun vs H Q E => match vs with
  | [.int ln, .ref l, .int many] => ∃ xs, SqL K H l xs ∧ (xs.length ≤ many → Q .non H) ∧ (many < xs.length → Rz K "BadText" [("word", .int ln), ("item", .int many)] H E)
  | _ => False
theorem sc_need_end : FnScope ["line", "words", "many"] ["line", "words", "many"] (defScope s_need_end) := ⟨rfl, rfl, rfl, by decide +kernel, rfl, by decide +kernel, by decide +kernel⟩
theorem okF_need_end {w : World} {K : PySem.W.Frag} {mg : Str → Option Value} {base : Heap} {fd : FuncData} (TB : Ty K mg base) (F1 : FunD K "need_end" "need_end" (defArgs s_need_end) (defBody s_need_end) (defScope s_need_end) [] [] (He.ga K "need_end") fd) : FnOk P w K mg base (L2.CX P w) 2 (He.ga K "need_end") fd ["line", "words", "many"] (sp_need_end K) := by
  have T : Tx K mg := TB.toTx
  refine F1.ok sc_need_end (fun vs H Q E h => ?_) (fun cdv A outer s H vs Q E hr h => ?_)
  · unfold sp_need_end at h
    split at h
    · rfl
    · exact h.elim
  · unfold sp_need_end at h
    split at h
    rotate_left
    · exact h.elim
    · rename_i ln l many
      refine ⟨_, (pss_one (s_if (t_cmp o_gt (kk_len K T.b_len (e_v 1)) (e_v 2) (nomark _)) (pss_one (s_raise T.x_BadText hr (takes_of (E := E) rfl rfl rfl rfl) (pa_cons (e_v 0) (pa_cons (e_v 2) pa_nil)))) pss_nil)), ?_⟩
      obtain ⟨xs, hl, h, hx⟩ := h
      walk_at "n"
      refine .inl ⟨_, .inl hl, ?_⟩
      walk_at "n"
      refine cond_p (fun c => ?_) (fun c => ?_)
      · walk_at "n"
        exact ⟨rfl, fun d hd => (hx (by omega)).go d hd⟩
      · walk_at "n"
        exact h (by omega)
theorem ok_need_end {w : World} {K : PySem.W.Frag} {mg : Str → Option Value} {base : Heap} (TB : Ty K mg base) : F.Fr P w K mg base 2 (He.ga K "need_end") (sp_need_end K) := (TB.toTx.f_need_end).elim fun fd F1 => fr_of F1 (okF_need_end TB F1) (fun _ _ _ _ _ _ us hl => match us, hl with | [_, _, _], _ => rfl)
end G
set_option maxHeartbeats 400000
namespace G
open PySem PySem.Spec PyProof.Rows L2 F
local macro_rules | `(tactic| walk_at "side") => `(tactic| first | rfl | decide | omega | assumption | (unfold CMul; omega) | (unfold CPow; omega) | (unfold CDiv; omega))
local macro_rules | `(tactic| walk_at "hp") => `(tactic| first | assumption | exact upd_same | (refine upd_keep (by assumption) ?_; walk_at "hp") | (refine sm (by assumption) ?_; walk_at "hp"))
local macro_rules | `(tactic| walk_at "n") => `(tactic| ((try conv => whnf); repeat ((first | with_reducible refine cond_t rfl ?_ | with_reducible refine cond_f rfl ?_ | with_reducible refine cond_n ?_); (try conv => whnf))))
local macro_rules | `(tactic| walk_at "go") => `(tactic| (walk_at "n"; repeat (refine And.intro ?side ?_; (case side => walk_at "side"); walk_at "n")))

open M TL
def entMany (z : Str) : Option Nat := if z = "ring" then some 1 else if z = "watch" then some 2 else none
/-- a line of words: its moments, or the word that is wrong -/
def entOut (zs : List Str) : Except Nat (List Mo) := match entMany (zs.headD "") with
  | none => .error 0
  | some n => match momOut zs 1 with
    | .error k => .error k
    | .ok q => if n = 1 then (if 3 < zs.length then .error 3 else .ok [q]) else match momOut zs 3 with
      | .error k => .error k
      | .ok p => if 5 < zs.length then .error 5 else .ok [q, p]
theorem entMany_12 {z : Str} {n : Nat} (h : entMany z = some n) : n = 1 ∨ n = 2 := by
  unfold entMany at h
  split at h
  · cases h; exact .inl rfl
  split at h
  · cases h; exact .inr rfl
  · cases h
theorem entMany_val (z : Str) : valV (mergeK [] [(.inr "ring", .int 1), (.inr "watch", .int 2)]) (.inr z) = (entMany z).map fun n => V.int (n : Int) := by
  rw [show mergeK ([] : List (Key × V)) [(.inr "ring", .int 1), (.inr "watch", .int 2)] = [(.inr "ring", .int 1), (.inr "watch", .int 2)] from by decide +kernel]
  unfold entMany
  by_cases h1 : z = "ring"
  · subst h1
    rw [if_pos rfl]
    decide +kernel
  · rw [if_neg h1]
    by_cases h2 : z = "watch"
    · subst h2
      rw [if_pos rfl]
      decide +kernel
    · rw [if_neg h2]
      unfold valV
      simp [h1, h2, Ne.symm h1, Ne.symm h2]
theorem ent_err {zs : List Str} {n i k : Nat} (hn : entMany (zs.headD "") = some n) (hi : i < n) (hp : ∀ j, j < i → ∃ q, momOut zs (1 + 2 * j) = .ok q) (he : momOut zs (1 + 2 * i) = .error k) : entOut zs = .error k := by
  unfold entOut
  rw [hn]
  dsimp only
  rcases entMany_12 hn with rfl | rfl
  · obtain rfl : i = 0 := by omega
    rw [show momOut zs 1 = .error k from he]
  · rcases i with _ | i
    · rw [show momOut zs 1 = .error k from he]
    · obtain rfl : i = 0 := by omega
      obtain ⟨q, hq⟩ := hp 0 (by omega)
      rw [show momOut zs 1 = .ok q from hq]
      dsimp only
      rw [if_neg (by decide), show momOut zs 3 = .error k from he]
theorem ent_end {zs : List Str} {n : Nat} {ms : List Mo} (hn : entMany (zs.headD "") = some n) (hl : ms.length = n) (hm : ∀ (j : Nat) q, ms[j]? = some q → momOut zs (1 + 2 * j) = .ok q) : entOut zs = if 1 + 2 * n < zs.length then .error (1 + 2 * n) else .ok ms := by
  unfold entOut
  rw [hn]
  dsimp only
  rcases entMany_12 hn with rfl | rfl
  · obtain ⟨q, rfl⟩ := List.length_eq_one_iff.mp hl
    rw [show momOut zs 1 = .ok q from hm 0 q rfl]
    rfl
  · match ms, hl with
    | [q, p], _ =>
      rw [show momOut zs 1 = .ok q from hm 0 q rfl]
      dsimp only
      rw [if_neg (by decide), show momOut zs 3 = .ok p from hm 1 p rfl]
def sp_read_entry (K : PySem.W.Frag) : Sp := fun vs H Q E => match vs with
  | [.int ln, .ref l] => ∃ zs : List Str, SqL K H l (zs.map V.str) ∧ zs ≠ [] ∧ (∀ z, z ∈ zs → z.length + 2 ≤ sizeLine) ∧ zs.length ≤ 1000000 ∧ (match entOut zs with
    | .error n => Rz K "BadText" [("word", .int ln), ("item", .int (n : Int))] H E
    | .ok e => ∀ p H' (us : List (Addr × Mo)), Same H H' → H p = none → H' p = some (.lst (us.map fun t => V.ref t.1)) → us.map (fun t => t.2) = e → (∀ u, u ∈ us → MoAt K H' u.1 u.2 ∧ u.2.ok) → Q (.ref p) H')
  | _ => False
theorem sc_read_entry : FnScope ["line", "words", "many", "found", "place"] ["line", "words"] (defScope s_read_entry) := ⟨rfl, rfl, rfl, by decide +kernel, rfl, by decide +kernel, by decide +kernel⟩
theorem okF_read_entry {w : World} {K : PySem.W.Frag} {mg : Str → Option Value} {base : Heap} {fd : FuncData} (TB : Ty K mg base) (F1 : FunD K "read_entry" "read_entry" (defArgs s_read_entry) (defBody s_read_entry) (defScope s_read_entry) [] [] (He.ga K "read_entry") fd) : FnOk P w K mg base (L2.CX P w) 8 (He.ga K "read_entry") fd ["line", "words"] (sp_read_entry K) := by
  have T : Tx K mg := TB.toTx
  have c_moment_of : Fc P w K mg base 7 "moment_of" (sp_moment_of K) := ⟨_, ok_moment_of TB, T.g_moment_of, (T.f_moment_of).elim fun _ z => z.kp⟩
  have c_need_end : Fc P w K mg base 2 "need_end" (sp_need_end K) := ⟨_, ok_need_end TB, T.g_need_end, (T.f_need_end).elim fun _ z => z.kp⟩
  refine F1.ok sc_read_entry (fun vs H Q E h => ?_) (fun cdv A outer s H vs Q E hr h => ?_)
  · unfold sp_read_entry at h
    split at h
    · rfl
    · exact h.elim
  · unfold sp_read_entry at h
    split at h
    rotate_left
    · exact h.elim
    · rename_i ln l
      refine ⟨_, (pss_cons (ps_set (i := 2) sc_read_entry.nd rfl (Or.inl rfl) (pe_dget1 (hu_of hr) (pe_disp (pps_cons pe_str pe_int (pps_cons pe_str pe_int pps_nil)) (by rfl) (by rfl) (fun z => by cases z) (by decide)) (pe_ix (k_ixL K) (e_v 1) pe_int (fun _ _ => rfl)) ⟨rfl, rfl, rfl, rfl⟩))
        (pss_cons (s_if (t_cmp o_is (e_v 2) pe_non (nomark _)) (pss_one (s_raise T.x_BadText hr (takes_of (E := E) rfl rfl rfl rfl) (pa_cons (e_v 0) (pa_cons pe_int pa_nil)))) pss_nil)
        (pss_cons (ps_setLcX (i := 3) (own := [("place", 4)]) (g := gName 4) (tt := tYes) rfl sc_read_entry.nd rfl rfl (takes_of (E := E) rfl rfl rfl rfl) (fun _ _ _ _ z => z) rfl rfl (sw_true rfl rfl rfl (by decide +kernel)) (pi_range1 rfl T.b_range (pa_cons (e_v 2) pa_nil)) (blkOk_by (own := [("place", 4)]) (N := ["line", "words", "many", "found", "place"]) (sc := defScope s_read_entry) (by decide +kernel)) (fun _ _ _ _ _ => (pg_name (i := 4) sc_read_entry.nd rfl (Or.inl rfl))) (fun _ _ _ _ _ => pts_nil) (fun _ _ _ _ _ _ hx => (e_cP c_moment_of hr hx (pa_cons (e_v 0) (pa_cons (e_v 1) (pa_cons (pe_op (k_add K) pe_int (pe_op o_mul pe_int (e_v 4))) pa_nil))))))
        (pss_cons (ps_expr (e_cP c_need_end hr (passE' (takes_of (E := E) rfl rfl rfl rfl)) (pa_cons (e_v 0) (pa_cons (e_v 1) (pa_cons (pe_op (k_add K) pe_int (pe_op o_mul pe_int (e_v 2))) pa_nil)))))
        (pss_one (ps_ret (e_v 3))))))), ?_⟩
      obtain ⟨zs, hl, hne, hzs, hz, h⟩ := h
      have a0 : atI (zs.map V.str) 0 = some (.str (zs.headD "")) := by
        cases zs with
        | nil => exact absurd rfl hne
        | cons a r =>
          rw [atI_lt (by decide) (by simp)]
          rfl
      have hw := entMany_val (zs.headD "")
      walk_at "n"
      intro p hp
      walk_at "n"
      refine ⟨upd_same, [(.inr "ring", .int 1), (.inr "watch", .int 2)], rfl, by decide, ?_⟩
      have s0 : Same H (upd (upd H p (.dK [])) p (.dK (mergeK [] [(.inr "ring", .int 1), (.inr "watch", .int 2)]))) := sput (snew hp) hp
      walk_at "n"
      refine ⟨_, rfl, .inl ⟨_, .inl upd_same⟩, ?_⟩
      walk_at "n"
      refine ⟨_, _, sl s0 hl, a0, ?_⟩
      walk_at "n"
      refine ⟨_, DGet.k (k := .inr _) upd_same, ?_⟩
      rw [hw]
      generalize upd (upd H p (.dK [])) p (.dK (mergeK [] [(.inr "ring", .int 1), (.inr "watch", .int 2)])) = H0 at *
      cases hm : entMany (zs.headD "") with
      | none =>
        have ho : entOut zs = .error 0 := by
          unfold entOut
          rw [hm]
        rw [ho] at h
        walk_at "n"
        exact ⟨rfl, fun d hd => (h.same s0).go d hd⟩
      | some n =>
        have h12 := entMany_12 hm
        walk_at "n"
        refine ⟨_, rfl, by omega, by omega, fun D hD => lcH (walk_range (lo := 0) (n := n)) (fun i v H => ∃ t : Addr × Mo, (momOut zs (1 + 2 * i) = .ok t.2 ∧ MoAt K H t.1 t.2 ∧ t.2.ok) ∧ v = .ref t.1) (by omega) hD (fun _ _ => trivial) (fun i y H H' s z => ?_) ?_ gm_name ?_⟩
        · obtain ⟨t, ⟨h1, h2, h4⟩, h3⟩ := z
          exact ⟨t, ⟨h1, h2.same s, h4⟩, h3⟩
        · rintro i x H1 H2 acc Nx hi s1 hd' hb ⟨rfl, rfl⟩ nx
          refine ⟨rfl, ?_⟩
          walk_at "n"
          refine ⟨by unfold CMul; omega, ?_⟩
          walk_at "n"
          refine ⟨zs, 1 + 2 * i, by omega, sl s1 (sl s0 hl), hzs, hz, ?_⟩
          cases e : momOut zs (1 + 2 * i) with
          | error k =>
            rw [ent_err hm hi (fun j hj => by
              obtain ⟨z, t, ⟨h1, _⟩, _⟩ := hb j hj
              exact ⟨_, h1⟩) e] at h
            exact h.same (s0.trans s1)
          | ok q =>
            intro a H3 s3 hma ok
            refine nx _ _ s3 ⟨(a, q), ⟨e, ?_, ok⟩, rfl⟩
            obtain ⟨dx, em⟩ := hma
            exact ⟨dx, hide_at em (s3 _ _ hd') fun z => by cases z⟩
        intro ys H1 hl1 hy s1 hd
        obtain ⟨us, rfl, hus⟩ := ys_ex (fun i y h => hy i y h)
        rw [List.length_map] at hl1
        walk_at "n"
        refine ⟨by unfold CMul; omega, ?_⟩
        walk_at "n"
        rw [ent_end (ms := us.map fun t => t.2) hm (by rw [List.length_map]; exact hl1) (fun j q hj => by
          rw [List.getElem?_map] at hj
          cases e1 : us[j]? with
          | none => rw [e1] at hj; cases hj
          | some u =>
            rw [e1] at hj
            cases hj
            exact (hus j u e1).1)] at h
        refine ⟨_, sl s1 (sl s0 hl), fun hle => ?_, fun hlt => ?_⟩
        · rw [List.length_map] at hle
          rw [if_neg (by omega)] at h
          walk_at "n"
          refine h D H1 us (s0.trans s1) (s0.free hD) hd rfl fun u hu => ?_
          obtain ⟨i, hi⟩ := List.getElem?_of_mem hu
          exact (hus i u hi).2
        · rw [List.length_map] at hlt
          rw [if_pos (by omega)] at h
          have e2 : ((1 + 2 * n : Nat) : Int) = 1 + 2 * (n : Int) := by omega
          dsimp only at h
          rw [e2] at h
          exact h.same (s0.trans s1)
theorem ok_read_entry {w : World} {K : PySem.W.Frag} {mg : Str → Option Value} {base : Heap} (TB : Ty K mg base) : F.Fr P w K mg base 8 (He.ga K "read_entry") (sp_read_entry K) := (TB.toTx.f_read_entry).elim fun fd F1 => fr_of F1 (okF_read_entry TB F1) (fun _ _ _ _ _ _ us hl => match us, hl with | [_, _], _ => rfl)
end G
set_option maxHeartbeats 400000
namespace G
open PySem PySem.Spec PyProof.Rows L2 F
local macro_rules | `(tactic| walk_at "side") => `(tactic| first | rfl | decide | omega | assumption | (unfold CMul; omega) | (unfold CPow; omega) | (unfold CDiv; omega))
local macro_rules | `(tactic| walk_at "hp") => `(tactic| first | assumption | exact upd_same | (refine upd_keep (by assumption) ?_; walk_at "hp") | (refine sm (by assumption) ?_; walk_at "hp"))
local macro_rules | `(tactic| walk_at "n") => `(tactic| ((try conv => whnf); repeat ((first | with_reducible refine cond_t rfl ?_ | with_reducible refine cond_f rfl ?_ | with_reducible refine cond_n ?_); (try conv => whnf))))
local macro_rules | `(tactic| walk_at "go") => `(tactic| (walk_at "n"; repeat (refine And.intro ?side ?_; (case side => walk_at "side"); walk_at "n")))

open M TL
/-- a value that is no text -/
def NotStr (K : PySem.W.Frag) (H : Hp) (x : V) : Prop := match x with
  | .ref a => NotTy K H a (.type "str")
  | .int _ => True
  | .bl _ => True
  | .non => True
  | _ => False
def sp_lines_in (K : PySem.W.Frag) : Sp := fun vs H Q E => match vs with
  | [x] => (∃ z : Str, x = .str z ∧ z.length + 2 ≤ sizeLine ∧ (Txt.split z "\n").length ≤ 1000000 ∧ ∀ p H' (ls : List (Addr × List Str)), Same H H' → H p = none → H' p = some (.lst (ls.map fun t => V.ref t.1)) → ls.map (fun t => t.2) = (Txt.split z "\n").map (fun l => Txt.split l " ") → (∀ u, u ∈ ls → H' u.1 = some (.lst (u.2.map V.str))) → Q (.ref p) H') ∨ (NotStr K H x ∧ Rz K "BadText" [("word", .int 0), ("item", .int 0)] H E)
  | _ => False
theorem sc_lines_in : FnScope ["text", "line"] ["text"] (defScope s_lines_in) := ⟨rfl, rfl, rfl, by decide +kernel, rfl, by decide +kernel, by decide +kernel⟩
theorem okF_lines_in {w : World} {K : PySem.W.Frag} {mg : Str → Option Value} {base : Heap} {fd : FuncData} (TB : Ty K mg base) (F1 : FunD K "lines_in" "lines_in" (defArgs s_lines_in) (defBody s_lines_in) (defScope s_lines_in) [] [] (He.ga K "lines_in") fd) : FnOk P w K mg base (L2.CX P w) 2 (He.ga K "lines_in") fd ["text"] (sp_lines_in K) := by
  have T : Tx K mg := TB.toTx
  refine F1.ok sc_lines_in (fun vs H Q E h => ?_) (fun cdv A outer s H vs Q E hr h => ?_)
  · unfold sp_lines_in at h
    split at h
    · rfl
    · exact h.elim
  · unfold sp_lines_in at h
    split at h
    rotate_left
    · exact h.elim
    · rename_i x
      refine ⟨_, (pss_cons (s_if (pt_not (t_b (e_is_str T.b_str T.b_isinstance (e_v 0)))) (pss_one (s_raise T.x_BadText hr (takes_of (E := E) rfl rfl rfl rfl) (pa_cons pe_int (pa_cons pe_int pa_nil)))) pss_nil)
        (pss_one (ps_ret (pe_lc (own := [("line", 1)]) (g := gName 1) (tt := tYes) rfl sc_lines_in.nd (pi_list (e_split (e_v 0) pe_str)) (blkOk_by (own := [("line", 1)]) (N := ["text", "line"]) (sc := defScope s_lines_in) (by decide +kernel)) (fun _ _ _ _ _ => (pg_name (i := 1) sc_lines_in.nd rfl (Or.inl rfl))) (fun _ _ _ _ _ => pts_nil) (fun _ _ _ _ _ => (e_split (e_v 1) pe_str)))))), ?_⟩
      rcases h with ⟨z, rfl, hz, hn, h⟩ | ⟨hx, h⟩
      rotate_left
      · cases x with
        | ref a =>
          walk_at "n"
          refine ⟨rfl, hx, ?_⟩
          walk_at "n"
          exact ⟨rfl, fun d hd => h.go d hd⟩
        | str a => exact hx.elim
        | int a =>
          walk_at "n"
          refine ⟨rfl, ?_⟩
          walk_at "n"
          exact ⟨rfl, fun d hd => h.go d hd⟩
        | bl a =>
          walk_at "n"
          refine ⟨rfl, ?_⟩
          walk_at "n"
          exact ⟨rfl, fun d hd => h.go d hd⟩
        | non =>
          walk_at "n"
          refine ⟨rfl, ?_⟩
          walk_at "n"
          exact ⟨rfl, fun d hd => h.go d hd⟩
        | _ => exact hx.elim
      walk_at "n"
      refine ⟨rfl, ?_⟩
      walk_at "n"
      refine ⟨⟨rfl, hz⟩, fun p hp => ?_⟩
      walk_at "n"
      have sq : SqL K (upd H p (.lst ((Txt.split z "\n").map V.str))) p ((Txt.split z "\n").map V.str) := SqL.of upd_same
      refine ⟨_, rfl, ⟨_, sq⟩, fun D hD => lcW (walk_list (K := K) (a := p) (xs := (Txt.split z "\n").map V.str)) (fun i v H => ∃ t : Addr × List Str, ((Txt.split z "\n")[i]?.map (fun l => Txt.split l " ") = some t.2 ∧ H t.1 = some (.lst (t.2.map V.str))) ∧ v = .ref t.1) (by rw [List.length_map]; omega) hD (fun H' s => sl s sq) (fun i y H H' s z => ?_) ?_ gm_name ?_⟩
      · obtain ⟨t, ⟨h1, h2⟩, h3⟩ := z
        exact ⟨t, ⟨h1, s _ _ h2⟩, h3⟩
      · rintro i x H1 H2 acc Nx hi s1 hd' ⟨rfl, hx⟩ nx
        rw [List.getElem?_map] at hx
        cases e1 : (Txt.split z "\n")[i]? with
        | none => rw [e1] at hx; cases hx
        | some l =>
          rw [e1] at hx
          obtain rfl : x = .str l := (Option.some.inj hx).symm
          have hll : l.length ≤ z.length := split_le (y := "\n") (by decide +kernel) (by decide +kernel) (List.mem_of_getElem? e1)
          refine ⟨rfl, ?_⟩
          walk_at "n"
          refine ⟨⟨rfl, by omega⟩, fun p2 hp2 => ?_⟩
          refine nx _ _ (snew hp2) ⟨(p2, Txt.split l " "), ⟨by rw [e1]; rfl, hide_new hp2 hd' upd_same⟩, rfl⟩
      intro ys H1 hl1 hy s1 hd
      obtain ⟨us, rfl, hus⟩ := ys_ex (fun i y h => hy i y h)
      rw [List.length_map, List.length_map] at hl1
      walk_at "n"
      refine h D H1 us ((snew hp).trans s1) ((snew hp).free hD) hd ?_ fun u hu => ?_
      · refine List.ext_getElem? fun i => ?_
        rw [List.getElem?_map, List.getElem?_map]
        cases e1 : us[i]? with
        | none =>
          have := List.getElem?_eq_none_iff.mp e1
          rw [List.getElem?_eq_none (by omega)]
          rfl
        | some u => exact (hus i u e1).1.symm
      · obtain ⟨i, hi⟩ := List.getElem?_of_mem hu
        exact (hus i u hi).2
theorem ok_lines_in {w : World} {K : PySem.W.Frag} {mg : Str → Option Value} {base : Heap} (TB : Ty K mg base) : F.Fr P w K mg base 2 (He.ga K "lines_in") (sp_lines_in K) := (TB.toTx.f_lines_in).elim fun fd F1 => fr_of F1 (okF_lines_in TB F1) (fun _ _ _ _ _ _ us hl => match us, hl with | [_], _ => rfl)
end G
set_option maxHeartbeats 400000
namespace G
open PySem PySem.Spec PyProof.Rows L2 F
local macro_rules | `(tactic| walk_at "side") => `(tactic| first | rfl | decide | omega | assumption | (unfold CMul; omega) | (unfold CPow; omega) | (unfold CDiv; omega))
local macro_rules | `(tactic| walk_at "hp") => `(tactic| first | assumption | exact upd_same | (refine upd_keep (by assumption) ?_; walk_at "hp") | (refine sm (by assumption) ?_; walk_at "hp"))
local macro_rules | `(tactic| walk_at "n") => `(tactic| ((try conv => whnf); repeat ((first | with_reducible refine cond_t rfl ?_ | with_reducible refine cond_f rfl ?_ | with_reducible refine cond_n ?_); (try conv => whnf))))
local macro_rules | `(tactic| walk_at "go") => `(tactic| (walk_at "n"; repeat (refine And.intro ?side ?_; (case side => walk_at "side"); walk_at "n")))

open M TL
/-- an entry's list of moments -/
structure EntAt (K : PySem.W.Frag) (H : Hp) (a : Addr) (e : List Mo) : Prop where
  ex : ∃ ms : List (Addr × Mo), H a = some (.lst (ms.map fun t => V.ref t.1)) ∧ ms.map (fun t => t.2) = e ∧ ∀ m, m ∈ ms → MoAt K H m.1 m.2 ∧ m.2.ok
theorem EntAt.same {K : PySem.W.Frag} {H H' : Hp} {a : Addr} {e : List Mo} (h : EntAt K H a e) (s : Same H H') : EntAt K H' a e := let ⟨ms, a1, a2, a3⟩ := h.ex; ⟨ms, s _ _ a1, a2, fun m hm => ⟨(a3 m hm).1.same s, (a3 m hm).2⟩⟩
theorem EntAt.put {K : PySem.W.Frag} {H : Hp} {a E : Addr} {e : List Mo} {xs : List V} {o : HO} (h : EntAt K H a e) (n : a ≠ E) (hE : H E = some (.lst xs)) : EntAt K (upd H E o) a e := by
  obtain ⟨ms, a1, a2, a3⟩ := h.ex
  refine ⟨ms, by rw [upd_ne n]; exact a1, a2, fun m hm => ⟨?_, (a3 m hm).2⟩⟩
  obtain ⟨dx, em⟩ := (a3 m hm).1
  exact ⟨dx, by rw [upd_ne (fun z => by rw [z, hE] at em; cases em)]; exact em⟩
theorem EntAt.sb {K : PySem.W.Frag} {H H' : Hp} {a b C dx : Addr} {e : List Mo} {fs : List (Str × V)} (h : EntAt K H a e) (hb : H b = some (.ins C dx fs)) (hn : fs.lookup ("number" : Str) = none) (s : SB b H H') : EntAt K H' a e := by
  obtain ⟨ms, a1, a2, a3⟩ := h.ex
  exact ⟨ms, s.at a1 hb (fun z => by cases z), a2, fun m hm => ⟨(a3 m hm).1.sb hb hn s, (a3 m hm).2⟩⟩
theorem bk_watch (r s : Addr) : (bkF r s).lookup ("watch" : Str) = none := lk_next (by decide +kernel) (lk_next (by decide +kernel) rfl)
/-- Book() -/
theorem book0 {K : PySem.W.Frag} {mg : Str → Option Value} (T : Tx K mg) {H : Hp} {Q : VK} {E : XK} {x dx : Addr} (hx : H x = none) (hdx : H dx = none) (k : ∀ H', Same H H' → BookAt K H' x [] [] → Q (.ref x) H') :
    sp_Book___init__ K ([.ref x] ++ [.ref (dfl0 (fun K => He.ma K (He.ga K "Book") "__init__") 0 K), .ref (dfl0 (fun K => He.ma K (He.ga K "Book") "__init__") 1 K)]) (upd (upd H dx (.own x)) x (.ins (CB K) dx [])) (fun v H2 => v = .non ∧ Q (.ref x) H2) E := by
  refine ⟨dx, [], [], upd_same, .inr (T.d_Book___init___0 _), fun t ht => by simp at ht, by decide, .inr (T.d_Book___init___1 _), fun t ht => by simp at ht, by decide, fun H' R W s hb _ _ rl wl => ⟨rfl, ?_⟩⟩
  have e1 : R = [] := List.length_eq_zero_iff.mp (by simpa using rl)
  have e2 : W = [] := List.length_eq_zero_iff.mp (by simpa using wl)
  subst e1 e2
  exact k H' (s.made hx hdx) hb
/-- the lines from the i-th on: their entries, or the line and the word that are wrong -/
def entsOut : Nat → List (List Str) → Except (Nat × Nat) (List (List Mo))
  | _, [] => .ok []
  | i, zs :: r => match entOut zs with
    | .error k => .error (i, k)
    | .ok e => match entsOut (i + 1) r with
      | .error x => .error x
      | .ok es => .ok (e :: es)
/-- entries put in; the list: the watches that stand -/
def putOut : List (Mo × Mo) → List (List Mo) → SpOut
  | _, [] => .ok
  | W, e :: r => match e with
    | [q, p] => (match spansOut W [(q, p)] with
      | .ok => putOut (if (q, p) ∈ W then W else (q, p) :: W) r
      | o => o)
    | _ => putOut W r
theorem putOut_two {W : List (Mo × Mo)} {q p : Mo} {r : List (List Mo)} : putOut W ([q, p] :: r) = match spansOut W [(q, p)] with
      | .ok => putOut (if (q, p) ∈ W then W else (q, p) :: W) r
      | o => o := rfl
inductive BkOut where
  | text (l i : Nat)
  | bad (s : Str)
  | many
  | ok
def bookOut (ls : List (List Str)) : BkOut :=
  if (ls.headD []).headD "" = "none" then (if 1 < (ls.headD []).length then .text 0 1 else if 1 < ls.length then .text 1 0 else .ok)
  else match entsOut 0 ls with
    | .error x => .text x.1 x.2
    | .ok es => match putOut [] es with
      | .ok => .ok
      | .bad s => .bad s
      | .many => .many
theorem ents_err : ∀ (ls : List (List Str)) (i n k : Nat) (zs : List Str), (∀ j z, j < i → ls[j]? = some z → ∃ e, entOut z = .ok e) → ls[i]? = some zs → entOut zs = .error k → entsOut n ls = .error (n + i, k)
  | [], i, n, k, zs, _, h, _ => by simp at h
  | a :: r, 0, n, k, zs, _, h, he => by
    simp at h
    subst h
    unfold entsOut
    rw [he]
    rfl
  | a :: r, i + 1, n, k, zs, hp, h, he => by
    obtain ⟨e, ha⟩ := hp 0 a (by omega) rfl
    have ih := ents_err r i (n + 1) k zs (fun j z hj hz => hp (j + 1) z (by omega) (by simpa using hz)) (by simpa using h) he
    unfold entsOut
    rw [ha]
    dsimp only
    rw [ih]
    dsimp only
    rw [show n + 1 + i = n + (i + 1) by omega]
theorem ents_ok : ∀ (ls : List (List Str)) (es : List (List Mo)) (n : Nat), es.length = ls.length → (∀ (j : Nat) z e, ls[j]? = some z → es[j]? = some e → entOut z = .ok e) → entsOut n ls = .ok es
  | [], [], _, _, _ => rfl
  | [], _ :: _, _, h, _ => by simp at h
  | _ :: _, [], _, h, _ => by simp at h
  | a :: r, e :: es, n, h, he => by
    have ih := ents_ok r es (n + 1) (by simpa using h) (fun j z e hz hes => he (j + 1) z e (by simpa using hz) (by simpa using hes))
    unfold entsOut
    rw [he 0 a e rfl rfl]
    dsimp only
    rw [ih]
theorem ent_len {zs : List Str} {e : List Mo} (h : entOut zs = .ok e) : e.length = 1 ∨ e.length = 2 := by
  unfold entOut at h
  split at h
  · cases h
  split at h
  · cases h
  split at h
  · split at h
    · cases h
    · cases h
      exact .inl rfl
  split at h
  · cases h
  split at h
  · cases h
  · cases h
    exact .inr rfl
theorem nd_sub : ∀ (a b : List (Mo × Mo)), a.Nodup → (∀ z, z ∈ a → z ∈ b) → a.length ≤ b.length
  | [], _, _, _ => Nat.zero_le _
  | x :: r, b, nd, h => by
    obtain ⟨n1, n2⟩ := List.nodup_cons.mp nd
    have hx := h x List.mem_cons_self
    have ih := nd_sub r (b.erase x) n2 fun z hz => (List.mem_erase_of_ne (fun e => n1 (by rw [← e]; exact hz))).mpr (h z (List.mem_cons_of_mem _ hz))
    have hl := List.length_erase_of_mem hx
    have : 0 < b.length := List.length_pos_of_mem hx
    simp only [List.length_cons]
    omega
theorem SpansAt.nodup {K : PySem.W.Frag} {H : Hp} {s : Addr} {ws : List (Addr × WT)} (h : SpansAt K H s ws) : (conT wc ws).Nodup := by
  have nd := h.tab.nd
  unfold keysT at nd
  refine List.pairwise_map.mpr ((List.pairwise_map.mp nd).imp fun {x y} hne e => hne ?_)
  show code (wc x.2) = code (wc y.2)
  rw [e]
theorem BookAt.nodup {K : PySem.W.Frag} {H : Hp} {b : Addr} {R : List Mo} {W : List (Mo × Mo)} (h : BookAt K H b R W) : W.Nodup := by
  obtain ⟨dx, r, s, rs, ws, bp, _, rfl⟩ := h
  exact bp.s.nodup
theorem spl_cnt (S : List Nat) : ∀ (l : List Nat) (k : Nat) (acc : List Nat), (spl S k acc l).length ≤ l.length + 1
  | [], k, acc => by
    rw [spl_nil]
    simp
  | c :: r, 0, acc => by
    by_cases e : pre S (c :: r) = true
    · rw [spl_hit e]
      have := spl_cnt S r (S.length - 1) []
      simp only [List.length_cons] at this ⊢
      omega
    · rw [spl_miss (by simpa using e)]
      have := spl_cnt S r 0 (acc ++ [c])
      simp only [List.length_cons] at this ⊢
      omega
  | c :: r, k + 1, acc => by
    have := spl_cnt S r k acc
    simp only [List.length_cons] at this ⊢
    show (spl S k acc r).length ≤ _
    omega
theorem split_cnt {z y : Str} (hy : tl y ≠ []) (hk : y.cps.all (· < 256) = true) : (Txt.split z y).length ≤ z.length + 1 := by
  have q := split_spl z y hy (kind_ok hk)
  have e : (Txt.split z y).length = ((Txt.split z y).map tl).length := by rw [List.length_map]
  rw [e, q, len_tl]
  exact spl_cnt _ _ _ _
theorem spl_some (S : List Nat) : ∀ (l : List Nat) (k : Nat) (acc : List Nat), spl S k acc l ≠ []
  | [], k, acc => by
    rw [spl_nil]
    simp
  | c :: r, 0, acc => by
    by_cases e : pre S (c :: r) = true
    · rw [spl_hit e]
      simp
    · rw [spl_miss (by simpa using e)]
      exact spl_some S r 0 _
  | c :: r, k + 1, acc => spl_some S r k acc
theorem split_some {z y : Str} (hy : tl y ≠ []) (hk : y.cps.all (· < 256) = true) : Txt.split z y ≠ [] := fun e => by
  have q := split_spl z y hy (kind_ok hk)
  rw [e] at q
  exact spl_some _ _ _ _ q.symm
def sp_read_book (K : PySem.W.Frag) : Sp := fun vs H Q E => match vs with
  | [x] => (∃ z : Str, x = .str z ∧ z.length ≤ 100000 ∧ (Txt.split z "\n").length ≤ 2000 ∧ (match bookOut ((Txt.split z "\n").map fun l => Txt.split l " ") with
    | .text l i => Rz K "BadText" [("word", .int (l : Int)), ("item", .int (i : Int))] H E
    | .bad s => Rz K "BadWatch" [("part", .str s)] H E
    | .many => Rz K "TooMany" [("what", .str "watches"), ("most", .int 12)] H E
    | .ok => ∀ b H', Same H H' → IsIns H' b (CB K) → Q (.ref b) H')) ∨ (NotStr K H x ∧ Rz K "BadText" [("word", .int 0), ("item", .int 0)] H E)
  | _ => False
theorem sc_read_book : FnScope ["text", "lines", "entries", "line", "words", "book", "entry"] ["text"] (defScope s_read_book) := ⟨rfl, rfl, rfl, by decide +kernel, rfl, by decide +kernel, by decide +kernel⟩
theorem okF_read_book {w : World} {K : PySem.W.Frag} {mg : Str → Option Value} {base : Heap} {fd : FuncData} (TB : Ty K mg base) (F1 : FunD K "read_book" "read_book" (defArgs s_read_book) (defBody s_read_book) (defScope s_read_book) [] [] (He.ga K "read_book") fd) : FnOk P w K mg base (L2.CX P w) 9 (He.ga K "read_book") fd ["text"] (sp_read_book K) := by
  have T : Tx K mg := TB.toTx
  have c_lines_in : Fc P w K mg base 2 "lines_in" (sp_lines_in K) := ⟨_, ok_lines_in TB, T.g_lines_in, (T.f_lines_in).elim fun _ z => z.kp⟩
  have c_need_end : Fc P w K mg base 2 "need_end" (sp_need_end K) := ⟨_, ok_need_end TB, T.g_need_end, (T.f_need_end).elim fun _ z => z.kp⟩
  have c_Book__0 : Fk P w K mg base 6 "Book" (He.ga K "Book") (fun vs H Q E => sp_Book___init__ K (vs ++ [(.ref (dfl0 (fun K => He.ma K (He.ga K "Book") "__init__") 0 K)), (.ref (dfl0 (fun K => He.ma K (He.ga K "Book") "__init__") 1 K))]) H Q E) := ⟨⟨_, ok0_Book___init__ TB, T.mk_Book⟩, T.g_Book⟩
  have c_read_entry : Fc P w K mg base 8 "read_entry" (sp_read_entry K) := ⟨_, ok_read_entry TB, T.g_read_entry, (T.f_read_entry).elim fun _ z => z.kp⟩
  have c_Book_watch : Fm P w K mg base 6 (He.ga K "Book") "watch" (sp_Book_watch K) := ⟨⟨_, ok_Book_watch TB, T.m_Book_watch⟩, T.c_Book⟩
  refine F1.ok sc_read_book (fun vs H Q E h => ?_) (fun cdv A outer s H vs Q E hr h => ?_)
  · unfold sp_read_book at h
    split at h
    · rfl
    · exact h.elim
  · unfold sp_read_book at h
    split at h
    rotate_left
    · exact h.elim
    · rename_i x
      refine ⟨_, (pss_cons (ps_set (i := 1) sc_read_book.nd rfl (Or.inl rfl) (e_cP c_lines_in hr (passE' (takes_of (E := E) rfl rfl rfl rfl)) (pa_cons (e_v 0) pa_nil)))
        (pss_cons (ps_set (i := 2) sc_read_book.nd rfl (Or.inl rfl) (pe_lst pa_nil))
        (pss_cons (s_if (t_cmp o_eq (pe_ix (k_ixL K) (pe_ix (k_ixL K) (e_v 1) pe_int (fun _ _ => rfl)) pe_int (fun _ _ => rfl)) pe_str (nomark _)) (pss_cons (ps_expr (e_cP c_need_end hr (passE' (takes_of (E := E) rfl rfl rfl rfl)) (pa_cons pe_int (pa_cons (pe_ix (k_ixL K) (e_v 1) pe_int (fun _ _ => rfl)) (pa_cons pe_int pa_nil)))))
        (pss_cons (s_if (t_cmp o_gt (kk_len K T.b_len (e_v 1)) pe_int (nomark _)) (pss_one (s_raise T.x_BadText hr (takes_of (E := E) rfl rfl rfl rfl) (pa_cons pe_int (pa_cons pe_int pa_nil)))) pss_nil)
        (pss_one (ps_ret (e_k0 c_Book__0 hr))))) pss_nil)
        (pss_cons (ps_for (passes_of rfl) rfl (pi_enum (by rfl) T.b_enumerate (pa_cons (e_v 1) pa_nil)) (kg_tup K (n := 2) rfl (fgs_cons (pg_name (i := 3) sc_read_book.nd rfl (Or.inl rfl)) (fgs_cons (pg_name (i := 4) sc_read_book.nd rfl (Or.inl rfl)) fgs_nil)))
          (pss_one (ps_expr (pe_bm PySem.F.plainAttrs_list PySem.F.slot_list_append PySem.F.type_list_append mt_append (e_v 2) (pa_cons (e_cP c_read_entry hr (passE' (takes_of (E := E) rfl rfl rfl rfl)) (pa_cons (e_v 3) (pa_cons (e_v 4) pa_nil))) pa_nil)))))
        (pss_cons (ps_set (i := 5) sc_read_book.nd rfl (Or.inl rfl) (e_k0 c_Book__0 hr))
        (pss_cons (ps_for (passes_of rfl) rfl (pi_list (e_v 2)) (pg_name (i := 6) sc_read_book.nd rfl (Or.inl rfl))
          (pss_one (s_if (t_cmp o_eq (kk_len K T.b_len (e_v 6)) pe_int (nomark _)) (pss_one (ps_aug (i := 5) sc_read_book.nd rfl (Or.inl rfl) (pe_ix (k_ixL K) (e_v 6) pe_int (fun _ _ => rfl)) (o_ownI T.sf_Book T.o_Book___iadd__ (ok_Book___iadd__ TB) hr))) (pss_one (ps_expr (e_m c_Book_watch hr (e_v 5) (pa_cons (pe_ix (k_ixL K) (e_v 6) pe_int (fun _ _ => rfl)) (pa_cons (pe_ix (k_ixL K) (e_v 6) pe_int (fun _ _ => rfl)) pa_nil)) (by decide) (passE' (takes_of (E := E) rfl rfl rfl rfl))))))))
        (pss_one (ps_ret (e_v 5))))))))), ?_⟩
      rcases h with ⟨z, rfl, hz, hn, h⟩ | ⟨hx, h⟩
      rotate_left
      · walk_at "n"
        exact .inr ⟨hx, h⟩
      walk_at "n"
      have hsl : 1000003 ≤ sizeLine := by rw [sizeLine_eq]; decide
      refine .inl ⟨z, rfl, by omega, by omega, fun p H1 ls s1 hp1 e1 e2 e3 => ?_⟩
      walk_at "n"
      refine ⟨line_of (by simp), fun E1 hE => ?_⟩
      have sq0 : SqL K (upd H1 E1 (.lst [])) p (ls.map fun t => V.ref t.1) := SqL.of (upd_keep hE e1)
      have s2 : Same H (upd H1 E1 (.lst [])) := sto s1 hE
      walk_at "n"
      rw [← e2] at h
      have hll : ls.length = (Txt.split z "\n").length := by
        have := congrArg List.length e2
        simpa using this
      have wfa : ∀ t, t ∈ ls → t.2 ≠ [] ∧ (∀ w, w ∈ t.2 → w.length + 2 ≤ sizeLine) ∧ t.2.length ≤ 1000000 := fun t ht => by
        have m : t.2 ∈ ls.map fun t => t.2 := List.mem_map_of_mem ht
        rw [e2] at m
        obtain ⟨l, hl, e⟩ := List.mem_map.mp m
        have l1 : l.length ≤ z.length := split_le (by decide +kernel) (by decide +kernel) hl
        rw [← e]
        refine ⟨split_some (by decide +kernel) (by decide +kernel), fun w hw => ?_, ?_⟩
        · have := split_le (y := " ") (by decide +kernel) (by decide +kernel) hw
          omega
        · have := split_cnt (z := l) (y := " ") (by decide +kernel) (by decide +kernel)
          omega
      have hne : ls ≠ [] := fun e => by
        rw [e] at hll
        exact split_some (z := z) (y := "\n") (by decide +kernel) (by decide +kernel) (List.length_eq_zero_iff.mp hll.symm)
      obtain ⟨t0, ls0, hls0⟩ : ∃ t0 ls0, ls = t0 :: ls0 := by
        cases ls with
        | nil => exact absurd rfl hne
        | cons a r => exact ⟨a, r, rfl⟩
      have mt0 : t0 ∈ ls := by rw [hls0]; exact List.mem_cons_self
      obtain ⟨w0, ws0, hw0⟩ : ∃ w0 ws0, t0.2 = w0 :: ws0 := by
        cases e : t0.2 with
        | nil => exact absurd e (wfa t0 mt0).1
        | cons a r => exact ⟨a, r, rfl⟩
      have b0 : atI (ls.map fun t => V.ref t.1) 0 = some (.ref t0.1) := by
        rw [hls0, atI_lt (by decide) (by simp)]
        rfl
      have b1 : atI (t0.2.map V.str) 0 = some (.str w0) := by
        rw [hw0, atI_lt (by decide) (by simp)]
        rfl
      have h00 : ((ls.map fun t => t.2).headD []) = t0.2 := by rw [hls0]; rfl
      have h01 : (t0.2.headD "") = w0 := by rw [hw0]; rfl
      unfold bookOut at h
      rw [h00, h01, List.length_map] at h
      have sq1 : SqL K (upd H1 E1 (.lst [])) t0.1 (t0.2.map V.str) := SqL.of (upd_keep hE (e3 t0 mt0))
      refine ⟨_, _, sq0, b0, ?_⟩
      walk_at "n"
      refine ⟨_, _, sq1, b1, ?_⟩
      walk_at "n"
      refine cond_p (fun c => ?_) (fun c => ?_)
      · rw [if_pos c] at h
        walk_at "n"
        refine ⟨_, _, sq0, b0, ?_⟩
        walk_at "n"
        refine ⟨_, sq1, fun hle => ?_, fun hlt => ?_⟩
        rotate_left
        · rw [List.length_map] at hlt
          rw [if_pos (by omega)] at h
          exact h.same s2
        rw [List.length_map] at hle
        rw [if_neg (by omega)] at h
        walk_at "n"
        refine .inl ⟨_, .inl sq0, ?_⟩
        walk_at "n"
        refine cond_p (fun c2 => ?_) (fun c2 => ?_)
        · rw [List.length_map] at c2
          rw [if_pos (by omega)] at h
          walk_at "n"
          exact ⟨rfl, fun d hd => (h.same s2).go d hd⟩
        · rw [List.length_map] at c2
          rw [if_neg (by omega)] at h
          walk_at "n"
          intro x dx hx hdx ne
          exact book0 T (K := K) (Q := Q) hx hdx fun H' s hb => h x H' (s2.trans s) hb.ins
      rw [if_neg c] at h
      walk_at "n"
      refine ⟨_, _, rfl, sq0, for_it (walk_enum (K := K) (a := p) (xs := ls.map fun t => V.ref t.1)) (fun i σ H' => (∃ us : List (Addr × List Mo), SB E1 (upd H1 E1 (.lst [])) H' ∧ H' E1 = some (.lst (us.map fun t => V.ref t.1)) ∧ us.length = i ∧ (∀ (j : Nat) t u, ls[j]? = some t → us[j]? = some u → entOut t.2 = .ok u.2) ∧ ∀ u, u ∈ us → EntAt K H' u.1 u.2 ∧ u.1 ≠ E1) ∧ ∃ v3 v4 v5 v6, σ = [some (.str z), some (.ref p), some (.ref E1), v3, v4, v5, v6]) ⟨⟨[], sb_refl, upd_same, rfl, fun j t u _ hu => by simp at hu, fun u hu => by simp at hu⟩, _, _, _, _, rfl⟩ (fun i σ H' _ z => ?_) ?_ ?_⟩
      · obtain ⟨⟨us, s3, _⟩, _⟩ := z
        refine SqL.of (s3.at2 (upd_keep hE e1) fun q => ?_)
        rw [q, hE] at e1
        cases e1
      · rintro i x σ H2 H3 hi ⟨⟨us, s3, hE3, hus, hent, hms⟩, v3, v4, v5, v6, rfl⟩ ⟨Tp, x1, y1, rfl, hT, rfl, ex1, ey1⟩
        rw [List.length_map] at hi
        obtain ⟨t, ht⟩ : ∃ t, ls[i]? = some t := ⟨_, List.getElem?_eq_getElem hi⟩
        have mt : t ∈ ls := List.mem_of_getElem? ht
        have ey1 : (ls.map fun t => V.ref t.1)[i]? = some y1 := ey1
        rw [List.getElem?_map, ht] at ey1
        cases ex1
        cases ey1
        have nE : Tp ≠ E1 := fun q => by rw [q, hE3] at hT; cases hT
        have nt : t.1 ≠ E1 := fun q => by
          have := e3 t mt
          rw [q, hE] at this
          cases this
        have et3 : upd H2 Tp (.tup [.int (i : Nat), .ref t.1]) t.1 = some (.lst (t.2.map V.str)) := upd_keep hT (s3.at2 (upd_keep hE (e3 t mt)) nt)
        walk_at "n"
        refine ⟨_, .inl (.inl upd_same), rfl, ?_⟩
        walk_at "n"
        refine ⟨.inl ⟨rfl, _, SqL.of (upd_keep hT hE3)⟩, ?_⟩
        walk_at "n"
        refine ⟨_, SqL.of et3, (wfa t mt).1, (wfa t mt).2.1, (wfa t mt).2.2, ?_⟩
        have s02 : Same H (upd H2 Tp (.tup [.int (i : Nat), .ref t.1])) := sto (s1.trans fun b o hb => s3 b o (fun q => by rw [q, hE] at hb; cases hb) (upd_keep hE hb)) hT
        cases e : entOut t.2 with
        | error k =>
          rw [ents_err (ls.map fun t => t.2) i 0 k t.2 (fun j zz hj hzz => by
            rw [List.getElem?_map] at hzz
            cases e5 : ls[j]? with
            | none => rw [e5] at hzz; cases hzz
            | some tt =>
              rw [e5] at hzz
              cases hzz
              exact ⟨_, hent j tt us[j] e5 (List.getElem?_eq_getElem (by omega))⟩) (by rw [List.getElem?_map, ht]; rfl) e, Nat.zero_add] at h
          dsimp only at h ⊢
          exact h.same s02
        | ok e0 =>
          intro p5 H5 ms s5 hp5 e5 em5 hm5
          walk_at "n"
          have hE5 := s5 _ _ (upd_keep (u := .tup [.int (i : Nat), .ref t.1]) hT hE3)
          refine ⟨_, _, _, rfl, rfl, hE5, line_lt (by rw [List.length_map]; omega), ?_⟩
          walk_at "n"
          have np5 : p5 ≠ E1 := fun q => by rw [q, upd_keep hT hE3] at hp5; cases hp5
          have ent5 : EntAt K H5 p5 e0 := ⟨ms, e5, em5, hm5⟩
          have s25 : Same H2 H5 := (snew hT).trans s5
          refine ⟨⟨us ++ [(p5, e0)], (s3.same s25).upd, ?_, by rw [List.length_append, hus]; rfl, fun j tt u hj hu => ?_, fun u hu => ?_⟩, _, _, _, _, rfl⟩
          · rw [upd_same, List.map_append]
            rfl
          · by_cases hji : j < us.length
            · rw [List.getElem?_append_left hji] at hu
              exact hent j tt u hj hu
            · rw [List.getElem?_append_right (by omega)] at hu
              have hj0 : j - us.length = 0 := by
                cases q : j - us.length with
                | zero => rfl
                | succ m => rw [q] at hu; simp at hu
              rw [hj0] at hu
              cases hu
              have : j = i := by omega
              rw [this, ht] at hj
              cases hj
              exact e
          · rcases List.mem_append.mp hu with hu | hu
            · exact ⟨((hms u hu).1.same s25).put (hms u hu).2 hE5, (hms u hu).2⟩
            · simp at hu
              subst hu
              exact ⟨ent5.put np5 hE5, np5⟩
      · rintro σ H2 ⟨⟨us, s3, hE3, hus, hent, hms⟩, v3, v4, v5, v6, rfl⟩
        rw [List.length_map] at hus
        have s3' : Same H1 H2 := fun b o hb => s3 b o (fun q => by rw [q, hE] at hb; cases hb) (upd_keep hE hb)
        rw [ents_ok (ls.map fun t => t.2) (us.map fun t => t.2) 0 (by rw [List.length_map, List.length_map, hus]) (fun j zz e hzz he => by
          rw [List.getElem?_map] at hzz he
          cases e5 : ls[j]? with
          | none => rw [e5] at hzz; cases hzz
          | some tt =>
            cases e6 : us[j]? with
            | none => rw [e6] at he; cases he
            | some uu =>
              rw [e5] at hzz
              rw [e6] at he
              cases hzz
              cases he
              exact hent j tt uu e5 e6)] at h
        dsimp only at h
        walk_at "n"
        intro b dx hb hdx ne
        refine ⟨dx, [], [], upd_same, .inr (T.d_Book___init___0 _), fun t ht => by simp at ht, by decide, .inr (T.d_Book___init___1 _), fun t ht => by simp at ht, by decide, fun H3 R0 W0 s4 hb4 _ _ rl wl => ⟨rfl, ?_⟩⟩
        have er : R0 = [] := List.length_eq_zero_iff.mp (by simpa using rl)
        have ewl : W0 = [] := List.length_eq_zero_iff.mp (by simpa using wl)
        subst er ewl
        have s4 : Same H2 H3 := s4.made hb hdx
        walk_at "n"
        obtain ⟨dxb, r0, sp0, rs0, ws0, bp0, _, _⟩ := id hb4
        have hE3' := s4 _ _ hE3
        have sb03 : Same H H3 := s1.trans (s3'.trans s4)
        have hbH : H b = none := s1.free (s3'.free hb)
        have s3b : ∀ H4, SB b H3 H4 → Same H H4 := fun H4 s5 a o ha => s5 a o (fun q => by rw [q, hbH] at ha; cases ha) (sb03 _ _ ha)
        refine ⟨_, rfl, ⟨_, SqL.of hE3'⟩, for_it (walk_list (K := K) (a := E1) (xs := us.map fun t => V.ref t.1)) (fun i σ H' => (∃ R W seen, SB b H3 H' ∧ BookAt K H' b R W ∧ R.length ≤ i ∧ (∀ x, x ∈ W ↔ x ∈ seen) ∧ seen.Nodup ∧ putOut [] (us.map fun t => t.2) = putOut seen ((us.map fun t => t.2).drop i)) ∧ ∃ v3 v4 v6, σ = [some (.str z), some (.ref p), some (.ref E1), v3, v4, some (.ref b), v6]) ⟨⟨[], [], [], sb_refl, hb4, Nat.le_refl _, fun _ => Iff.rfl, List.nodup_nil, rfl⟩, _, _, _, rfl⟩ (fun i σ H' _ z => ?_) ?_ ?_⟩
        · obtain ⟨⟨R, W, seen, s5, _⟩, _⟩ := z
          exact sl_sb (SqL.of hE3') bp0.at_ s5
        · rintro i x σ H4 H5 hi ⟨⟨R, W, seen, s5, bk, nR, hW, nds, hpo⟩, v3, v4, v6, rfl⟩ ⟨rfl, hx⟩
          rw [List.length_map] at hi
          obtain ⟨u, hu1, rfl⟩ := ref_at hx
          have ent := ((hms u (List.mem_of_getElem? hu1)).1.same s4).sb bp0.at_ (bk_number r0 sp0) s5
          obtain ⟨ms, m1, m2, m3⟩ := ent.ex
          have hln : u.2.length = ms.length := by rw [← m2, List.length_map]
          obtain ⟨t, ht⟩ : ∃ t, ls[i]? = some t := ⟨_, List.getElem?_eq_getElem (by omega)⟩
          have h12 := ent_len (hent i t u ht hu1)
          have gd := drop_cons (l := us.map fun t => t.2) (i := i) (x := u.2) (by rw [List.getElem?_map, hu1]; rfl)
          rw [gd] at hpo
          walk_at "n"
          refine .inl ⟨_, .inl (SqL.of m1), ?_⟩
          walk_at "n"
          rcases h12 with h1 | h1
          · refine cond_q (by rw [List.length_map]; omega) ?_
            obtain ⟨m, rfl⟩ : ∃ m, ms = [m] := List.length_eq_one_iff.mp (by omega)
            have e6 : u.2 = [m.2] := m2.symm
            rw [e6] at hpo
            refine ⟨_, rfl, ?_⟩
            walk_at "n"
            refine ⟨_, _, SqL.of m1, rfl, ?_⟩
            walk_at "n"
            refine ⟨bk.ins, R, W, m.2, bk, (m3 m List.mem_cons_self).1, (m3 m List.mem_cons_self).2, by omega, fun H6 R' s6 hb6 hc hl => ?_⟩
            walk_at "n"
            exact ⟨⟨R', W, seen, s5.trans s6, hb6, by omega, hW, nds, hpo⟩, _, _, _, rfl⟩
          · refine cond_nq (by rw [List.length_map]; omega) ?_
            obtain ⟨m, m', rfl⟩ : ∃ m m', ms = [m, m'] := by
              match ms, (show ms.length = 2 by omega) with
              | [m, m'], _ => exact ⟨m, m', rfl⟩
            have e6 : u.2 = [m.2, m'.2] := m2.symm
            rw [e6] at hpo
            obtain ⟨dxc, rc, spc, rsc, wsc, bpc, _, _⟩ := id bk
            have hcg : spansOut W [(m.2, m'.2)] = spansOut seen [(m.2, m'.2)] := spansOut_congr hW (Nat.le_antisymm (nd_sub _ _ bk.nodup fun z hz => (hW z).mp hz) (nd_sub _ _ nds fun z hz => (hW z).mpr hz))
            walk_at "n"
            refine ⟨⟨_, _, bpc.at_, bk_watch _ _⟩, ?_⟩
            walk_at "n"
            refine ⟨_, _, SqL.of m1, rfl, ?_⟩
            walk_at "n"
            refine ⟨_, _, SqL.of m1, rfl, ?_⟩
            walk_at "n"
            refine ⟨R, W, m.2, m'.2, bk, (m3 m (by simp)).1, (m3 m' (by simp)).1, (m3 m (by simp)).2, (m3 m' (by simp)).2, ?_⟩
            rw [putOut_two] at hpo
            rw [hcg]
            cases eo : spansOut seen [(m.2, m'.2)] with
            | bad s0 =>
              rw [eo] at hpo
              dsimp only at hpo ⊢
              rw [hpo] at h
              exact h.same (s3b _ s5)
            | many =>
              rw [eo] at hpo
              dsimp only at hpo ⊢
              rw [hpo] at h
              exact h.same (s3b _ s5)
            | ok =>
              rw [eo] at hpo
              dsimp only at hpo ⊢
              intro H6 W' s6 hb6 hc hl
              walk_at "n"
              refine ⟨⟨R, W', if (m.2, m'.2) ∈ seen then seen else (m.2, m'.2) :: seen, s5.trans s6, hb6, by omega, fun x => ?_, ?_, hpo⟩, _, _, _, rfl⟩
              · rw [hc, hW]
                split
                · rename_i hin
                  exact ⟨fun z => z.elim id fun z => z ▸ hin, .inl⟩
                · rw [List.mem_cons]
                  exact Or.comm
              · split
                · exact nds
                · rename_i hin
                  exact List.nodup_cons.mpr ⟨hin, nds⟩
        · rintro σ H4 ⟨⟨R, W, seen, s5, bk, nR, hW, nds, hpo⟩, v3, v4, v6, rfl⟩
          walk_at "n"
          have hl : (us.map fun t => V.ref t.1).length = (us.map fun t => t.2).length := by rw [List.length_map, List.length_map]
          rw [hl, List.drop_length] at hpo
          rw [hpo] at h
          exact h b H4 (s3b H4 s5) bk.ins
theorem ok_read_book {w : World} {K : PySem.W.Frag} {mg : Str → Option Value} {base : Heap} (TB : Ty K mg base) : F.Fr P w K mg base 9 (He.ga K "read_book") (sp_read_book K) := (TB.toTx.f_read_book).elim fun fd F1 => fr_of F1 (okF_read_book TB F1) (fun _ _ _ _ _ _ us hl => match us, hl with | [_], _ => rfl)
end G
set_option maxHeartbeats 400000
namespace G
open PySem PySem.Spec PyProof.Rows L2 F
local macro_rules | `(tactic| walk_at "side") => `(tactic| first | rfl | decide | omega | assumption | (unfold CMul; omega) | (unfold CPow; omega) | (unfold CDiv; omega))
local macro_rules | `(tactic| walk_at "hp") => `(tactic| first | assumption | exact upd_same | (refine upd_keep (by assumption) ?_; walk_at "hp") | (refine sm (by assumption) ?_; walk_at "hp"))
local macro_rules | `(tactic| walk_at "n") => `(tactic| ((try conv => whnf); repeat ((first | with_reducible refine cond_t rfl ?_ | with_reducible refine cond_f rfl ?_ | with_reducible refine cond_n ?_); (try conv => whnf))))
local macro_rules | `(tactic| walk_at "go") => `(tactic| (walk_at "n"; repeat (refine And.intro ?side ?_; (case side => walk_at "side"); walk_at "n")))

open M TL
def bagKv (c : Addr) (a r st : Int) : List (Key × V) := [(.inr "cells", .ref c), (.inr "at", .int a), (.inr "rest", .int r), (.inr "state", .int st)]
theorem kne1 : (Sum.inr "cells" : Key) ≠ .inr "at" := by decide +kernel
theorem kne2 : (Sum.inr "cells" : Key) ≠ .inr "rest" := by decide +kernel
theorem kne3 : (Sum.inr "cells" : Key) ≠ .inr "state" := by decide +kernel
theorem kne4 : (Sum.inr "at" : Key) ≠ .inr "rest" := by decide +kernel
theorem kne5 : (Sum.inr "at" : Key) ≠ .inr "state" := by decide +kernel
theorem kne6 : (Sum.inr "rest" : Key) ≠ .inr "state" := by decide +kernel
section
variable {c : Addr} {a r st x : Int}
theorem bag_cells : valV (bagKv c a r st) (.inr "cells") = some (.ref c) := valV_pos (p := ((Sum.inr "cells" : Key), V.ref c)) rfl
theorem bag_at : valV (bagKv c a r st) (.inr "at") = some (.int a) := by
  unfold bagKv
  rw [valV_neg kne1]
  exact valV_pos (p := ((Sum.inr "at" : Key), V.int a)) rfl
theorem bag_rest : valV (bagKv c a r st) (.inr "rest") = some (.int r) := by
  unfold bagKv
  rw [valV_neg kne2, valV_neg kne4]
  exact valV_pos (p := ((Sum.inr "rest" : Key), V.int r)) rfl
theorem bag_state : valV (bagKv c a r st) (.inr "state") = some (.int st) := by
  unfold bagKv
  rw [valV_neg kne3, valV_neg kne5, valV_neg kne6]
  exact valV_pos (p := ((Sum.inr "state" : Key), V.int st)) rfl
theorem bag_put_at : putK (bagKv c a r st) (.inr "at") (.int x) = bagKv c x r st := by
  unfold putK
  rw [valV_any, bag_at]
  simp only [Option.isSome_some, if_true, bagKv, List.map_cons, List.map_nil, if_neg kne1, if_neg (Ne.symm kne4), if_neg (Ne.symm kne5), reduceIte]
theorem bag_put_rest : putK (bagKv c a r st) (.inr "rest") (.int x) = bagKv c a x st := by
  unfold putK
  rw [valV_any, bag_rest]
  simp only [Option.isSome_some, if_true, bagKv, List.map_cons, List.map_nil, if_neg kne2, if_neg kne4, if_neg (Ne.symm kne6), reduceIte]
theorem bag_put_state : putK (bagKv c a r st) (.inr "state") (.int x) = bagKv c a r x := by
  unfold putK
  rw [valV_any, bag_state]
  simp only [Option.isSome_some, if_true, bagKv, List.map_cons, List.map_nil, if_neg kne3, if_neg kne5, if_neg kne6, reduceIte]
end
/-- the bag at g, in parts -/
structure BagP (K : PySem.W.Frag) (H : Hp) (g c : Addr) (a r st : Int) (ns : List Int) : Prop where
  at_ : H g = some (.dK (bagKv c a r st))
  cc : H c = some (.lst (ns.map V.int))
  a0 : 0 ≤ a
  r0 : 0 ≤ r
  s0 : 0 ≤ st
  s1 : st < 2147483647
  n : ns.length ≤ 63
theorem BagP.c {K : PySem.W.Frag} {H : Hp} {g c : Addr} {a r st : Int} {ns : List Int} (b : BagP K H g c a r st ns) : SqL K H c (ns.map V.int) := SqL.of b.cc
def BagAt (K : PySem.W.Frag) (H : Hp) (g c : Addr) : Prop := ∃ a r st ns, BagP K H g c a r st ns
theorem sl_sbd {K : PySem.W.Frag} {H H' : Hp} {a b : Addr} {xs : List V} {kvs : List (Key × V)} (h : SqL K H a xs) (hb : H b = some (.dK kvs)) (s : SB b H H') : SqL K H' a xs :=
  h.elim (fun z => z.elim (fun z => .inl (.inl (s.at z hb fun e => by cases e))) fun ⟨o, z⟩ => .inl (.inr ⟨o, s.at z hb fun e => by cases e⟩)) .inr
theorem st_sbd {K : PySem.W.Frag} {H H' : Hp} {a b : Addr} {xs : List V} {kvs : List (Key × V)} (h : SqT K H a xs) (hb : H b = some (.dK kvs)) (s : SB b H H') : SqT K H' a xs :=
  h.elim (fun z => z.elim (fun z => .inl (.inl (s.at z hb fun e => by cases e))) fun ⟨o, z⟩ => .inl (.inr ⟨o, s.at z hb fun e => by cases e⟩)) .inr
theorem BagP.put {K : PySem.W.Frag} {H : Hp} {g c : Addr} {a r st a' r' st' : Int} {ns : List Int} (b : BagP K H g c a r st ns) (h1 : 0 ≤ a') (h2 : 0 ≤ r') (h3 : 0 ≤ st') (h4 : st' < 2147483647) : BagP K (upd H g (.dK (bagKv c a' r' st'))) g c a' r' st' ns :=
  ⟨upd_same, sb_upd.at b.cc b.at_ (fun e => by cases e), h1, h2, h3, h4, b.n⟩
theorem BagP.same {K : PySem.W.Frag} {H H' : Hp} {g c : Addr} {a r st : Int} {ns : List Int} (b : BagP K H g c a r st ns) (s : Same H H') : BagP K H' g c a r st ns := ⟨s _ _ b.at_, s _ _ b.cc, b.a0, b.r0, b.s0, b.s1, b.n⟩
theorem BagAt.same {K : PySem.W.Frag} {H H' : Hp} {g c : Addr} (b : BagAt K H g c) (s : Same H H') : BagAt K H' g c := let ⟨a, r, k, ns, p⟩ := b; ⟨a, r, k, ns, p.same s⟩
section
variable {K : PySem.W.Frag} {H : Hp} {g c : Addr} {a r st : Int} {ns : List Int}
theorem BagP.gC (b : BagP K H g c a r st ns) : DGet H g (.str "cells") (some (.ref c)) := by
  rw [← bag_cells (c := c) (a := a) (r := r) (st := st)]
  exact DGet.k (k := .inr "cells") b.at_
theorem BagP.gA (b : BagP K H g c a r st ns) : DGet H g (.str "at") (some (.int a)) := by
  rw [← bag_at (c := c) (a := a) (r := r) (st := st)]
  exact DGet.k (k := .inr "at") b.at_
theorem BagP.gR (b : BagP K H g c a r st ns) : DGet H g (.str "rest") (some (.int r)) := by
  rw [← bag_rest (c := c) (a := a) (r := r) (st := st)]
  exact DGet.k (k := .inr "rest") b.at_
theorem BagP.gS (b : BagP K H g c a r st ns) : DGet H g (.str "state") (some (.int st)) := by
  rw [← bag_state (c := c) (a := a) (r := r) (st := st)]
  exact DGet.k (k := .inr "state") b.at_
theorem BagP.pA (b : BagP K H g c a r st ns) (x : Int) : DPut H g (.str "at") (.int x) (upd H g (.dK (bagKv c x r st))) := by
  rw [← bag_put_at (a := a)]
  exact DPut.k (k := .inr "at") b.at_ (by show 4 < sizeLine; decide)
theorem BagP.pR (b : BagP K H g c a r st ns) (x : Int) : DPut H g (.str "rest") (.int x) (upd H g (.dK (bagKv c a x st))) := by
  rw [← bag_put_rest (r := r)]
  exact DPut.k (k := .inr "rest") b.at_ (by show 4 < sizeLine; decide)
theorem BagP.pS (b : BagP K H g c a r st ns) (x : Int) : DPut H g (.str "state") (.int x) (upd H g (.dK (bagKv c a r x))) := by
  rw [← bag_put_state (st := st)]
  exact DPut.k (k := .inr "state") b.at_ (by show 4 < sizeLine; decide)
end
theorem cut_take (ns : List Int) : cutV (ns.map V.int) none (some 63) = (ns.take 63).map V.int := by
  have e : cutV (ns.map V.int) none (some 63) = (((ns.map V.int).drop 0).take (min 63 (ns.map V.int).length - 0)) := rfl
  rw [e, List.drop_zero, Nat.sub_zero, List.map_take, List.take_eq_take_iff]
  omega
def sp__law_bag (K : PySem.W.Frag) : Sp := fun vs H Q E => match vs with
  | [.ref l] => ∃ ns : List Int, SqL K H l (ns.map V.int) ∧ ∀ g c H', Same H H' → H g = none → BagAt K H' g c → Q (.ref g) H'
  | _ => False
theorem sc__law_bag : FnScope ["_law_script", "_law_state", "_law_cell"] ["_law_script"] (defScope s__law_bag) := ⟨rfl, rfl, rfl, by decide +kernel, rfl, by decide +kernel, by decide +kernel⟩
theorem okF__law_bag {w : World} {K : PySem.W.Frag} {mg : Str → Option Value} {base : Heap} {fd : FuncData} (TB : Ty K mg base) (F1 : FunD K "_law_bag" "_law_bag" (defArgs s__law_bag) (defBody s__law_bag) (defScope s__law_bag) [] [] (He.ga K "_law_bag") fd) : FnOk P w K mg base (L2.CX P w) 1 (He.ga K "_law_bag") fd ["_law_script"] (sp__law_bag K) := by
  have T : Tx K mg := TB.toTx
  refine F1.ok sc__law_bag (fun vs H Q E h => ?_) (fun cdv A outer s H vs Q E hr h => ?_)
  · unfold sp__law_bag at h
    split at h
    · rfl
    · exact h.elim
  · unfold sp__law_bag at h
    split at h
    rotate_left
    · exact h.elim
    · rename_i l
      refine ⟨_, (pss_cons (ps_set (i := 1) sc__law_bag.nd rfl (Or.inl rfl) pe_int)
        (pss_cons (ps_for (passes_of rfl) rfl (pi_list (pe_slice sl_list (e_v 0) po_none (po_some pe_int))) (pg_name (i := 2) sc__law_bag.nd rfl (Or.inl rfl))
          (pss_one (ps_set (i := 1) sc__law_bag.nd rfl (Or.inl rfl) (pe_op o_mod (e_int T.b_int (pe_op (k_add K) (pe_op (k_add K) (pe_op o_mul (e_v 1) pe_int) (pe_op o_mod (e_abs T.b_abs (e_v 2)) pe_int)) pe_int)) pe_int))))
        (pss_one (ps_ret (pe_disp (pps_cons pe_str (e_list T.b_list (pe_slice sl_list (e_v 0) po_none (po_some pe_int))) (pps_cons pe_str pe_int (pps_cons pe_str pe_int (pps_cons pe_str (e_v 1) pps_nil)))) (by rfl) (by rfl) (fun z => by cases z) (by decide)))))), ?_⟩
      obtain ⟨ns, hl, h⟩ := h
      walk_at "n"
      refine ⟨63, rfl, ?_⟩
      walk_at "n"
      refine ⟨_, _, rfl, hl, fun p hp => ?_⟩
      rw [cut_take]
      have hn : (ns.take 63).length ≤ 63 := by rw [List.length_take]; omega
      walk_at "n"
      refine ⟨_, rfl, ⟨_, SqL.of upd_same⟩, for_it (walk_list (K := K) (a := p) (xs := (ns.take 63).map V.int)) (fun i σ H' => H' = upd H p (.lst ((ns.take 63).map V.int)) ∧ ∃ st v, 0 ≤ st ∧ st < 2147483647 ∧ σ = [some (.ref l), some (.int st), v]) ⟨rfl, _, _, by decide, by decide, rfl⟩ (fun i σ H' _ z => ?_) ?_ ?_⟩
      · rw [z.1]
        exact SqL.of upd_same
      · rintro i x σ H1 H2 hi ⟨rfl, st0, v, b0, b1, rfl⟩ ⟨rfl, hx⟩
        rw [List.getElem?_map] at hx
        obtain ⟨a, _, rfl⟩ := Option.map_eq_some_iff.mp hx
        walk_at "n"
        refine ⟨by unfold CMul; omega, ?_⟩
        walk_at "n"
        refine ⟨by decide, ?_⟩
        walk_at "n"
        refine ⟨by decide, ?_⟩
        walk_at "n"
        exact ⟨rfl, _, _, Int.emod_nonneg _ (by decide), Int.emod_lt_of_pos _ (by decide), rfl⟩
      · rintro σ H1 ⟨rfl, st0, v, b0, b1, rfl⟩
        walk_at "n"
        intro d hd
        walk_at "n"
        refine ⟨63, rfl, ?_⟩
        walk_at "n"
        refine ⟨_, _, rfl, sl (sto (snew hp) hd) hl, fun p2 hp2 => ?_⟩
        rw [cut_take]
        walk_at "n"
        refine ⟨_, .inl (SqL.of upd_same), fun p3 hp3 => ?_⟩
        walk_at "n"
        have hd2 := upd_keep (u := .lst ((ns.take 63).map V.int)) hp3 (upd_keep (u := .lst ((ns.take 63).map V.int)) hp2 (upd_same (H := upd H p (.lst ((ns.take 63).map V.int))) (a := d) (o := .dK [])))
        refine ⟨hd2, bagKv p3 0 0 st0, rfl, by show 4 ≤ 15; decide, ?_⟩
        walk_at "n"
        have e : mergeK [] (bagKv p3 0 0 st0) = bagKv p3 0 0 st0 := by
          unfold mergeK bagKv
          simp only [List.foldl_cons, List.foldl_nil, putK, List.any_nil, List.any_cons, List.any_append, decide_eq_false kne1, decide_eq_false kne2, decide_eq_false kne3, decide_eq_false kne4, decide_eq_false kne5, decide_eq_false kne6, Bool.or_false, Bool.false_eq_true, if_false, List.nil_append, List.cons_append]
        rw [e]
        have sf : Same H (upd (upd (upd (upd (upd H p (.lst ((ns.take 63).map V.int))) d (.dK [])) p2 (.lst ((ns.take 63).map V.int))) p3 (.lst ((ns.take 63).map V.int))) d (.dK (bagKv p3 0 0 st0))) := sput (sto (sto (sto (snew hp) hd) hp2) hp3) ((snew hp).free hd)
        refine h d p3 _ sf ((snew hp).free hd) ⟨0, 0, st0, ns.take 63, upd_same, ?_, by decide, by decide, b0, b1, hn⟩
        exact sb_upd.at upd_same hd2 fun e => by cases e
theorem ok__law_bag {w : World} {K : PySem.W.Frag} {mg : Str → Option Value} {base : Heap} (TB : Ty K mg base) : F.Fr P w K mg base 1 (He.ga K "_law_bag") (sp__law_bag K) := (TB.toTx.f__law_bag).elim fun fd F1 => fr_of F1 (okF__law_bag TB F1) (fun _ _ _ _ _ _ us hl => match us, hl with | [_], _ => rfl)
def sp__law_draw (K : PySem.W.Frag) : Sp := fun vs H Q E => match vs with
  | [.ref g, .int lim] => ∃ c, BagAt K H g c ∧ 0 < lim ∧ lim ≤ 100000 ∧ ∀ r H', SB g H H' → BagAt K H' g c → 0 ≤ r → r < lim → Q (.int r) H'
  | _ => False
theorem sc__law_draw : FnScope ["_law_bag_here", "_law_limit", "_law_cell", "_law_mixed", "_law_found"] ["_law_bag_here", "_law_limit"] (defScope s__law_draw) := ⟨rfl, rfl, rfl, by decide +kernel, rfl, by decide +kernel, by decide +kernel⟩
theorem okF__law_draw {w : World} {K : PySem.W.Frag} {mg : Str → Option Value} {base : Heap} {fd : FuncData} (TB : Ty K mg base) (F1 : FunD K "_law_draw" "_law_draw" (defArgs s__law_draw) (defBody s__law_draw) (defScope s__law_draw) [] [] (He.ga K "_law_draw") fd) : FnOk P w K mg base (L2.CX P w) 1 (He.ga K "_law_draw") fd ["_law_bag_here", "_law_limit"] (sp__law_draw K) := by
  have T : Tx K mg := TB.toTx
  refine F1.ok sc__law_draw (fun vs H Q E h => ?_) (fun cdv A outer s H vs Q E hr h => ?_)
  · unfold sp__law_draw at h
    split at h
    · rfl
    · exact h.elim
  · unfold sp__law_draw at h
    split at h
    rotate_left
    · exact h.elim
    · rename_i g lim
      refine ⟨_, (pss_cons (ps_while (passes_of rfl) (PW.pt (w_and (t_cmp o_lt (e_dget hr (e_v 0) pe_str) pe_int (nomark _)) (w_and1 (t_cmp o_lt (e_dget hr (e_v 0) pe_str) (kk_len K T.b_len (e_dget hr (e_v 0) pe_str)) (nomark _))))) (pss_cons (ps_set (i := 2) sc__law_draw.nd rfl (Or.inl rfl) (e_abs T.b_abs (pe_ix (k_ixL K) (e_dget hr (e_v 0) pe_str) (e_dget hr (e_v 0) pe_str) (fun _ _ => rfl))))
        (pss_cons (ps_dput (hu_of hr) (e_v 0) pe_str (pe_op (k_add K) (e_dget hr (e_v 0) pe_str) pe_int) rfl)
        (pss_cons (s_if (t_cmp o_lt (e_v 2) (pe_op o_pow pe_int pe_int) (nomark _)) (pss_cons (ps_set (i := 3) sc__law_draw.nd rfl (Or.inl rfl) (pe_op o_mod (e_int T.b_int (pe_op (k_add K) (pe_op o_pow (pe_op (k_add K) (e_v 2) pe_int) pe_int) (pe_op o_mul (e_dget hr (e_v 0) pe_str) (pe_op (k_add K) (e_dget hr (e_v 0) pe_str) pe_int)))) pe_int))
        (pss_one (ps_ret (pe_op o_mod (e_v 3) (e_v 1))))) pss_nil)
        (pss_one (ps_dput (hu_of hr) (e_v 0) pe_str (e_v 2) rfl))))))
        (pss_cons (s_if (t_cmp o_ge (e_dget hr (e_v 0) pe_str) pe_int (nomark _)) (pss_cons (ps_set (i := 4) sc__law_draw.nd rfl (Or.inl rfl) (pe_op o_mod (e_int T.b_int (e_dget hr (e_v 0) pe_str)) (e_v 1)))
        (pss_cons (ps_dput (hu_of hr) (e_v 0) pe_str (pe_op o_div (e_dget hr (e_v 0) pe_str) (e_v 1)) rfl)
        (pss_one (ps_ret (e_v 4))))) pss_nil)
        (pss_cons (ps_dput (hu_of hr) (e_v 0) pe_str (pe_op o_mod (e_int T.b_int (pe_op (k_add K) (pe_op o_mul (e_dget hr (e_v 0) pe_str) pe_int) pe_int)) pe_int) rfl)
        (pss_one (ps_ret (pe_op o_mod (pe_op o_mod (e_int T.b_int (pe_op o_pow (e_dget hr (e_v 0) pe_str) pe_int)) pe_int) (e_v 1))))))), ?_⟩
      obtain ⟨c, bag, l0, l1, h⟩ := h
      walk_at "n"
      obtain ⟨a, r, k0, ns, bp⟩ := bag
      refine ⟨fun m σ H' => (∃ a r k ns, SB g H H' ∧ BagP K H' g c a r k ns ∧ m = (64 - a).toNat) ∧ ∃ v2 v3 v4, σ = [some (.ref g), some (.int lim), v2, v3, v4], ⟨_, ⟨a, r, k0, ns, sb_refl, bp, rfl⟩, _, _, _, rfl⟩, ?_⟩
      clear bp
      rintro m σ H1 ⟨⟨a, r, k0, ns, s1, bp, rfl⟩, v2, v3, v4, rfl⟩
      have b0 := bp.a0
      have b1 := bp.r0
      have b2 := bp.s0
      have b3 := bp.s1
      have b4 := bp.n
      walk_at "n"
      refine ⟨_, _, rfl, bp.gR, ?_⟩
      walk_at "n"
      refine cond_p (fun h1 => ?a1) (fun h1 => ?a2)
      case' a1 =>
        walk_at "n"
        refine ⟨_, _, rfl, bp.gA, ?_⟩
        walk_at "n"
        refine ⟨_, _, rfl, bp.gC, ?_⟩
        walk_at "n"
        refine .inl ⟨_, .inl bp.c, ?_⟩
        walk_at "n"
        refine ite_p (fun h2 => ?a3) (fun h2 => ?a4)
        case' a3 =>
          rw [List.length_map] at h2
          walk_at "n"
          refine ⟨fun σ' H' => (∃ a' r k ns, SB g H H' ∧ BagP K H' g c a' r k ns ∧ a' = a + 1) ∧ ∃ v2 v3 v4, σ' = [some (.ref g), some (.int lim), v2, v3, v4], fun σ' H' ⟨⟨a', r', k', ns', s', b', e⟩, z⟩ => ⟨(64 - a').toNat, by omega, ⟨a', r', k', ns', s', b', rfl⟩, z⟩, ?_⟩
          walk_at "n"
          refine ⟨_, _, rfl, bp.gC, ?_⟩
          walk_at "n"
          refine ⟨_, _, rfl, bp.gA, ?_⟩
          walk_at "n"
          obtain ⟨x, hx⟩ : ∃ x, ns[a.toNat]? = some x := ⟨_, List.getElem?_eq_getElem (by omega)⟩
          refine ⟨_, .int x, bp.c, by rw [atI_lt b0 (by rw [List.length_map]; omega), List.getElem?_map, hx]; rfl, ?_⟩
          walk_at "n"
          have ax0 : 0 ≤ absI x := absI_nn x
          generalize absI x = ax at *
          refine ⟨_, _, rfl, bp.gA, ?_⟩
          walk_at "n"
          refine ⟨_, _, rfl, bp.pA (a + 1), ?_⟩
          have bp2 := bp.put (a' := a + 1) (r' := r) (st' := k0) (by omega) b1 b2 b3
          walk_at "n"
          refine ⟨by unfold CPow; decide, ?_⟩
          walk_at "n"
          refine cond_p (fun h3 => ?_) (fun h3 => ?_)
          · have h3 : ax < 1000000000000000000 := by simpa using h3
            walk_at "n"
            refine ⟨by unfold CPow; omega, ?_⟩
            walk_at "n"
            refine ⟨_, _, rfl, bp2.gS, ?_⟩
            walk_at "n"
            refine ⟨_, _, rfl, bp2.gA, ?_⟩
            walk_at "n"
            refine ⟨by unfold CMul; omega, ?_⟩
            walk_at "n"
            refine ⟨by decide, ?_⟩
            walk_at "n"
            refine ⟨l0, ?_⟩
            walk_at "n"
            exact h _ _ s1.upd ⟨_, _, _, _, bp2⟩ (Int.emod_nonneg _ (by omega)) (Int.emod_lt_of_pos _ l0)
          · walk_at "n"
            refine ⟨_, _, rfl, bp2.pR ax, ?_⟩
            walk_at "n"
            exact ⟨⟨_, _, _, _, s1.upd.upd, bp2.put (by omega) ax0 b2 b3, rfl⟩, _, _, _, rfl⟩
      all_goals
        walk_at "n"
        refine ⟨_, _, rfl, bp.gR, ?_⟩
        walk_at "n"
        refine cond_p (fun h5 => ?_) (fun h5 => ?_)
        · walk_at "n"
          refine ⟨_, _, rfl, bp.gR, ?_⟩
          walk_at "n"
          refine ⟨l0, ?_⟩
          walk_at "n"
          refine ⟨_, _, rfl, bp.gR, ?_⟩
          walk_at "n"
          refine ⟨⟨l0, by omega⟩, ?_⟩
          walk_at "n"
          refine ⟨_, _, rfl, bp.pR _, ?_⟩
          walk_at "n"
          exact h _ _ s1.upd ⟨_, _, _, _, bp.put b0 (Int.ediv_nonneg b1 (by omega)) b2 b3⟩ (Int.emod_nonneg _ (by omega)) (Int.emod_lt_of_pos _ l0)
        · walk_at "n"
          refine ⟨_, _, rfl, bp.gS, ?_⟩
          walk_at "n"
          refine ⟨by unfold CMul; omega, ?_⟩
          walk_at "n"
          refine ⟨by decide, ?_⟩
          walk_at "n"
          refine ⟨_, _, rfl, bp.pS _, ?_⟩
          have bp2 := bp.put (a' := a) (r' := r) (st' := (k0 * 48271 + 13) % 2147483647) b0 b1 (Int.emod_nonneg _ (by decide)) (Int.emod_lt_of_pos _ (by decide))
          have b5 := bp2.s0
          have b6 := bp2.s1
          walk_at "n"
          refine ⟨_, _, rfl, bp2.gS, ?_⟩
          walk_at "n"
          refine ⟨by unfold CPow; omega, ?_⟩
          walk_at "n"
          refine ⟨by decide, ?_⟩
          walk_at "n"
          refine ⟨l0, ?_⟩
          walk_at "n"
          exact h _ _ s1.upd ⟨_, _, _, _, bp2⟩ (Int.emod_nonneg _ (by omega)) (Int.emod_lt_of_pos _ l0)
theorem ok__law_draw {w : World} {K : PySem.W.Frag} {mg : Str → Option Value} {base : Heap} (TB : Ty K mg base) : F.Fr P w K mg base 1 (He.ga K "_law_draw") (sp__law_draw K) := (TB.toTx.f__law_draw).elim fun fd F1 => fr_of F1 (okF__law_draw TB F1) (fun _ _ _ _ _ _ us hl => match us, hl with | [_, _], _ => rfl)
end G
set_option maxHeartbeats 400000
namespace G
open PySem PySem.Spec PyProof.Rows L2 F
local macro_rules | `(tactic| walk_at "side") => `(tactic| first | rfl | decide | omega | assumption | (unfold CMul; omega) | (unfold CPow; omega) | (unfold CDiv; omega))
local macro_rules | `(tactic| walk_at "hp") => `(tactic| first | assumption | exact upd_same | (refine upd_keep (by assumption) ?_; walk_at "hp") | (refine sm (by assumption) ?_; walk_at "hp"))
local macro_rules | `(tactic| walk_at "n") => `(tactic| ((try conv => whnf); repeat ((first | with_reducible refine cond_t rfl ?_ | with_reducible refine cond_f rfl ?_ | with_reducible refine cond_n ?_); (try conv => whnf))))
local macro_rules | `(tactic| walk_at "go") => `(tactic| (walk_at "n"; repeat (refine And.intro ?side ?_; (case side => walk_at "side"); walk_at "n")))

open M TL
theorem mlen_law (y m : Int) (h1 : 1 ≤ m) (h2 : m ≤ 12) : monthLen y m = if m = 2 then 28 + leapN y else 30 + (if ([1, 3, 5, 7, 8, 10, 12] : List Int).any (· == m) = true then 1 else 0) := by
  obtain ⟨l1, l2, l3, l4, l5, l6, l7, l8, l9, l10, l11, l12⟩ := monthLen_cases y
  have hc : m = 1 ∨ m = 2 ∨ m = 3 ∨ m = 4 ∨ m = 5 ∨ m = 6 ∨ m = 7 ∨ m = 8 ∨ m = 9 ∨ m = 10 ∨ m = 11 ∨ m = 12 := by omega
  rcases hc with rfl | rfl | rfl | rfl | rfl | rfl | rfl | rfl | rfl | rfl | rfl | rfl <;> simp [*]
theorem hu65 {A : Around} {k : Nat} (hr : Room k A) : A.units + 65 < cLine := by
  have := hr.un
  omega
theorem any_eqv (l : List Int) (m : Int) : (l.map PyData.int).any (fun z => PyData.eqv z (.int m)) = l.any (· == m) := by
  induction l with
  | nil => rfl
  | cons a r ih =>
    rw [List.map_cons, List.any_cons, List.any_cons, ih]
    simp [PyData.eqv]
theorem dp_ints {K : PySem.W.Frag} {H : Hp} : ∀ l : List Int, DpAll K H (l.map V.int) (l.map PyData.int)
  | [] => .nil
  | a :: r => .cons (.int a) (dp_ints r)
def sp__law_length (K : PySem.W.Frag) : Sp := fun vs H Q E => match vs with
  | [.int y, .int m] => (1 ≤ m ∧ m ≤ 12) ∧ ∀ H', Same H H' → Q (.int (monthLen y m)) H'
  | _ => False
theorem sc__law_length : FnScope ["_law_year", "_law_month", "_law_leap"] ["_law_year", "_law_month"] (defScope s__law_length) := ⟨rfl, rfl, rfl, by decide +kernel, rfl, by decide +kernel, by decide +kernel⟩
theorem okF__law_length {w : World} {K : PySem.W.Frag} {mg : Str → Option Value} {base : Heap} {fd : FuncData} (TB : Ty K mg base) (F1 : FunD K "_law_length" "_law_length" (defArgs s__law_length) (defBody s__law_length) (defScope s__law_length) [] [] (He.ga K "_law_length") fd) : FnOk P w K mg base (L2.CX P w) 1 (He.ga K "_law_length") fd ["_law_year", "_law_month"] (sp__law_length K) := by
  have T : Tx K mg := TB.toTx
  refine F1.ok sc__law_length (fun vs H Q E h => ?_) (fun cdv A outer s H vs Q E hr h => ?_)
  · unfold sp__law_length at h
    split at h
    · rfl
    · exact h.elim
  · unfold sp__law_length at h
    split at h
    rotate_left
    · exact h.elim
    · rename_i y m
      refine ⟨_, (pss_cons (ps_set (i := 2) sc__law_length.nd rfl (Or.inl rfl) (e_and (pe_cmpR o_eq (pe_op o_mod (e_int T.b_int (e_v 0)) pe_int) pe_int (nomark _)) (pe_one (e_or (pe_cmpR o_ne (pe_op o_mod (e_int T.b_int (e_v 0)) pe_int) pe_int (nomark _)) (pe_one (pe_cmpR o_eq (pe_op o_mod (e_int T.b_int (e_v 0)) pe_int) pe_int (nomark _)))))))
        (pss_one (ps_ret (e_if (t_cmp o_eq (e_v 1) pe_int (nomark _)) (pe_op (k_add K) pe_int (e_int T.b_int (e_v 2))) (pe_op (k_add K) pe_int (e_int T.b_int (pe_cmpR (op_inD (hu65 hr)) (e_v 1) (pe_lst (pa_cons pe_int (pa_cons pe_int (pa_cons pe_int (pa_cons pe_int (pa_cons pe_int (pa_cons pe_int (pa_cons pe_int pa_nil)))))))) (by rfl)))))))), ?_⟩
      obtain ⟨⟨h1, h2⟩, h⟩ := h
      rw [mlen_law y m h1 h2] at h
      walk_at "n"
      have rest : ∀ b : Bool, b = isLeap y → Q (.int (if m = 2 then 28 + (if b = true then 1 else 0) else 30 + (if ([1, 3, 5, 7, 8, 10, 12] : List Int).any (· == m) = true then 1 else 0))) = Q (.int (if m = 2 then 28 + leapN y else 30 + (if ([1, 3, 5, 7, 8, 10, 12] : List Int).any (· == m) = true then 1 else 0))) := fun b e => by
        subst e
        rfl
      have fin : ∀ b : Bool, b = isLeap y → (m = 2 → ∀ H', Same H H' → Q (.int (28 + (if b = true then 1 else 0))) H') ∧ (¬ m = 2 → ∀ H', Same H H' → Q (.int (30 + (if ([1, 3, 5, 7, 8, 10, 12] : List Int).any (· == m) = true then 1 else 0))) H') := fun b e => by
        refine ⟨fun z H' s => ?_, fun z H' s => ?_⟩
        · have q := h H' s
          rw [← rest b e, if_pos z] at q
          exact q
        · have q := h H' s
          rw [if_neg z] at q
          exact q
      clear rest
      refine ⟨by decide, ?_⟩
      walk_at "n"
      have e1 : y % 4 = 0 → y % 100 ≠ 0 → true = isLeap y := fun p q => by unfold isLeap; simp [p, q]
      have e2 : y % 4 = 0 → y % 100 = 0 → decide (y % 400 = 0) = isLeap y := fun p q => by unfold isLeap; simp [p, q]
      have e3 : ¬ y % 4 = 0 → false = isLeap y := fun p => by unfold isLeap; simp [p]
      refine cond_p (fun a1 => ?b1) (fun a1 => ?b2)
      case' b1 =>
        walk_at "n"
        refine ⟨by decide, ?_⟩
        walk_at "n"
        refine cond_p (fun a2 => ?b3) (fun a2 => ?b4)
        case' b3 =>
          walk_at "n"
          refine ⟨by decide, ?_⟩
      case' b2 => have e := e3 a1
      case' b3 => have e := e2 a1 a2
      case' b4 => have e := e1 a1 a2
      all_goals
        walk_at "n"
        refine cond_p (fun a3 => ?_) (fun a3 => ?_)
        · walk_at "n"
          exact (fin _ e).1 a3 _ (Same.refl _)
        · walk_at "n"
          refine ⟨line_of (by simp), fun p hp => ?_⟩
          walk_at "n"
          refine ⟨.int m, [1, 3, 5, 7, 8, 10, 12].map PyData.int, .int m, .lst (SqL.of upd_same) (dp_ints [1, 3, 5, 7, 8, 10, 12]), rfl, by decide +kernel, ?_⟩
          rw [any_eqv]
          walk_at "n"
          exact (fin _ e).2 a3 _ (snew hp)
theorem ok__law_length {w : World} {K : PySem.W.Frag} {mg : Str → Option Value} {base : Heap} (TB : Ty K mg base) : F.Fr P w K mg base 1 (He.ga K "_law_length") (sp__law_length K) := (TB.toTx.f__law_length).elim fun fd F1 => fr_of F1 (okF__law_length TB F1) (fun _ _ _ _ _ _ us hl => match us, hl with | [_, _], _ => rfl)
def moL (q : Mo) : List V := [.int q.y, .int q.m, .int q.d, .int q.h, .int q.i]
theorem date_eq (q : Mo) : q.date = 365 * (q.y - 1) + (q.y - 1) / 4 - (q.y - 1) / 100 + (q.y - 1) / 400 + monthsSum q.y (q.m - 1).toNat + q.d - 1 := by
  unfold Mo.date dayNumber daysAhead
  rfl
theorem num_eq (q : Mo) : q.num = 1440 * q.date + 60 * q.h + q.i := by
  unfold Mo.num
  omega
def sp__law_date (K : PySem.W.Frag) : Sp := fun vs H Q E => match vs with
  | [.ref t] => ∃ q, SqT K H t (moL q) ∧ 1 ≤ q.m ∧ q.m ≤ 12 ∧ ∀ H', Same H H' → Q (.int q.date) H'
  | _ => False
theorem sc__law_date : FnScope ["_law_told", "_law_past", "_law_ahead", "_law_month"] ["_law_told"] (defScope s__law_date) := ⟨rfl, rfl, rfl, by decide +kernel, rfl, by decide +kernel, by decide +kernel⟩
theorem okF__law_date {w : World} {K : PySem.W.Frag} {mg : Str → Option Value} {base : Heap} {fd : FuncData} (TB : Ty K mg base) (F1 : FunD K "_law_date" "_law_date" (defArgs s__law_date) (defBody s__law_date) (defScope s__law_date) [] [] (He.ga K "_law_date") fd) : FnOk P w K mg base (L2.CX P w) 2 (He.ga K "_law_date") fd ["_law_told"] (sp__law_date K) := by
  have T : Tx K mg := TB.toTx
  have c__law_length : Fc P w K mg base 1 "_law_length" (sp__law_length K) := ⟨_, ok__law_length TB, T.g__law_length, (T.f__law_length).elim fun _ z => z.kp⟩
  refine F1.ok sc__law_date (fun vs H Q E h => ?_) (fun cdv A outer s H vs Q E hr h => ?_)
  · unfold sp__law_date at h
    split at h
    · rfl
    · exact h.elim
  · unfold sp__law_date at h
    split at h
    rotate_left
    · exact h.elim
    · rename_i t
      refine ⟨_, (pss_cons (ps_set (i := 1) sc__law_date.nd rfl (Or.inl rfl) (pe_op o_sub (pe_ix (k_ixT K) (e_v 0) pe_int (fun _ _ => rfl)) pe_int))
        (pss_cons (ps_set (i := 2) sc__law_date.nd rfl (Or.inl rfl) (pe_op (k_add K) (pe_op o_sub (pe_op (k_add K) (pe_op o_mul pe_int (e_v 1)) (pe_op o_div (e_v 1) pe_int)) (pe_op o_div (e_v 1) pe_int)) (pe_op o_div (e_v 1) pe_int)))
        (pss_one (ps_ret (pe_op o_sub (pe_op (k_add K) (pe_op (k_add K) (e_v 2) (e_sum rfl T.b_sum (pe_lc (own := [("_law_month", 3)]) (g := gName 3) (tt := tYes) rfl sc__law_date.nd (pi_range2 rfl T.b_range (pa_cons pe_int (pa_cons (pe_ix (k_ixT K) (e_v 0) pe_int (fun _ _ => rfl)) pa_nil))) (blkOk_by (own := [("_law_month", 3)]) (N := ["_law_told", "_law_past", "_law_ahead", "_law_month"]) (sc := defScope s__law_date) (by decide +kernel)) (fun _ _ _ _ _ => (pg_name (i := 3) sc__law_date.nd rfl (Or.inl rfl))) (fun _ _ _ _ _ => pts_nil) (fun _ _ _ _ _ => (e_c c__law_length hr (pa_cons (pe_ix (k_ixT K) (e_v 0) pe_int (fun _ _ => rfl)) (pa_cons (e_v 3) pa_nil))))))) (pe_ix (k_ixT K) (e_v 0) pe_int (fun _ _ => rfl))) pe_int))))), ?_⟩
      obtain ⟨q, ht, m1, m2, h⟩ := h
      have ht : SqT K H t [.int q.y, .int q.m, .int q.d, .int q.h, .int q.i] := ht
      walk_at "n"
      refine ⟨_, _, ht, rfl, ?_⟩
      walk_at "n"
      refine ⟨by unfold CMul; omega, ?_⟩
      walk_at "n"
      refine ⟨⟨by decide, by decide⟩, ?_⟩
      walk_at "n"
      refine ⟨⟨by decide, by decide⟩, ?_⟩
      walk_at "n"
      refine ⟨⟨by decide, by decide⟩, ?_⟩
      walk_at "n"
      refine ⟨_, _, ht, rfl, ?_⟩
      walk_at "n"
      refine ⟨1, q.m, rfl, by omega, fun D hD => lcW (walk_range (lo := 1) (n := (q.m - 1).toNat)) (fun i v _ => v = .int (monthLen q.y (1 + (i : Int)))) (by omega) hD (fun _ _ => trivial) (fun _ _ _ _ _ z => z) ?_ gm_name ?_⟩
      · rintro i x H1 H2 acc Nx hi s1 hd ⟨rfl, rfl⟩ nx
        refine ⟨rfl, ?_⟩
        walk_at "n"
        refine ⟨_, _, st s1 ht, rfl, ?_⟩
        walk_at "n"
        exact ⟨⟨by omega, by omega⟩, fun H' s2 => nx _ _ s2 rfl⟩
      · intro ys H1 hl hy s1 hd
        have e := ys_fn hl hy
        walk_at "n"
        refine ⟨(List.range (q.m - 1).toNat).map fun (i : Nat) => monthLen q.y (1 + (i : Int)), ?_, ?_⟩
        · rw [List.map_map]
          rw [e] at hd
          exact SqL.of hd
        walk_at "n"
        refine ⟨_, _, st s1 ht, rfl, ?_⟩
        walk_at "n"
        have r := h _ s1
        rw [date_eq] at r
        exact r
theorem ok__law_date {w : World} {K : PySem.W.Frag} {mg : Str → Option Value} {base : Heap} (TB : Ty K mg base) : F.Fr P w K mg base 2 (He.ga K "_law_date") (sp__law_date K) := (TB.toTx.f__law_date).elim fun fd F1 => fr_of F1 (okF__law_date TB F1) (fun _ _ _ _ _ _ us hl => match us, hl with | [_], _ => rfl)
def sp__law_number (K : PySem.W.Frag) : Sp := fun vs H Q E => match vs with
  | [.ref t] => ∃ q, SqT K H t (moL q) ∧ 1 ≤ q.m ∧ q.m ≤ 12 ∧ ∀ H', Same H H' → Q (.int q.num) H'
  | _ => False
theorem sc__law_number : FnScope ["_law_told"] ["_law_told"] (defScope s__law_number) := ⟨rfl, rfl, rfl, by decide +kernel, rfl, by decide +kernel, by decide +kernel⟩
theorem okF__law_number {w : World} {K : PySem.W.Frag} {mg : Str → Option Value} {base : Heap} {fd : FuncData} (TB : Ty K mg base) (F1 : FunD K "_law_number" "_law_number" (defArgs s__law_number) (defBody s__law_number) (defScope s__law_number) [] [] (He.ga K "_law_number") fd) : FnOk P w K mg base (L2.CX P w) 3 (He.ga K "_law_number") fd ["_law_told"] (sp__law_number K) := by
  have T : Tx K mg := TB.toTx
  have c__law_date : Fc P w K mg base 2 "_law_date" (sp__law_date K) := ⟨_, ok__law_date TB, T.g__law_date, (T.f__law_date).elim fun _ z => z.kp⟩
  refine F1.ok sc__law_number (fun vs H Q E h => ?_) (fun cdv A outer s H vs Q E hr h => ?_)
  · unfold sp__law_number at h
    split at h
    · rfl
    · exact h.elim
  · unfold sp__law_number at h
    split at h
    rotate_left
    · exact h.elim
    · rename_i t
      refine ⟨_, (pss_one (ps_ret (pe_op (k_add K) (pe_op (k_add K) (pe_op o_mul pe_int (e_c c__law_date hr (pa_cons (e_v 0) pa_nil))) (pe_op o_mul pe_int (pe_ix (k_ixT K) (e_v 0) pe_int (fun _ _ => rfl)))) (pe_ix (k_ixT K) (e_v 0) pe_int (fun _ _ => rfl))))), ?_⟩
      obtain ⟨q, ht, m1, m2, h⟩ := h
      walk_at "n"
      refine ⟨q, ht, m1, m2, fun H1 s1 => ?_⟩
      have ht : SqT K H1 t [.int q.y, .int q.m, .int q.d, .int q.h, .int q.i] := st s1 ht
      walk_at "n"
      refine ⟨by unfold CMul; omega, ?_⟩
      walk_at "n"
      refine ⟨_, _, ht, rfl, ?_⟩
      walk_at "n"
      refine ⟨by unfold CMul; omega, ?_⟩
      walk_at "n"
      refine ⟨_, _, ht, rfl, ?_⟩
      walk_at "n"
      have r := h _ s1
      rw [num_eq] at r
      exact r
theorem ok__law_number {w : World} {K : PySem.W.Frag} {mg : Str → Option Value} {base : Heap} (TB : Ty K mg base) : F.Fr P w K mg base 3 (He.ga K "_law_number") (sp__law_number K) := (TB.toTx.f__law_number).elim fun fd F1 => fr_of F1 (okF__law_number TB F1) (fun _ _ _ _ _ _ us hl => match us, hl with | [_], _ => rfl)
end G
set_option maxHeartbeats 400000
namespace G
open PySem PySem.Spec PyProof.Rows L2 F
local macro_rules | `(tactic| walk_at "side") => `(tactic| first | rfl | decide | omega | assumption | (unfold CMul; omega) | (unfold CPow; omega) | (unfold CDiv; omega))
local macro_rules | `(tactic| walk_at "hp") => `(tactic| first | assumption | exact upd_same | (refine upd_keep (by assumption) ?_; walk_at "hp") | (refine sm (by assumption) ?_; walk_at "hp"))
local macro_rules | `(tactic| walk_at "n") => `(tactic| ((try conv => whnf); repeat ((first | with_reducible refine cond_t rfl ?_ | with_reducible refine cond_f rfl ?_ | with_reducible refine cond_n ?_); (try conv => whnf))))
local macro_rules | `(tactic| walk_at "go") => `(tactic| (walk_at "n"; repeat (refine And.intro ?side ?_; (case side => walk_at "side"); walk_at "n")))

open M TL
theorem strOk_tl (z : Str) : PyData.strOk z = (tl z).all (· < 0x110000) := by
  unfold PyData.strOk tl
  rw [← Array.all_toList]
theorem strOk_app (a b : Str) : PyData.strOk (a ++ b) = (PyData.strOk a && PyData.strOk b) := by
  rw [strOk_tl, strOk_tl, strOk_tl, tl_append, List.all_append]
theorem dp_strs {K : PySem.W.Frag} {H : Hp} : ∀ zs : List Str, DpAll K H (zs.map V.str) (zs.map PyData.str)
  | [] => .nil
  | z :: r => .cons (.str z) (dp_strs r)
theorem lay_strs : ∀ zs : List Str, (∀ z ∈ zs, PyData.strOk z = true) → PyData.canLayAll0 (zs.map PyData.str) = true ∧ PyData.depthAll (zs.map PyData.str) = 0
  | [], _ => ⟨rfl, rfl⟩
  | z :: r, h => by
    have ih := lay_strs r fun x hx => h x (List.mem_cons_of_mem _ hx)
    have hz := h z List.mem_cons_self
    constructor
    · simp [PyData.canLayAll0, PyData.canLay0, hz, ih.1]
    · simp [PyData.depthAll, PyData.depth, ih.2]
/-- a list of texts against an empty list -/
theorem ne_strs {K : PySem.W.Frag} {H : Hp} {a b : Addr} {zs : List Str} (h1 : SqL K H a (zs.map V.str)) (h2 : SqL K H b []) (hz : ∀ z ∈ zs, PyData.strOk z = true) : ∃ d e, Dp K H (.ref a) d ∧ Dp K H (.ref b) e ∧ SeqAt.shaped d = true ∧ SeqAt.shaped e = true ∧ PyData.eqv d e = zs.isEmpty := by
  have l := lay_strs zs hz
  refine ⟨.list (zs.map PyData.str), .list [], .lst h1 (dp_strs zs), .lst h2 .nil, ?_, by decide +kernel, ?_⟩
  · unfold SeqAt.shaped
    simp [PyData.canLay0, PyData.depth, l.1, l.2]
  · cases zs <;> simp [PyData.eqv, PyData.eqvAll]

end G
set_option maxHeartbeats 400000
namespace G
open PySem PySem.Spec PyProof.Rows L2 F
local macro_rules | `(tactic| walk_at "side") => `(tactic| first | rfl | decide | omega | assumption | (unfold CMul; omega) | (unfold CPow; omega) | (unfold CDiv; omega))
local macro_rules | `(tactic| walk_at "hp") => `(tactic| first | assumption | exact upd_same | (refine upd_keep (by assumption) ?_; walk_at "hp") | (refine sm (by assumption) ?_; walk_at "hp"))
local macro_rules | `(tactic| walk_at "n") => `(tactic| ((try conv => whnf); repeat ((first | with_reducible refine cond_t rfl ?_ | with_reducible refine cond_f rfl ?_ | with_reducible refine cond_n ?_); (try conv => whnf))))
local macro_rules | `(tactic| walk_at "go") => `(tactic| (walk_at "n"; repeat (refine And.intro ?side ?_; (case side => walk_at "side"); walk_at "n")))

open M TL
/-- the text's signs are below 128 -/
def Asc (z : Str) : Prop := ∀ c, c ∈ tl z → c < 128
theorem Asc.ok {z : Str} (h : Asc z) : PyData.strOk z = true := by
  rw [strOk_tl, List.all_eq_true]
  intro c hc
  have := h c hc
  exact decide_eq_true (by omega)
theorem sign_ok {z : Str} (h : Asc z) {c : Nat} (hc : c ∈ z.cps.toList) : PyData.strOk ⟨#[c]⟩ = true := by
  have := h c hc
  unfold PyData.strOk
  simp
  omega
theorem spl_mem (S : List Nat) : ∀ (l : List Nat) (k : Nat) (acc : List Nat), ∀ p, p ∈ spl S k acc l → ∀ c, c ∈ p → c ∈ acc ∨ c ∈ l
  | [], k, acc, p, h, c, hc => by
    rw [spl_nil] at h
    simp at h
    subst h
    exact .inl hc
  | x :: r, 0, acc, p, h, c, hc => by
    by_cases e : pre S (x :: r) = true
    · rw [spl_hit e] at h
      rcases List.mem_cons.mp h with h | h
      · subst h
        exact .inl hc
      · rcases spl_mem S r _ _ p h c hc with z | z
        · cases z
        · exact .inr (List.mem_cons_of_mem _ z)
    · rw [spl_miss (by simpa using e)] at h
      rcases spl_mem S r _ _ p h c hc with z | z
      · rcases List.mem_append.mp z with z | z
        · exact .inl z
        · simp at z
          exact .inr (by rw [z]; exact List.mem_cons_self)
      · exact .inr (List.mem_cons_of_mem _ z)
  | x :: r, k + 1, acc, p, h, c, hc => by
    rcases spl_mem S r k acc p h c hc with z | z
    · exact .inl z
    · exact .inr (List.mem_cons_of_mem _ z)
theorem Asc.split {z y p : Str} (h : Asc z) (hy : tl y ≠ []) (hk : y.cps.all (· < 256) = true) (hp : p ∈ Txt.split z y) : Asc p := fun c hc => by
  have q := split_spl z y hy (kind_ok hk)
  have m : tl p ∈ (Txt.split z y).map tl := List.mem_map_of_mem hp
  rw [q] at m
  rcases spl_mem _ _ _ _ _ m c hc with e | e
  · cases e
  · exact h c e
/-- digits, so many -/
def digB (z : Str) (lo hi : Int) : Bool := (decide (lo ≤ z.length) && decide ((z.length : Int) ≤ hi)) && z.cps.toList.all isDig
theorem numIn_dig {z : Str} {lo hi : Int} : numIn z lo hi = if digB z lo hi = true then some ((NumText.digitsVal z.cps.toList : Nat) : Int) else none := rfl
theorem all_fil (p : Nat → Bool) : ∀ l : List Nat, (l.filter fun c => !p c).isEmpty = l.all p
  | [] => rfl
  | a :: r => by
    have ih := all_fil p r
    by_cases h : p a = true
    · simp [List.filter, h, ih]
    · simp [List.filter, h]
theorem ys_fil {l : List Nat} {os : List (Option V)} {p : Nat → Bool} {f : Nat → V} (hl : os.length = l.length) (h : ∀ (i : Nat) o, os[i]? = some o → ∃ c, l[i]? = some c ∧ o = if p c = true then some (f c) else none) : os.filterMap id = (l.filter p).map f := by
  have e : os = l.map fun c => if p c = true then some (f c) else none := by
    refine List.ext_getElem? fun i => ?_
    rw [List.getElem?_map]
    by_cases hi : i < l.length
    · obtain ⟨c, hc, ho⟩ := h i (os[i]'(by omega)) (List.getElem?_eq_getElem (by omega))
      rw [List.getElem?_eq_getElem (by omega), ho, hc]
      rfl
    · rw [List.getElem?_eq_none (by omega), List.getElem?_eq_none (by omega)]
      rfl
  rw [e]
  clear h hl e
  induction l with
  | nil => rfl
  | cons a r ih =>
    by_cases hp : p a = true
    · simp [List.filter, hp]
      simpa using ih
    · simp [List.filter, hp]
      simpa using ih
def sp__law_digits (K : PySem.W.Frag) : Sp := fun vs H Q E => match vs with
  | [.str z, .int lo, .int hi] => (z.length ≤ 1000000 ∧ Asc z) ∧ ∀ H', Same H H' → Q (.bl (digB z lo hi)) H'
  | _ => False
theorem sc__law_digits : FnScope ["_law_word", "_law_least", "_law_most", "_law_sign"] ["_law_word", "_law_least", "_law_most"] (defScope s__law_digits) := ⟨rfl, rfl, rfl, by decide +kernel, rfl, by decide +kernel, by decide +kernel⟩
theorem okF__law_digits {w : World} {K : PySem.W.Frag} {mg : Str → Option Value} {base : Heap} {fd : FuncData} (TB : Ty K mg base) (F1 : FunD K "_law_digits" "_law_digits" (defArgs s__law_digits) (defBody s__law_digits) (defScope s__law_digits) [] [] (He.ga K "_law_digits") fd) : FnOk P w K mg base (L2.CX P w) 1 (He.ga K "_law_digits") fd ["_law_word", "_law_least", "_law_most"] (sp__law_digits K) := by
  have T : Tx K mg := TB.toTx
  refine F1.ok sc__law_digits (fun vs H Q E h => ?_) (fun cdv A outer s H vs Q E hr h => ?_)
  · unfold sp__law_digits at h
    split at h
    · rfl
    · exact h.elim
  · unfold sp__law_digits at h
    split at h
    rotate_left
    · exact h.elim
    · rename_i z lo hi
      refine ⟨_, (pss_one (ps_ret (e_and (pe_cmpR o_le (e_v 1) (kk_len K T.b_len (e_v 0)) (nomark _)) (e_and (pe_cmpR o_le (kk_len K T.b_len (e_v 0)) (e_v 2) (nomark _)) (pe_one (pe_cmpR (op_eqD hr.units) (pe_lc (own := [("_law_sign", 3)]) (g := gName 3) rfl sc__law_digits.nd (pi_str (e_v 0)) (blkOk_by (own := [("_law_sign", 3)]) (N := ["_law_word", "_law_least", "_law_most", "_law_sign"]) (sc := defScope s__law_digits) (by decide +kernel)) (fun _ _ _ _ _ => (pg_name (i := 3) sc__law_digits.nd rfl (Or.inl rfl))) (fun _ _ _ _ _ => (pts_one (t_cmp o_notInS (e_v 3) pe_str (by rfl)))) (fun _ _ _ _ _ => (e_v 3))) (pe_lst pa_nil) (nomark _))))))), ?_⟩
      obtain ⟨⟨hz, ha⟩, h⟩ := h
      have hsl : 1000000 ≤ sizeLine := by rw [sizeLine_eq]; decide
      walk_at "n"
      refine ⟨by omega, ?_⟩
      walk_at "n"
      have out : ∀ H', Same H H' → (decide (lo ≤ z.length) && decide ((z.length : Int) ≤ hi)) = false → Q (.bl false) H' := fun H' s e => by
        have q := h H' s
        unfold digB at q
        rw [e] at q
        exact q
      refine cond_p (fun h1 => ?_) (fun h1 => ?_)
      rotate_left
      · exact out _ (Same.refl _) (by simp [h1])
      walk_at "n"
      refine ⟨by omega, ?_⟩
      walk_at "n"
      refine cond_p (fun h2 => ?_) (fun h2 => ?_)
      rotate_left
      · exact out _ (Same.refl _) (by simp [h2])
      walk_at "n"
      refine ⟨z, rfl, fun D hD => lcF (walk_str (z := z)) (fun i o _ => ∃ c, z.cps.toList[i]? = some c ∧ o = if (!isDig c) = true then some (V.str ⟨#[c]⟩) else none) (show z.length ≤ 1000000 by omega) hD (fun _ _ => trivial) (fun _ _ _ _ _ z => z) ?_ ?_⟩
      · rintro i x H1 H2 acc Nx No hi s hd ⟨rfl, c, hc, rfl⟩ nx no
        refine ⟨rfl, ?_⟩
        have hc' : z.cps.toList[i]? = some c := by rw [Array.getElem?_toList]; exact hc
        walk_at "n"
        refine ⟨c, rfl, ?_⟩
        show if (!decide (c ∈ (Str.ofString "0123456789").cps.toList)) = true then _ else _
        rw [dig_in]
        by_cases hb : (!isDig c) = true
        · rw [if_pos hb]
          walk_at "n"
          exact nx _ _ (Same.refl _) ⟨c, hc', by rw [if_pos hb]⟩
        · rw [if_neg hb]
          exact no _ (Same.refl _) ⟨c, hc', by rw [if_neg hb]⟩
      · intro os H1 hl hy s hd
        have e := ys_fil (l := z.cps.toList) (p := fun c => !isDig c) (f := fun c => V.str ⟨#[c]⟩) (by rw [Array.length_toList]; exact hl) hy
        walk_at "n"
        refine ⟨line_of (by simp), fun p hp => ?_⟩
        walk_at "n"
        rw [e] at hd
        have e2 : (z.cps.toList.filter fun c => !isDig c).map (fun c => V.str ⟨#[c]⟩) = ((z.cps.toList.filter fun c => !isDig c).map fun c => (⟨#[c]⟩ : Str)).map V.str := by rw [List.map_map]; rfl
        rw [e2] at hd
        obtain ⟨d1, d2, n1, n2, n3, n4, n5⟩ := ne_strs (K := K) (SqL.of (upd_keep (u := .lst []) hp hd)) (SqL.of upd_same) (fun y hy => by
          obtain ⟨c, hc, rfl⟩ := List.mem_map.mp hy
          exact sign_ok ha (List.mem_filter.mp hc).1)
        refine ⟨d1, d2, n1, n2, n3, n4, ?_⟩
        rw [n5]
        have q := h _ (sto (o := .lst []) s hp)
        unfold digB at q
        rw [decide_eq_true h1, decide_eq_true h2, ← all_fil] at q
        rw [show ((z.cps.toList.filter fun c => !isDig c).map fun c => (⟨#[c]⟩ : Str)).isEmpty = (z.cps.toList.filter fun c => !isDig c).isEmpty from by cases (z.cps.toList.filter fun c => !isDig c) <;> rfl]
        exact q
theorem ok__law_digits {w : World} {K : PySem.W.Frag} {mg : Str → Option Value} {base : Heap} (TB : Ty K mg base) : F.Fr P w K mg base 1 (He.ga K "_law_digits") (sp__law_digits K) := (TB.toTx.f__law_digits).elim fun fd F1 => fr_of F1 (okF__law_digits TB F1) (fun _ _ _ _ _ _ us hl => match us, hl with | [_, _, _], _ => rfl)
end G
set_option maxHeartbeats 400000
namespace G
open PySem PySem.Spec PyProof.Rows L2 F
local macro_rules | `(tactic| walk_at "side") => `(tactic| first | rfl | decide | omega | assumption | (unfold CMul; omega) | (unfold CPow; omega) | (unfold CDiv; omega))
local macro_rules | `(tactic| walk_at "hp") => `(tactic| first | assumption | exact upd_same | (refine upd_keep (by assumption) ?_; walk_at "hp") | (refine sm (by assumption) ?_; walk_at "hp"))
local macro_rules | `(tactic| walk_at "n") => `(tactic| ((try conv => whnf); repeat ((first | with_reducible refine cond_t rfl ?_ | with_reducible refine cond_f rfl ?_ | with_reducible refine cond_n ?_); (try conv => whnf))))
local macro_rules | `(tactic| walk_at "go") => `(tactic| (walk_at "n"; repeat (refine And.intro ?side ?_; (case side => walk_at "side"); walk_at "n")))

open M TL
theorem dig_num {z : Str} {lo hi : Int} (h : digB z lo hi = true) : numIn z lo hi = some ((NumText.digitsVal z.cps.toList : Nat) : Int) := by
  rw [numIn_dig, if_pos h]
theorem dig_no {z : Str} {lo hi : Int} (h : ¬ digB z lo hi = true) : numIn z lo hi = none := by
  rw [numIn_dig, if_neg h]
theorem digB_parts {z : Str} {lo hi : Int} (h : digB z lo hi = true) : lo ≤ z.length ∧ (z.length : Int) ≤ hi ∧ z.cps.toList.all isDig = true := by
  unfold digB at h
  simp only [Bool.and_eq_true, decide_eq_true_eq] at h
  exact ⟨h.1.1, h.1.2, h.2⟩
theorem fold_lt : ∀ (l : List Nat) (acc : Nat), l.all isDig = true → l.foldl (fun a c => a * 10 + (c - 48)) acc < (acc + 1) * 10 ^ l.length
  | [], acc, _ => by simp
  | c :: r, acc, h => by
    simp only [List.all_cons, Bool.and_eq_true] at h
    have ih := fold_lt r (acc * 10 + (c - 48)) h.2
    have hc : c - 48 ≤ 9 := by
      have := h.1
      unfold isDig at this
      simp only [Bool.and_eq_true, decide_eq_true_eq] at this
      omega
    simp only [List.foldl_cons, List.length_cons]
    refine Nat.lt_of_lt_of_le ih ?_
    rw [Nat.pow_succ, Nat.mul_comm (10 ^ r.length) 10, ← Nat.mul_assoc]
    exact Nat.mul_le_mul_right _ (by omega)
theorem dig_lt {z : Str} {lo hi : Int} {n : Nat} (h : digB z lo hi = true) (e : hi = n) : NumText.digitsVal z.cps.toList < 10 ^ n := by
  obtain ⟨_, h2, h3⟩ := digB_parts h
  have := fold_lt z.cps.toList 0 h3
  have hl : z.cps.toList.length = z.length := by rw [Array.length_toList]; rfl
  rw [hl, Nat.zero_add, Nat.one_mul] at this
  have this : NumText.digitsVal z.cps.toList < 10 ^ z.length := this
  exact Nat.lt_of_lt_of_le this (Nat.pow_le_pow_right (by decide) (by omega))
theorem wp_iff {y m d : Int} : wrongPart (.int y) (.int m) (.int d) (.int 0) (.int 0) = .non ↔ (1 ≤ y ∧ y ≤ 999999) ∧ (1 ≤ m ∧ m ≤ 12) ∧ 1 ≤ d ∧ d ≤ monthLen y m :=
  ⟨fun h => by
    have k := ok_of_wrong h
    exact ⟨⟨k.y1, k.y2⟩, ⟨k.m1, k.m2⟩, k.d1, k.d2⟩, fun h => wrongPart_ok ⟨h.1.1, h.1.2, h.2.1.1, h.2.1.2, h.2.2.1, h.2.2.2, by show (0 : Int) ≤ 0; decide, by show (0 : Int) ≤ 23; decide, by show (0 : Int) ≤ 0; decide, by show (0 : Int) ≤ 59; decide⟩⟩
theorem di_1 {a b c : Str} (h : ¬ digB a 4 6 = true) : dateIn' a b c = none := by
  unfold dateIn'
  rw [dig_no h]
  split <;> rfl
theorem di_2 {a b c : Str} (h : ¬ digB b 2 2 = true) : dateIn' a b c = none := by
  unfold dateIn'
  rw [dig_no h]
  split
  · rfl
  · cases numIn a 4 6 <;> rfl
theorem di_3 {a b c : Str} (h : ¬ digB c 2 2 = true) : dateIn' a b c = none := by
  unfold dateIn'
  rw [dig_no h]
  split
  · rfl
  · cases numIn a 4 6 <;> cases numIn b 2 2 <;> rfl
theorem di_ok {a b c : Str} (ha : digB a 4 6 = true) (hb : digB b 2 2 = true) (hc : digB c 2 2 = true) (nb : badYear a = false) : dateIn' a b c = if wrongPart (.int (NumText.digitsVal a.cps.toList : Nat)) (.int (NumText.digitsVal b.cps.toList : Nat)) (.int (NumText.digitsVal c.cps.toList : Nat)) (.int 0) (.int 0) = .non then some (((NumText.digitsVal a.cps.toList : Nat) : Int), ((NumText.digitsVal b.cps.toList : Nat) : Int), ((NumText.digitsVal c.cps.toList : Nat) : Int)) else none := by
  unfold dateIn'
  rw [dig_num ha, dig_num hb, dig_num hc, if_neg (by rw [nb]; decide)]
theorem ti_1 {a b : Str} (h : ¬ digB a 2 2 = true) : timeIn' a b = none := by
  unfold timeIn'
  rw [dig_no h]
theorem ti_2 {a b : Str} (h : ¬ digB b 2 2 = true) : timeIn' a b = none := by
  unfold timeIn'
  rw [dig_no h]
  cases numIn a 2 2 <;> rfl
theorem ti_ok {a b : Str} (ha : digB a 2 2 = true) (hb : digB b 2 2 = true) : timeIn' a b = if wrongPart (.int 1) (.int 1) (.int 1) (.int (NumText.digitsVal a.cps.toList : Nat)) (.int (NumText.digitsVal b.cps.toList : Nat)) = .non then some (((NumText.digitsVal a.cps.toList : Nat) : Int), ((NumText.digitsVal b.cps.toList : Nat) : Int)) else none := by
  unfold timeIn'
  rw [dig_num ha, dig_num hb]
theorem wt_iff {h i : Int} : wrongPart (.int 1) (.int 1) (.int 1) (.int h) (.int i) = .non ↔ (0 ≤ h ∧ h ≤ 23) ∧ 0 ≤ i ∧ i ≤ 59 :=
  ⟨fun e => by
    have k := ok_of_wrong e
    exact ⟨⟨k.h1, k.h2⟩, k.i1, k.i2⟩, fun e => wrongPart_ok ⟨by show (1 : Int) ≤ 1; decide, by show (1 : Int) ≤ 999999; decide, by show (1 : Int) ≤ 1; decide, by show (1 : Int) ≤ 12; decide, by show (1 : Int) ≤ 1; decide, by show (1 : Int) ≤ monthLen 1 1; decide +kernel, e.1.1, e.1.2, e.2.1, e.2.2⟩⟩
theorem cut_one {z : Str} (h : 4 < (z.length : Int)) : cutS z none (some 1) = ⟨#[z.cps.toList.headD 0]⟩ := by
  have hl : z.cps.toList.length = z.length := by rw [Array.length_toList]; rfl
  unfold cutS
  have e1 : HT.sIx z.length 0 none = 0 := rfl
  have e2 : HT.sIx z.length z.length (some 1) = 1 := by
    show (if (1 : Int) < 0 then (z.length - (-(1 : Int)).toNat) else min (1 : Int).toNat z.length) = 1
    rw [if_neg (by decide)]
    show min 1 z.length = 1
    omega
  rw [e1, e2]
  cases e : z.cps.toList with
  | nil => rw [e] at hl; simp at hl; omega
  | cons c r => rfl
def sp__law_date_in (K : PySem.W.Frag) : Sp := fun vs H Q E => match vs with
  | [.str z] => (z.length ≤ 1000000 ∧ Asc z) ∧ (dateIn z = none → ∀ H', Same H H' → Q .non H') ∧ (∀ y m d, dateIn z = some (y, m, d) → ∀ p H', Same H H' → H p = none → H' p = some (.tup [.int y, .int m, .int d]) → Q (.ref p) H')
  | _ => False
theorem sc__law_date_in : FnScope ["_law_word", "_law_parts", "_law_found"] ["_law_word"] (defScope s__law_date_in) := ⟨rfl, rfl, rfl, by decide +kernel, rfl, by decide +kernel, by decide +kernel⟩
theorem okF__law_date_in {w : World} {K : PySem.W.Frag} {mg : Str → Option Value} {base : Heap} {fd : FuncData} (TB : Ty K mg base) (F1 : FunD K "_law_date_in" "_law_date_in" (defArgs s__law_date_in) (defBody s__law_date_in) (defScope s__law_date_in) [] [] (He.ga K "_law_date_in") fd) : FnOk P w K mg base (L2.CX P w) 3 (He.ga K "_law_date_in") fd ["_law_word"] (sp__law_date_in K) := by
  have T : Tx K mg := TB.toTx
  have c__law_digits : Fc P w K mg base 1 "_law_digits" (sp__law_digits K) := ⟨_, ok__law_digits TB, T.g__law_digits, (T.f__law_digits).elim fun _ z => z.kp⟩
  have c__law_length : Fc P w K mg base 1 "_law_length" (sp__law_length K) := ⟨_, ok__law_length TB, T.g__law_length, (T.f__law_length).elim fun _ z => z.kp⟩
  refine F1.ok sc__law_date_in (fun vs H Q E h => ?_) (fun cdv A outer s H vs Q E hr h => ?_)
  · unfold sp__law_date_in at h
    split at h
    · rfl
    · exact h.elim
  · unfold sp__law_date_in at h
    split at h
    rotate_left
    · exact h.elim
    · rename_i z
      refine ⟨_, (pss_cons (ps_set (i := 1) sc__law_date_in.nd rfl (Or.inl rfl) (e_split (e_v 0) pe_str))
        (pss_cons (s_if (PW.pt (w_or (t_cmp o_ne (kk_len K T.b_len (e_v 1)) pe_int (nomark _)) (w_or (pt_not (t_tru (e_c c__law_digits hr (pa_cons (pe_ix (k_ixL K) (e_v 1) pe_int (fun _ _ => rfl)) (pa_cons pe_int (pa_cons pe_int pa_nil)))))) (w_or1 (pt_not (t_tru (e_c c__law_digits hr (pa_cons (pe_ix (k_ixL K) (e_v 1) pe_int (fun _ _ => rfl)) (pa_cons pe_int (pa_cons pe_int pa_nil)))))))))) (pss_one (ps_ret pe_non)) pss_nil)
        (pss_cons (s_if (PW.pt (w_or (pt_not (t_tru (e_c c__law_digits hr (pa_cons (pe_ix (k_ixL K) (e_v 1) pe_int (fun _ _ => rfl)) (pa_cons pe_int (pa_cons pe_int pa_nil)))))) (w_or1 (PW.pt (w_and (t_cmp o_gt (kk_len K T.b_len (pe_ix (k_ixL K) (e_v 1) pe_int (fun _ _ => rfl))) pe_int (nomark _)) (w_and1 (t_cmp o_eq (pe_slice sl_str (pe_ix (k_ixL K) (e_v 1) pe_int (fun _ _ => rfl)) po_none (po_some pe_int)) pe_str (nomark _)))))))) (pss_one (ps_ret pe_non)) pss_nil)
        (pss_cons (ps_set (i := 2) sc__law_date_in.nd rfl (Or.inl rfl) (pe_tup (pa_cons (e_int T.b_int (pe_ix (k_ixL K) (e_v 1) pe_int (fun _ _ => rfl))) (pa_cons (e_int T.b_int (pe_ix (k_ixL K) (e_v 1) pe_int (fun _ _ => rfl))) (pa_cons (e_int T.b_int (pe_ix (k_ixL K) (e_v 1) pe_int (fun _ _ => rfl))) pa_nil)))))
        (pss_cons (s_if (PW.pt (w_or (t_cmp o_eq (pe_ix (k_ixT K) (e_v 2) pe_int (fun _ _ => rfl)) pe_int (nomark _)) (w_or (t_cmp o_eq (pe_ix (k_ixT K) (e_v 2) pe_int (fun _ _ => rfl)) pe_int (nomark _)) (w_or (t_cmp o_gt (pe_ix (k_ixT K) (e_v 2) pe_int (fun _ _ => rfl)) pe_int (nomark _)) (w_or1 (t_cmp o_eq (pe_ix (k_ixT K) (e_v 2) pe_int (fun _ _ => rfl)) pe_int (nomark _))))))) (pss_one (ps_ret pe_non)) pss_nil)
        (pss_one (ps_ret (e_if (t_cmp o_le (pe_ix (k_ixT K) (e_v 2) pe_int (fun _ _ => rfl)) (e_c c__law_length hr (pa_cons (pe_ix (k_ixT K) (e_v 2) pe_int (fun _ _ => rfl)) (pa_cons (pe_ix (k_ixT K) (e_v 2) pe_int (fun _ _ => rfl)) pa_nil))) (nomark _)) (e_v 2) pe_non)))))))), ?_⟩
      obtain ⟨⟨hz, ha⟩, hn, hs⟩ := h
      have hsl : 1000003 ≤ sizeLine := by rw [sizeLine_eq]; decide
      walk_at "n"
      refine ⟨⟨rfl, by omega⟩, fun p hp => ?_⟩
      walk_at "n"
      have le : ∀ q, q ∈ Txt.split z "-" → q.length ≤ 1000000 ∧ Asc q := fun q hq => ⟨Nat.le_trans (split_le (y := "-") (by decide +kernel) (by decide +kernel) hq) hz, ha.split (by decide +kernel) (by decide +kernel) hq⟩
      have out : dateIn z = none → Q .non (upd H p (.lst ((Txt.split z "-").map V.str))) := fun e => hn e _ (snew hp)
      unfold dateIn at hn hs out
      refine .inl ⟨_, .inl (SqL.of upd_same), ?_⟩
      rcases e : Txt.split z "-" with _ | ⟨a, _ | ⟨b, _ | ⟨c, _ | ⟨d, r⟩⟩⟩⟩ <;> rw [e] at hn hs out le
      · walk_at "n"
        exact out rfl
      · walk_at "n"
        exact out rfl
      · walk_at "n"
        exact out rfl
      rotate_left
      · walk_at "n"
        exact out rfl
      have hn : dateIn' a b c = none → ∀ H', Same H H' → Q .non H' := hn
      have hs : ∀ y m d, dateIn' a b c = some (y, m, d) → ∀ p H', Same H H' → H p = none → H' p = some (.tup [.int y, .int m, .int d]) → Q (.ref p) H' := hs
      walk_at "n"
      obtain ⟨la, aa⟩ := le a (by simp)
      obtain ⟨lb, ab⟩ := le b (by simp)
      obtain ⟨lc, ac⟩ := le c (by simp)
      have sq : SqL K (upd H p (.lst ([a, b, c].map V.str))) p [.str a, .str b, .str c] := SqL.of upd_same
      have s1 : Same H (upd H p (.lst ([a, b, c].map V.str))) := snew hp
      refine ⟨_, _, sq, rfl, ?_⟩
      walk_at "n"
      refine ⟨⟨la, aa⟩, fun H2 s2 => ?_⟩
      walk_at "n"
      refine cond_b (fun d1 => ?_) (fun d1 => ?_)
      rotate_left
      · walk_at "n"
        exact hn (di_1 (by rw [d1]; decide)) _ (s1.trans s2)
      walk_at "n"
      refine ⟨_, _, sl s2 sq, rfl, ?_⟩
      walk_at "n"
      refine ⟨⟨lb, ab⟩, fun H3 s3 => ?_⟩
      walk_at "n"
      refine cond_b (fun d2 => ?_) (fun d2 => ?_)
      rotate_left
      · walk_at "n"
        exact hn (di_2 (by rw [d2]; decide)) _ (s1.trans (s2.trans s3))
      walk_at "n"
      have sq3 := sl (s2.trans s3) sq
      refine ⟨_, _, sq3, rfl, ?_⟩
      walk_at "n"
      refine ⟨⟨lc, ac⟩, fun H4 s4 => ?_⟩
      walk_at "n"
      refine cond_b (fun d3 => ?_) (fun d3 => ?_)
      rotate_left
      · walk_at "n"
        exact hn (di_3 (by rw [d3]; decide)) _ (s1.trans (s2.trans (s3.trans s4)))
      have sq4 := sl s4 sq3
      have s04 := s1.trans (s2.trans (s3.trans s4))
      have hp4 : H4 p = some (.lst [.str a, .str b, .str c]) := s4 _ _ (s3 _ _ (s2 _ _ upd_same))
      walk_at "n"
      refine ⟨_, _, sq4, rfl, ?_⟩
      walk_at "n"
      refine ⟨by omega, ?_⟩
      walk_at "n"
      refine cond_p (fun h4 => ?a1) (fun h4 => ?a2)
      case' a1 =>
        walk_at "n"
        refine ⟨_, _, sq4, rfl, ?_⟩
        walk_at "n"
        refine ⟨1, rfl, ?_⟩
        walk_at "n"
        refine ⟨_, rfl, by omega, ?_⟩
        rw [cut_one h4]
        walk_at "n"
        refine cond_p (fun h0 => ?a3) (fun h0 => ?a4)
        case' a3 =>
          walk_at "n"
          exact hn (if_pos (by unfold badYear; rw [decide_eq_true h4, decide_eq_true h0]; rfl)) _ s04
      all_goals
        have by0 : badYear a = false := by
          unfold badYear
          first | (rw [decide_eq_false h0, Bool.and_false]) | (rw [decide_eq_false h4, Bool.false_and])
        have dk := di_ok d1 d2 d3 by0
        rw [dk] at hn hs
        obtain ⟨a1, a2, a3⟩ := digB_parts d1
        obtain ⟨b1, b2, b3⟩ := digB_parts d2
        obtain ⟨c1, c2, c3⟩ := digB_parts d3
        obtain ⟨i1, j1⟩ := numIn_int a1 a2 (by decide) (by decide) a3
        obtain ⟨i2, j2⟩ := numIn_int b1 b2 (by decide) (by decide) b3
        obtain ⟨i3, j3⟩ := numIn_int c1 c2 (by decide) (by decide) c3
        have yb := dig_lt (n := 6) d1 rfl
        generalize NumText.digitsVal a.cps.toList = y at *
        generalize NumText.digitsVal b.cps.toList = m at *
        generalize NumText.digitsVal c.cps.toList = d at *
        walk_at "n"
        refine ⟨_, _, sq4, rfl, ?_⟩
        walk_at "n"
        refine ⟨_, i1, j1, ?_⟩
        walk_at "n"
        refine ⟨_, _, sq4, rfl, ?_⟩
        walk_at "n"
        refine ⟨_, i2, j2, ?_⟩
        walk_at "n"
        refine ⟨_, _, sq4, rfl, ?_⟩
        walk_at "n"
        refine ⟨_, i3, j3, ?_⟩
        walk_at "n"
        refine ⟨line_of (by simp), fun q hq => ?_⟩
        walk_at "n"
        have sf : SqT K (upd H4 q (.tup [.int (y : Nat), .int (m : Nat), .int (d : Nat)])) q [.int (y : Nat), .int (m : Nat), .int (d : Nat)] := .inl (.inl upd_same)
        have sg : Same H (upd H4 q (.tup [.int (y : Nat), .int (m : Nat), .int (d : Nat)])) := sto s04 hq
        have hq0 : H q = none := s04.free hq
        have no : ¬ ((1 ≤ (y : Int) ∧ (y : Int) ≤ 999999) ∧ (1 ≤ (m : Int) ∧ (m : Int) ≤ 12) ∧ 1 ≤ (d : Int) ∧ (d : Int) ≤ monthLen y m) → ∀ H', Same H H' → Q .non H' := fun z => hn (if_neg fun w => z (wp_iff.mp w))
        have gq := upd_same (H := H4) (a := q) (o := .tup [.int (y : Nat), .int (m : Nat), .int (d : Nat)])
        generalize upd H4 q (.tup [.int (y : Nat), .int (m : Nat), .int (d : Nat)]) = H5 at *
        refine ⟨_, _, sf, rfl, ?_⟩
        walk_at "n"
        refine cond_p (fun k1 => ?_) (fun k1 => ?_)
        · walk_at "n"
          exact no (by omega) _ sg
        walk_at "n"
        refine ⟨_, _, sf, rfl, ?_⟩
        walk_at "n"
        refine cond_p (fun k2 => ?_) (fun k2 => ?_)
        · walk_at "n"
          exact no (by omega) _ sg
        walk_at "n"
        refine ⟨_, _, sf, rfl, ?_⟩
        walk_at "n"
        refine cond_p (fun k3 => ?_) (fun k3 => ?_)
        · walk_at "n"
          exact no (by omega) _ sg
        walk_at "n"
        refine ⟨_, _, sf, rfl, ?_⟩
        walk_at "n"
        refine cond_p (fun k4 => ?_) (fun k4 => ?_)
        · walk_at "n"
          exact no (by omega) _ sg
        walk_at "n"
        refine ⟨_, _, sf, rfl, ?_⟩
        walk_at "n"
        refine ⟨_, _, sf, rfl, ?_⟩
        walk_at "n"
        refine ⟨_, _, sf, rfl, ?_⟩
        walk_at "n"
        refine ⟨⟨by omega, by omega⟩, fun H6 s6 => ?_⟩
        walk_at "n"
        refine cond_p (fun k5 => ?_) (fun k5 => ?_)
        · walk_at "n"
          refine hs _ _ _ (if_pos (wp_iff.mpr ⟨⟨by omega, by have e6 : (10 : Nat) ^ 6 = 1000000 := (by decide); omega⟩, ⟨by omega, by omega⟩, by omega, k5⟩)) q _ (sg.trans s6) hq0 (s6 _ _ gq)
        · walk_at "n"
          exact no (fun z => k5 z.2.2.2) _ (sg.trans s6)
theorem ok__law_date_in {w : World} {K : PySem.W.Frag} {mg : Str → Option Value} {base : Heap} (TB : Ty K mg base) : F.Fr P w K mg base 3 (He.ga K "_law_date_in") (sp__law_date_in K) := (TB.toTx.f__law_date_in).elim fun fd F1 => fr_of F1 (okF__law_date_in TB F1) (fun _ _ _ _ _ _ us hl => match us, hl with | [_], _ => rfl)
def sp__law_time_in (K : PySem.W.Frag) : Sp := fun vs H Q E => match vs with
  | [.str z] => (z.length ≤ 1000000 ∧ Asc z) ∧ (timeIn z = none → ∀ H', Same H H' → Q .non H') ∧ (∀ h i, timeIn z = some (h, i) → ∀ p H', Same H H' → H p = none → H' p = some (.tup [.int h, .int i]) → Q (.ref p) H')
  | _ => False
theorem sc__law_time_in : FnScope ["_law_word", "_law_parts"] ["_law_word"] (defScope s__law_time_in) := ⟨rfl, rfl, rfl, by decide +kernel, rfl, by decide +kernel, by decide +kernel⟩
theorem okF__law_time_in {w : World} {K : PySem.W.Frag} {mg : Str → Option Value} {base : Heap} {fd : FuncData} (TB : Ty K mg base) (F1 : FunD K "_law_time_in" "_law_time_in" (defArgs s__law_time_in) (defBody s__law_time_in) (defScope s__law_time_in) [] [] (He.ga K "_law_time_in") fd) : FnOk P w K mg base (L2.CX P w) 2 (He.ga K "_law_time_in") fd ["_law_word"] (sp__law_time_in K) := by
  have T : Tx K mg := TB.toTx
  have c__law_digits : Fc P w K mg base 1 "_law_digits" (sp__law_digits K) := ⟨_, ok__law_digits TB, T.g__law_digits, (T.f__law_digits).elim fun _ z => z.kp⟩
  refine F1.ok sc__law_time_in (fun vs H Q E h => ?_) (fun cdv A outer s H vs Q E hr h => ?_)
  · unfold sp__law_time_in at h
    split at h
    · rfl
    · exact h.elim
  · unfold sp__law_time_in at h
    split at h
    rotate_left
    · exact h.elim
    · rename_i z
      refine ⟨_, (pss_cons (ps_set (i := 1) sc__law_time_in.nd rfl (Or.inl rfl) (e_split (e_v 0) pe_str))
        (pss_cons (s_if (PW.pt (w_or (t_cmp o_ne (kk_len K T.b_len (e_v 1)) pe_int (nomark _)) (w_or (pt_not (t_tru (e_c c__law_digits hr (pa_cons (pe_ix (k_ixL K) (e_v 1) pe_int (fun _ _ => rfl)) (pa_cons pe_int (pa_cons pe_int pa_nil)))))) (w_or1 (pt_not (t_tru (e_c c__law_digits hr (pa_cons (pe_ix (k_ixL K) (e_v 1) pe_int (fun _ _ => rfl)) (pa_cons pe_int (pa_cons pe_int pa_nil)))))))))) (pss_one (ps_ret pe_non)) pss_nil)
        (pss_one (ps_ret (e_if (PW.pt (w_and (t_cmp o_lt (e_int T.b_int (pe_ix (k_ixL K) (e_v 1) pe_int (fun _ _ => rfl))) pe_int (nomark _)) (w_and1 (t_cmp o_lt (e_int T.b_int (pe_ix (k_ixL K) (e_v 1) pe_int (fun _ _ => rfl))) pe_int (nomark _))))) (pe_tup (pa_cons (e_int T.b_int (pe_ix (k_ixL K) (e_v 1) pe_int (fun _ _ => rfl))) (pa_cons (e_int T.b_int (pe_ix (k_ixL K) (e_v 1) pe_int (fun _ _ => rfl))) pa_nil))) pe_non))))), ?_⟩
      obtain ⟨⟨hz, ha⟩, hn, hs⟩ := h
      have hsl : 1000003 ≤ sizeLine := by rw [sizeLine_eq]; decide
      walk_at "n"
      refine ⟨⟨rfl, by omega⟩, fun p hp => ?_⟩
      walk_at "n"
      have le : ∀ q, q ∈ Txt.split z ":" → q.length ≤ 1000000 ∧ Asc q := fun q hq => ⟨Nat.le_trans (split_le (y := ":") (by decide +kernel) (by decide +kernel) hq) hz, ha.split (by decide +kernel) (by decide +kernel) hq⟩
      have out : timeIn z = none → Q .non (upd H p (.lst ((Txt.split z ":").map V.str))) := fun e => hn e _ (snew hp)
      unfold timeIn at hn hs out
      refine .inl ⟨_, .inl (SqL.of upd_same), ?_⟩
      rcases e : Txt.split z ":" with _ | ⟨a, _ | ⟨b, _ | ⟨c, r⟩⟩⟩ <;> rw [e] at hn hs out le
      · walk_at "n"
        exact out rfl
      · walk_at "n"
        exact out rfl
      rotate_left
      · walk_at "n"
        exact out rfl
      have hn : timeIn' a b = none → ∀ H', Same H H' → Q .non H' := hn
      have hs : ∀ h i, timeIn' a b = some (h, i) → ∀ p H', Same H H' → H p = none → H' p = some (.tup [.int h, .int i]) → Q (.ref p) H' := hs
      walk_at "n"
      obtain ⟨la, aa⟩ := le a (by simp)
      obtain ⟨lb, ab⟩ := le b (by simp)
      have sq : SqL K (upd H p (.lst ([a, b].map V.str))) p [.str a, .str b] := SqL.of upd_same
      have s1 : Same H (upd H p (.lst ([a, b].map V.str))) := snew hp
      refine ⟨_, _, sq, rfl, ?_⟩
      walk_at "n"
      refine ⟨⟨la, aa⟩, fun H2 s2 => ?_⟩
      walk_at "n"
      refine cond_b (fun d1 => ?_) (fun d1 => ?_)
      rotate_left
      · walk_at "n"
        exact hn (ti_1 (by rw [d1]; decide)) _ (s1.trans s2)
      walk_at "n"
      refine ⟨_, _, sl s2 sq, rfl, ?_⟩
      walk_at "n"
      refine ⟨⟨lb, ab⟩, fun H3 s3 => ?_⟩
      walk_at "n"
      refine cond_b (fun d2 => ?_) (fun d2 => ?_)
      rotate_left
      · walk_at "n"
        exact hn (ti_2 (by rw [d2]; decide)) _ (s1.trans (s2.trans s3))
      have sq3 := sl (s2.trans s3) sq
      have s03 := s1.trans (s2.trans s3)
      have dk := ti_ok d1 d2
      rw [dk] at hn hs
      obtain ⟨a1, a2, a3⟩ := digB_parts d1
      obtain ⟨b1, b2, b3⟩ := digB_parts d2
      obtain ⟨i1, j1⟩ := numIn_int a1 a2 (by decide) (by decide) a3
      obtain ⟨i2, j2⟩ := numIn_int b1 b2 (by decide) (by decide) b3
      generalize NumText.digitsVal a.cps.toList = y at *
      generalize NumText.digitsVal b.cps.toList = m at *
      walk_at "n"
      refine ⟨_, _, sq3, rfl, ?_⟩
      walk_at "n"
      refine ⟨_, i1, j1, ?_⟩
      walk_at "n"
      refine cond_p (fun k1 => ?_) (fun k1 => ?_)
      rotate_left
      · walk_at "n"
        exact hn (if_neg fun w => k1 (by have := (wt_iff.mp w); omega)) _ s03
      walk_at "n"
      refine ⟨_, _, sq3, rfl, ?_⟩
      walk_at "n"
      refine ⟨_, i2, j2, ?_⟩
      walk_at "n"
      refine cond_p (fun k2 => ?_) (fun k2 => ?_)
      rotate_left
      · walk_at "n"
        exact hn (if_neg fun w => k2 (by have := (wt_iff.mp w); omega)) _ s03
      walk_at "n"
      refine ⟨_, _, sq3, rfl, ?_⟩
      walk_at "n"
      refine ⟨_, i1, j1, ?_⟩
      walk_at "n"
      refine ⟨_, _, sq3, rfl, ?_⟩
      walk_at "n"
      refine ⟨_, i2, j2, ?_⟩
      walk_at "n"
      refine ⟨line_of (by simp), fun q hq => ?_⟩
      walk_at "n"
      exact hs _ _ (if_pos (wt_iff.mpr ⟨by omega, by omega⟩)) q _ (sto s03 hq) (s03.free hq) upd_same
theorem ok__law_time_in {w : World} {K : PySem.W.Frag} {mg : Str → Option Value} {base : Heap} (TB : Ty K mg base) : F.Fr P w K mg base 2 (He.ga K "_law_time_in") (sp__law_time_in K) := (TB.toTx.f__law_time_in).elim fun fd F1 => fr_of F1 (okF__law_time_in TB F1) (fun _ _ _ _ _ _ us hl => match us, hl with | [_], _ => rfl)
end G
set_option maxHeartbeats 400000
namespace G
open PySem PySem.Spec PyProof.Rows L2 F
local macro_rules | `(tactic| walk_at "side") => `(tactic| first | rfl | decide | omega | assumption | (unfold CMul; omega) | (unfold CPow; omega) | (unfold CDiv; omega))
local macro_rules | `(tactic| walk_at "hp") => `(tactic| first | assumption | exact upd_same | (refine upd_keep (by assumption) ?_; walk_at "hp") | (refine sm (by assumption) ?_; walk_at "hp"))
local macro_rules | `(tactic| walk_at "n") => `(tactic| ((try conv => whnf); repeat ((first | with_reducible refine cond_t rfl ?_ | with_reducible refine cond_f rfl ?_ | with_reducible refine cond_n ?_); (try conv => whnf))))
local macro_rules | `(tactic| walk_at "go") => `(tactic| (walk_at "n"; repeat (refine And.intro ?side ?_; (case side => walk_at "side"); walk_at "n")))

open M TL
/-- the functions that a line's words are asked by -/
def AskF (K : PySem.W.Frag) (f : Addr) (sp : Sp) : Prop := (f = He.ga K "_law_date_in" ∧ sp = sp__law_date_in K) ∨ (f = He.ga K "_law_time_in" ∧ sp = sp__law_time_in K)
def dueV (zs : List Str) : V := match entOut zs with
  | .error k => .int (k : Int)
  | .ok _ => .non
def sp__law_line_due (K : PySem.W.Frag) : Sp := fun vs H Q E => match vs with
  | [.ref l] => ∃ zs : List Str, SqL K H l (zs.map V.str) ∧ zs ≠ [] ∧ (∀ z, z ∈ zs → z.length ≤ 1000000 ∧ Asc z) ∧ zs.length ≤ 1000000 ∧ ∀ H', Same H H' → Q (dueV zs) H'
  | _ => False
theorem sc__law_line_due : FnScope ["_law_words", "_law_many", "_law_k", "_law_at", "_law_ask"] ["_law_words"] (defScope s__law_line_due) := ⟨rfl, rfl, rfl, by decide +kernel, rfl, by decide +kernel, by decide +kernel⟩
theorem okF__law_line_due {w : World} {K : PySem.W.Frag} {mg : Str → Option Value} {base : Heap} {fd : FuncData} (TB : Ty K mg base) (F1 : FunD K "_law_line_due" "_law_line_due" (defArgs s__law_line_due) (defBody s__law_line_due) (defScope s__law_line_due) [] [] (He.ga K "_law_line_due") fd) : FnOk P w K mg base (L2.CX P w) 4 (He.ga K "_law_line_due") fd ["_law_words"] (sp__law_line_due K) := by
  have T : Tx K mg := TB.toTx
  have askA : ∀ f sp, AskF K f sp → F.Fr P w K mg base 3 f sp ∧ PySem.W.keepIn K (.ref f) = true := fun f sp h => by
    rcases h with ⟨rfl, rfl⟩ | ⟨rfl, rfl⟩
    · exact ⟨ok__law_date_in TB, (T.f__law_date_in).elim fun _ z => z.kp⟩
    · exact ⟨L2.FnR.mono (ok__law_time_in TB) (by decide), (T.f__law_time_in).elim fun _ z => z.kp⟩
  refine F1.ok sc__law_line_due (fun vs H Q E h => ?_) (fun cdv A outer s H vs Q E hr h => ?_)
  · unfold sp__law_line_due at h
    split at h
    · rfl
    · exact h.elim
  · unfold sp__law_line_due at h
    split at h
    rotate_left
    · exact h.elim
    · rename_i l
      refine ⟨_, (pss_cons (ps_set (i := 1) sc__law_line_due.nd rfl (Or.inl rfl) (pe_dget2 (hu_of hr) (pe_disp (pps_cons pe_str pe_int (pps_cons pe_str pe_int pps_nil)) (by rfl) (by rfl) (fun z => by cases z) (by decide)) (pe_ix (k_ixL K) (e_v 0) pe_int (fun _ _ => rfl)) pe_int ⟨rfl, rfl, rfl, rfl⟩))
        (pss_cons (s_if (t_cmp o_eq (e_v 1) pe_int (nomark _)) (pss_one (ps_ret pe_int)) pss_nil)
        (pss_cons (ps_for (passes_of rfl) rfl (pi_range1 rfl T.b_range (pa_cons (e_v 1) pa_nil)) (pg_name (i := 2) sc__law_line_due.nd rfl (Or.inl rfl))
          (pss_one (ps_for (passes_of rfl) rfl (pi_list (pe_lst (pa_cons (pe_tup (pa_cons (pe_op (k_add K) pe_int (pe_op o_mul pe_int (e_v 2))) (pa_cons (pe_glob (v := .ref (He.ga K "_law_date_in")) rfl T.g__law_date_in rfl) pa_nil))) (pa_cons (pe_tup (pa_cons (pe_op (k_add K) pe_int (pe_op o_mul pe_int (e_v 2))) (pa_cons (pe_glob (v := .ref (He.ga K "_law_time_in")) rfl T.g__law_time_in rfl) pa_nil))) pa_nil)))) (kg_tup K (n := 2) rfl (fgs_cons (pg_name (i := 3) sc__law_line_due.nd rfl (Or.inl rfl)) (fgs_cons (pg_name (i := 4) sc__law_line_due.nd rfl (Or.inl rfl)) fgs_nil)))
          (pss_cons (s_if (t_cmp o_ge (e_v 3) (kk_len K T.b_len (e_v 0)) (nomark _)) (pss_one (ps_ret (kk_len K T.b_len (e_v 0)))) pss_nil)
        (pss_one (s_if (t_cmp o_is (e_cL (i := 4) askA hr passE rfl (Or.inl rfl) (pa_cons (pe_ix (k_ixL K) (e_v 0) (e_v 3) (fun _ _ => rfl)) pa_nil)) pe_non (nomark _)) (pss_one (ps_ret (e_v 3))) pss_nil))))))
        (pss_one (ps_ret (e_if (t_cmp o_gt (kk_len K T.b_len (e_v 0)) (pe_op (k_add K) pe_int (pe_op o_mul pe_int (e_v 1))) (nomark _)) (pe_op (k_add K) pe_int (pe_op o_mul pe_int (e_v 1))) pe_non)))))), ?_⟩
      obtain ⟨zs, hl, hne, hzs, hz, h⟩ := h
      have a0 : atI (zs.map V.str) 0 = some (.str (zs.headD "")) := by
        cases zs with
        | nil => exact absurd rfl hne
        | cons a r =>
          rw [atI_lt (by decide) (by simp)]
          rfl
      have hw := entMany_val (zs.headD "")
      walk_at "n"
      intro p hp
      walk_at "n"
      refine ⟨upd_same, [(.inr "ring", .int 1), (.inr "watch", .int 2)], rfl, by decide, ?_⟩
      have s0 : Same H (upd (upd H p (.dK [])) p (.dK (mergeK [] [(.inr "ring", .int 1), (.inr "watch", .int 2)]))) := sput (snew hp) hp
      walk_at "n"
      refine ⟨_, rfl, .inl ⟨_, .inl upd_same⟩, ?_⟩
      walk_at "n"
      refine ⟨_, _, sl s0 hl, a0, ?_⟩
      walk_at "n"
      refine ⟨_, DGet.k (k := .inr _) upd_same, ?_⟩
      rw [hw]
      generalize upd (upd H p (.dK [])) p (.dK (mergeK [] [(.inr "ring", .int 1), (.inr "watch", .int 2)])) = H0 at *
      cases hm : entMany (zs.headD "") with
      | none =>
        have ho : dueV zs = .int 0 := by
          unfold dueV entOut
          rw [hm]
          rfl
        rw [ho] at h
        walk_at "n"
        exact h _ s0
      | some n =>
        have h12 := entMany_12 hm
        walk_at "n"
        refine cond_nq (by omega) ?_
        walk_at "n"
        have a1 : ∀ (j : Nat) z, zs[j]? = some z → atI (zs.map V.str) (j : Int) = some (.str z) := fun j z hj => by
          have hlt : j < zs.length := (List.getElem?_eq_some_iff.mp hj).1
          rw [atI_lt (by omega) (by simp; omega), List.getElem?_map]
          simp [hj]
        have el : (zs.map V.str).length = zs.length := List.length_map ..
        have fail : ∀ (i k : Nat), i < n → (∀ j, j < i → ∃ q, momOut zs (1 + 2 * j) = .ok q) → momOut zs (1 + 2 * i) = .error k → ∀ H', Same H H' → Q (.int (k : Int)) H' := fun i k hi hp he H' s => by
          have q := h H' s
          unfold dueV at q
          rw [ent_err hm hi hp he] at q
          exact q
        refine ⟨_, rfl, by omega, by omega, for_it (walk_range (lo := 0) (n := n)) (fun i σ H' => (Same H H' ∧ ∀ j, j < i → ∃ q, momOut zs (1 + 2 * j) = .ok q) ∧ ∃ v2 v3 v4, σ = [some (.ref l), some (.int (n : Int)), v2, v3, v4]) ⟨⟨s0, fun j hj => by omega⟩, _, _, _, rfl⟩ (fun _ _ _ _ _ => trivial) ?_ ?_⟩
        · rintro i x σ H1 H2 hi ⟨⟨s1, hb⟩, v2, v3, v4, rfl⟩ ⟨rfl, rfl⟩
          walk_at "n"
          refine ⟨by unfold CMul; omega, ?_⟩
          walk_at "n"
          refine ⟨line_of (by simp), fun t1 h1 => ?_⟩
          walk_at "n"
          refine ⟨by unfold CMul; omega, ?_⟩
          walk_at "n"
          refine ⟨line_of (by simp), fun t2 h2 => ?_⟩
          walk_at "n"
          refine ⟨line_of (by simp), fun t3 h3 => ?_⟩
          walk_at "n"
          have s3 : Same H (upd (upd (upd H2 t1 (.tup [.int (1 + 2 * (0 + (i : Int))), .ref (He.ga K "_law_date_in")])) t2 (.tup [.int (2 + 2 * (0 + (i : Int))), .ref (He.ga K "_law_time_in")])) t3 (.lst [.ref t1, .ref t2])) := sto (sto (sto s1 h1) h2) h3
          have e1 : upd (upd (upd H2 t1 (.tup [.int (1 + 2 * (0 + (i : Int))), .ref (He.ga K "_law_date_in")])) t2 (.tup [.int (2 + 2 * (0 + (i : Int))), .ref (He.ga K "_law_time_in")])) t3 (.lst [.ref t1, .ref t2]) t1 = some (.tup [.int (1 + 2 * (0 + (i : Int))), .ref (He.ga K "_law_date_in")]) := upd_keep h3 (upd_keep h2 upd_same)
          have e2 : upd (upd (upd H2 t1 (.tup [.int (1 + 2 * (0 + (i : Int))), .ref (He.ga K "_law_date_in")])) t2 (.tup [.int (2 + 2 * (0 + (i : Int))), .ref (He.ga K "_law_time_in")])) t3 (.lst [.ref t1, .ref t2]) t2 = some (.tup [.int (2 + 2 * (0 + (i : Int))), .ref (He.ga K "_law_time_in")]) := upd_keep h3 upd_same
          have e3 : upd (upd (upd H2 t1 (.tup [.int (1 + 2 * (0 + (i : Int))), .ref (He.ga K "_law_date_in")])) t2 (.tup [.int (2 + 2 * (0 + (i : Int))), .ref (He.ga K "_law_time_in")])) t3 (.lst [.ref t1, .ref t2]) t3 = some (.lst [.ref t1, .ref t2]) := upd_same
          generalize upd (upd (upd H2 t1 (.tup [.int (1 + 2 * (0 + (i : Int))), .ref (He.ga K "_law_date_in")])) t2 (.tup [.int (2 + 2 * (0 + (i : Int))), .ref (He.ga K "_law_time_in")])) t3 (.lst [.ref t1, .ref t2]) = Hb at *
          refine ⟨_, rfl, ⟨_, SqL.of e3⟩, for_it (walk_list (K := K) (a := t3) (xs := [.ref t1, .ref t2])) (fun j σ H' => (Same Hb H' ∧ (1 ≤ j → ∃ z1 y m d, zs[1 + 2 * i]? = some z1 ∧ dateIn z1 = some (y, m, d)) ∧ (2 ≤ j → ∃ q, momOut zs (1 + 2 * i) = .ok q)) ∧ ∃ v3 v4, σ = [some (.ref l), some (.int (n : Int)), some (.int (0 + (i : Int))), v3, v4]) ⟨⟨Same.refl _, fun z => by omega, fun z => by omega⟩, _, _, rfl⟩ (fun _ _ _ _ z => SqL.of (z.1.1 _ _ e3)) ?_ ?_⟩
          · rintro j x σ H4 H5 hj ⟨⟨s4, c1, c2⟩, v3, v4, rfl⟩ ⟨rfl, hx⟩
            have s04 := s3.trans s4
            rcases j with _ | _ | j
            · cases hx
              walk_at "n"
              refine ⟨_, .inl (.inl (s4 _ _ e1)), rfl, ?_⟩
              walk_at "n"
              refine .inl ⟨_, .inl (sl s04 hl), ?_⟩
              rw [el]
              walk_at "n"
              cases g1 : zs[1 + 2 * i]? with
              | none =>
                have hk : zs.length ≤ 1 + 2 * i := List.getElem?_eq_none_iff.mp g1
                refine cond_q (by omega) ?_
                walk_at "n"
                refine .inl ⟨_, .inl (sl s04 hl), ?_⟩
                rw [el]
                walk_at "n"
                exact fail i zs.length hi hb (by unfold momOut; rw [g1]) _ s04
              | some z1 =>
                have hk : 1 + 2 * i < zs.length := (List.getElem?_eq_some_iff.mp g1).1
                obtain ⟨l1, as1⟩ := hzs z1 (List.mem_of_getElem? g1)
                refine cond_nq (by omega) ?_
                walk_at "n"
                refine ⟨_, _, rfl, .inl ⟨rfl, rfl⟩, ?_⟩
                walk_at "n"
                refine ⟨_, .str z1, sl s04 hl, ?_, ?_⟩
                · have e9 : (1 + 2 * (0 + (i : Int))) = ((1 + 2 * i : Nat) : Int) := by omega
                  rw [e9]
                  exact a1 _ _ g1
                walk_at "n"
                refine ⟨⟨l1, as1⟩, fun hd H6 s6 => ?_, fun y m d hd p6 H6 s6 hp6 e6 => ?_⟩
                · walk_at "n"
                  have q := fail i (1 + 2 * i) hi hb (by unfold momOut; rw [g1]; dsimp only; rw [hd]) _ (s04.trans s6)
                  rw [show ((1 + 2 * i : Nat) : Int) = 1 + 2 * (0 + (i : Int)) by omega] at q
                  exact q
                · walk_at "n"
                  exact ⟨⟨s4.trans s6, fun _ => ⟨z1, y, m, d, rfl, hd⟩, fun z => by omega⟩, _, _, rfl⟩
            · cases hx
              obtain ⟨z1, y, m, d, g1, hd⟩ := c1 (by omega)
              have hk1 : 1 + 2 * i < zs.length := (List.getElem?_eq_some_iff.mp g1).1
              walk_at "n"
              refine ⟨_, .inl (.inl (s4 _ _ e2)), rfl, ?_⟩
              walk_at "n"
              refine .inl ⟨_, .inl (sl s04 hl), ?_⟩
              rw [el]
              walk_at "n"
              cases g2 : zs[1 + 2 * i + 1]? with
              | none =>
                have hk : zs.length ≤ 1 + 2 * i + 1 := List.getElem?_eq_none_iff.mp g2
                refine cond_q (by omega) ?_
                walk_at "n"
                refine .inl ⟨_, .inl (sl s04 hl), ?_⟩
                rw [el]
                walk_at "n"
                have q := fail i (1 + 2 * i + 1) hi hb (by unfold momOut; rw [g1]; dsimp only; rw [hd]; dsimp only; rw [g2]) _ s04
                rw [show 1 + 2 * i + 1 = zs.length by omega] at q
                exact q
              | some z2 =>
                have hk : 1 + 2 * i + 1 < zs.length := (List.getElem?_eq_some_iff.mp g2).1
                obtain ⟨l2, as2⟩ := hzs z2 (List.mem_of_getElem? g2)
                refine cond_nq (by omega) ?_
                walk_at "n"
                refine ⟨_, _, rfl, .inr ⟨rfl, rfl⟩, ?_⟩
                walk_at "n"
                refine ⟨_, .str z2, sl s04 hl, ?_, ?_⟩
                · have e9 : (2 + 2 * (0 + (i : Int))) = ((1 + 2 * i + 1 : Nat) : Int) := by omega
                  rw [e9]
                  exact a1 _ _ g2
                walk_at "n"
                refine ⟨⟨l2, as2⟩, fun ht H6 s6 => ?_, fun h0 i0 ht p6 H6 s6 hp6 e6 => ?_⟩
                · walk_at "n"
                  have q := fail i (1 + 2 * i + 1) hi hb (by unfold momOut; rw [g1]; dsimp only; rw [hd]; dsimp only; rw [g2]; dsimp only; rw [ht]) _ (s04.trans s6)
                  rw [show ((1 + 2 * i + 1 : Nat) : Int) = 2 + 2 * (0 + (i : Int)) by omega] at q
                  exact q
                · walk_at "n"
                  exact ⟨⟨s4.trans s6, fun _ => ⟨z1, y, m, d, g1, hd⟩, fun _ => ⟨⟨y, m, d, h0, i0⟩, by unfold momOut; rw [g1]; dsimp only; rw [hd]; dsimp only; rw [g2]; dsimp only; rw [ht]⟩⟩, _, _, rfl⟩
            · have : j + 1 + 1 < 2 := hj
              omega
          · rintro σ H4 ⟨⟨s4, c1, c2⟩, v3, v4, rfl⟩
            refine ⟨⟨s3.trans s4, fun j hj => ?_⟩, _, _, _, rfl⟩
            by_cases e : j = i
            · rw [e]
              exact c2 (Nat.le_refl 2)
            · exact hb j (by omega)
        · rintro σ H1 ⟨⟨s1, hb⟩, v2, v3, v4, rfl⟩
          walk_at "n"
          refine .inl ⟨_, .inl (sl s1 hl), ?_⟩
          rw [el]
          walk_at "n"
          refine ⟨by unfold CMul; omega, ?_⟩
          walk_at "n"
          have fin : dueV zs = if 1 + 2 * n < zs.length then .int ((1 + 2 * n : Nat) : Int) else .non := by
            obtain ⟨ms, hml, hms⟩ : ∃ ms : List Mo, ms.length = n ∧ ∀ (j : Nat) q, ms[j]? = some q → momOut zs (1 + 2 * j) = .ok q := by
              rcases h12 with rfl | rfl
              · obtain ⟨q, hq⟩ := hb 0 (by omega)
                refine ⟨[q], rfl, fun j q' hj => ?_⟩
                rcases j with _ | j
                · cases hj
                  exact hq
                · simp at hj
              · obtain ⟨q, hq⟩ := hb 0 (by omega)
                obtain ⟨q2, hq2⟩ := hb 1 (by omega)
                refine ⟨[q, q2], rfl, fun j q' hj => ?_⟩
                rcases j with _ | _ | j
                · cases hj
                  exact hq
                · cases hj
                  exact hq2
                · simp at hj
            unfold dueV
            rw [ent_end hm hml hms]
            split <;> rename_i z <;> split at z <;> simp_all
          rw [fin] at h
          refine cond_p (fun c => ?_) (fun c => ?_)
          · rw [if_pos (by omega)] at h
            walk_at "n"
            refine ⟨by unfold CMul; omega, ?_⟩
            walk_at "n"
            have q := h _ s1
            rw [show ((1 + 2 * n : Nat) : Int) = 1 + 2 * (n : Int) by omega] at q
            exact q
          · rw [if_neg (by omega)] at h
            walk_at "n"
            exact h _ s1
theorem ok__law_line_due {w : World} {K : PySem.W.Frag} {mg : Str → Option Value} {base : Heap} (TB : Ty K mg base) : F.Fr P w K mg base 4 (He.ga K "_law_line_due") (sp__law_line_due K) := (TB.toTx.f__law_line_due).elim fun fd F1 => fr_of F1 (okF__law_line_due TB F1) (fun _ _ _ _ _ _ us hl => match us, hl with | [_], _ => rfl)
end G
set_option maxHeartbeats 400000
namespace G
open PySem PySem.Spec PyProof.Rows L2 F
local macro_rules | `(tactic| walk_at "side") => `(tactic| first | rfl | decide | omega | assumption | (unfold CMul; omega) | (unfold CPow; omega) | (unfold CDiv; omega))
local macro_rules | `(tactic| walk_at "hp") => `(tactic| first | assumption | exact upd_same | (refine upd_keep (by assumption) ?_; walk_at "hp") | (refine sm (by assumption) ?_; walk_at "hp"))
local macro_rules | `(tactic| walk_at "n") => `(tactic| ((try conv => whnf); repeat ((first | with_reducible refine cond_t rfl ?_ | with_reducible refine cond_f rfl ?_ | with_reducible refine cond_n ?_); (try conv => whnf))))
local macro_rules | `(tactic| walk_at "go") => `(tactic| (walk_at "n"; repeat (refine And.intro ?side ?_; (case side => walk_at "side"); walk_at "n")))

open M TL
/-- the first watch that cannot stand -/
def firstBad : List (List Mo) → Option Str
  | [] => none
  | e :: r => match e with
    | [q, p] => (match spanBad q p with
      | some s => some s
      | none => firstBad r)
    | _ => firstBad r
theorem putOut_one {W : List (Mo × Mo)} {e : List Mo} {r : List (List Mo)} (h : e.length ≠ 2) : putOut W (e :: r) = putOut W r := by
  match e, h with
  | [], _ => rfl
  | [_], _ => rfl
  | [_, _], h => exact absurd rfl h
  | _ :: _ :: _ :: _, _ => rfl
theorem firstBad_one {e : List Mo} {r : List (List Mo)} (h : e.length ≠ 2) : firstBad (e :: r) = firstBad r := by
  match e, h with
  | [], _ => rfl
  | [_], _ => rfl
  | [_, _], h => exact absurd rfl h
  | _ :: _ :: _ :: _, _ => rfl
theorem putOut_few : ∀ (es : List (List Mo)) (W : List (Mo × Mo)), W.length + es.length ≤ 12 → putOut W es = match firstBad es with
    | some s => .bad s
    | none => .ok
  | [], _, _ => rfl
  | e :: r, W, n => by
    simp only [List.length_cons] at n
    by_cases h : e.length = 2
    · obtain ⟨q, p, rfl⟩ : ∃ q p, e = [q, p] := by
        match e, h with
        | [q, p], _ => exact ⟨q, p, rfl⟩
      rw [putOut_two]
      show _ = match (match spanBad q p with
        | some s => some s
        | none => firstBad r) with
        | some s => SpOut.bad s
        | none => SpOut.ok
      rw [spansOut_cons]
      cases hb : spanBad (q, p).1 (q, p).2 with
      | some s =>
        rfl
      | none =>
        dsimp only
        by_cases hin : (q, p) ∈ W
        · rw [if_pos hin]
          show putOut (if (q, p) ∈ W then W else (q, p) :: W) r = _
          rw [if_pos hin]
          exact putOut_few r W (by omega)
        · rw [if_neg hin, if_neg (by omega)]
          show putOut (if (q, p) ∈ W then W else (q, p) :: W) r = _
          rw [if_neg hin]
          exact putOut_few r _ (by simp; omega)
    · rw [putOut_one h, firstBad_one h]
      exact putOut_few r W (by omega)
theorem momOut_ok {zs : List Str} {k : Nat} {q : Mo} (h : momOut zs k = .ok q) : ∃ z1 z2, zs[k]? = some z1 ∧ zs[k + 1]? = some z2 ∧ dateIn z1 = some (q.y, q.m, q.d) ∧ timeIn z2 = some (q.h, q.i) := by
  unfold momOut at h
  cases e1 : zs[k]? with
  | none => rw [e1] at h; cases h
  | some z1 =>
    rw [e1] at h
    dsimp only at h
    cases e2 : dateIn z1 with
    | none => rw [e2] at h; cases h
    | some t =>
      obtain ⟨y, m, d⟩ := t
      rw [e2] at h
      dsimp only at h
      cases e3 : zs[k + 1]? with
      | none => rw [e3] at h; cases h
      | some z2 =>
        rw [e3] at h
        dsimp only at h
        cases e4 : timeIn z2 with
        | none => rw [e4] at h; cases h
        | some u =>
          obtain ⟨hh, i⟩ := u
          rw [e4] at h
          cases h
          exact ⟨z1, z2, rfl, rfl, e2, e4⟩
theorem entOut_ok {zs : List Str} {e : List Mo} (h : entOut zs = .ok e) : (zs.headD "" = "watch" ∧ ∃ q p, e = [q, p] ∧ momOut zs 1 = .ok q ∧ momOut zs 3 = .ok p) ∨ (zs.headD "" ≠ "watch" ∧ e.length = 1) := by
  unfold entOut at h
  cases hm : entMany (zs.headD "") with
  | none => rw [hm] at h; cases h
  | some n =>
    rw [hm] at h
    dsimp only at h
    cases h1 : momOut zs 1 with
    | error k => rw [h1] at h; cases h
    | ok q =>
      rw [h1] at h
      dsimp only at h
      unfold entMany at hm
      by_cases hr : zs.headD "" = "ring"
      · rw [if_pos hr] at hm
        cases hm
        rw [if_pos rfl] at h
        split at h
        · cases h
        · cases h
          exact .inr ⟨by rw [hr]; decide +kernel, rfl⟩
      · rw [if_neg hr] at hm
        by_cases hw : zs.headD "" = "watch"
        · rw [if_pos hw] at hm
          cases hm
          rw [if_neg (by decide)] at h
          cases h3 : momOut zs 3 with
          | error k => rw [h3] at h; cases h
          | ok p =>
            rw [h3] at h
            dsimp only at h
            split at h
            · cases h
            · cases h
              exact .inl ⟨hw, q, p, rfl, rfl, rfl⟩
        · rw [if_neg hw] at hm
          cases hm
def dueT : BkOut → List V
  | .text l i => [.str "text", .int (l : Int), .int (i : Int)]
  | .bad s => [.str "watch", .str s]
  | .many => []
  | .ok => [.str "told", .non]
def sp__law_due (K : PySem.W.Frag) : Sp := fun vs H Q E => match vs with
  | [.str z] => (z.length ≤ 100000 ∧ Asc z ∧ (Txt.split z "\n").length ≤ 12) ∧ ∀ p H', Same H H' → H p = none → H' p = some (.tup (dueT (bookOut ((Txt.split z "\n").map fun l => Txt.split l " ")))) → Q (.ref p) H'
  | _ => False
theorem sc__law_due : FnScope ["_law_signs", "_law_lines", "_law_at", "_law_wrong", "_law_words", "_law_begin", "_law_end", "_law_line"] ["_law_signs"] (defScope s__law_due) := ⟨rfl, rfl, rfl, by decide +kernel, rfl, by decide +kernel, by decide +kernel⟩
theorem okF__law_due {w : World} {K : PySem.W.Frag} {mg : Str → Option Value} {base : Heap} {fd : FuncData} (TB : Ty K mg base) (F1 : FunD K "_law_due" "_law_due" (defArgs s__law_due) (defBody s__law_due) (defScope s__law_due) [] [] (He.ga K "_law_due") fd) : FnOk P w K mg base (L2.CX P w) 5 (He.ga K "_law_due") fd ["_law_signs"] (sp__law_due K) := by
  have T : Tx K mg := TB.toTx
  have c__law_line_due : Fc P w K mg base 4 "_law_line_due" (sp__law_line_due K) := ⟨_, ok__law_line_due TB, T.g__law_line_due, (T.f__law_line_due).elim fun _ z => z.kp⟩
  have c__law_date_in : Fc P w K mg base 3 "_law_date_in" (sp__law_date_in K) := ⟨_, ok__law_date_in TB, T.g__law_date_in, (T.f__law_date_in).elim fun _ z => z.kp⟩
  have c__law_time_in : Fc P w K mg base 2 "_law_time_in" (sp__law_time_in K) := ⟨_, ok__law_time_in TB, T.g__law_time_in, (T.f__law_time_in).elim fun _ z => z.kp⟩
  have c__law_number : Fc P w K mg base 3 "_law_number" (sp__law_number K) := ⟨_, ok__law_number TB, T.g__law_number, (T.f__law_number).elim fun _ z => z.kp⟩
  refine F1.ok sc__law_due (fun vs H Q E h => ?_) (fun cdv A outer s H vs Q E hr h => ?_)
  · unfold sp__law_due at h
    split at h
    · rfl
    · exact h.elim
  · unfold sp__law_due at h
    split at h
    rotate_left
    · exact h.elim
    · rename_i z
      refine ⟨_, (pss_cons (ps_setLc (i := 1) (own := [("_law_line", 7)]) (g := gName 7) (tt := tYes) rfl sc__law_due.nd rfl rfl (sw_true rfl rfl rfl (by decide +kernel)) (pi_list (e_split (e_v 0) pe_str)) (blkOk_by (own := [("_law_line", 7)]) (N := ["_law_signs", "_law_lines", "_law_at", "_law_wrong", "_law_words", "_law_begin", "_law_end", "_law_line"]) (sc := defScope s__law_due) (by decide +kernel)) (fun _ _ _ _ _ => (pg_name (i := 7) sc__law_due.nd rfl (Or.inl rfl))) (fun _ _ _ _ _ => pts_nil) (fun _ _ _ _ _ => (e_split (e_v 7) pe_str)))
        (pss_cons (s_if (t_cmp o_eq (pe_ix (k_ixL K) (pe_ix (k_ixL K) (e_v 1) pe_int (fun _ _ => rfl)) pe_int (fun _ _ => rfl)) pe_str (nomark _)) (pss_cons (s_if (t_cmp o_gt (kk_len K T.b_len (pe_ix (k_ixL K) (e_v 1) pe_int (fun _ _ => rfl))) pe_int (nomark _)) (pss_one (ps_ret (pe_tup (pa_cons pe_str (pa_cons pe_int (pa_cons pe_int pa_nil)))))) pss_nil)
        (pss_one (ps_ret (e_if (t_cmp o_eq (kk_len K T.b_len (e_v 1)) pe_int (nomark _)) (pe_tup (pa_cons pe_str (pa_cons pe_non pa_nil))) (pe_tup (pa_cons pe_str (pa_cons pe_int (pa_cons pe_int pa_nil)))))))) pss_nil)
        (pss_cons (ps_for (passes_of rfl) rfl (pi_range1 rfl T.b_range (pa_cons (kk_len K T.b_len (e_v 1)) pa_nil)) (pg_name (i := 2) sc__law_due.nd rfl (Or.inl rfl))
          (pss_cons (ps_set (i := 3) sc__law_due.nd rfl (Or.inl rfl) (e_c c__law_line_due hr (pa_cons (pe_ix (k_ixL K) (e_v 1) (e_v 2) (fun _ _ => rfl)) pa_nil)))
        (pss_one (s_if (t_cmp o_isnot (e_v 3) pe_non (nomark _)) (pss_one (ps_ret (pe_tup (pa_cons pe_str (pa_cons (e_v 2) (pa_cons (e_v 3) pa_nil)))))) pss_nil))))
        (pss_cons (ps_for (passes_of rfl) rfl (pi_list (e_v 1)) (pg_name (i := 4) sc__law_due.nd rfl (Or.inl rfl))
          (pss_one (s_if (t_cmp o_eq (pe_ix (k_ixL K) (e_v 4) pe_int (fun _ _ => rfl)) pe_str (nomark _)) (pss_cons (ps_set (i := 5) sc__law_due.nd rfl (Or.inl rfl) (pe_op (k_catT K) (e_c c__law_date_in hr (pa_cons (pe_ix (k_ixL K) (e_v 4) pe_int (fun _ _ => rfl)) pa_nil)) (e_c c__law_time_in hr (pa_cons (pe_ix (k_ixL K) (e_v 4) pe_int (fun _ _ => rfl)) pa_nil))))
        (pss_cons (ps_set (i := 6) sc__law_due.nd rfl (Or.inl rfl) (pe_op (k_catT K) (e_c c__law_date_in hr (pa_cons (pe_ix (k_ixL K) (e_v 4) pe_int (fun _ _ => rfl)) pa_nil)) (e_c c__law_time_in hr (pa_cons (pe_ix (k_ixL K) (e_v 4) pe_int (fun _ _ => rfl)) pa_nil))))
        (pss_cons (s_if (t_cmp o_ge (e_c c__law_number hr (pa_cons (e_v 5) pa_nil)) (e_c c__law_number hr (pa_cons (e_v 6) pa_nil)) (nomark _)) (pss_one (ps_ret (pe_tup (pa_cons pe_str (pa_cons pe_str pa_nil))))) pss_nil)
        (pss_one (s_if (t_cmp o_gt (pe_op o_sub (e_c c__law_number hr (pa_cons (e_v 6) pa_nil)) (e_c c__law_number hr (pa_cons (e_v 5) pa_nil))) pe_int (nomark _)) (pss_one (ps_ret (pe_tup (pa_cons pe_str (pa_cons pe_str pa_nil))))) pss_nil))))) pss_nil)))
        (pss_one (ps_ret (pe_tup (pa_cons pe_str (pa_cons pe_non pa_nil))))))))), ?_⟩
      obtain ⟨⟨hz, ha, hn⟩, h⟩ := h
      have hsl : 1000003 ≤ sizeLine := by rw [sizeLine_eq]; decide
      walk_at "n"
      refine ⟨⟨rfl, by omega⟩, fun p hp => ?_⟩
      walk_at "n"
      have sq : SqL K (upd H p (.lst ((Txt.split z "\n").map V.str))) p ((Txt.split z "\n").map V.str) := SqL.of upd_same
      refine ⟨_, rfl, ⟨_, sq⟩, fun D hD => lcW (walk_list (K := K) (a := p) (xs := (Txt.split z "\n").map V.str)) (fun i v H => ∃ t : Addr × List Str, ((Txt.split z "\n")[i]?.map (fun l => Txt.split l " ") = some t.2 ∧ H t.1 = some (.lst (t.2.map V.str))) ∧ v = .ref t.1) (by rw [List.length_map]; omega) hD (fun H' s => sl s sq) (fun i y H H' s z => ?_) ?_ gm_name ?_⟩
      · obtain ⟨t, ⟨h1, h2⟩, h3⟩ := z
        exact ⟨t, ⟨h1, s _ _ h2⟩, h3⟩
      · rintro i x H1 H2 acc Nx hi s1 hd' ⟨rfl, hx⟩ nx
        rw [List.getElem?_map] at hx
        cases e1 : (Txt.split z "\n")[i]? with
        | none => rw [e1] at hx; cases hx
        | some l =>
          rw [e1] at hx
          obtain rfl : x = .str l := (Option.some.inj hx).symm
          have hll : l.length ≤ z.length := split_le (y := "\n") (by decide +kernel) (by decide +kernel) (List.mem_of_getElem? e1)
          refine ⟨rfl, ?_⟩
          walk_at "n"
          refine ⟨⟨rfl, by omega⟩, fun p2 hp2 => ?_⟩
          refine nx _ _ (snew hp2) ⟨(p2, Txt.split l " "), ⟨by rw [e1]; rfl, hide_new hp2 hd' upd_same⟩, rfl⟩
      intro ys H1 hl1 hy s1 hd
      obtain ⟨ls, rfl, hus⟩ := ys_ex (fun i y h => hy i y h)
      rw [List.length_map, List.length_map] at hl1
      have e2 : ls.map (fun t => t.2) = (Txt.split z "\n").map fun l => Txt.split l " " := by
        refine List.ext_getElem? fun i => ?_
        rw [List.getElem?_map, List.getElem?_map]
        cases e1 : ls[i]? with
        | none =>
          have := List.getElem?_eq_none_iff.mp e1
          rw [List.getElem?_eq_none (by omega)]
          rfl
        | some u => exact (hus i u e1).1.symm
      have e3 : ∀ u, u ∈ ls → H1 u.1 = some (.lst (u.2.map V.str)) := fun u hu => by
        obtain ⟨i, hi⟩ := List.getElem?_of_mem hu
        exact (hus i u hi).2
      clear hus hy
      rw [← e2] at h
      have sH1 : Same H H1 := (snew hp).trans s1
      have wfa : ∀ t, t ∈ ls → t.2 ≠ [] ∧ (∀ w, w ∈ t.2 → w.length ≤ 1000000 ∧ Asc w) ∧ t.2.length ≤ 1000000 := fun t ht => by
        have m : t.2 ∈ ls.map fun t => t.2 := List.mem_map_of_mem ht
        rw [e2] at m
        obtain ⟨l, hl, e⟩ := List.mem_map.mp m
        have l1 : l.length ≤ z.length := split_le (by decide +kernel) (by decide +kernel) hl
        have al : Asc l := ha.split (by decide +kernel) (by decide +kernel) hl
        rw [← e]
        refine ⟨split_some (by decide +kernel) (by decide +kernel), fun w hw => ?_, ?_⟩
        · have := split_le (y := " ") (by decide +kernel) (by decide +kernel) hw
          exact ⟨by omega, al.split (by decide +kernel) (by decide +kernel) hw⟩
        · have := split_cnt (z := l) (y := " ") (by decide +kernel) (by decide +kernel)
          omega
      have hne : ls ≠ [] := fun e => by
        rw [e] at hl1
        exact split_some (z := z) (y := "\n") (by decide +kernel) (by decide +kernel) (List.length_eq_zero_iff.mp hl1.symm)
      obtain ⟨t0, ls0, hls0⟩ : ∃ t0 ls0, ls = t0 :: ls0 := by
        cases ls with
        | nil => exact absurd rfl hne
        | cons a r => exact ⟨a, r, rfl⟩
      have mt0 : t0 ∈ ls := by rw [hls0]; exact List.mem_cons_self
      obtain ⟨w0, ws0, hw0⟩ : ∃ w0 ws0, t0.2 = w0 :: ws0 := by
        cases e : t0.2 with
        | nil => exact absurd e (wfa t0 mt0).1
        | cons a r => exact ⟨a, r, rfl⟩
      have sq0 : SqL K H1 D (ls.map fun t => V.ref t.1) := SqL.of hd
      have b0 : atI (ls.map fun t => V.ref t.1) 0 = some (.ref t0.1) := by
        rw [hls0, atI_lt (by decide) (by simp)]
        rfl
      have b1 : atI (t0.2.map V.str) 0 = some (.str w0) := by
        rw [hw0, atI_lt (by decide) (by simp)]
        rfl
      have h00 : ((ls.map fun t => t.2).headD []) = t0.2 := by rw [hls0]; rfl
      have h01 : (t0.2.headD "") = w0 := by rw [hw0]; rfl
      unfold bookOut at h
      rw [h00, h01, List.length_map] at h
      have sq1 : SqL K H1 t0.1 (t0.2.map V.str) := SqL.of (e3 t0 mt0)
      walk_at "n"
      refine ⟨_, _, sq0, b0, ?_⟩
      walk_at "n"
      refine ⟨_, _, sq1, b1, ?_⟩
      walk_at "n"
      refine cond_p (fun c => ?_) (fun c => ?_)
      · rw [if_pos c] at h
        walk_at "n"
        refine ⟨_, _, sq0, b0, ?_⟩
        walk_at "n"
        refine .inl ⟨_, .inl sq1, ?_⟩
        walk_at "n"
        refine cond_p (fun c2 => ?_) (fun c2 => ?_)
        · rw [List.length_map] at c2
          rw [if_pos (by omega)] at h
          walk_at "n"
          refine ⟨line_of (by simp), fun q hq => ?_⟩
          walk_at "n"
          exact h q _ (sto sH1 hq) (sH1.free hq) upd_same
        rw [List.length_map] at c2
        rw [if_neg (by omega)] at h
        walk_at "n"
        refine .inl ⟨_, .inl sq0, ?_⟩
        walk_at "n"
        rw [List.length_map]
        refine cond_p (fun c3 => ?_) (fun c3 => ?_)
        · rw [if_neg (by omega)] at h
          walk_at "n"
          refine ⟨line_of (by simp), fun q hq => ?_⟩
          walk_at "n"
          exact h q _ (sto sH1 hq) (sH1.free hq) upd_same
        · have : ls.length ≠ 0 := fun z => hne (List.length_eq_zero_iff.mp z)
          rw [if_pos (by omega)] at h
          walk_at "n"
          refine ⟨line_of (by simp), fun q hq => ?_⟩
          walk_at "n"
          exact h q _ (sto sH1 hq) (sH1.free hq) upd_same
      rw [if_neg c] at h
      walk_at "n"
      refine .inl ⟨_, .inl sq0, ?_⟩
      rw [List.length_map]
      have hln : ls.length ≤ 12 := by omega
      walk_at "n"
      refine ⟨_, rfl, by omega, by omega, for_it (walk_range (lo := 0) (n := ls.length)) (fun i σ H' => (Same H1 H' ∧ ∀ (j : Nat) t, j < i → ls[j]? = some t → ∃ e, entOut t.2 = .ok e) ∧ ∃ v2 v3 v4 v5 v6, σ = [some (.str z), some (.ref D), v2, v3, v4, v5, v6, none]) ⟨⟨Same.refl _, fun j t hj => by omega⟩, _, _, _, _, _, rfl⟩ (fun _ _ _ _ _ => trivial) ?_ ?_⟩
      · rintro i x σ H2 H3 hi ⟨⟨s2, hb⟩, v2, v3, v4, v5, v6, rfl⟩ ⟨rfl, rfl⟩
        obtain ⟨t, ht⟩ : ∃ t, ls[i]? = some t := ⟨_, List.getElem?_eq_getElem hi⟩
        have mt : t ∈ ls := List.mem_of_getElem? ht
        have at1 : atI (ls.map fun t => V.ref t.1) (0 + (i : Int)) = some (.ref t.1) := by
          rw [atI_lt (by omega) (by simp; omega), List.getElem?_map]
          have : (0 + (i : Int)).toNat = i := by omega
          rw [this, ht]
          rfl
        walk_at "n"
        refine ⟨_, _, sl s2 sq0, at1, ?_⟩
        walk_at "n"
        refine ⟨t.2, SqL.of (s2 _ _ (e3 t mt)), (wfa t mt).1, (wfa t mt).2.1, (wfa t mt).2.2, fun H4 s4 => ?_⟩
        cases e : entOut t.2 with
        | error k =>
          have hd : dueV t.2 = .int (k : Int) := by
            unfold dueV
            rw [e]
          rw [hd]
          walk_at "n"
          refine ⟨line_of (by simp), fun q hq => ?_⟩
          walk_at "n"
          rw [ents_err (ls.map fun t => t.2) i 0 k t.2 (fun j zz hj hzz => by
            rw [List.getElem?_map] at hzz
            cases e5 : ls[j]? with
            | none => rw [e5] at hzz; cases hzz
            | some tt =>
              rw [e5] at hzz
              cases hzz
              exact hb j tt hj e5) (by rw [List.getElem?_map, ht]; rfl) e] at h
          have s04 := sH1.trans (s2.trans s4)
          refine h q _ (sto s04 hq) (s04.free hq) ?_
          rw [upd_same]
          show _ = some (HO.tup [.str "text", .int ((0 + i : Nat) : Int), .int (k : Int)])
          rw [show ((0 + i : Nat) : Int) = 0 + (i : Int) by omega]
        | ok e0 =>
          have hd : dueV t.2 = .non := by
            unfold dueV
            rw [e]
          rw [hd]
          walk_at "n"
          refine ⟨⟨s2.trans s4, fun j tt hj hjt => ?_⟩, _, _, _, _, _, rfl⟩
          by_cases hji : j = i
          · rw [hji, ht] at hjt
            cases hjt
            exact ⟨e0, e⟩
          · exact hb j tt (by omega) hjt
      · rintro σ H2 ⟨⟨s2, hb⟩, v2, v3, v4, v5, v6, rfl⟩
        obtain ⟨es, hes, hen⟩ : ∃ es : List (List Mo), es.length = ls.length ∧ ∀ (j : Nat) t e, ls[j]? = some t → es[j]? = some e → entOut t.2 = .ok e := by
          have key : ∀ l : List (Addr × List Str), (∀ t, t ∈ l → ∃ e, entOut t.2 = .ok e) → ∃ es : List (List Mo), es.length = l.length ∧ ∀ (j : Nat) t e, l[j]? = some t → es[j]? = some e → entOut t.2 = .ok e := fun l => by
            induction l with
            | nil => exact fun _ => ⟨[], rfl, fun j t e hj => by simp at hj⟩
            | cons a r ih =>
              intro hh
              obtain ⟨es, q1, q2⟩ := ih fun t ht => hh t (List.mem_cons_of_mem _ ht)
              obtain ⟨e, he⟩ := hh a List.mem_cons_self
              refine ⟨e :: es, by simp [q1], fun j t e' hj he' => ?_⟩
              rcases j with _ | j
              · cases hj
                cases he'
                exact he
              · exact q2 j t e' (by simpa using hj) (by simpa using he')
          exact key ls fun t ht => by
            obtain ⟨j, hj⟩ := List.getElem?_of_mem ht
            exact hb j t (List.getElem?_eq_some_iff.mp hj).1 hj
        rw [ents_ok (ls.map fun t => t.2) es 0 (by rw [List.length_map, hes]) (fun j zz e hzz he => by
          rw [List.getElem?_map] at hzz
          cases e5 : ls[j]? with
          | none => rw [e5] at hzz; cases hzz
          | some tt =>
            rw [e5] at hzz
            cases hzz
            exact hen j tt e e5 he)] at h
        dsimp only at h
        rw [putOut_few es [] (by simp; omega)] at h
        walk_at "n"
        refine ⟨_, rfl, ⟨_, sl s2 sq0⟩, for_it (walk_list (K := K) (a := D) (xs := ls.map fun t => V.ref t.1)) (fun i σ H' => (Same H1 H' ∧ firstBad es = firstBad (es.drop i)) ∧ ∃ v2 v3 v4 v5 v6, σ = [some (.str z), some (.ref D), v2, v3, v4, v5, v6, none]) ⟨⟨s2, rfl⟩, _, _, _, _, _, rfl⟩ (fun i σ H' _ z => sl z.1.1 sq0) ?_ ?_⟩
        · rintro i x σ H3 H4 hi ⟨⟨s3, hfb⟩, v2, v3, v4, v5, v6, rfl⟩ ⟨rfl, hx⟩
          rw [List.length_map] at hi
          obtain ⟨t, ht, rfl⟩ := ref_at hx
          have mt : t ∈ ls := List.mem_of_getElem? ht
          obtain ⟨e, he⟩ : ∃ e, es[i]? = some e := ⟨_, List.getElem?_eq_getElem (by omega)⟩
          have eo := hen i t e ht he
          rw [drop_cons he] at hfb
          have sw : SqL K H4 t.1 (t.2.map V.str) := SqL.of (s3 _ _ (e3 t mt))
          have w1 : atI (t.2.map V.str) 0 = some (.str (t.2.headD "")) := by
            cases e9 : t.2 with
            | nil => exact absurd e9 (wfa t mt).1
            | cons a r =>
              rw [atI_lt (by decide) (by simp)]
              rfl
          walk_at "n"
          refine ⟨_, _, sw, w1, ?_⟩
          walk_at "n"
          rcases entOut_ok eo with ⟨hw, q, p, rfl, m1, m3⟩ | ⟨hw, hl⟩
          rotate_left
          · refine cond_p (fun c => absurd c hw) (fun _ => ?_)
            walk_at "n"
            refine ⟨⟨s3, ?_⟩, _, _, _, _, _, rfl⟩
            rw [hfb, firstBad_one (by omega)]
          refine cond_p (fun _ => ?_) (fun c => absurd hw c)
          obtain ⟨z1, z2, g1, g2, d1, t1⟩ := momOut_ok m1
          obtain ⟨z3, z4, g3, g4, d3, t3⟩ := momOut_ok m3
          have okq : q.ok := mo_ok2 d1 t1
          have okp : p.ok := mo_ok2 d3 t3
          have wa : ∀ (j : Nat) z, t.2[j]? = some z → atI (t.2.map V.str) (j : Int) = some (.str z) ∧ z.length ≤ 1000000 ∧ Asc z := fun j z hj => by
            have hlt : j < t.2.length := (List.getElem?_eq_some_iff.mp hj).1
            refine ⟨?_, (wfa t mt).2.1 z (List.mem_of_getElem? hj)⟩
            rw [atI_lt (by omega) (by simp; omega), List.getElem?_map]
            simp [hj]
          obtain ⟨i1, l1⟩ := wa 1 z1 g1
          obtain ⟨i2, l2⟩ := wa 2 z2 g2
          obtain ⟨i3, l3⟩ := wa 3 z3 g3
          obtain ⟨i4, l4⟩ := wa 4 z4 g4
          walk_at "n"
          refine ⟨_, _, sw, i1, ?_⟩
          walk_at "n"
          refine ⟨l1, fun e => by rw [d1] at e; (cases e), fun y m d e p1 H5 s5 hp1 e5 => ?_⟩
          rw [d1] at e
          cases e
          walk_at "n"
          refine ⟨_, _, sl s5 sw, i2, ?_⟩
          walk_at "n"
          refine ⟨l2, fun e => by rw [t1] at e; (cases e), fun h0 i0 e p2 H6 s6 hp2 e6 => ?_⟩
          rw [t1] at e
          cases e
          walk_at "n"
          refine ⟨_, _, .inl (.inl (s6 _ _ e5)), .inl (.inl e6), ⟨rfl, rfl, by simp⟩, fun p3 hp3 => ?_⟩
          have f3 : upd H6 p3 (.tup (moL q)) p3 = some (.tup (moL q)) := upd_same
          have s7 : Same H4 (upd H6 p3 (.tup (moL q))) := sto (s5.trans s6) hp3
          walk_at "n"
          generalize hH7 : upd H6 p3 (.tup (moL q)) = H7 at *
          have hH7' : upd H6 p3 (.tup ([V.int q.y, V.int q.m, V.int q.d] ++ [V.int q.h, V.int q.i])) = H7 := hH7
          rw [hH7']
          refine ⟨_, _, sl s7 sw, i3, ?_⟩
          walk_at "n"
          refine ⟨l3, fun e => by rw [d3] at e; (cases e), fun y m d e p4 H8 s8 hp4 e8 => ?_⟩
          rw [d3] at e
          cases e
          walk_at "n"
          refine ⟨_, _, sl (s7.trans s8) sw, i4, ?_⟩
          walk_at "n"
          refine ⟨l4, fun e => by rw [t3] at e; (cases e), fun h0 i0 e p5 H9 s9 hp5 e9 => ?_⟩
          rw [t3] at e
          cases e
          walk_at "n"
          refine ⟨_, _, .inl (.inl (s9 _ _ e8)), .inl (.inl e9), ⟨rfl, rfl, by simp⟩, fun p6 hp6 => ?_⟩
          have f6 : upd H9 p6 (.tup (moL p)) p6 = some (.tup (moL p)) := upd_same
          have s10 : Same H7 (upd H9 p6 (.tup (moL p))) := sto (s8.trans s9) hp6
          generalize hH10 : upd H9 p6 (.tup (moL p)) = H10 at *
          have hH10' : upd H9 p6 (.tup ([V.int p.y, V.int p.m, V.int p.d] ++ [V.int p.h, V.int p.i])) = H10 := hH10
          rw [hH10']
          have s1A : Same H H10 := sH1.trans (s3.trans (s7.trans s10))
          have hbq : SqT K H10 p3 (moL q) := .inl (.inl (s10 _ _ f3))
          have hbp : SqT K H10 p6 (moL p) := .inl (.inl f6)
          have fb : firstBad ([q, p] :: es.drop (i + 1)) = match spanBad q p with
            | some s => some s
            | none => firstBad (es.drop (i + 1)) := rfl
          rw [fb] at hfb
          unfold spanBad at hfb
          walk_at "n"
          refine ⟨q, hbq, okq.m1, okq.m2, fun H11 s11 => ?_⟩
          walk_at "n"
          refine ⟨p, st s11 hbp, okp.m1, okp.m2, fun H12 s12 => ?_⟩
          walk_at "n"
          refine cond_p (fun c1 => ?_) (fun c1 => ?_)
          · rw [if_pos c1] at hfb
            rw [show firstBad es = some "order" from hfb] at h
            walk_at "n"
            refine ⟨line_of (by simp), fun q7 hq7 => ?_⟩
            walk_at "n"
            have sA := s1A.trans (s11.trans s12)
            exact h q7 _ (sto sA hq7) (sA.free hq7) upd_same
          rw [if_neg c1] at hfb
          walk_at "n"
          refine ⟨p, st (s11.trans s12) hbp, okp.m1, okp.m2, fun H13 s13 => ?_⟩
          walk_at "n"
          refine ⟨q, st (s11.trans (s12.trans s13)) hbq, okq.m1, okq.m2, fun H14 s14 => ?_⟩
          walk_at "n"
          have sA := s1A.trans (s11.trans (s12.trans (s13.trans s14)))
          refine cond_p (fun c2 => ?_) (fun c2 => ?_)
          · rw [if_pos c2] at hfb
            rw [show firstBad es = some "length" from hfb] at h
            walk_at "n"
            refine ⟨line_of (by simp), fun q7 hq7 => ?_⟩
            walk_at "n"
            exact h q7 _ (sto sA hq7) (sA.free hq7) upd_same
          rw [if_neg c2] at hfb
          walk_at "n"
          exact ⟨⟨s3.trans (s7.trans (s10.trans (s11.trans (s12.trans (s13.trans s14))))), hfb⟩, _, _, _, _, _, rfl⟩
        · rintro σ H3 ⟨⟨s3, hfb⟩, v2, v3, v4, v5, v6, rfl⟩
          rw [List.length_map, ← hes, List.drop_length] at hfb
          walk_at "n"
          refine ⟨line_of (by simp), fun q hq => ?_⟩
          walk_at "n"
          rw [show firstBad es = none from hfb] at h
          exact h q _ (sto (sH1.trans s3) hq) ((sH1.trans s3).free hq) upd_same
theorem ok__law_due {w : World} {K : PySem.W.Frag} {mg : Str → Option Value} {base : Heap} (TB : Ty K mg base) : F.Fr P w K mg base 5 (He.ga K "_law_due") (sp__law_due K) := (TB.toTx.f__law_due).elim fun fd F1 => fr_of F1 (okF__law_due TB F1) (fun _ _ _ _ _ _ us hl => match us, hl with | [_], _ => rfl)
end G
set_option maxHeartbeats 400000
namespace G
open PySem PySem.Spec PyProof.Rows L2 F
local macro_rules | `(tactic| walk_at "side") => `(tactic| first | rfl | decide | omega | assumption | (unfold CMul; omega) | (unfold CPow; omega) | (unfold CDiv; omega))
local macro_rules | `(tactic| walk_at "hp") => `(tactic| first | assumption | exact upd_same | (refine upd_keep (by assumption) ?_; walk_at "hp") | (refine sm (by assumption) ?_; walk_at "hp"))
local macro_rules | `(tactic| walk_at "n") => `(tactic| ((try conv => whnf); repeat ((first | with_reducible refine cond_t rfl ?_ | with_reducible refine cond_f rfl ?_ | with_reducible refine cond_n ?_); (try conv => whnf))))
local macro_rules | `(tactic| walk_at "go") => `(tactic| (walk_at "n"; repeat (refine And.intro ?side ?_; (case side => walk_at "side"); walk_at "n")))

open M TL
/-- a line's words have no newline and no blank -/
def sz (ws : List Str) : Nat := (ws.map fun w => w.length + 1).sum
theorem spl_sz (s : Nat) : ∀ (l : List Nat) (acc : List Nat), ((spl [s] 0 acc l).map fun p => p.length + 1).sum = acc.length + l.length + 1
  | [], acc => by
    rw [spl_nil]
    simp
  | c :: r, acc => by
    by_cases e : pre [s] (c :: r) = true
    · rw [spl_hit e]
      have := spl_sz s r []
      simp only [List.map_cons, List.sum_cons, List.length_cons, List.length_nil] at this ⊢
      show acc.length + 1 + ((spl [s] 0 [] r).map fun p => p.length + 1).sum = _
      omega
    · rw [spl_miss (by simpa using e)]
      have := spl_sz s r (acc ++ [c])
      simp only [List.length_append, List.length_cons, List.length_nil] at this ⊢
      omega
theorem spl_count (s : Nat) : ∀ (l : List Nat) (acc : List Nat), (spl [s] 0 acc l).length = l.count s + 1
  | [], acc => by
    rw [spl_nil]
    simp
  | c :: r, acc => by
    have pe : pre [s] (c :: r) = (c == s) := by simp [pre]
    by_cases e : c = s
    · subst e
      rw [spl_hit (by rw [pe]; simp)]
      have := spl_count c r []
      simp only [List.length_cons, List.count_cons_self]
      show (spl [c] 0 [] r).length + 1 = _
      omega
    · rw [spl_miss (by rw [pe]; simpa using e), spl_count s r, List.count_cons_of_ne (by simpa using e)]
theorem tl_nl : tl "\n" = [10] := by decide +kernel
theorem tl_sp : tl " " = [32] := by decide +kernel
theorem nl_count (z : Str) : (Txt.split z "\n").length = (tl z).count 10 + 1 := by
  have q := split_spl z "\n" (by decide +kernel) (kind_ok (by decide +kernel))
  have e : (Txt.split z "\n").length = ((Txt.split z "\n").map tl).length := by rw [List.length_map]
  rw [e, q, tl_nl]
  exact spl_count 10 _ _
theorem sz_split (z y : Str) (s : Nat) (hy : tl y = [s]) (hk : y.cps.all (· < 256) = true) : sz (Txt.split z y) = z.length + 1 := by
  have q := split_spl z y (by rw [hy]; simp) (kind_ok hk)
  unfold sz
  have e : (Txt.split z y).map (fun w => w.length + 1) = ((Txt.split z y).map tl).map fun p => p.length + 1 := by
    rw [List.map_map]
    refine List.map_congr_left fun w _ => ?_
    show w.length + 1 = (tl w).length + 1
    rw [len_tl]
  rw [e, q, hy, spl_sz, len_tl]
  simp
theorem spl_no (s : Nat) : ∀ (l : List Nat) (acc : List Nat), ¬ s ∈ acc → ∀ p, p ∈ spl [s] 0 acc l → ¬ s ∈ p
  | [], acc, h, p, hp => by
    rw [spl_nil] at hp
    simp at hp
    rw [hp]
    exact h
  | c :: r, acc, h, p, hp => by
    have pe : pre [s] (c :: r) = (c == s) := by simp [pre]
    by_cases e : c = s
    · subst e
      rw [spl_hit (by rw [pe]; simp)] at hp
      rcases List.mem_cons.mp hp with hp | hp
      · rw [hp]
        exact h
      · exact spl_no c r [] (by simp) p hp
    · rw [spl_miss (by rw [pe]; simpa using e)] at hp
      refine spl_no s r _ (fun z => ?_) p hp
      rcases List.mem_append.mp z with z | z
      · exact h z
      · simp at z
        exact e z.symm
/-- a text without newline -/
def NoNl (z : Str) : Prop := ¬ 10 ∈ tl z
theorem split_nl {z l : Str} (h : l ∈ Txt.split z "\n") : NoNl l := by
  have q := split_spl z "\n" (by decide +kernel) (kind_ok (by decide +kernel))
  have m : tl l ∈ (Txt.split z "\n").map tl := List.mem_map_of_mem h
  rw [q, tl_nl] at m
  exact spl_no 10 _ _ (by simp) _ m
theorem NoNl.split {l w : Str} (h : NoNl l) (hw : w ∈ Txt.split l " ") : NoNl w := fun z => by
  have q := split_spl l " " (by decide +kernel) (kind_ok (by decide +kernel))
  have m : tl w ∈ (Txt.split l " ").map tl := List.mem_map_of_mem hw
  rw [q] at m
  rcases spl_mem _ _ _ _ _ m 10 z with e | e
  · cases e
  · exact h e
theorem joinL_mem (S : List Nat) : ∀ (parts : List (List Nat)) (c : Nat), c ∈ joinL S parts → c ∈ S ∨ ∃ p, p ∈ parts ∧ c ∈ p
  | [], c, h => by simp [joinL] at h
  | [p], c, h => .inr ⟨p, List.mem_cons_self, by simpa [joinL] using h⟩
  | p :: q :: r, c, h => by
    have e : joinL S (p :: q :: r) = p ++ (S ++ joinL S (q :: r)) := rfl
    rw [e] at h
    rcases List.mem_append.mp h with h | h
    · exact .inr ⟨p, List.mem_cons_self, h⟩
    rcases List.mem_append.mp h with h | h
    · exact .inl h
    rcases joinL_mem S (q :: r) c h with z | ⟨p', hp, hc⟩
    · exact .inl z
    · exact .inr ⟨p', List.mem_cons_of_mem _ hp, hc⟩
theorem joinL_sz (s : Nat) : ∀ (parts : List (List Nat)), (joinL [s] parts).length ≤ (parts.map fun p => p.length + 1).sum
  | [] => by simp [joinL]
  | [p] => by simp [joinL]
  | p :: q :: r => by
    have e : joinL [s] (p :: q :: r) = p ++ ([s] ++ joinL [s] (q :: r)) := rfl
    have ih := joinL_sz s (q :: r)
    rw [e]
    simp only [List.length_append, List.length_cons, List.length_nil, List.map_cons, List.sum_cons] at ih ⊢
    omega
theorem join_sz {y : Str} {s : Nat} (hy : tl y = [s]) (ws : List Str) : (Txt.join y ws).length ≤ sz ws := by
  rw [join_eq, len_tl, tl_join, hy]
  have := joinL_sz s (ws.map tl)
  unfold sz
  have e : (ws.map tl).map (fun p => p.length + 1) = ws.map fun w => w.length + 1 := by
    rw [List.map_map]
    refine List.map_congr_left fun w _ => ?_
    show (tl w).length + 1 = w.length + 1
    rw [len_tl]
  rw [e] at this
  exact this
theorem join_asc {y : Str} (hy : Asc y) {ws : List Str} (h : ∀ w, w ∈ ws → Asc w) : Asc (Txt.join y ws) := fun c hc => by
  rw [join_eq, tl_join] at hc
  rcases joinL_mem _ _ _ hc with e | ⟨p, hp, e⟩
  · exact hy c e
  · obtain ⟨w, hw, rfl⟩ := List.mem_map.mp hp
    exact h w hw c e
theorem join_nl {ws : List Str} (h : ∀ w, w ∈ ws → NoNl w) : NoNl (Txt.join " " ws) := fun hc => by
  rw [join_eq, tl_join, tl_sp] at hc
  rcases joinL_mem _ _ _ hc with e | ⟨p, hp, e⟩
  · simp at e
  · obtain ⟨w, hw, rfl⟩ := List.mem_map.mp hp
    exact h w hw e
theorem lines_join {L : List Str} (hne : L ≠ []) (h : ∀ l, l ∈ L → NoNl l) : (Txt.split (Txt.join "\n" L) "\n").length = L.length := by
  rw [split_join (s := 10) (S := []) (by decide +kernel) (by decide +kernel) hne h]
theorem asc_app {a b : Str} (ha : Asc a) (hb : Asc b) : Asc (a ++ b) := fun c hc => by
  rw [tl_append] at hc
  exact (List.mem_append.mp hc).elim (ha c) (hb c)
theorem lines_app (a b : Str) : (Txt.split (a ++ b) "\n").length = (Txt.split a "\n").length + (Txt.split b "\n").length - 1 := by
  rw [nl_count, nl_count, nl_count, tl_append, List.count_append]
  omega

end G
set_option maxHeartbeats 400000
namespace G
open PySem PySem.Spec PyProof.Rows L2 F
local macro_rules | `(tactic| walk_at "side") => `(tactic| first | rfl | decide | omega | assumption | (unfold CMul; omega) | (unfold CPow; omega) | (unfold CDiv; omega))
local macro_rules | `(tactic| walk_at "hp") => `(tactic| first | assumption | exact upd_same | (refine upd_keep (by assumption) ?_; walk_at "hp") | (refine sm (by assumption) ?_; walk_at "hp"))
local macro_rules | `(tactic| walk_at "n") => `(tactic| ((try conv => whnf); repeat ((first | with_reducible refine cond_t rfl ?_ | with_reducible refine cond_f rfl ?_ | with_reducible refine cond_n ?_); (try conv => whnf))))
local macro_rules | `(tactic| walk_at "go") => `(tactic| (walk_at "n"; repeat (refine And.intro ?side ?_; (case side => walk_at "side"); walk_at "n")))

open M TL
section
variable {K : PySem.W.Frag} {H H' : Hp} {g c a : Addr} {xs : List V}
theorem BagAt.dk (b : BagAt K H g c) : ∃ kvs, H g = some (.dK kvs) := let ⟨_, _, _, _, p⟩ := b; ⟨_, p.at_⟩
theorem BagAt.sl (b : BagAt K H g c) (h : SqL K H a xs) (s : SB g H H') : SqL K H' a xs := let ⟨_, e⟩ := b.dk; sl_sbd h e s
theorem BagAt.st (b : BagAt K H g c) (h : SqT K H a xs) (s : SB g H H') : SqT K H' a xs := let ⟨_, e⟩ := b.dk; st_sbd h e s
end

end G
set_option maxHeartbeats 400000
namespace G
open PySem PySem.Spec PyProof.Rows L2 F
local macro_rules | `(tactic| walk_at "side") => `(tactic| first | rfl | decide | omega | assumption | (unfold CMul; omega) | (unfold CPow; omega) | (unfold CDiv; omega))
local macro_rules | `(tactic| walk_at "hp") => `(tactic| first | assumption | exact upd_same | (refine upd_keep (by assumption) ?_; walk_at "hp") | (refine sm (by assumption) ?_; walk_at "hp"))
local macro_rules | `(tactic| walk_at "n") => `(tactic| ((try conv => whnf); repeat ((first | with_reducible refine cond_t rfl ?_ | with_reducible refine cond_f rfl ?_ | with_reducible refine cond_n ?_); (try conv => whnf))))
local macro_rules | `(tactic| walk_at "go") => `(tactic| (walk_at "n"; repeat (refine And.intro ?side ?_; (case side => walk_at "side"); walk_at "n")))

set_option maxHeartbeats 4000000
open M TL
/-- the words of a text that the law makes -/
structure WordsOk (ws : List Str) : Prop where
  a : ∀ w, w ∈ ws → Asc w
  n : ∀ w, w ∈ ws → NoNl w
theorem odd_go {A : Prop} (h : A) : A := h
def tot (ls : List (List Str)) : Nat := (ls.map fun ws => sz ws + 1).sum
theorem sum_succ : ∀ (l : List Nat), (l.map fun n => n + 1).sum = l.sum + l.length
  | [] => rfl
  | a :: r => by
    have := sum_succ r
    simp only [List.map_cons, List.sum_cons, List.length_cons]
    omega
theorem tot_split (z : Str) : tot ((Txt.split z "\n").map fun l => Txt.split l " ") = z.length + 1 + (Txt.split z "\n").length := by
  have h1 := sz_split z "\n" 10 (by decide +kernel) (by decide +kernel)
  unfold tot
  rw [List.map_map]
  have e : (fun ws => sz ws + 1) ∘ (fun l => Txt.split l " ") = fun l : Str => l.length + 1 + 1 := funext fun l => by
    show sz (Txt.split l " ") + 1 = _
    rw [sz_split l " " 32 (by decide +kernel) (by decide +kernel)]
  rw [e]
  have e2 : (Txt.split z "\n").map (fun l : Str => l.length + 1 + 1) = ((Txt.split z "\n").map fun l : Str => l.length + 1).map fun n => n + 1 := by rw [List.map_map]; rfl
  rw [e2, sum_succ, List.length_map]
  unfold sz at h1
  omega
def oddL : List Str := [("" : Str), "none", "ring", "watch", "Ring", "2019-02-29", "2020-02-29", "2019-1-01", "02019-01-01", "12019-01-01"] ++ [("0000-01-01" : Str), "999999-12-31", "1000000-01-01", "2019-13-01", "2019-00-10", "2019-01-00"] ++ [("6:00" : Str), "06:60", "24:00", "23:59", "00:00", "06:00:00", "2019-01-01-01", "-"]
def moreL : List Str := [("watch 2020-01-01 00:00 2022-03-12 00:01" : Str), "watch 2020-01-02 00:00 2020-01-01 23:59", "none", "ring"]
theorem moreL_ok : ∀ w, w ∈ moreL → Asc w ∧ NoNl w ∧ w.length ≤ 40 := fun w hw => by
  have key : moreL.all (fun w => (tl w).all (fun c => decide (c < 128) && decide (c ≠ 10)) && decide (w.length ≤ 40)) = true := by decide +kernel
  have k := List.all_eq_true.mp key w hw
  simp only [Bool.and_eq_true, decide_eq_true_eq, List.all_eq_true] at k
  exact ⟨fun c hc => (k.1 c hc).1, fun hc => (k.1 10 hc).2 rfl, k.2⟩
theorem at_last {xs : List V} {v : V} : atI (xs ++ [v]) (-1) = some v := by
  have e : ixN (xs ++ [v]).length (-1) = some xs.length := by
    unfold ixN
    rw [if_neg (by decide), List.length_append, List.length_singleton, if_pos (by omega)]
    congr 1
    omega
  unfold atI
  rw [e]
  simp
theorem oddL_ok : ∀ w, w ∈ oddL → Asc w ∧ NoNl w ∧ w.length ≤ 13 := fun w hw => by
  have key : oddL.all (fun w => (tl w).all (fun c => decide (c < 128) && decide (c ≠ 10)) && decide (w.length ≤ 13)) = true := by decide +kernel
  have k := List.all_eq_true.mp key w hw
  simp only [Bool.and_eq_true, decide_eq_true_eq, List.all_eq_true] at k
  exact ⟨fun c hc => (k.1 c hc).1, fun hc => (k.1 10 hc).2 rfl, k.2⟩
theorem pickO {l : List Str} {r : Int} (h0 : 0 ≤ r) (h1 : r < l.length) : ∃ y, atI (l.map V.str) r = some (.str y) ∧ y ∈ l := by
  have hl : r.toNat < l.length := by omega
  refine ⟨l[r.toNat], ?_, List.getElem_mem hl⟩
  rw [atI_lt h0 (by rw [List.length_map]; omega), List.getElem?_map, List.getElem?_eq_getElem hl]
  rfl
theorem sz_eq : ∀ ws : List Str, sz ws = (ws.map fun w => w.length).sum + ws.length
  | [] => rfl
  | a :: r => by
    have ih := sz_eq r
    have e : sz (a :: r) = a.length + 1 + sz r := rfl
    rw [e]
    simp only [List.map_cons, List.sum_cons, List.length_cons]
    omega
theorem mem_tot {ws : List Str} : ∀ {l : List (List Str)}, ws ∈ l → sz ws ≤ tot l
  | [], h => by cases h
  | a :: r, h => by
    have e : tot (a :: r) = sz a + 1 + tot r := rfl
    rw [e]
    rcases List.mem_cons.mp h with h | h
    · rw [h]
      omega
    · have := mem_tot h
      omega
theorem cut_hi (xs : List V) (n : Nat) : cutV xs none (some (n : Int)) = xs.take n := by
  unfold cutV
  rw [HT.sIx_none, HT.sIx_nat, List.drop_zero, Nat.sub_zero]
  rw [List.take_eq_take_iff]
  omega
theorem cut_lo (xs : List V) (n : Nat) : cutV xs (some (n : Int)) none = xs.drop n := by
  unfold cutV
  rw [HT.sIx_none, HT.sIx_nat]
  by_cases h : n ≤ xs.length
  · rw [Nat.min_eq_left h]
    exact List.take_of_length_le (by rw [List.length_drop]; omega)
  · rw [Nat.min_eq_right (by omega), List.drop_length, List.drop_eq_nil_of_le (by omega)]
    simp
theorem sz_app (a b : List Str) : sz (a ++ b) = sz a + sz b := by
  unfold sz
  rw [List.map_append, List.sum_append]
theorem sz_td (a : List Str) (n : Nat) : sz (a.take n) + sz (a.drop n) = sz a := by
  rw [← sz_app, List.take_append_drop]
theorem sz_dd (a : List Str) (n : Nat) : sz (a.drop (n + 1)) ≤ sz (a.drop n) := by
  have : a.drop (n + 1) = (a.drop n).drop 1 := by rw [List.drop_drop]
  rw [this]
  have := sz_td (a.drop n) 1
  omega
theorem sz_one (w : Str) : sz [w] = w.length + 1 := by
  unfold sz
  simp
theorem tot_app (a b : List (List Str)) : tot (a ++ b) = tot a + tot b := by
  unfold tot
  rw [List.map_append, List.sum_append]
theorem tot_one (w : List Str) : tot [w] = sz w + 1 := by
  unfold tot
  simp
/-- a line in its place -/
theorem tot_put {ls : List (List Str)} {i : Nat} {t : List Str} (h : ls[i]? = some t) (w : List Str) : tot (ls.take i ++ [w] ++ ls.drop (i + 1)) + sz t = tot ls + sz w := by
  have e : ls = ls.take i ++ (t :: ls.drop (i + 1)) := by
    conv => lhs; rw [← List.take_append_drop i ls]
    rw [drop_cons h]
  have e2 : tot ls = tot (ls.take i) + (sz t + 1 + tot (ls.drop (i + 1))) := by
    conv => lhs; rw [e]
    rw [tot_app]
    rfl
  rw [tot_app, tot_app, tot_one]
  omega
theorem sz_lines {ls : List (List Str)} : sz (ls.map fun ws => Txt.join " " ws) ≤ tot ls := by
  induction ls with
  | nil => exact Nat.le_refl 0
  | cons a r ih =>
    have := join_sz (y := " ") (s := 32) (by decide +kernel) a
    have e1 : sz ((a :: r).map fun ws => Txt.join " " ws) = (Txt.join " " a).length + 1 + sz (r.map fun ws => Txt.join " " ws) := rfl
    have e2 : tot (a :: r) = sz a + 1 + tot r := rfl
    rw [e1, e2]
    omega
def sp__law_spoilt (K : PySem.W.Frag) : Sp := fun vs H Q E => match vs with
  | [.ref g, .str z] => ∃ c, BagAt K H g c ∧ (z.length ≤ 50000 ∧ Asc z ∧ (Txt.split z "\n").length ≤ 20) ∧ ∀ r H', SB g H H' → BagAt K H' g c → r.length ≤ z.length + 100 → Asc r → (Txt.split r "\n").length ≤ (Txt.split z "\n").length + 1 → Q (.str r) H'
  | _ => False
theorem sc__law_spoilt : FnScope ["_law_bag_here", "_law_signs", "_law_lines", "_law_at", "_law_words", "_law_kind", "_law_odd", "_law_word", "_law_spot", "_law_more", "_law_line"] ["_law_bag_here", "_law_signs"] (defScope s__law_spoilt) := ⟨rfl, rfl, rfl, by decide +kernel, rfl, by decide +kernel, by decide +kernel⟩
theorem okF__law_spoilt {w : World} {K : PySem.W.Frag} {mg : Str → Option Value} {base : Heap} {fd : FuncData} (TB : Ty K mg base) (F1 : FunD K "_law_spoilt" "_law_spoilt" (defArgs s__law_spoilt) (defBody s__law_spoilt) (defScope s__law_spoilt) [] [] (He.ga K "_law_spoilt") fd) : FnOk P w K mg base (L2.CX P w) 2 (He.ga K "_law_spoilt") fd ["_law_bag_here", "_law_signs"] (sp__law_spoilt K) := by
  have T : Tx K mg := TB.toTx
  have c__law_draw : Fc P w K mg base 1 "_law_draw" (sp__law_draw K) := ⟨_, ok__law_draw TB, T.g__law_draw, (T.f__law_draw).elim fun _ z => z.kp⟩
  refine F1.ok sc__law_spoilt (fun vs H Q E h => ?_) (fun cdv A outer s H vs Q E hr h => ?_)
  · unfold sp__law_spoilt at h
    split at h
    · rfl
    · exact h.elim
  · unfold sp__law_spoilt at h
    split at h
    rotate_left
    · exact h.elim
    · rename_i g z
      refine ⟨_, (pss_cons (ps_setLc (i := 2) (own := [("_law_line", 10)]) (g := gName 10) (tt := tYes) rfl sc__law_spoilt.nd rfl rfl (sw_true rfl rfl rfl (by decide +kernel)) (pi_list (e_split (e_v 1) pe_str)) (blkOk_by (own := [("_law_line", 10)]) (N := ["_law_bag_here", "_law_signs", "_law_lines", "_law_at", "_law_words", "_law_kind", "_law_odd", "_law_word", "_law_spot", "_law_more", "_law_line"]) (sc := defScope s__law_spoilt) (by decide +kernel)) (fun _ _ _ _ _ => (pg_name (i := 10) sc__law_spoilt.nd rfl (Or.inl rfl))) (fun _ _ _ _ _ => pts_nil) (fun _ _ _ _ _ => (e_split (e_v 10) pe_str)))
        (pss_cons (ps_set (i := 3) sc__law_spoilt.nd rfl (Or.inl rfl) (e_c c__law_draw hr (pa_cons (e_v 0) (pa_cons (kk_len K T.b_len (e_v 2)) pa_nil))))
        (pss_cons (ps_par (i := 4) (j := 5) (by rfl) sc__law_spoilt.nd rfl rfl (by decide) rfl rfl (pa_cons (e_list T.b_list (pe_ix (k_ixL K) (e_v 2) (e_v 3) (fun _ _ => rfl))) (pa_cons (e_c c__law_draw hr (pa_cons (e_v 0) (pa_cons pe_int pa_nil))) pa_nil)) (by rfl))
        (pss_cons (ps_set (i := 6) sc__law_spoilt.nd rfl (Or.inl rfl) (pe_lst (pa_cons pe_str (pa_cons pe_str (pa_cons pe_str (pa_cons pe_str (pa_cons pe_str (pa_cons pe_str (pa_cons pe_str (pa_cons pe_str (pa_cons pe_str (pa_cons pe_str pa_nil))))))))))))
        (pss_cons (ps_set (i := 6) sc__law_spoilt.nd rfl (Or.inl rfl) (pe_op (k_add K) (e_v 6) (pe_lst (pa_cons pe_str (pa_cons pe_str (pa_cons pe_str (pa_cons pe_str (pa_cons pe_str (pa_cons pe_str pa_nil)))))))))
        (pss_cons (ps_set (i := 6) sc__law_spoilt.nd rfl (Or.inl rfl) (pe_op (k_add K) (e_v 6) (pe_lst (pa_cons pe_str (pa_cons pe_str (pa_cons pe_str (pa_cons pe_str (pa_cons pe_str (pa_cons pe_str (pa_cons pe_str (pa_cons pe_str pa_nil)))))))))))
        (pss_cons (ps_par (i := 7) (j := 8) (by rfl) sc__law_spoilt.nd rfl rfl (by decide) rfl rfl (pa_cons (pe_ix (k_ixL K) (e_v 6) (e_c c__law_draw hr (pa_cons (e_v 0) (pa_cons (kk_len K T.b_len (e_v 6)) pa_nil))) (fun _ _ => rfl)) (pa_cons (e_c c__law_draw hr (pa_cons (e_v 0) (pa_cons (pe_op (k_add K) (kk_len K T.b_len (e_v 4)) pe_int) pa_nil))) pa_nil)) (by rfl))
        (pss_cons (s_if (t_cmp o_lt (e_v 5) pe_int (nomark _)) (pss_one (ps_set (i := 4) sc__law_spoilt.nd rfl (Or.inl rfl) (pe_op (k_add K) (pe_op (k_add K) (pe_slice sl_list (e_v 4) po_none (po_some (e_v 8))) (pe_lst (pa_cons (e_v 7) pa_nil))) (pe_slice sl_list (e_v 4) (po_some (pe_op (k_add K) (e_v 8) pe_int)) po_none)))) (pss_one (s_if (t_cmp o_eq (e_v 5) pe_int (nomark _)) (pss_one (ps_set (i := 4) sc__law_spoilt.nd rfl (Or.inl rfl) (pe_op (k_add K) (pe_op (k_add K) (pe_slice sl_list (e_v 4) po_none (po_some (e_v 8))) (pe_lst (pa_cons (e_v 7) pa_nil))) (pe_slice sl_list (e_v 4) (po_some (e_v 8)) po_none)))) (pss_one (s_if (PW.pt (w_and (t_cmp o_eq (e_v 5) pe_int (nomark _)) (w_and1 (t_cmp o_gt (kk_len K T.b_len (e_v 4)) pe_int (nomark _))))) (pss_one (ps_set (i := 4) sc__law_spoilt.nd rfl (Or.inl rfl) (pe_op (k_add K) (pe_slice sl_list (e_v 4) po_none (po_some (e_v 8))) (pe_slice sl_list (e_v 4) (po_some (pe_op (k_add K) (e_v 8) pe_int)) po_none)))) (pss_one (s_if (t_cmp o_eq (e_v 5) pe_int (nomark _)) (pss_one (ps_ret (pe_op (k_add K) (pe_op (k_add K) (e_v 1) (pe_op o_mulS pe_str (e_c c__law_draw hr (pa_cons (e_v 0) (pa_cons pe_int pa_nil))))) (e_v 7)))) (pss_one (s_if (t_cmp o_eq (e_v 5) pe_int (nomark _)) (pss_cons (ps_set (i := 4) sc__law_spoilt.nd rfl (Or.inl rfl) (pe_op (k_add K) (e_v 4) (pe_lst (pa_cons pe_str pa_nil))))
        (pss_one (ps_ret (k_join K pe_str (pe_op (k_add K) (pe_lc (own := [("_law_line", 10)]) (g := gName 10) (tt := tYes) rfl sc__law_spoilt.nd (pi_list (e_v 2)) (blkOk_by (own := [("_law_line", 10)]) (N := ["_law_bag_here", "_law_signs", "_law_lines", "_law_at", "_law_words", "_law_kind", "_law_odd", "_law_word", "_law_spot", "_law_more", "_law_line"]) (sc := defScope s__law_spoilt) (by decide +kernel)) (fun _ _ _ _ _ => (pg_name (i := 10) sc__law_spoilt.nd rfl (Or.inl rfl))) (fun _ _ _ _ _ => pts_nil) (fun _ _ _ _ _ => (k_join K pe_str (e_v 10)))) (pe_lst (pa_cons (pe_ix (k_ixL K) (e_v 4) (pe_un un_neg pe_int) (fun _ _ => rfl)) pa_nil))))))) (pss_cons (ps_set (i := 9) sc__law_spoilt.nd rfl (Or.inl rfl) (pe_lst (pa_cons pe_str (pa_cons pe_str (pa_cons pe_str (pa_cons pe_str pa_nil))))))
        (pss_one (ps_ret (k_join K pe_str (pe_op (k_add K) (pe_lst (pa_cons (pe_ix (k_ixL K) (e_v 9) (e_c c__law_draw hr (pa_cons (e_v 0) (pa_cons pe_int pa_nil))) (fun _ _ => rfl)) pa_nil)) (pe_lc (own := [("_law_line", 10)]) (g := gName 10) (tt := tYes) rfl sc__law_spoilt.nd (pi_list (e_v 2)) (blkOk_by (own := [("_law_line", 10)]) (N := ["_law_bag_here", "_law_signs", "_law_lines", "_law_at", "_law_words", "_law_kind", "_law_odd", "_law_word", "_law_spot", "_law_more", "_law_line"]) (sc := defScope s__law_spoilt) (by decide +kernel)) (fun _ _ _ _ _ => (pg_name (i := 10) sc__law_spoilt.nd rfl (Or.inl rfl))) (fun _ _ _ _ _ => pts_nil) (fun _ _ _ _ _ => (k_join K pe_str (e_v 10))))))))))))))))))
        (pss_one (ps_ret (k_join K pe_str (pe_lc (own := [("_law_line", 10)]) (g := gName 10) (tt := tYes) rfl sc__law_spoilt.nd (pi_list (pe_op (k_add K) (pe_op (k_add K) (pe_slice sl_list (e_v 2) po_none (po_some (e_v 3))) (pe_lst (pa_cons (e_v 4) pa_nil))) (pe_slice sl_list (e_v 2) (po_some (pe_op (k_add K) (e_v 3) pe_int)) po_none))) (blkOk_by (own := [("_law_line", 10)]) (N := ["_law_bag_here", "_law_signs", "_law_lines", "_law_at", "_law_words", "_law_kind", "_law_odd", "_law_word", "_law_spot", "_law_more", "_law_line"]) (sc := defScope s__law_spoilt) (by decide +kernel)) (fun _ _ _ _ _ => (pg_name (i := 10) sc__law_spoilt.nd rfl (Or.inl rfl))) (fun _ _ _ _ _ => pts_nil) (fun _ _ _ _ _ => (k_join K pe_str (e_v 10))))))))))))))), ?_⟩
      obtain ⟨c, b0, ⟨hz, ha, hn⟩, h⟩ := h
      have hsl : 1000003 ≤ sizeLine := by rw [sizeLine_eq]; decide
      walk_at "n"
      refine ⟨⟨rfl, by omega⟩, fun p hp => ?_⟩
      walk_at "n"
      have sq : SqL K (upd H p (.lst ((Txt.split z "\n").map V.str))) p ((Txt.split z "\n").map V.str) := SqL.of upd_same
      refine ⟨_, rfl, ⟨_, sq⟩, fun D hD => lcW (walk_list (K := K) (a := p) (xs := (Txt.split z "\n").map V.str)) (fun i v H => ∃ t : Addr × List Str, ((Txt.split z "\n")[i]?.map (fun l => Txt.split l " ") = some t.2 ∧ H t.1 = some (.lst (t.2.map V.str))) ∧ v = .ref t.1) (by rw [List.length_map]; omega) hD (fun H' s => sl s sq) (fun i y H H' s z => ?_) ?_ gm_name ?_⟩
      · obtain ⟨t, ⟨h1, h2⟩, h3⟩ := z
        exact ⟨t, ⟨h1, s _ _ h2⟩, h3⟩
      · rintro i x H1 H2 acc Nx hi s1 hd' ⟨rfl, hx⟩ nx
        rw [List.getElem?_map] at hx
        cases e1 : (Txt.split z "\n")[i]? with
        | none => rw [e1] at hx; cases hx
        | some l =>
          rw [e1] at hx
          obtain rfl : x = .str l := (Option.some.inj hx).symm
          have hll : l.length ≤ z.length := split_le (y := "\n") (by decide +kernel) (by decide +kernel) (List.mem_of_getElem? e1)
          refine ⟨rfl, ?_⟩
          walk_at "n"
          refine ⟨⟨rfl, by omega⟩, fun p2 hp2 => ?_⟩
          refine nx _ _ (snew hp2) ⟨(p2, Txt.split l " "), ⟨by rw [e1]; rfl, hide_new hp2 hd' upd_same⟩, rfl⟩
      intro ys H1 hl1 hy s1 hd
      obtain ⟨ls, rfl, hus⟩ := ys_ex (fun i y h => hy i y h)
      rw [List.length_map, List.length_map] at hl1
      have e2 : ls.map (fun t => t.2) = (Txt.split z "\n").map fun l => Txt.split l " " := by
        refine List.ext_getElem? fun i => ?_
        rw [List.getElem?_map, List.getElem?_map]
        cases e1 : ls[i]? with
        | none =>
          have := List.getElem?_eq_none_iff.mp e1
          rw [List.getElem?_eq_none (by omega)]
          rfl
        | some u => exact (hus i u e1).1.symm
      have e3 : ∀ u, u ∈ ls → H1 u.1 = some (.lst (u.2.map V.str)) := fun u hu => by
        obtain ⟨i, hi⟩ := List.getElem?_of_mem hu
        exact (hus i u hi).2
      clear hus hy
      have sH1 : Same H H1 := (snew hp).trans s1
      have b1 := b0.same sH1
      have hwo : ∀ t, t ∈ ls → (∀ w, w ∈ t.2 → Asc w ∧ NoNl w) ∧ t.2 ≠ [] ∧ t.2.length ≤ 60000 := fun t ht => by
        have m : t.2 ∈ ls.map fun t => t.2 := List.mem_map_of_mem ht
        rw [e2] at m
        obtain ⟨l, hl, e⟩ := List.mem_map.mp m
        have l1 : l.length ≤ z.length := split_le (by decide +kernel) (by decide +kernel) hl
        have al : Asc l := ha.split (by decide +kernel) (by decide +kernel) hl
        have nl : NoNl l := split_nl hl
        rw [← e]
        refine ⟨fun w hw => ⟨al.split (by decide +kernel) (by decide +kernel) hw, nl.split hw⟩, split_some (by decide +kernel) (by decide +kernel), ?_⟩
        have := split_cnt (z := l) (y := " ") (by decide +kernel) (by decide +kernel)
        omega
      have htot : tot (ls.map fun t => t.2) = z.length + 1 + ls.length := by
        rw [e2, hl1, tot_split]
      have hlen : 0 < ls.length := by
        rw [hl1]
        exact List.length_pos_iff.mpr (split_some (by decide +kernel) (by decide +kernel))
      walk_at "n"
      refine .inl ⟨_, .inl (SqL.of hd), ?_⟩
      rw [List.length_map]
      walk_at "n"
      refine ⟨_, b1, by omega, by omega, fun r2 H2 s2 b2 q0 q1 => ?_⟩
      obtain ⟨kv1, hg1⟩ := b1.dk
      have hd2 := s2.at hd hg1 fun e => by cases e
      have e3' : ∀ u, u ∈ ls → H2 u.1 = some (.lst (u.2.map V.str)) := fun u hu => s2.at (e3 u hu) hg1 fun e => by cases e
      obtain ⟨t, ht⟩ : ∃ t, ls[r2.toNat]? = some t := ⟨_, List.getElem?_eq_getElem (by omega)⟩
      have mt : t ∈ ls := List.mem_of_getElem? ht
      have at1 : atI (ls.map fun t => V.ref t.1) r2 = some (.ref t.1) := by
        rw [atI_lt q0 (by simp; omega), List.getElem?_map, ht]
        rfl
      walk_at "n"
      refine ⟨_, _, SqL.of hd2, at1, ?_⟩
      walk_at "n"
      refine ⟨_, .inl (SqL.of (e3' t mt)), fun pw hpw => ?_⟩
      walk_at "n"
      have s3 : SB g H (upd H2 pw (.lst (t.2.map V.str))) := ((sb_same sH1).trans s2).trans (sb_same (snew hpw))
      have b3 := b2.same (snew (o := .lst (t.2.map V.str)) hpw)
      have w3 : upd H2 pw (.lst (t.2.map V.str)) pw = some (.lst (t.2.map V.str)) := upd_same
      have d3 := upd_keep (u := .lst (t.2.map V.str)) hpw hd2
      have l3 : ∀ u, u ∈ ls → upd H2 pw (.lst (t.2.map V.str)) u.1 = some (.lst (u.2.map V.str)) := fun u hu => upd_keep hpw (e3' u hu)
      generalize upd H2 pw (.lst (t.2.map V.str)) = H3 at *
      refine ⟨_, b3, by decide, by decide, fun kd H4 s4 b4 k0 k1 => ?_⟩
      obtain ⟨kv3, hg3⟩ := b3.dk
      have w4 := s4.at w3 hg3 fun e => by cases e
      have d4 := s4.at d3 hg3 fun e => by cases e
      have l4 : ∀ u, u ∈ ls → H4 u.1 = some (.lst (u.2.map V.str)) := fun u hu => s4.at (l3 u hu) hg3 fun e => by cases e
      have s04 := s3.trans s4
      clear s3 s4 hg3 hg1 l3 d3 w3 b3 e3 e3'
      refine ⟨_, _, rfl, ?_⟩
      walk_at "n"
      refine ⟨line_of (by simp), fun o1 ho1 => ?_⟩
      walk_at "n"
      refine ⟨line_of (by simp), fun o2 ho2 => ?_⟩
      walk_at "n"
      refine .inl ⟨_, _, _, _, rfl, rfl, upd_keep ho2 upd_same, upd_same, Nat.le_trans (by decide : 10 + 6 ≤ 1000) (by omega), fun o3 ho3 => ?_⟩
      walk_at "n"
      refine ⟨line_of (by simp), fun o4 ho4 => ?_⟩
      walk_at "n"
      refine .inl ⟨_, _, _, _, rfl, rfl, upd_keep ho4 upd_same, upd_same, Nat.le_trans (by decide : 16 + 8 ≤ 1000) (by omega), fun o5 ho5 => ?_⟩
      walk_at "n"
      have sA := sto (sto (sto (sto (snew (o := .lst [V.str "", V.str "none", V.str "ring", V.str "watch", V.str "Ring", V.str "2019-02-29", V.str "2020-02-29", V.str "2019-1-01", V.str "02019-01-01", V.str "12019-01-01"]) ho1) (o := .lst [V.str "0000-01-01", V.str "999999-12-31", V.str "1000000-01-01", V.str "2019-13-01", V.str "2019-00-10", V.str "2019-01-00"]) ho2) (o := .lst ([V.str "", V.str "none", V.str "ring", V.str "watch", V.str "Ring", V.str "2019-02-29", V.str "2020-02-29", V.str "2019-1-01", V.str "02019-01-01", V.str "12019-01-01"] ++ [V.str "0000-01-01", V.str "999999-12-31", V.str "1000000-01-01", V.str "2019-13-01", V.str "2019-00-10", V.str "2019-01-00"])) ho3) (o := .lst [V.str "6:00", V.str "06:60", V.str "24:00", V.str "23:59", V.str "00:00", V.str "06:00:00", V.str "2019-01-01-01", V.str "-"]) ho4) (o := .lst (([V.str "", V.str "none", V.str "ring", V.str "watch", V.str "Ring", V.str "2019-02-29", V.str "2020-02-29", V.str "2019-1-01", V.str "02019-01-01", V.str "12019-01-01"] ++ [V.str "0000-01-01", V.str "999999-12-31", V.str "1000000-01-01", V.str "2019-13-01", V.str "2019-00-10", V.str "2019-01-00"]) ++ [V.str "6:00", V.str "06:60", V.str "24:00", V.str "23:59", V.str "00:00", V.str "06:00:00", V.str "2019-01-01-01", V.str "-"])) ho5
      have hodd : ∀ Hz : Hp, upd Hz o5 (.lst (([V.str "", V.str "none", V.str "ring", V.str "watch", V.str "Ring", V.str "2019-02-29", V.str "2020-02-29", V.str "2019-1-01", V.str "02019-01-01", V.str "12019-01-01"] ++ [V.str "0000-01-01", V.str "999999-12-31", V.str "1000000-01-01", V.str "2019-13-01", V.str "2019-00-10", V.str "2019-01-00"]) ++ [V.str "6:00", V.str "06:60", V.str "24:00", V.str "23:59", V.str "00:00", V.str "06:00:00", V.str "2019-01-01-01", V.str "-"])) o5 = some (.lst (oddL.map V.str)) := fun Hz => upd_same
      have b5 := b4.same sA
      have w5 := sA _ _ w4
      have d5 := sA _ _ d4
      have l5 : ∀ u, u ∈ ls → _ := fun u hu => sA _ _ (l4 u hu)
      have s05 := s04.trans (sb_same sA)
      have f5 := hodd (upd (upd (upd (upd H4 o1 (.lst [V.str "", V.str "none", V.str "ring", V.str "watch", V.str "Ring", V.str "2019-02-29", V.str "2020-02-29", V.str "2019-1-01", V.str "02019-01-01", V.str "12019-01-01"])) o2 (.lst [V.str "0000-01-01", V.str "999999-12-31", V.str "1000000-01-01", V.str "2019-13-01", V.str "2019-00-10", V.str "2019-01-00"])) o3 (.lst ([V.str "", V.str "none", V.str "ring", V.str "watch", V.str "Ring", V.str "2019-02-29", V.str "2020-02-29", V.str "2019-1-01", V.str "02019-01-01", V.str "12019-01-01"] ++ [V.str "0000-01-01", V.str "999999-12-31", V.str "1000000-01-01", V.str "2019-13-01", V.str "2019-00-10", V.str "2019-01-00"]))) o4 (.lst [V.str "6:00", V.str "06:60", V.str "24:00", V.str "23:59", V.str "00:00", V.str "06:00:00", V.str "2019-01-01-01", V.str "-"]))
      clear hodd
      refine odd_go ?_
      generalize upd (upd (upd (upd (upd H4 o1 (.lst [V.str "", V.str "none", V.str "ring", V.str "watch", V.str "Ring", V.str "2019-02-29", V.str "2020-02-29", V.str "2019-1-01", V.str "02019-01-01", V.str "12019-01-01"])) o2 (.lst [V.str "0000-01-01", V.str "999999-12-31", V.str "1000000-01-01", V.str "2019-13-01", V.str "2019-00-10", V.str "2019-01-00"])) o3 (.lst ([V.str "", V.str "none", V.str "ring", V.str "watch", V.str "Ring", V.str "2019-02-29", V.str "2020-02-29", V.str "2019-1-01", V.str "02019-01-01", V.str "12019-01-01"] ++ [V.str "0000-01-01", V.str "999999-12-31", V.str "1000000-01-01", V.str "2019-13-01", V.str "2019-00-10", V.str "2019-01-00"]))) o4 (.lst [V.str "6:00", V.str "06:60", V.str "24:00", V.str "23:59", V.str "00:00", V.str "06:00:00", V.str "2019-01-01-01", V.str "-"])) o5 (.lst (([V.str "", V.str "none", V.str "ring", V.str "watch", V.str "Ring", V.str "2019-02-29", V.str "2020-02-29", V.str "2019-1-01", V.str "02019-01-01", V.str "12019-01-01"] ++ [V.str "0000-01-01", V.str "999999-12-31", V.str "1000000-01-01", V.str "2019-13-01", V.str "2019-00-10", V.str "2019-01-00"]) ++ [V.str "6:00", V.str "06:60", V.str "24:00", V.str "23:59", V.str "00:00", V.str "06:00:00", V.str "2019-01-01-01", V.str "-"])) = H5 at *
      have f5 : H5 o5 = some (.lst (oddL.map V.str)) := f5
      refine .inl ⟨_, .inl (SqL.of f5), ?_⟩
      walk_at "n"
      refine ⟨_, b5, by decide, by decide, fun r6 H6 s6 b6 p0 p1 => ?_⟩
      obtain ⟨kv5, hg5⟩ := b5.dk
      have w6 := s6.at w5 hg5 fun e => by cases e
      have d6 := s6.at d5 hg5 fun e => by cases e
      have f6 := s6.at f5 hg5 fun e => by cases e
      have l6 : ∀ u, u ∈ ls → H6 u.1 = some (.lst (u.2.map V.str)) := fun u hu => s6.at (l5 u hu) hg5 fun e => by cases e
      obtain ⟨wd, hwd, mwd⟩ := pickO (l := oddL) p0 p1
      obtain ⟨wd1, wd2, wd3⟩ := oddL_ok wd mwd
      walk_at "n"
      refine ⟨_, _, SqL.of f6, hwd, ?_⟩
      walk_at "n"
      refine .inl ⟨_, .inl (SqL.of w6), ?_⟩
      rw [List.length_map]
      walk_at "n"
      have tl6 := (hwo t mt).2.2
      refine ⟨_, b6, by omega, by omega, fun spt H7 s7 b7 u0 u1 => ?_⟩
      obtain ⟨kv6, hg6⟩ := b6.dk
      have w7 := s7.at w6 hg6 fun e => by cases e
      have d7 := s7.at d6 hg6 fun e => by cases e
      have l7 : ∀ u, u ∈ ls → H7 u.1 = some (.lst (u.2.map V.str)) := fun u hu => s7.at (l6 u hu) hg6 fun e => by cases e
      have s07 := (s05.trans s6).trans s7
      clear s04 s05 s6 s7 hg5 hg6 l6 l5 l4 d6 d5 d4 w6 w5 w4 f6 f5 sA b6 b5 b4 hd hd2 hwd at1
      refine ⟨_, _, rfl, ?_⟩
      walk_at "n"
      have lo := (oddL_ok wd mwd).2.2
      obtain ⟨n7, hn7⟩ : ∃ n : Nat, spt = n := ⟨spt.toNat, by omega⟩
      subst hn7
      have hws := (hwo t mt).1
      have fin : ∀ (L : List Str) H', SB g H H' → BagAt K H' g c → L ≠ [] → (∀ l, l ∈ L → Asc l ∧ NoNl l) → L.length ≤ ls.length + 1 → sz L ≤ z.length + 100 → Q (.str (Txt.join "\n" L)) H' := fun L H' s b n1 n2 n3 n4 => by
        refine h _ H' s b (Nat.le_trans (join_sz (s := 10) (by decide +kernel) L) n4) (join_asc (fun c hc => by rw [tl_nl] at hc; simp at hc; omega) fun w hw => (n2 w hw).1) ?_
        rw [lines_join n1 fun l hl => (n2 l hl).2, ← hl1]
        exact n3
      refine cond_p (fun k2 => ?c1) (fun k2 => ?c2)
      case' c1 =>
        walk_at "n"
        refine ⟨_, rfl, ?_⟩
        walk_at "n"
        refine ⟨_, _, rfl, SqL.of w7, fun p8 hp8 => ?_⟩
        rw [cut_hi, ← List.map_take]
        walk_at "n"
        refine ⟨line_of (by simp), fun p9 hp9 => ?_⟩
        walk_at "n"
        refine .inl ⟨_, _, _, _, rfl, rfl, upd_keep hp9 upd_same, upd_same, by simp; omega, fun pA hpA => ?_⟩
        walk_at "n"
        refine ⟨_, rfl, ?_⟩
        walk_at "n"
        have kA : ∀ a o, H7 a = some o → upd (upd (upd H7 p8 (.lst ((t.2.take n7).map V.str))) p9 (.lst [V.str wd])) pA (.lst ((t.2.take n7).map V.str ++ [V.str wd])) a = some o := fun a o e => upd_keep hpA (upd_keep hp9 (upd_keep hp8 e))
        refine ⟨_, _, rfl, SqL.of (kA _ _ w7), fun pB hpB => ?_⟩
        rw [show ((n7 : Int) + 1) = ((n7 + 1 : Nat) : Int) by omega, cut_lo, ← List.map_drop]
        walk_at "n"
        refine .inl ⟨_, _, _, _, rfl, rfl, upd_keep hpB upd_same, upd_same, by simp; omega, fun pX hpX => ?_⟩
        rw [show ((t.2.take n7).map V.str ++ [V.str wd]) ++ (t.2.drop (n7 + 1)).map V.str = (t.2.take n7 ++ [wd] ++ t.2.drop (n7 + 1)).map V.str by simp]
        have hX : ∃ ws', ws' = t.2.take n7 ++ [wd] ++ t.2.drop (n7 + 1) ∧ (∀ w, w ∈ ws' → Asc w ∧ NoNl w) ∧ sz ws' ≤ sz t.2 + 14 := ⟨_, rfl, fun w hw => by
          simp only [List.mem_append, List.mem_singleton] at hw
          rcases hw with (hw | hw) | hw
          · exact hws w (List.mem_of_mem_take hw)
          · rw [hw]
            exact ⟨wd1, wd2⟩
          · exact hws w (List.mem_of_mem_drop hw), by
          rw [sz_app, sz_app, sz_one]
          have := sz_td t.2 n7
          have := sz_dd t.2 n7
          omega⟩
        obtain ⟨ws', eX, hX1, hX2⟩ := hX
        rw [← eX]
        have sX : Same H7 _ := sto (sto (sto (sto (snew (o := .lst ((t.2.take n7).map V.str)) hp8) (o := .lst [V.str wd]) hp9) (o := .lst ((t.2.take n7).map V.str ++ [V.str wd])) hpA) (o := .lst ((t.2.drop (n7 + 1)).map V.str)) hpB) (o := .lst (ws'.map V.str)) hpX
        have fX : upd (upd (upd (upd (upd H7 p8 (.lst ((t.2.take n7).map V.str))) p9 (.lst [V.str wd])) pA (.lst ((t.2.take n7).map V.str ++ [V.str wd]))) pB (.lst ((t.2.drop (n7 + 1)).map V.str))) pX (.lst (ws'.map V.str)) pX = some (.lst (ws'.map V.str)) := upd_same
        generalize upd (upd (upd (upd (upd H7 p8 (.lst ((t.2.take n7).map V.str))) p9 (.lst [V.str wd])) pA (.lst ((t.2.take n7).map V.str ++ [V.str wd]))) pB (.lst ((t.2.drop (n7 + 1)).map V.str))) pX (.lst (ws'.map V.str)) = H8 at *
      case' c2 =>
        walk_at "n"
        refine cond_p (fun k3 => ?c3) (fun k3 => ?c4)
        case' c3 =>
          walk_at "n"
          refine ⟨_, rfl, ?_⟩
          walk_at "n"
          refine ⟨_, _, rfl, SqL.of w7, fun p8 hp8 => ?_⟩
          rw [cut_hi, ← List.map_take]
          walk_at "n"
          refine ⟨line_of (by simp), fun p9 hp9 => ?_⟩
          walk_at "n"
          refine .inl ⟨_, _, _, _, rfl, rfl, upd_keep hp9 upd_same, upd_same, by simp; omega, fun pA hpA => ?_⟩
          walk_at "n"
          refine ⟨_, rfl, ?_⟩
          walk_at "n"
          have kA : ∀ a o, H7 a = some o → upd (upd (upd H7 p8 (.lst ((t.2.take n7).map V.str))) p9 (.lst [V.str wd])) pA (.lst ((t.2.take n7).map V.str ++ [V.str wd])) a = some o := fun a o e => upd_keep hpA (upd_keep hp9 (upd_keep hp8 e))
          refine ⟨_, _, rfl, SqL.of (kA _ _ w7), fun pB hpB => ?_⟩
          rw [cut_lo, ← List.map_drop]
          walk_at "n"
          refine .inl ⟨_, _, _, _, rfl, rfl, upd_keep hpB upd_same, upd_same, by simp; omega, fun pX hpX => ?_⟩
          rw [show ((t.2.take n7).map V.str ++ [V.str wd]) ++ (t.2.drop (n7)).map V.str = (t.2.take n7 ++ [wd] ++ t.2.drop (n7)).map V.str by simp]
          have hX : ∃ ws', ws' = t.2.take n7 ++ [wd] ++ t.2.drop (n7) ∧ (∀ w, w ∈ ws' → Asc w ∧ NoNl w) ∧ sz ws' ≤ sz t.2 + 14 := ⟨_, rfl, fun w hw => by
            simp only [List.mem_append, List.mem_singleton] at hw
            rcases hw with (hw | hw) | hw
            · exact hws w (List.mem_of_mem_take hw)
            · rw [hw]
              exact ⟨wd1, wd2⟩
            · exact hws w (List.mem_of_mem_drop hw), by
            rw [sz_app, sz_app, sz_one]
            have := sz_td t.2 n7
            omega⟩
          obtain ⟨ws', eX, hX1, hX2⟩ := hX
          rw [← eX]
          have sX : Same H7 _ := sto (sto (sto (sto (snew (o := .lst ((t.2.take n7).map V.str)) hp8) (o := .lst [V.str wd]) hp9) (o := .lst ((t.2.take n7).map V.str ++ [V.str wd])) hpA) (o := .lst ((t.2.drop (n7)).map V.str)) hpB) (o := .lst (ws'.map V.str)) hpX
          have fX : upd (upd (upd (upd (upd H7 p8 (.lst ((t.2.take n7).map V.str))) p9 (.lst [V.str wd])) pA (.lst ((t.2.take n7).map V.str ++ [V.str wd]))) pB (.lst ((t.2.drop (n7)).map V.str))) pX (.lst (ws'.map V.str)) pX = some (.lst (ws'.map V.str)) := upd_same
          generalize upd (upd (upd (upd (upd H7 p8 (.lst ((t.2.take n7).map V.str))) p9 (.lst [V.str wd])) pA (.lst ((t.2.take n7).map V.str ++ [V.str wd]))) pB (.lst ((t.2.drop (n7)).map V.str))) pX (.lst (ws'.map V.str)) = H8 at *
        case' c4 =>
          walk_at "n"
          refine cond_p (fun k4 => ?d1) (fun k4 => ?c6)
          case' d1 =>
            walk_at "n"
            refine .inl ⟨_, .inl (SqL.of w7), ?_⟩
            rw [List.length_map]
            walk_at "n"
            refine cond_p (fun k5 => ?c5) (fun k5 => ?d2)
          case' c5 =>
              walk_at "n"
              refine ⟨_, rfl, ?_⟩
              walk_at "n"
              refine ⟨_, _, rfl, SqL.of w7, fun p8 hp8 => ?_⟩
              rw [cut_hi, ← List.map_take]
              walk_at "n"
              refine ⟨_, rfl, ?_⟩
              walk_at "n"
              refine ⟨_, _, rfl, SqL.of (upd_keep hp8 w7), fun p9 hp9 => ?_⟩
              rw [show ((n7 : Int) + 1) = ((n7 + 1 : Nat) : Int) by omega, cut_lo, ← List.map_drop]
              walk_at "n"
              refine .inl ⟨_, _, _, _, rfl, rfl, upd_keep hp9 upd_same, upd_same, by simp; omega, fun pX hpX => ?_⟩
              rw [show (t.2.take n7).map V.str ++ (t.2.drop (n7 + 1)).map V.str = (t.2.take n7 ++ t.2.drop (n7 + 1)).map V.str by simp]
              have hX : ∃ ws', ws' = t.2.take n7 ++ t.2.drop (n7 + 1) ∧ (∀ w, w ∈ ws' → Asc w ∧ NoNl w) ∧ sz ws' ≤ sz t.2 + 14 := ⟨_, rfl, fun w hw => by
                simp only [List.mem_append] at hw
                rcases hw with hw | hw
                · exact hws w (List.mem_of_mem_take hw)
                · exact hws w (List.mem_of_mem_drop hw), by
                rw [sz_app]
                have := sz_td t.2 n7
                have := sz_dd t.2 n7
                omega⟩
              obtain ⟨ws', eX, hX1, hX2⟩ := hX
              rw [← eX]
              have sX : Same H7 _ := sto (sto (snew (o := .lst ((t.2.take n7).map V.str)) hp8) (o := .lst ((t.2.drop (n7 + 1)).map V.str)) hp9) (o := .lst (ws'.map V.str)) hpX
              have fX : upd (upd (upd H7 p8 (.lst ((t.2.take n7).map V.str))) p9 (.lst ((t.2.drop (n7 + 1)).map V.str))) pX (.lst (ws'.map V.str)) pX = some (.lst (ws'.map V.str)) := upd_same
              generalize upd (upd (upd H7 p8 (.lst ((t.2.take n7).map V.str))) p9 (.lst ((t.2.drop (n7 + 1)).map V.str))) pX (.lst (ws'.map V.str)) = H8 at *
          all_goals skip
      case c6 =>
        walk_at "n"
        refine cond_p (fun k6 => ?_) (fun k6 => ?_)
        · walk_at "n"
          refine ⟨_, b7, by decide, by decide, fun r8 H8 s8 b8 v0 v1 => ?_⟩
          walk_at "n"
          have hr : r8 = 0 ∨ r8 = 1 := by omega
          have hm : PySem.MulOk "\n" r8 ∧ (PySem.Txt.mul "\n" r8 = "" ∨ PySem.Txt.mul "\n" r8 = "\n") := by
            rcases hr with rfl | rfl
            · exact ⟨⟨by decide, fun z => absurd (by decide) z, fun z => absurd (by decide) z⟩, .inl (by decide +kernel)⟩
            · exact ⟨⟨by decide, fun _ z => absurd z (by decide), fun _ z => absurd z (by decide)⟩, .inr (by decide +kernel)⟩
          obtain ⟨hm1, hm2⟩ := hm
          refine ⟨hm1, ?_⟩
          have hm3 : (PySem.Txt.mul "\n" r8).length ≤ 1 ∧ Asc (PySem.Txt.mul "\n" r8) ∧ (Txt.split (PySem.Txt.mul "\n" r8) "\n").length ≤ 2 := by
            rcases hm2 with e | e <;> rw [e]
            · exact ⟨by decide, fun c hc => by rw [show tl "" = [] from by decide +kernel] at hc; (cases hc), by decide +kernel⟩
            · exact ⟨by decide, fun c hc => by rw [tl_nl] at hc; simp at hc; omega, by decide +kernel⟩
          generalize PySem.Txt.mul "\n" r8 = mm at *
          obtain ⟨m1, m2, m3⟩ := hm3
          walk_at "n"
          refine ⟨by omega, ?_⟩
          walk_at "n"
          refine ⟨by rw [Str.length_append]; omega, ?_⟩
          walk_at "n"
          refine h _ _ (s07.trans s8) b8 (by rw [Str.length_append, Str.length_append]; omega) (asc_app (asc_app ha m2) wd1) ?_
          have n1 := lines_app (z ++ mm) wd
          have n2 := lines_app z mm
          have n3 : (Txt.split wd "\n").length = 1 := by
            rw [nl_count, List.count_eq_zero_of_not_mem wd2]
          rw [n1, n2, n3]
          omega
        · walk_at "n"
          refine cond_p (fun k7 => ?_) (fun k7 => ?_)
          · walk_at "n"
            refine ⟨line_of (by simp), fun p8 hp8 => ?_⟩
            walk_at "n"
            refine .inl ⟨_, _, _, _, rfl, rfl, upd_keep hp8 w7, upd_same, by simp; omega, fun pX hpX => ?_⟩
            walk_at "n"
            have sN := sto (snew (o := .lst [V.str "watch 2019-01-01 06:00 2019-01-01 06:00"]) hp8) (o := .lst (t.2.map V.str ++ [V.str "watch 2019-01-01 06:00 2019-01-01 06:00"])) hpX
            have fN : upd (upd H7 p8 (.lst [V.str "watch 2019-01-01 06:00 2019-01-01 06:00"])) pX (.lst (t.2.map V.str ++ [V.str "watch 2019-01-01 06:00 2019-01-01 06:00"])) pX = some (.lst (t.2.map V.str ++ [V.str "watch 2019-01-01 06:00 2019-01-01 06:00"])) := upd_same
            have bN := b7.same sN
            generalize upd (upd H7 p8 (.lst [V.str "watch 2019-01-01 06:00 2019-01-01 06:00"])) pX (.lst (t.2.map V.str ++ [V.str "watch 2019-01-01 06:00 2019-01-01 06:00"])) = HN at *
            obtain ⟨md1, md2, md3⟩ : Asc "watch 2019-01-01 06:00 2019-01-01 06:00" ∧ NoNl "watch 2019-01-01 06:00 2019-01-01 06:00" ∧ ("watch 2019-01-01 06:00 2019-01-01 06:00" : Str).length ≤ 40 := by
              have key : ((tl "watch 2019-01-01 06:00 2019-01-01 06:00").all (fun c => decide (c < 128) && decide (c ≠ 10)) && decide (("watch 2019-01-01 06:00 2019-01-01 06:00" : Str).length ≤ 40)) = true := by decide +kernel
              simp only [Bool.and_eq_true, decide_eq_true_eq, List.all_eq_true] at key
              exact ⟨fun c hc => (key.1 c hc).1, fun hc => (key.1 10 hc).2 rfl, key.2⟩
            refine ⟨_, rfl, ⟨_, SqL.of (sN _ _ d7)⟩, fun D2 hD2 => lcW (walk_list (K := K) (a := D) (xs := ls.map fun t => V.ref t.1)) (fun i v _ => ∃ u, ls[i]? = some u ∧ v = .str (Txt.join " " u.2)) (by rw [List.length_map]; omega) hD2 (fun H' s => sl s (SqL.of (sN _ _ d7))) (fun _ _ _ _ _ z => z) ?_ gm_name ?_⟩
            · rintro i x HA HB acc Nx hi sA hdA ⟨rfl, hx⟩ nx
              obtain ⟨u, hu, rfl⟩ := ref_at hx
              have hu1 := l7 u (List.mem_of_getElem? hu)
              refine ⟨rfl, ?_⟩
              walk_at "n"
              refine ⟨u.2, .inl (SqL.of (sA _ _ (sN _ _ hu1))), ?_, ?_⟩
              · have m1 := mem_tot (List.mem_map_of_mem (f := fun t : Addr × List Str => t.2) (List.mem_of_getElem? hu))
                rw [sz_eq] at m1
                rw [show (Str.ofString " ").length = 1 from by decide, Nat.mul_one]
                omega
              exact nx _ _ (Same.refl _) ⟨u, hu, rfl⟩
            · intro ys HA hlA hyA sA hdA
              have eA := ys_get (l := ls) (f := fun u => V.str (Txt.join " " u.2)) (by simpa using hlA) hyA
              walk_at "n"
              rw [eA] at hdA
              refine ⟨_, rfl, ?_⟩
              walk_at "n"
              refine ⟨_, _, SqL.of (sA _ _ fN), at_last, ?_⟩
              walk_at "n"
              refine ⟨line_of (by simp), fun pq hpq => ?_⟩
              walk_at "n"
              refine .inl ⟨_, _, _, _, rfl, rfl, upd_keep hpq hdA, upd_same, by simp; omega, fun pZ hpZ => ?_⟩
              walk_at "n"
              rw [show ((ls.map fun u => V.str (Txt.join " " u.2)) ++ [V.str "watch 2019-01-01 06:00 2019-01-01 06:00"]) = ((ls.map fun u => Txt.join " " u.2) ++ [("watch 2019-01-01 06:00 2019-01-01 06:00" : Str)]).map V.str by simp]
              have szl : sz (ls.map fun u => Txt.join " " u.2) ≤ tot (ls.map fun t => t.2) := by
                have := sz_lines (ls := ls.map fun t => t.2)
                rw [List.map_map] at this
                exact this
              have szc : sz ((ls.map fun u => Txt.join " " u.2) ++ [("watch 2019-01-01 06:00 2019-01-01 06:00" : Str)]) = sz (ls.map fun u => Txt.join " " u.2) + (("watch 2019-01-01 06:00 2019-01-01 06:00" : Str).length + 1) := by rw [sz_app, sz_one]
              refine ⟨_, .inl (SqL.of upd_same), ?_, ?_⟩
              · have := sz_eq ((ls.map fun u => Txt.join " " u.2) ++ [("watch 2019-01-01 06:00 2019-01-01 06:00" : Str)])
                rw [show (Str.ofString "\n").length = 1 from by decide, Nat.mul_one]
                omega
              refine fin ((ls.map fun u => Txt.join " " u.2) ++ [("watch 2019-01-01 06:00 2019-01-01 06:00" : Str)]) _ (s07.trans (sb_same (sto (sto (sN.trans sA) hpq) hpZ))) (bN.same (sto (sto sA hpq) hpZ)) (by simp) (fun l hl => ?_) (by simp) (by omega)
              rcases List.mem_append.mp hl with hl | hl
              · obtain ⟨u, hu, rfl⟩ := List.mem_map.mp hl
                have hu2 := (hwo u hu).1
                exact ⟨join_asc (fun c hc => by rw [tl_sp] at hc; simp at hc; omega) fun w hw => (hu2 w hw).1, join_nl fun w hw => (hu2 w hw).2⟩
              · rw [List.mem_singleton.mp hl]
                exact ⟨md1, md2⟩
          · walk_at "n"
            refine ⟨line_of (by simp), fun p8 hp8 => ?_⟩
            walk_at "n"
            have sM := snew (o := .lst (moreL.map V.str)) hp8
            have fM : upd H7 p8 (.lst (moreL.map V.str)) p8 = some (.lst (moreL.map V.str)) := upd_same
            refine ⟨_, b7.same sM, by decide, by decide, fun r9 H9 s9 b9 v0 v1 => ?_⟩
            obtain ⟨kv7, hg7⟩ := (b7.same sM).dk
            obtain ⟨md, hmd, mmd⟩ := pickO (l := moreL) (r := r9) v0 v1
            obtain ⟨md1, md2, md3⟩ := moreL_ok md mmd
            have fM9 := s9.at fM hg7 fun e => by cases e
            have d9 := s9.at (sM _ _ d7) hg7 fun e => by cases e
            have l9 : ∀ u, u ∈ ls → H9 u.1 = some (.lst (u.2.map V.str)) := fun u hu => s9.at (sM _ _ (l7 u hu)) hg7 fun e => by cases e
            have s09 := (s07.trans (sb_same sM)).trans s9
            walk_at "n"
            refine ⟨_, _, SqL.of fM9, hmd, ?_⟩
            walk_at "n"
            refine ⟨line_of (by simp), fun pN hpN => ?_⟩
            walk_at "n"
            have sN := snew (o := .lst [V.str md]) hpN
            have fN : upd H9 pN (.lst [V.str md]) pN = some (.lst [V.str md]) := upd_same
            have bN := b9.same sN
            generalize upd H9 pN (.lst [V.str md]) = HN at *
            refine ⟨_, rfl, ⟨_, SqL.of (sN _ _ d9)⟩, fun D2 hD2 => lcW (walk_list (K := K) (a := D) (xs := ls.map fun t => V.ref t.1)) (fun i v _ => ∃ u, ls[i]? = some u ∧ v = .str (Txt.join " " u.2)) (by rw [List.length_map]; omega) hD2 (fun H' s => sl s (SqL.of (sN _ _ d9))) (fun _ _ _ _ _ z => z) ?_ gm_name ?_⟩
            · rintro i x HA HB acc Nx hi sA hdA ⟨rfl, hx⟩ nx
              obtain ⟨u, hu, rfl⟩ := ref_at hx
              have hu1 := l9 u (List.mem_of_getElem? hu)
              refine ⟨rfl, ?_⟩
              walk_at "n"
              refine ⟨u.2, .inl (SqL.of (sA _ _ (sN _ _ hu1))), ?_, ?_⟩
              · have m1 := mem_tot (List.mem_map_of_mem (f := fun t : Addr × List Str => t.2) (List.mem_of_getElem? hu))
                rw [sz_eq] at m1
                rw [show (Str.ofString " ").length = 1 from by decide, Nat.mul_one]
                omega
              exact nx _ _ (Same.refl _) ⟨u, hu, rfl⟩
            · intro ys HA hlA hyA sA hdA
              have eA := ys_get (l := ls) (f := fun u => V.str (Txt.join " " u.2)) (by simpa using hlA) hyA
              walk_at "n"
              rw [eA] at hdA
              refine .inl ⟨_, _, _, _, rfl, rfl, sA _ _ fN, hdA, by simp; omega, fun pZ hpZ => ?_⟩
              walk_at "n"
              rw [show ([V.str md] ++ ls.map fun u => V.str (Txt.join " " u.2)) = (md :: ls.map fun u => Txt.join " " u.2).map V.str by simp]
              have szl : sz (ls.map fun u => Txt.join " " u.2) ≤ tot (ls.map fun t => t.2) := by
                have := sz_lines (ls := ls.map fun t => t.2)
                rw [List.map_map] at this
                exact this
              have szc : sz (md :: ls.map fun u => Txt.join " " u.2) = md.length + 1 + sz (ls.map fun u => Txt.join " " u.2) := rfl
              refine ⟨_, .inl (SqL.of upd_same), ?_, ?_⟩
              · have := sz_eq (md :: ls.map fun u => Txt.join " " u.2)
                rw [show (Str.ofString "\n").length = 1 from by decide, Nat.mul_one]
                omega
              refine fin (md :: ls.map fun u => Txt.join " " u.2) _ (s09.trans (sb_same (sto (sN.trans sA) hpZ))) (bN.same (sto sA hpZ)) (by simp) (fun l hl => ?_) (by simp) (by omega)
              rcases List.mem_cons.mp hl with hl | hl
              · rw [hl]
                exact ⟨md1, md2⟩
              · obtain ⟨u, hu, rfl⟩ := List.mem_map.mp hl
                have hu2 := (hwo u hu).1
                exact ⟨join_asc (fun c hc => by rw [tl_sp] at hc; simp at hc; omega) fun w hw => (hu2 w hw).1, join_nl fun w hw => (hu2 w hw).2⟩
      case d2 =>
        walk_at "n"
        refine cond_nq (by omega) ?_
        walk_at "n"
        refine cond_nq (by omega) ?_
        walk_at "n"
        refine ⟨line_of (by simp), fun p8 hp8 => ?_⟩
        walk_at "n"
        have sM := snew (o := .lst (moreL.map V.str)) hp8
        have fM : upd H7 p8 (.lst (moreL.map V.str)) p8 = some (.lst (moreL.map V.str)) := upd_same
        refine ⟨_, b7.same sM, by decide, by decide, fun r9 H9 s9 b9 v0 v1 => ?_⟩
        obtain ⟨kv7, hg7⟩ := (b7.same sM).dk
        obtain ⟨md, hmd, mmd⟩ := pickO (l := moreL) (r := r9) v0 v1
        obtain ⟨md1, md2, md3⟩ := moreL_ok md mmd
        have fM9 := s9.at fM hg7 fun e => by cases e
        have d9 := s9.at (sM _ _ d7) hg7 fun e => by cases e
        have l9 : ∀ u, u ∈ ls → H9 u.1 = some (.lst (u.2.map V.str)) := fun u hu => s9.at (sM _ _ (l7 u hu)) hg7 fun e => by cases e
        have s09 := (s07.trans (sb_same sM)).trans s9
        walk_at "n"
        refine ⟨_, _, SqL.of fM9, hmd, ?_⟩
        walk_at "n"
        refine ⟨line_of (by simp), fun pN hpN => ?_⟩
        walk_at "n"
        have sN := snew (o := .lst [V.str md]) hpN
        have fN : upd H9 pN (.lst [V.str md]) pN = some (.lst [V.str md]) := upd_same
        have bN := b9.same sN
        generalize upd H9 pN (.lst [V.str md]) = HN at *
        refine ⟨_, rfl, ⟨_, SqL.of (sN _ _ d9)⟩, fun D2 hD2 => lcW (walk_list (K := K) (a := D) (xs := ls.map fun t => V.ref t.1)) (fun i v _ => ∃ u, ls[i]? = some u ∧ v = .str (Txt.join " " u.2)) (by rw [List.length_map]; omega) hD2 (fun H' s => sl s (SqL.of (sN _ _ d9))) (fun _ _ _ _ _ z => z) ?_ gm_name ?_⟩
        · rintro i x HA HB acc Nx hi sA hdA ⟨rfl, hx⟩ nx
          obtain ⟨u, hu, rfl⟩ := ref_at hx
          have hu1 := l9 u (List.mem_of_getElem? hu)
          refine ⟨rfl, ?_⟩
          walk_at "n"
          refine ⟨u.2, .inl (SqL.of (sA _ _ (sN _ _ hu1))), ?_, ?_⟩
          · have m1 := mem_tot (List.mem_map_of_mem (f := fun t : Addr × List Str => t.2) (List.mem_of_getElem? hu))
            rw [sz_eq] at m1
            rw [show (Str.ofString " ").length = 1 from by decide, Nat.mul_one]
            omega
          exact nx _ _ (Same.refl _) ⟨u, hu, rfl⟩
        · intro ys HA hlA hyA sA hdA
          have eA := ys_get (l := ls) (f := fun u => V.str (Txt.join " " u.2)) (by simpa using hlA) hyA
          walk_at "n"
          rw [eA] at hdA
          refine .inl ⟨_, _, _, _, rfl, rfl, sA _ _ fN, hdA, by simp; omega, fun pZ hpZ => ?_⟩
          walk_at "n"
          rw [show ([V.str md] ++ ls.map fun u => V.str (Txt.join " " u.2)) = (md :: ls.map fun u => Txt.join " " u.2).map V.str by simp]
          have szl : sz (ls.map fun u => Txt.join " " u.2) ≤ tot (ls.map fun t => t.2) := by
            have := sz_lines (ls := ls.map fun t => t.2)
            rw [List.map_map] at this
            exact this
          have szc : sz (md :: ls.map fun u => Txt.join " " u.2) = md.length + 1 + sz (ls.map fun u => Txt.join " " u.2) := rfl
          refine ⟨_, .inl (SqL.of upd_same), ?_, ?_⟩
          · have := sz_eq (md :: ls.map fun u => Txt.join " " u.2)
            rw [show (Str.ofString "\n").length = 1 from by decide, Nat.mul_one]
            omega
          refine fin (md :: ls.map fun u => Txt.join " " u.2) _ (s09.trans (sb_same (sto (sN.trans sA) hpZ))) (bN.same (sto sA hpZ)) (by simp) (fun l hl => ?_) (by simp) (by omega)
          rcases List.mem_cons.mp hl with hl | hl
          · rw [hl]
            exact ⟨md1, md2⟩
          · obtain ⟨u, hu, rfl⟩ := List.mem_map.mp hl
            have hu2 := (hwo u hu).1
            exact ⟨join_asc (fun c hc => by rw [tl_sp] at hc; simp at hc; omega) fun w hw => (hu2 w hw).1, join_nl fun w hw => (hu2 w hw).2⟩
      all_goals
        walk_at "n"
        refine ⟨_, rfl, ?_⟩
        walk_at "n"
        refine ⟨_, _, rfl, SqL.of (sX _ _ d7), fun y1 hy1 => ?_⟩
        rw [show r2 = ((r2.toNat : Nat) : Int) by omega, cut_hi]
        walk_at "n"
        refine ⟨line_of (by simp), fun y2 hy2 => ?_⟩
        walk_at "n"
        refine .inl ⟨_, _, _, _, rfl, rfl, upd_keep hy2 upd_same, upd_same, by simp; omega, fun y3 hy3 => ?_⟩
        walk_at "n"
        refine ⟨_, rfl, ?_⟩
        walk_at "n"
        have kY : ∀ a o, H8 a = some o → upd (upd (upd H8 y1 (.lst ((ls.map fun t => V.ref t.1).take r2.toNat))) y2 (.lst [V.ref pX])) y3 (.lst ((ls.map fun t => V.ref t.1).take r2.toNat ++ [V.ref pX])) a = some o := fun a o e => upd_keep hy3 (upd_keep hy2 (upd_keep hy1 e))
        refine ⟨_, _, rfl, SqL.of (kY _ _ (sX _ _ d7)), fun y4 hy4 => ?_⟩
        rw [show (((r2.toNat : Nat) : Int) + 1) = ((r2.toNat + 1 : Nat) : Int) by omega, cut_lo]
        walk_at "n"
        refine .inl ⟨_, _, _, _, rfl, rfl, upd_keep hy4 upd_same, upd_same, by simp; omega, fun y5 hy5 => ?_⟩
        walk_at "n"
        have eL : (ls.map fun t => V.ref t.1).take r2.toNat ++ [V.ref pX] ++ (ls.map fun t => V.ref t.1).drop (r2.toNat + 1) = (ls.take r2.toNat ++ [(pX, ws')] ++ ls.drop (r2.toNat + 1)).map fun t => V.ref t.1 := by simp
        rw [eL]
        have sY : Same H8 _ := sto (sto (sto (sto (snew (o := .lst ((ls.map fun t => V.ref t.1).take r2.toNat)) hy1) (o := .lst [V.ref pX]) hy2) (o := .lst ((ls.map fun t => V.ref t.1).take r2.toNat ++ [V.ref pX])) hy3) (o := .lst ((ls.map fun t => V.ref t.1).drop (r2.toNat + 1))) hy4) (o := .lst ((ls.take r2.toNat ++ [(pX, ws')] ++ ls.drop (r2.toNat + 1)).map fun t => V.ref t.1)) hy5
        have fY : ∀ Hz : Hp, upd Hz y5 (.lst ((ls.take r2.toNat ++ [(pX, ws')] ++ ls.drop (r2.toNat + 1)).map fun t => V.ref t.1)) y5 = some (.lst ((ls.take r2.toNat ++ [(pX, ws')] ++ ls.drop (r2.toNat + 1)).map fun t => V.ref t.1)) := fun Hz => upd_same
        have hput := tot_put (ls := ls.map fun t => t.2) (i := r2.toNat) (t := t.2) (by rw [List.getElem?_map, ht]; rfl) ws'
        have hmem : ∀ u, u ∈ ls.take r2.toNat ++ [(pX, ws')] ++ ls.drop (r2.toNat + 1) → H8 u.1 = some (.lst (u.2.map V.str)) ∧ ∀ w, w ∈ u.2 → Asc w ∧ NoNl w := fun u hu => by
          simp only [List.mem_append, List.mem_singleton] at hu
          rcases hu with (hu | hu) | hu
          · exact ⟨sX _ _ (l7 u (List.mem_of_mem_take hu)), (hwo u (List.mem_of_mem_take hu)).1⟩
          · rw [hu]
            exact ⟨fX, hX1⟩
          · exact ⟨sX _ _ (l7 u (List.mem_of_mem_drop hu)), (hwo u (List.mem_of_mem_drop hu)).1⟩
        have etot : (ls.take r2.toNat ++ [(pX, ws')] ++ ls.drop (r2.toNat + 1)).map (fun t => t.2) = (ls.map fun t => t.2).take r2.toNat ++ [ws'] ++ (ls.map fun t => t.2).drop (r2.toNat + 1) := by simp
        have hlen' : (ls.take r2.toNat ++ [(pX, ws')] ++ ls.drop (r2.toNat + 1)).length = ls.length := by
          simp
          omega
        have hne' : ls.take r2.toNat ++ [(pX, ws')] ++ ls.drop (r2.toNat + 1) ≠ [] := fun z => by
          have h0 := hlen'
          rw [z, List.length_nil] at h0
          omega
        rw [← etot] at hput
        generalize ls.take r2.toNat ++ [(pX, ws')] ++ ls.drop (r2.toNat + 1) = ls' at *
        have hY9 := fY (upd (upd (upd (upd H8 y1 (.lst ((ls.map fun t => V.ref t.1).take r2.toNat))) y2 (.lst [V.ref pX])) y3 (.lst ((ls.map fun t => V.ref t.1).take r2.toNat ++ [V.ref pX]))) y4 (.lst ((ls.map fun t => V.ref t.1).drop (r2.toNat + 1))))
        generalize upd (upd (upd (upd (upd H8 y1 (.lst ((ls.map fun t => V.ref t.1).take r2.toNat))) y2 (.lst [V.ref pX])) y3 (.lst ((ls.map fun t => V.ref t.1).take r2.toNat ++ [V.ref pX]))) y4 (.lst ((ls.map fun t => V.ref t.1).drop (r2.toNat + 1)))) y5 (.lst (ls'.map fun t => V.ref t.1)) = H9 at *
        have s9 : SB g H H9 := s07.trans (sb_same (sX.trans sY))
        have b9 : BagAt K H9 g c := b7.same (sX.trans sY)
        refine ⟨_, rfl, ⟨_, SqL.of hY9⟩, fun D2 hD2 => lcW (walk_list (K := K) (a := y5) (xs := ls'.map fun t => V.ref t.1)) (fun i v _ => ∃ u, ls'[i]? = some u ∧ v = .str (Txt.join " " u.2)) (by rw [List.length_map]; omega) hD2 (fun H' s => sl s (SqL.of hY9)) (fun _ _ _ _ _ z => z) ?_ gm_name ?_⟩
        · rintro i x HA HB acc Nx hi sA hdA ⟨rfl, hx⟩ nx
          obtain ⟨u, hu, rfl⟩ := ref_at hx
          obtain ⟨hu1, hu2⟩ := hmem u (List.mem_of_getElem? hu)
          refine ⟨rfl, ?_⟩
          walk_at "n"
          refine ⟨u.2, .inl (SqL.of (sA _ _ (sY _ _ hu1))), ?_, ?_⟩
          · have m1 := mem_tot (List.mem_map_of_mem (f := fun t : Addr × List Str => t.2) (List.mem_of_getElem? hu))
            rw [sz_eq] at m1
            rw [show (Str.ofString " ").length = 1 from by decide, Nat.mul_one]
            omega
          exact nx _ _ (Same.refl _) ⟨u, hu, rfl⟩
        · intro ys HA hlA hyA sA hdA
          have eA := ys_get (l := ls') (f := fun u => V.str (Txt.join " " u.2)) (by simpa using hlA) hyA
          walk_at "n"
          rw [eA, show (ls'.map fun u => V.str (Txt.join " " u.2)) = (ls'.map fun u => Txt.join " " u.2).map V.str by rw [List.map_map]; rfl] at hdA
          have szl : sz (ls'.map fun u => Txt.join " " u.2) ≤ tot (ls'.map fun t => t.2) := by
            have := sz_lines (ls := ls'.map fun t => t.2)
            rw [List.map_map] at this
            exact this
          refine ⟨_, .inl (SqL.of hdA), ?_, ?_⟩
          · have := sz_eq (ls'.map fun u => Txt.join " " u.2)
            rw [show (Str.ofString "\n").length = 1 from by decide, Nat.mul_one]
            omega
          refine fin (ls'.map fun u => Txt.join " " u.2) HA (s9.trans (sb_same sA)) (b9.same sA) (by simpa using hne') (fun l hl => ?_) (by rw [List.length_map]; omega) ?_
          · obtain ⟨u, hu, rfl⟩ := List.mem_map.mp hl
            obtain ⟨_, hu2⟩ := hmem u hu
            exact ⟨join_asc (fun c hc => by rw [tl_sp] at hc; simp at hc; omega) fun w hw => (hu2 w hw).1, join_nl fun w hw => (hu2 w hw).2⟩
          · omega
theorem ok__law_spoilt {w : World} {K : PySem.W.Frag} {mg : Str → Option Value} {base : Heap} (TB : Ty K mg base) : F.Fr P w K mg base 2 (He.ga K "_law_spoilt") (sp__law_spoilt K) := (TB.toTx.f__law_spoilt).elim fun fd F1 => fr_of F1 (okF__law_spoilt TB F1) (fun _ _ _ _ _ _ us hl => match us, hl with | [_, _], _ => rfl)
end G
set_option maxHeartbeats 400000
namespace G
open PySem PySem.Spec PyProof.Rows L2 F
local macro_rules | `(tactic| walk_at "side") => `(tactic| first | rfl | decide | omega | assumption | (unfold CMul; omega) | (unfold CPow; omega) | (unfold CDiv; omega))
local macro_rules | `(tactic| walk_at "hp") => `(tactic| first | assumption | exact upd_same | (refine upd_keep (by assumption) ?_; walk_at "hp") | (refine sm (by assumption) ?_; walk_at "hp"))
local macro_rules | `(tactic| walk_at "n") => `(tactic| ((try conv => whnf); repeat ((first | with_reducible refine cond_t rfl ?_ | with_reducible refine cond_f rfl ?_ | with_reducible refine cond_n ?_); (try conv => whnf))))
local macro_rules | `(tactic| walk_at "go") => `(tactic| (walk_at "n"; repeat (refine And.intro ?side ?_; (case side => walk_at "side"); walk_at "n")))

set_option maxHeartbeats 4000000
open M TL
theorem sc__law_heard : FnScope ["_law_ask", "error"] ["_law_ask"] (defScope s__law_heard) := ⟨rfl, rfl, rfl, by decide +kernel, rfl, by decide +kernel, by decide +kernel⟩
theorem takes_len {X : Cx} {W : WX} (t : Takes X W) : Takes X (fun c d σ H => σ.length = X.N.length → W c d σ H) := fun u s' ⟨a, B, sI, pins, σ, H, cls, d, e, I, nb, up, sky, na, os, ag, w⟩ =>
  t u s' ⟨a, B, sI, pins, σ, H, cls, d, e, I, nb, up, sky, na, os, ag, w I.len⟩
/-- what _law_heard makes of an error that read_book raises -/
def Eh (K : PySem.W.Frag) (Q : VK) : XK := fun cls d H => ∃ dd, d = some dd ∧ (
  (∃ w i, cls = .ref (He.ga K "BadText") ∧ H dd = some (.xd [("word", w), ("item", i)]) ∧ ∀ p, H p = none → Q (.ref p) (upd H p (.tup [.str "text", w, i]))) ∨
  (∃ u, cls = .ref (He.ga K "BadWatch") ∧ H dd = some (.xd [("part", u)]) ∧ ∀ p, H p = none → Q (.ref p) (upd H p (.tup [.str "watch", u]))) ∨
  (∃ u v, cls = .ref (He.ga K "TooMany") ∧ H dd = some (.xd [("what", u), ("most", v)]) ∧ ∀ p, H p = none → Q (.ref p) (upd H p (.tup [.str "many", u, v]))))
def TT__law_heard (K : PySem.W.Frag) : (XK → Hp → VK → Prop) → Hp → VK → Prop := fun tl H Q => tl (Eh K Q) H fun v H' => [V.str "told", v].length ≤ sizeLine ∧ ∀ p, H' p = none → Q (.ref p) (upd H' p (.tup [.str "told", v]))
theorem _law_heard_gives {X : Cx} (T : Tx X.K X.mg) {g : Addr} {cdv : Value} {q : Str} : LamX.GivesTo X ["_law_ask", "error"] "_law_heard" (defScope s__law_heard) g cdv (defBody s__law_heard) "_law_ask" q (TT__law_heard X.K) := by
  intro f c' s H Q tl act hc h
  refine ⟨_, pss_one (ps_try_as (X := (cxOf C8.CX0 X.prog X.w X.K X.mg X.base ["_law_ask", "error"] "_law_heard" (defScope s__law_heard) g cdv X.A X.stack s H C8.E0).nox) (c := .ref (He.ga X.K "RungError")) (i := 1)
      (tb := fun W D σ H => ∃ Ech : XK, (∀ cls d σ' H', Ech cls d H' → σ'.length = 2 → W cls d σ' H') ∧ σ[0]? = some (some (.ref f)) ∧ H c' = some (LamX.CodeO c' q) ∧ tl Ech H fun v H' => [V.str "told", v].length ≤ sizeLine ∧ ∀ p, H' p = none → D.rt (.ref p) (upd H' p (.tup [.str "told", v])))
      rfl rfl sc__law_heard.nd rfl rfl ⟨rfl, by decide, .inl T.g_RungError⟩ LamX.takes0 (fun W pn xe tk _ => ?_) (fun a oe cls d pn hz hf =>
        pss_cons (s_if (t_b (e_isX hz hf T.g_BadText T.b_isinstance (e_v 1)))
            (pss_one (ps_ret (e_if (pt_not (t_b (e_isX hz hf T.g_BadWatch T.b_isinstance (e_v 1)))) (pe_tup (pa_cons pe_str (pa_cons (pe_xf T.xf_BadText (T.x_BadText.t.noN _ (by simp)) hz hf (e_v 1)) (pa_cons (pe_xf T.xf_BadText (T.x_BadText.t.noN _ (by simp)) hz hf (e_v 1)) pa_nil))))
              (pe_tup (pa_cons pe_str (pa_cons pe_int pa_nil)))))) pss_nil)
          (pss_cons (s_if (t_b (e_isX hz hf T.g_TooMany T.b_isinstance (e_v 1)))
            (pss_one (ps_ret (pe_tup (pa_cons pe_str (pa_cons (pe_xf T.xf_TooMany (T.x_TooMany.t.noN _ (by simp)) hz hf (e_v 1)) (pa_cons (pe_xf T.xf_TooMany (T.x_TooMany.t.noN _ (by simp)) hz hf (e_v 1)) pa_nil)))))) pss_nil)
          (pss_one (ps_ret (e_if (t_b (e_isX hz hf T.g_BadWatch T.b_isinstance (e_v 1))) (pe_tup (pa_cons pe_str (pa_cons (pe_xf T.xf_BadWatch (T.x_BadWatch.t.noN _ (by simp)) hz hf (e_v 1)) pa_nil)))
              (pe_tup (pa_cons pe_str (pa_cons pe_int pa_nil))))))))), ?_⟩
  · refine ⟨fun pins s' σ H' D I h' => ?_⟩
    obtain ⟨Ech, hW, h1, h2, h3⟩ := h'
    refine PSs.run (pss_one (ps_ret (pe_tup (pa_cons pe_str (pa_cons (act _ pn xe Ech _ _ (takes_len tk) hW) pa_nil))))) pins s' σ H' D I ⟨h1, h2, h3⟩
  · refine ⟨Eh X.K Q, ?_, ?_, hc, h⟩
    · rintro cls d σ' H' ⟨dd, rfl, e⟩ hl
      obtain ⟨v0, v1, rfl⟩ : ∃ v0 v1, σ' = [v0, v1] := by
        match σ', hl with
        | [v0, v1], _ => exact ⟨v0, v1, rfl⟩
      rcases e with ⟨w, i, rfl, e, k⟩ | ⟨u, rfl, e, k⟩ | ⟨u, v, rfl, e, k⟩
      · refine ⟨true, T.xm_BadText_RungError, fun _ a ha => ?_, fun z => by cases z⟩
        walk_at "n"
        refine ⟨_, dd, _, true, rfl, rfl, T.xi_BadText, rfl, e, T.xk_BadText_BadText, ?_⟩
        walk_at "n"
        refine ⟨_, dd, _, false, rfl, rfl, T.xi_BadText, rfl, e, T.xk_BadText_BadWatch, ?_⟩
        walk_at "n"
        refine ⟨rfl, rfl, dd, _, _, rfl, e, rfl, ?_⟩
        walk_at "n"
        refine ⟨rfl, rfl, dd, _, _, rfl, e, rfl, ?_⟩
        walk_at "n"
        exact ⟨line_of (by simp), k⟩
      · refine ⟨true, T.xm_BadWatch_RungError, fun _ a ha => ?_, fun z => by cases z⟩
        walk_at "n"
        refine ⟨_, dd, _, false, rfl, rfl, T.xi_BadWatch, rfl, e, T.xk_BadWatch_BadText, ?_⟩
        walk_at "n"
        refine ⟨_, dd, _, false, rfl, rfl, T.xi_BadWatch, rfl, e, T.xk_BadWatch_TooMany, ?_⟩
        walk_at "n"
        refine ⟨_, dd, _, true, rfl, rfl, T.xi_BadWatch, rfl, e, T.xk_BadWatch_BadWatch, ?_⟩
        walk_at "n"
        refine ⟨rfl, rfl, dd, _, _, rfl, e, rfl, ?_⟩
        walk_at "n"
        exact ⟨line_of (by simp), k⟩
      · refine ⟨true, T.xm_TooMany_RungError, fun _ a ha => ?_, fun z => by cases z⟩
        walk_at "n"
        refine ⟨_, dd, _, false, rfl, rfl, T.xi_TooMany, rfl, e, T.xk_TooMany_BadText, ?_⟩
        walk_at "n"
        refine ⟨_, dd, _, true, rfl, rfl, T.xi_TooMany, rfl, e, T.xk_TooMany_TooMany, ?_⟩
        walk_at "n"
        refine ⟨rfl, rfl, dd, _, _, rfl, e, rfl, ?_⟩
        walk_at "n"
        refine ⟨rfl, rfl, dd, _, _, rfl, e, rfl, ?_⟩
        walk_at "n"
        exact ⟨line_of (by simp), k⟩
    · rfl
def manyL : List Str := [("watch 2019-01-01 00:00 2019-02-01 00:00" : Str), "watch 2019-01-02 00:00 2019-02-01 00:00", "watch 2019-01-03 00:00 2019-02-01 00:00", "watch 2019-01-04 00:00 2019-02-01 00:00", "watch 2019-01-05 00:00 2019-02-01 00:00", "watch 2019-01-06 00:00 2019-02-01 00:00",
  "watch 2019-01-07 00:00 2019-02-01 00:00", "watch 2019-01-08 00:00 2019-02-01 00:00", "watch 2019-01-09 00:00 2019-02-01 00:00", "watch 2019-01-10 00:00 2019-02-01 00:00", "watch 2019-01-11 00:00 2019-02-01 00:00", "watch 2019-01-12 00:00 2019-02-01 00:00", "watch 2019-01-13 00:00 2019-02-01 00:00"]
theorem many_at : ∀ i : Fin 13, ((Str.ofString (toString (101 + (0 + ((i : Nat) : Int))))).length = 3 ∧ (cutS (Str.ofString (toString (101 + (0 + ((i : Nat) : Int))))) (some 1) none).length = 2) ∧ (("watch 2019-01-" : Str) ++ cutS (Str.ofString (toString (101 + (0 + ((i : Nat) : Int))))) (some 1) none) ++ (" 00:00 2019-02-01 00:00" : Str) = manyL.getD i "" := by decide +kernel
def wrongS : Str := "watch 2019-01-01 00:00 2018-01-01 00:00"
def okB (x : Except Nat (List Mo)) (e : List Mo) : Bool := match x with
  | .ok a => decide (a = e)
  | _ => false
theorem okB_ok {x : Except Nat (List Mo)} {e : List Mo} (h : okB x e = true) : x = .ok e := by
  unfold okB at h
  split at h
  · rw [of_decide_eq_true h]
  · cases h
/-- the lines and what they tell -/
def manyP : List (Str × List Mo) := manyL.zip ((List.range 13).map fun (k : Nat) => [⟨2019, 1, (k : Int) + 1, 0, 0⟩, ⟨2019, 2, 1, 0, 0⟩])
def wrongP : Str × List Mo := (wrongS, [⟨2019, 1, 1, 0, 0⟩, ⟨2018, 1, 1, 0, 0⟩])
theorem pairs_ok : ((manyP ++ [wrongP]).all fun p => okB (entOut (Txt.split p.1 " ")) p.2 && !decide ((Txt.split p.1 " ").headD "" = "none")) = true := by decide +kernel
theorem bk_ps {ps : List (Str × List Mo)} (hne : ps ≠ []) (h : ∀ p ∈ ps, p ∈ manyP ++ [wrongP]) : bookOut ((ps.map (·.1)).map fun l => Txt.split l " ") = match putOut [] (ps.map (·.2)) with
      | .ok => .ok
      | .bad s => .bad s
      | .many => .many := by
  have hk : ∀ p ∈ ps, entOut (Txt.split p.1 " ") = .ok p.2 ∧ (Txt.split p.1 " ").headD "" ≠ "none" := fun p hp => by
    have z := List.all_eq_true.mp pairs_ok p (h p hp)
    obtain ⟨z1, z2⟩ := He.ba z
    exact ⟨okB_ok z1, by simpa using z2⟩
  have e1 : entsOut 0 ((ps.map (·.1)).map fun l => Txt.split l " ") = .ok (ps.map (·.2)) := by
    refine ents_ok _ _ 0 (by simp) fun j z e h1 h2 => ?_
    rw [List.getElem?_map, List.getElem?_map] at h1
    rw [List.getElem?_map] at h2
    cases q : ps[j]? with
    | none => rw [q] at h2; cases h2
    | some p =>
      rw [q] at h1 h2
      cases h1
      cases h2
      exact (hk p (List.mem_of_getElem? q)).1
  have e0 : ¬ ((((ps.map (·.1)).map fun l => Txt.split l " ").headD []).headD "" = "none") := by
    cases ps with
    | nil => exact absurd rfl hne
    | cons a r => exact (hk a List.mem_cons_self).2
  unfold bookOut
  rw [if_neg e0, e1]
  all_goals rfl
def z1 : Str := Txt.join "\n" manyL
def z2 : Str := Txt.join "\n" (manyL ++ [wrongS])
def z3 : Str := Txt.join "\n" ([wrongS] ++ manyL)
def z4 : Str := Txt.join "\n" (manyL.take 12 ++ manyL.take 1)
theorem all_nl : ((manyL ++ [wrongS]).all fun z => !decide (10 ∈ TL.tl z)) = true := by decide +kernel
theorem split_m {L : List Str} (hne : L ≠ []) (h : ∀ z ∈ L, z ∈ manyL ++ [wrongS]) : Txt.split (Txt.join "\n" L) "\n" = L :=
  split_join (s := 10) (S := []) (by decide +kernel) (by decide +kernel) hne fun z hz => by
    have := List.all_eq_true.mp all_nl z (h z hz)
    simpa using this
def isMany : SpOut → Bool
  | .many => true
  | _ => false
def isOrder : SpOut → Bool
  | .bad s => decide (s = "order")
  | _ => false
def isOk : SpOut → Bool
  | .ok => true
  | _ => false
theorem p1 : isMany (putOut [] (manyP.map (·.2))) = true := by decide +kernel
theorem p2 : isMany (putOut [] ((manyP ++ [wrongP]).map (·.2))) = true := by decide +kernel
theorem p3 : isOrder (putOut [] (([wrongP] ++ manyP).map (·.2))) = true := by decide +kernel
theorem p4 : isOk (putOut [] ((manyP.take 12 ++ manyP.take 1).map (·.2))) = true := by decide +kernel
theorem b1 : bookOut (manyL.map fun l => Txt.split l " ") = .many := by
  have e : manyL = manyP.map (·.1) := by decide +kernel
  have z := p1
  rw [e, bk_ps (by decide) (fun p hp => List.mem_append_left _ hp)]
  cases q : putOut [] (manyP.map (·.2)) <;> rw [q] at z <;> first | rfl | cases z
theorem b2 : bookOut ((manyL ++ [wrongS]).map fun l => Txt.split l " ") = .many := by
  have e : manyL ++ [wrongS] = (manyP ++ [wrongP]).map (·.1) := by decide +kernel
  have z := p2
  rw [e, bk_ps (by decide) (fun p hp => hp)]
  cases q : putOut [] ((manyP ++ [wrongP]).map (·.2)) <;> rw [q] at z <;> first | rfl | cases z
theorem b3 : bookOut (([wrongS] ++ manyL).map fun l => Txt.split l " ") = .bad "order" := by
  have e : [wrongS] ++ manyL = ([wrongP] ++ manyP).map (·.1) := by decide +kernel
  have z := p3
  rw [e, bk_ps (by decide) (fun p hp => (List.mem_append.mp hp).elim (List.mem_append_right _) (List.mem_append_left _))]
  cases q : putOut [] (([wrongP] ++ manyP).map (·.2)) with
  | bad s =>
    rw [q] at z
    have z : s = "order" := of_decide_eq_true z
    rw [z]
  | _ => rw [q] at z; cases z
theorem b4 : bookOut ((manyL.take 12 ++ manyL.take 1).map fun l => Txt.split l " ") = .ok := by
  have e : manyL.take 12 ++ manyL.take 1 = (manyP.take 12 ++ manyP.take 1).map (·.1) := by decide +kernel
  have z := p4
  rw [e, bk_ps (by decide) (fun p hp => List.mem_append_left _ ((List.mem_append.mp hp).elim List.mem_of_mem_take List.mem_of_mem_take))]
  cases q : putOut [] ((manyP.take 12 ++ manyP.take 1).map (·.2)) <;> rw [q] at z <;> first | rfl | cases z

end G
set_option maxHeartbeats 400000
namespace G
open PySem PySem.Spec PyProof.Rows L2 F
local macro_rules | `(tactic| walk_at "side") => `(tactic| first | rfl | decide | omega | assumption | (unfold CMul; omega) | (unfold CPow; omega) | (unfold CDiv; omega))
local macro_rules | `(tactic| walk_at "hp") => `(tactic| first | assumption | exact upd_same | (refine upd_keep (by assumption) ?_; walk_at "hp") | (refine sm (by assumption) ?_; walk_at "hp"))
local macro_rules | `(tactic| walk_at "n") => `(tactic| ((try conv => whnf); repeat ((first | with_reducible refine cond_t rfl ?_ | with_reducible refine cond_f rfl ?_ | with_reducible refine cond_n ?_); (try conv => whnf))))
local macro_rules | `(tactic| walk_at "go") => `(tactic| (walk_at "n"; repeat (refine And.intro ?side ?_; (case side => walk_at "side"); walk_at "n")))

set_option maxHeartbeats 4000000
open M TL
def sp__law_many_right (K : PySem.W.Frag) : Sp := fun vs H Q E => match vs with
  | [] => LamX.Tabs (TT K) H ∧ ∀ H', Sx (TT K) H H' → Q (.bl true) H'
  | _ => False
theorem sc__law_many_right : FnScope ["_law_lines", "_law_wrong", "_law_found", "_law_k"] [] (defScope s__law_many_right) := ⟨rfl, rfl, rfl, by decide +kernel, rfl, by decide +kernel, by decide +kernel⟩
theorem okF__law_many_right {w : World} {K : PySem.W.Frag} {mg : Str → Option Value} {base : Heap} {fd : FuncData} (TB : Ty K mg base) (F1 : FunD K "_law_many_right" "_law_many_right" (defArgs s__law_many_right) (defBody s__law_many_right) (defScope s__law_many_right) [] [] (He.ga K "_law_many_right") fd) : FnOk P w K mg base (L2.CX P w) 13 (He.ga K "_law_many_right") fd [] (sp__law_many_right K) := by
  have T : Tx K mg := TB.toTx
  have c_read_book : Fc P w K mg base 9 "read_book" (sp_read_book K) := ⟨_, ok_read_book TB, T.g_read_book, (T.f_read_book).elim fun _ z => z.kp⟩
  have lm := nd_zip (T := (mkl K).map fun f => tAt K f) (q := mkq.map lamQ) T.mkd (i := 0) rfl rfl
  obtain ⟨fd_law_heard, FL_law_heard⟩ := T.f__law_heard
  refine okC F1 (T.mka _ (by simp)) sc__law_many_right (fun vs H Q E h => ?_) (fun A outer s H vs Q E hr h => ?_)
  · unfold sp__law_many_right at h
    split at h
    · rfl
    · exact h.elim
  · unfold sp__law_many_right at h
    split at h
    rotate_left
    · exact h.elim
    · skip
      refine ⟨_, (pss_cons (ps_set (i := 0) sc__law_many_right.nd rfl (Or.inr rfl) (pe_lc (own := [("_law_k", 3)]) (g := gName 3) (tt := tYes) rfl sc__law_many_right.nd (pi_range1 rfl T.b_range (pa_cons pe_int pa_nil)) (blkOk_by (own := [("_law_k", 3)]) (N := ["_law_lines", "_law_wrong", "_law_found", "_law_k"]) (sc := defScope s__law_many_right) (by decide +kernel)) (fun _ _ _ _ _ => (pg_name (i := 3) sc__law_many_right.nd rfl (Or.inl rfl))) (fun _ _ _ _ _ => pts_nil) (fun _ _ _ _ _ => (pe_op (k_add K) (pe_op (k_add K) pe_str (pe_slice sl_str (e_str T.b_str (pe_op (k_add K) pe_int (e_v 3))) (po_some pe_int) po_none)) pe_str))))
        (pss_cons (ps_set (i := 1) sc__law_many_right.nd rfl (Or.inr rfl) (pe_lst (pa_cons pe_str pa_nil)))
        (pss_cons (ps_set (i := 2) sc__law_many_right.nd rfl (Or.inl rfl) (pe_lst (pa_cons (e_lam (T := TT K) (TT := TT__law_heard K) (f := (He.ga K "_law_many_right")) (k := 10) FL_law_heard (fun _ _ _ _ _ _ us hl => match us, hl with | [_], _ => rfl) T.g__law_heard sc__law_heard (fun cdv => _law_heard_gives T) (TB.tb _ (by simp [mkl])) lm.1 lm.2 hr (fun A outer s H E f c' hr => (e_cP c_read_book hr (passE' (takes_of (E := E) rfl rfl rfl rfl)) (pa_cons (k_join K pe_str (e_v 0)) pa_nil))) (L := LamX.lamS_by (sc := defScope s__law_many_right) (by decide +kernel))) pa_nil)))
        (pss_cons (ps_expr (pe_bm PySem.F.plainAttrs_list PySem.F.slot_list_append PySem.F.type_list_append mt_append (e_v 2) (pa_cons (e_lam (T := TT K) (TT := TT__law_heard K) (f := (He.ga K "_law_many_right")) (k := 10) FL_law_heard (fun _ _ _ _ _ _ us hl => match us, hl with | [_], _ => rfl) T.g__law_heard sc__law_heard (fun cdv => _law_heard_gives T) (TB.tb _ (by simp [mkl])) lm.1 lm.2 hr (fun A outer s H E f c' hr => (e_cP c_read_book hr (passE' (takes_of (E := E) rfl rfl rfl rfl)) (pa_cons (k_join K pe_str (pe_op (k_add K) (e_v 0) (e_v 1))) pa_nil))) (L := LamX.lamS_by (sc := defScope s__law_many_right) (by decide +kernel))) pa_nil)))
        (pss_cons (ps_expr (pe_bm PySem.F.plainAttrs_list PySem.F.slot_list_append PySem.F.type_list_append mt_append (e_v 2) (pa_cons (e_lam (T := TT K) (TT := TT__law_heard K) (f := (He.ga K "_law_many_right")) (k := 10) FL_law_heard (fun _ _ _ _ _ _ us hl => match us, hl with | [_], _ => rfl) T.g__law_heard sc__law_heard (fun cdv => _law_heard_gives T) (TB.tb _ (by simp [mkl])) lm.1 lm.2 hr (fun A outer s H E f c' hr => (e_cP c_read_book hr (passE' (takes_of (E := E) rfl rfl rfl rfl)) (pa_cons (k_join K pe_str (pe_op (k_add K) (e_v 1) (e_v 0))) pa_nil))) (L := LamX.lamS_by (sc := defScope s__law_many_right) (by decide +kernel))) pa_nil)))
        (pss_cons (ps_expr (pe_bm PySem.F.plainAttrs_list PySem.F.slot_list_append PySem.F.type_list_append mt_append (e_v 2) (pa_cons (pe_slice sl_tup (e_lam (T := TT K) (TT := TT__law_heard K) (f := (He.ga K "_law_many_right")) (k := 10) FL_law_heard (fun _ _ _ _ _ _ us hl => match us, hl with | [_], _ => rfl) T.g__law_heard sc__law_heard (fun cdv => _law_heard_gives T) (TB.tb _ (by simp [mkl])) lm.1 lm.2 hr (fun A outer s H E f c' hr => (e_cP c_read_book hr (passE' (takes_of (E := E) rfl rfl rfl rfl)) (pa_cons (k_join K pe_str (pe_op (k_add K) (pe_slice (k_slL K) (e_v 0) po_none (po_some pe_int)) (pe_slice (k_slL K) (e_v 0) po_none (po_some pe_int)))) pa_nil))) (L := LamX.lamS_by (sc := defScope s__law_many_right) (by decide +kernel))) po_none (po_some pe_int)) pa_nil)))
        (pss_one (ps_ret (pe_cmpR (op_eqD hr.units) (e_v 2) (pe_op (k_add K) (pe_op op_rep (pe_lst (pa_cons (pe_tup (pa_cons pe_str (pa_cons pe_str (pa_cons pe_int pa_nil)))) pa_nil)) pe_int) (pe_lst (pa_cons (pe_tup (pa_cons pe_str (pa_cons pe_str pa_nil))) (pa_cons (pe_tup (pa_cons pe_str pa_nil)) pa_nil)))) (nomark _)))))))))), ?_⟩
      obtain ⟨t0, h⟩ := h
      walk_at "n"
      refine ⟨13, rfl, by decide, by decide, fun D hD => lcW (walk_range (lo := 0) (n := 13)) (fun i v _ => v = .str (manyL.getD i "")) (by omega) hD (fun _ _ => trivial) (fun _ _ _ _ _ z => z) ?_ gm_name ?_⟩
      · rintro i x H1 H2 acc Nx hi s hd ⟨rfl, rfl⟩ nx
        refine ⟨rfl, ?_⟩
        walk_at "n"
        have hlog : (101 + (0 + (i : Int))).natAbs.log2 < 1920 := by
          have e : (101 + (0 + (i : Int))).natAbs = 101 + i := by omega
          rw [e]
          exact Nat.lt_of_le_of_lt (Nat.log2_le_self _) (by omega)
        refine ⟨hlog, ?_⟩
        walk_at "n"
        refine ⟨1, rfl, ?_⟩
        walk_at "n"
        obtain ⟨⟨e1, e3⟩, e2⟩ := many_at ⟨i, hi⟩
        have e1 : (Str.ofString (toString (101 + (0 + (i : Int))))).length = 3 := e1
        have e3 : (cutS (Str.ofString (toString (101 + (0 + (i : Int))))) (some 1) none).length = 2 := e3
        have e4 : ("watch 2019-01-" : Str).length = 14 := by decide
        have e5 : (" 00:00 2019-02-01 00:00" : Str).length = 23 := by decide
        refine ⟨_, rfl, line_of (by omega), ?_⟩
        walk_at "n"
        refine ⟨line_of (by omega), ?_⟩
        walk_at "n"
        refine ⟨line_of (by simp only [Str.length_append]; omega), ?_⟩
        exact nx _ _ (Same.refl _) (congrArg V.str e2)
      · intro ys H1 hl hy s hd
        have e : ys = manyL.map V.str := by
          exact (ys_fn hl hy).trans (by decide +kernel)
        subst e
        have s1 : Sx (TT K) H H1 := sx_same s
        have t1 := s1.t t0
        walk_at "n"
        refine ⟨line_of (by simp), fun w hw => ?_⟩
        have s2 := s1.new (o := .lst [.str wrongS]) hw
        walk_at "n"
        refine ⟨s2.t t0, fun H3 e3 t3 => ?_⟩
        walk_at "n"
        refine ⟨manyL, .inl (SqL.of (e3 _ _ (upd_keep hw hd) (fun ps z => by cases z))), ?_, ?_⟩
        · decide +kernel
        walk_at "n"
        have m1 : Txt.split (Txt.join "\n" manyL) "\n" = manyL := split_m (by decide) fun z hz => List.mem_append_left _ hz
        refine .inl ⟨_, rfl, by decide +kernel, ?_, ?_⟩
        · rw [m1]
          decide
        rw [m1, b1]
        intro d4 H4 s4 hd4 e4
        refine ⟨d4, rfl, .inr (.inr ⟨_, _, rfl, e4, fun q1 hq1 => ?_⟩)⟩
        walk_at "n"
        refine ⟨line_of (by simp), fun p1 hp1 => ?_⟩
        have hDp : H1 w = none := hw
        have eD : H1 D = some (.lst (manyL.map V.str)) := hd
        -- what stands
        have dt : ∀ (a : Addr) o, upd H1 w (.lst [.str wrongS]) a = some o → (∀ ps, o ≠ .tbl ps) → upd (upd H4 q1 (.tup [.str "many", .str "watches", .int 12])) p1 (.lst [.ref q1]) a = some o := fun a o e n => upd_keep hp1 (upd_keep hq1 (s4 _ _ (e3 a o e n)))
        have s5 : Sx (TT K) H (upd (upd H4 q1 (.tup [.str "many", .str "watches", .int 12])) p1 (.lst [.ref q1])) := (((s2.trans (sx_ext e3 t3)).same s4).new hq1).new hp1
        have fD := dt D _ (upd_keep hw hd) (fun ps z => by cases z)
        have fw := dt w _ upd_same (fun ps z => by cases z)
        have fq : upd (upd H4 q1 (.tup [.str "many", .str "watches", .int 12])) p1 (.lst [.ref q1]) q1 = some (.tup [.str "many", .str "watches", .int 12]) := upd_keep hp1 upd_same
        have fp : upd (upd H4 q1 (.tup [.str "many", .str "watches", .int 12])) p1 (.lst [.ref q1]) p1 = some (.lst [.ref q1]) := upd_same
        have nn : Nt H p1 := (((s2.trans (sx_ext e3 t3)).same s4).new hq1).nt hp1
        generalize upd (upd H4 q1 (.tup [.str "many", .str "watches", .int 12])) p1 (.lst [.ref q1]) = H5 at *
        clear e3 t3 s4 dt
        walk_at "n"
        refine ⟨.inl ⟨rfl, _, SqL.of fp⟩, ?_⟩
        walk_at "n"
        refine ⟨s5.t t0, fun H6 e6 t6 => ?_⟩
        walk_at "n"
        have fD6 := e6 _ _ fD (fun ps z => by cases z)
        have fw6 := e6 _ _ fw (fun ps z => by cases z)
        refine .inl ⟨_, _, _, _, rfl, rfl, fD6, fw6, line_of (by decide), fun r hr6 => ?_⟩
        walk_at "n"
        have mm : manyL.map V.str ++ [V.str wrongS] = (manyL ++ [wrongS]).map V.str := by rw [List.map_append]; rfl
        refine ⟨manyL ++ [wrongS], .inl (SqL.of (by rw [← mm]; exact upd_same)), by decide +kernel, ?_⟩
        walk_at "n"
        have m2 : Txt.split (Txt.join "\n" (manyL ++ [wrongS])) "\n" = manyL ++ [wrongS] := split_m (by simp) fun z hz => hz
        refine .inl ⟨_, rfl, by decide +kernel, ?_, ?_⟩
        · rw [m2]
          decide
        rw [m2, b2]
        intro d7 H7 s7 hd7 e7
        refine ⟨d7, rfl, .inr (.inr ⟨_, _, rfl, e7, fun q2 hq2 => ?_⟩)⟩
        walk_at "n"
        have dt : ∀ (a : Addr) o, H5 a = some o → (∀ ps, o ≠ .tbl ps) → upd H7 q2 (.tup [.str "many", .str "watches", .int 12]) a = some o := fun a o e n => upd_keep hq2 (s7 _ _ (upd_keep hr6 (e6 a o e n)))
        have s8 : Sx (TT K) H (upd H7 q2 (.tup [.str "many", .str "watches", .int 12])) := (((s5.trans (sx_ext e6 t6)).new hr6).same s7).new hq2
        have gD := dt D _ fD (fun ps z => by cases z)
        have gw := dt w _ fw (fun ps z => by cases z)
        have gq := dt q1 _ fq (fun ps z => by cases z)
        have gp := dt p1 _ fp (fun ps z => by cases z)
        have gq2 : upd H7 q2 (.tup [.str "many", .str "watches", .int 12]) q2 = some (.tup [.str "many", .str "watches", .int 12]) := upd_same
        generalize upd H7 q2 (.tup [.str "many", .str "watches", .int 12]) = H8 at *
        clear e6 t6 s7 dt s5 fD fw fq fp
        refine ⟨p1, _, _, rfl, rfl, gp, line_of (by simp), ?_⟩
        have s9 := s8.put (o := .lst ([.ref q1] ++ [.ref q2])) nn gp (fun ps z => by cases z) (fun q z => by unfold LamX.CodeO at z; cases z)
        have nw : w ≠ p1 := fun e => by rw [e, gp] at gw; cases gw
        have nD : D ≠ p1 := fun e => by rw [e, gp] at gD; cases gD
        have nq : q1 ≠ p1 := fun e => by rw [e, gp] at gq; cases gq
        have nq2 : q2 ≠ p1 := fun e => by rw [e, gp] at gq2; cases gq2
        have fD : upd H8 p1 (.lst ([.ref q1] ++ [.ref q2])) D = _ := (upd_ne nD).trans gD
        have fw : upd H8 p1 (.lst ([.ref q1] ++ [.ref q2])) w = _ := (upd_ne nw).trans gw
        have fq1 : upd H8 p1 (.lst ([.ref q1] ++ [.ref q2])) q1 = _ := (upd_ne nq).trans gq
        have fq2 : upd H8 p1 (.lst ([.ref q1] ++ [.ref q2])) q2 = _ := (upd_ne nq2).trans gq2
        have fp : upd H8 p1 (.lst ([.ref q1] ++ [.ref q2])) p1 = some (.lst [.ref q1, .ref q2]) := upd_same
        generalize upd H8 p1 (.lst ([.ref q1] ++ [.ref q2])) = H9 at *
        clear gD gw gq gp gq2 s8 H8
        walk_at "n"
        -- the third
        refine ⟨.inl ⟨rfl, _, SqL.of fp⟩, ?_⟩
        walk_at "n"
        refine ⟨s9.t t0, fun H6 e6 t6 => ?_⟩
        walk_at "n"
        have fD6 := e6 _ _ fD (fun ps z => by cases z)
        have fw6 := e6 _ _ fw (fun ps z => by cases z)
        refine .inl ⟨_, _, _, _, rfl, rfl, fw6, fD6, line_of (by decide), fun r hr6 => ?_⟩
        walk_at "n"
        have mm : [V.str wrongS] ++ manyL.map V.str = ([wrongS] ++ manyL).map V.str := by rw [List.map_append]; rfl
        refine ⟨[wrongS] ++ manyL, .inl (SqL.of (by rw [← mm]; exact upd_same)), by decide +kernel, ?_⟩
        walk_at "n"
        have m3 : Txt.split (Txt.join "\n" ([wrongS] ++ manyL)) "\n" = [wrongS] ++ manyL := split_m (by simp) fun z hz => (List.mem_append.mp hz).elim (List.mem_append_right _) (List.mem_append_left _)
        refine .inl ⟨_, rfl, by decide +kernel, ?_, ?_⟩
        · rw [m3]
          decide
        rw [m3, b3]
        intro d7 H7 s7 hd7 e7
        refine ⟨d7, rfl, .inr (.inl ⟨_, rfl, e7, fun q3 hq3 => ?_⟩)⟩
        walk_at "n"
        have dt : ∀ (a : Addr) o, H9 a = some o → (∀ ps, o ≠ .tbl ps) → upd H7 q3 (.tup [.str "watch", .str "order"]) a = some o := fun a o e n => upd_keep hq3 (s7 _ _ (upd_keep hr6 (e6 a o e n)))
        have s8 : Sx (TT K) H (upd H7 q3 (.tup [.str "watch", .str "order"])) := (((s9.trans (sx_ext e6 t6)).new hr6).same s7).new hq3
        have gD := dt D _ fD (fun ps z => by cases z)
        have gq := dt q1 _ fq1 (fun ps z => by cases z)
        have gq2 := dt q2 _ fq2 (fun ps z => by cases z)
        have gp := dt p1 _ fp (fun ps z => by cases z)
        have gq3 : upd H7 q3 (.tup [.str "watch", .str "order"]) q3 = some (.tup [.str "watch", .str "order"]) := upd_same
        generalize upd H7 q3 (.tup [.str "watch", .str "order"]) = H8 at *
        clear e6 t6 s7 dt s9 fD fw fq1 fq2 fp
        refine ⟨p1, _, _, rfl, rfl, gp, line_of (by simp), ?_⟩
        have s9 := s8.put (o := .lst ([.ref q1, .ref q2] ++ [.ref q3])) nn gp (fun ps z => by cases z) (fun q z => by unfold LamX.CodeO at z; cases z)
        have nD : D ≠ p1 := fun e => by rw [e, gp] at gD; cases gD
        have nq : q1 ≠ p1 := fun e => by rw [e, gp] at gq; cases gq
        have nq2 : q2 ≠ p1 := fun e => by rw [e, gp] at gq2; cases gq2
        have nq3 : q3 ≠ p1 := fun e => by rw [e, gp] at gq3; cases gq3
        have fD : upd H8 p1 (.lst ([.ref q1, .ref q2] ++ [.ref q3])) D = _ := (upd_ne nD).trans gD
        have fq1 : upd H8 p1 (.lst ([.ref q1, .ref q2] ++ [.ref q3])) q1 = _ := (upd_ne nq).trans gq
        have fq2 : upd H8 p1 (.lst ([.ref q1, .ref q2] ++ [.ref q3])) q2 = _ := (upd_ne nq2).trans gq2
        have fq3 : upd H8 p1 (.lst ([.ref q1, .ref q2] ++ [.ref q3])) q3 = _ := (upd_ne nq3).trans gq3
        have fp : upd H8 p1 (.lst ([.ref q1, .ref q2] ++ [.ref q3])) p1 = some (.lst [.ref q1, .ref q2, .ref q3]) := upd_same
        generalize upd H8 p1 (.lst ([.ref q1, .ref q2] ++ [.ref q3])) = H10 at *
        clear gD gq gp gq2 gq3 s8 H8 H9
        walk_at "n"
        -- the fourth
        refine ⟨.inl ⟨rfl, _, SqL.of fp⟩, ?_⟩
        walk_at "n"
        refine ⟨s9.t t0, fun H6 e6 t6 => ?_⟩
        walk_at "n"
        have fD6 := e6 _ _ fD (fun ps z => by cases z)
        refine ⟨12, rfl, ?_⟩
        walk_at "n"
        refine ⟨_, _, rfl, SqL.of fD6, fun a1 ha1 => ?_⟩
        walk_at "n"
        refine ⟨1, rfl, ?_⟩
        walk_at "n"
        refine ⟨_, _, rfl, SqL.of (upd_keep ha1 fD6), fun a2 ha2 => ?_⟩
        walk_at "n"
        refine .inl ⟨_, _, _, _, rfl, rfl, upd_keep ha2 upd_same, upd_same, line_of (by decide), fun r hr6 => ?_⟩
        walk_at "n"
        have mm : cutV (manyL.map V.str) none (some 12) ++ cutV (manyL.map V.str) none (some 1) = (manyL.take 12 ++ manyL.take 1).map V.str := by decide +kernel
        refine ⟨manyL.take 12 ++ manyL.take 1, .inl (SqL.of (by rw [← mm]; exact upd_same)), by decide +kernel, ?_⟩
        walk_at "n"
        have m4 : Txt.split (Txt.join "\n" (manyL.take 12 ++ manyL.take 1)) "\n" = manyL.take 12 ++ manyL.take 1 := split_m (by simp [manyL]) fun z hz => List.mem_append_left _ ((List.mem_append.mp hz).elim List.mem_of_mem_take List.mem_of_mem_take)
        refine .inl ⟨_, rfl, by decide +kernel, ?_, ?_⟩
        · rw [m4]
          decide
        rw [m4, b4]
        intro bk H7 s7 ib
        walk_at "n"
        refine ⟨line_of (by simp), fun q4 hq4 => ?_⟩
        walk_at "n"
        refine ⟨1, rfl, ?_⟩
        walk_at "n"
        refine ⟨_, _, rfl, .inl (.inl upd_same), by show ¬ (0 = 0 ∧ 1 = 2); decide, fun q5 hq5 => ?_⟩
        have dt : ∀ (a : Addr) o, H10 a = some o → (∀ ps, o ≠ .tbl ps) → upd (upd H7 q4 (.tup [.str "told", .ref bk])) q5 (.tup [.str "told"]) a = some o := fun a o e n => upd_keep hq5 (upd_keep hq4 (s7 _ _ (upd_keep hr6 (upd_keep ha2 (upd_keep ha1 (e6 a o e n))))))
        have s8 : Sx (TT K) H (upd (upd H7 q4 (.tup [.str "told", .ref bk])) q5 (.tup [.str "told"])) := (((((((s9.trans (sx_ext e6 t6)).new ha1).new ha2).new hr6).same s7).new hq4).new hq5)
        have gq := dt q1 _ fq1 (fun ps z => by cases z)
        have gq2 := dt q2 _ fq2 (fun ps z => by cases z)
        have gq3 := dt q3 _ fq3 (fun ps z => by cases z)
        have gp := dt p1 _ fp (fun ps z => by cases z)
        have gq5 : upd (upd H7 q4 (.tup [.str "told", .ref bk])) q5 (.tup [.str "told"]) q5 = some (.tup [.str "told"]) := upd_same
        rw [show cutV [V.str "told", V.ref bk] none (some 1) = [V.str "told"] from rfl]
        walk_at "n"
        generalize upd (upd H7 q4 (.tup [.str "told", .ref bk])) q5 (.tup [.str "told"]) = H8 at *
        clear e6 t6 s7 dt s9 fD fq1 fq2 fq3 fp
        refine ⟨p1, _, _, rfl, rfl, gp, line_of (by simp), ?_⟩
        have s9 := s8.put (o := .lst ([.ref q1, .ref q2, .ref q3] ++ [.ref q5])) nn gp (fun ps z => by cases z) (fun q z => by unfold LamX.CodeO at z; cases z)
        have nq : q1 ≠ p1 := fun e => by rw [e, gp] at gq; cases gq
        have nq2 : q2 ≠ p1 := fun e => by rw [e, gp] at gq2; cases gq2
        have nq3 : q3 ≠ p1 := fun e => by rw [e, gp] at gq3; cases gq3
        have nq5 : q5 ≠ p1 := fun e => by rw [e, gp] at gq5; cases gq5
        have fq1 : upd H8 p1 (.lst ([.ref q1, .ref q2, .ref q3] ++ [.ref q5])) q1 = _ := (upd_ne nq).trans gq
        have fq2 : upd H8 p1 (.lst ([.ref q1, .ref q2, .ref q3] ++ [.ref q5])) q2 = _ := (upd_ne nq2).trans gq2
        have fq3 : upd H8 p1 (.lst ([.ref q1, .ref q2, .ref q3] ++ [.ref q5])) q3 = _ := (upd_ne nq3).trans gq3
        have fq5 : upd H8 p1 (.lst ([.ref q1, .ref q2, .ref q3] ++ [.ref q5])) q5 = _ := (upd_ne nq5).trans gq5
        have fp : upd H8 p1 (.lst ([.ref q1, .ref q2, .ref q3] ++ [.ref q5])) p1 = some (.lst [.ref q1, .ref q2, .ref q3, .ref q5]) := upd_same
        generalize upd H8 p1 (.lst ([.ref q1, .ref q2, .ref q3] ++ [.ref q5])) = H11 at *
        clear gq gp gq2 gq3 gq5 s8 H8 H10
        walk_at "n"
        refine ⟨line_of (by simp), fun u1 hu1 => ?_⟩
        walk_at "n"
        refine ⟨line_of (by simp), fun u2 hu2 => ?_⟩
        walk_at "n"
        refine ⟨_, _, _, rfl, rfl, upd_same, by decide, by decide, line_of (by simp), fun u3 hu3 => ?_⟩
        walk_at "n"
        refine ⟨line_of (by simp), fun u4 hu4 => ?_⟩
        walk_at "n"
        refine ⟨line_of (by simp), fun u5 hu5 => ?_⟩
        walk_at "n"
        refine ⟨line_of (by simp), fun u6 hu6 => ?_⟩
        walk_at "n"
        refine .inl ⟨_, _, _, _, rfl, rfl, upd_keep hu6 (upd_keep hu5 (upd_keep hu4 upd_same)), upd_same, line_of (by simp), fun u7 hu7 => ?_⟩
        walk_at "n"
        have k1 : ∀ (a : Addr) o, H11 a = some o → upd (upd (upd (upd (upd (upd (upd H11 u1 (.tup [.str "many", .str "watches", .int 12])) u2 (.lst [.ref u1])) u3 (.lst (List.replicate (Int.toNat 2) [V.ref u1]).flatten)) u4 (.tup [.str "watch", .str "order"])) u5 (.tup [.str "told"])) u6 (.lst [.ref u4, .ref u5])) u7 (.lst ((List.replicate (Int.toNat 2) [V.ref u1]).flatten ++ [.ref u4, .ref u5])) a = some o := fun a o e =>
          upd_keep hu7 (upd_keep hu6 (upd_keep hu5 (upd_keep hu4 (upd_keep hu3 (upd_keep hu2 (upd_keep hu1 e))))))
        refine ⟨.list [.tuple [.str "many", .str "watches", .int 12], .tuple [.str "many", .str "watches", .int 12], .tuple [.str "watch", .str "order"], .tuple [.str "told"]], .list [.tuple [.str "many", .str "watches", .int 12], .tuple [.str "many", .str "watches", .int 12], .tuple [.str "watch", .str "order"], .tuple [.str "told"]],
          .lst (SqL.of (k1 _ _ fp)) (.cons (.tup (.inl (.inl (k1 _ _ fq1))) (.cons (.str _) (.cons (.str _) (.cons (.int _) .nil)))) (.cons (.tup (.inl (.inl (k1 _ _ fq2))) (.cons (.str _) (.cons (.str _) (.cons (.int _) .nil)))) (.cons (.tup (.inl (.inl (k1 _ _ fq3))) (.cons (.str _) (.cons (.str _) .nil))) (.cons (.tup (.inl (.inl (k1 _ _ fq5))) (.cons (.str _) .nil)) .nil)))),
          .lst (SqL.of upd_same) ?_, by decide +kernel, by decide +kernel, ?_⟩
        · have t1 : SqT K (upd (upd (upd (upd (upd (upd (upd H11 u1 (.tup [.str "many", .str "watches", .int 12])) u2 (.lst [.ref u1])) u3 (.lst (List.replicate (Int.toNat 2) [V.ref u1]).flatten)) u4 (.tup [.str "watch", .str "order"])) u5 (.tup [.str "told"])) u6 (.lst [.ref u4, .ref u5])) u7 (.lst ((List.replicate (Int.toNat 2) [V.ref u1]).flatten ++ [.ref u4, .ref u5]))) u1 [.str "many", .str "watches", .int 12] := .inl (.inl (upd_keep hu7 (upd_keep hu6 (upd_keep hu5 (upd_keep hu4 (upd_keep hu3 (upd_keep hu2 upd_same)))))))
          refine .cons (.tup t1 (.cons (.str _) (.cons (.str _) (.cons (.int _) .nil)))) (.cons (.tup t1 (.cons (.str _) (.cons (.str _) (.cons (.int _) .nil)))) (.cons (.tup (.inl (.inl (upd_keep hu7 (upd_keep hu6 (upd_keep hu5 upd_same))))) (.cons (.str _) (.cons (.str _) .nil))) (.cons (.tup (.inl (.inl (upd_keep hu7 (upd_keep hu6 upd_same)))) (.cons (.str _) .nil)) .nil)))
        · have e : PyData.eqv (.list [.tuple [.str "many", .str "watches", .int 12], .tuple [.str "many", .str "watches", .int 12], .tuple [.str "watch", .str "order"], .tuple [.str "told"]]) (.list [.tuple [.str "many", .str "watches", .int 12], .tuple [.str "many", .str "watches", .int 12], .tuple [.str "watch", .str "order"], .tuple [.str "told"]]) = true := by decide +kernel
          rw [e]
          exact h _ (((((((s9.new hu1).new hu2).new hu3).new hu4).new hu5).new hu6).new hu7)
theorem ok__law_many_right {w : World} {K : PySem.W.Frag} {mg : Str → Option Value} {base : Heap} (TB : Ty K mg base) : F.Fr P w K mg base 13 (He.ga K "_law_many_right") (sp__law_many_right K) := (TB.toTx.f__law_many_right).elim fun fd F1 => fr_of F1 (okF__law_many_right TB F1) (fun _ _ _ _ _ _ us hl => match us, hl with | [], _ => rfl)
end G
set_option maxHeartbeats 400000
namespace G
open PySem PySem.Spec PyProof.Rows L2 F
local macro_rules | `(tactic| walk_at "side") => `(tactic| first | rfl | decide | omega | assumption | (unfold CMul; omega) | (unfold CPow; omega) | (unfold CDiv; omega))
local macro_rules | `(tactic| walk_at "hp") => `(tactic| first | assumption | exact upd_same | (refine upd_keep (by assumption) ?_; walk_at "hp") | (refine sm (by assumption) ?_; walk_at "hp"))
local macro_rules | `(tactic| walk_at "n") => `(tactic| ((try conv => whnf); repeat ((first | with_reducible refine cond_t rfl ?_ | with_reducible refine cond_f rfl ?_ | with_reducible refine cond_n ?_); (try conv => whnf))))
local macro_rules | `(tactic| walk_at "go") => `(tactic| (walk_at "n"; repeat (refine And.intro ?side ?_; (case side => walk_at "side"); walk_at "n")))

set_option maxHeartbeats 4000000
open M TL
theorem spans_few {W : List (Mo × Mo)} {t : Mo × Mo} (h : W.length < 12) : spansOut W [t] ≠ .many := by
  rw [spansOut_cons]
  split
  · exact fun e => by cases e
  · split
    · exact fun e => by cases e
    · rw [if_neg (by omega)]
      exact fun e => by cases e
theorem put_few : ∀ (es : List (List Mo)) (W : List (Mo × Mo)), W.length + es.length ≤ 12 → putOut W es ≠ .many
  | [], W, _ => fun e => by cases e
  | e :: r, W, h => by
    simp only [List.length_cons] at h
    unfold putOut
    split
    · rename_i q p
      have z := spans_few (W := W) (t := (q, p)) (by omega)
      split
      · refine put_few r _ ?_
        split
        · omega
        · simp only [List.length_cons]
          omega
      · exact z
    · exact put_few r W (by omega)
theorem ents_len : ∀ (ls : List (List Str)) (n : Nat) (es : List (List Mo)), entsOut n ls = .ok es → es.length = ls.length
  | [], n, es, h => by cases h; rfl
  | a :: r, n, es, h => by
    unfold entsOut at h
    split at h
    · cases h
    · split at h
      · cases h
      · rename_i es' q
        cases h
        simp only [List.length_cons]
        rw [ents_len r _ _ q]
theorem book_few {ls : List (List Str)} (h : ls.length ≤ 12) : bookOut ls ≠ .many := by
  unfold bookOut
  split
  · split
    · exact fun e => by cases e
    · split <;> exact fun e => by cases e
  · split
    · exact fun e => by cases e
    · rename_i es q
      have := ents_len _ _ _ q
      have z := put_few es [] (by simp; omega)
      split
      · exact fun e => by cases e
      · exact fun e => by cases e
      · rename_i q2
        exact absurd q2 z
theorem empty_out : bookOut ((Txt.split "" "\n").map fun l => Txt.split l " ") = .text 0 0 := by
  have e : (match bookOut ((Txt.split "" "\n").map fun l => Txt.split l " ") with
    | .text l i => decide (l = 0) && decide (i = 0)
    | _ => false) = true := by decide +kernel
  split at e
  · rename_i l i q
    obtain ⟨e1, e2⟩ := He.ba e
    rw [q, of_decide_eq_true e1, of_decide_eq_true e2]
  · cases e
def ringL : List Str := [("ring 2019-01-01 06:00" : Str), "ring 2019-01-02 06:00", "ring 2019-01-03 06:00"]
def watchS : Str := "watch 0001-01-01 00:00 0001-01-02 00:00"
theorem ring_at : ∀ i : Fin 3, (Str.ofString (toString (1 + (0 + ((i : Nat) : Int))))).length = 1 ∧ (("ring 2019-01-0" : Str) ++ Str.ofString (toString (1 + (0 + ((i : Nat) : Int))))) ++ (" 06:00" : Str) = ringL.getD i "" := by decide +kernel
/-- the lines with which a turn begins -/
def begL (r w : Nat) : List Str := ringL.take r ++ List.replicate w watchS
theorem begL_len {r w : Nat} (hr : r ≤ 3) : (begL r w).length = r + w := by
  unfold begL
  rw [List.length_append, List.length_take, List.length_replicate]
  show min r 3 + w = r + w
  omega
def begS (r w : Nat) : Str := if begL r w = [] then "none" else Txt.join "\n" (begL r w)
theorem beg_ok : ∀ r : Fin 4, ∀ w : Fin 2, (begS r w).length ≤ 200 ∧ ((begS r w).cps.toList.all fun c => decide (c < 128)) = true ∧ ((begS r w).cps.toList.count 10) ≤ 3 := by decide +kernel
theorem beg_sh : ∀ r : Fin 4, ∀ w : Fin 2, SeqAt.shaped (.list ((begL r w).map PyData.str)) = true ∧ PyData.eqv (.list ((begL r w).map PyData.str)) (.list []) = decide (begL r w = []) := by decide +kernel
theorem beg_sum : ∀ r : Fin 4, ∀ w : Fin 2, ((begL r w).map fun x => x.length).sum + (begL r w).length * ("\n" : Str).length ≤ 1000 := by decide +kernel
theorem sh_text (l i : Int) : SeqAt.shaped (.tuple [.str "text", .int l, .int i]) = true := by
  have h : PyData.strOk "text" = true := by decide +kernel
  unfold SeqAt.shaped
  simp [PyData.canLay0, PyData.canLayAll0, PyData.depth, PyData.depthAll, h]
theorem sh_watch {s : Str} (hs : PyData.strOk s = true) : SeqAt.shaped (.tuple [.str "watch", .str s]) = true := by
  have h : PyData.strOk "watch" = true := by decide +kernel
  unfold SeqAt.shaped
  simp [PyData.canLay0, PyData.canLayAll0, PyData.depth, PyData.depthAll, h, hs]
theorem ok_order : PyData.strOk "order" = true := by decide +kernel
theorem ok_length : PyData.strOk "length" = true := by decide +kernel
theorem span_str {q p : Mo} {s : Str} (h : spanBad q p = some s) : PyData.strOk s = true := by
  unfold spanBad at h
  split at h
  · cases h; exact ok_order
  · split at h
    · cases h; exact ok_length
    · cases h
theorem spans_str : ∀ (r W : List (Mo × Mo)) (s : Str), spansOut W r = .bad s → PyData.strOk s = true
  | [], W, s, h => by cases h
  | t :: r, W, s, h => by
    rw [spansOut_cons] at h
    split at h
    · rename_i s' q
      cases h
      exact span_str q
    · split at h
      · exact spans_str r _ _ h
      · split at h
        · cases h
        · exact spans_str r _ _ h
theorem put_str : ∀ (es : List (List Mo)) (W : List (Mo × Mo)) (s : Str), putOut W es = .bad s → PyData.strOk s = true
  | [], W, s, h => by cases h
  | e :: r, W, s, h => by
    unfold putOut at h
    split at h
    · split at h
      · exact put_str r _ _ h
      · exact spans_str _ _ _ h
    · exact put_str r _ _ h
theorem book_str {ls : List (List Str)} {s : Str} (h : bookOut ls = .bad s) : PyData.strOk s = true := by
  unfold bookOut at h
  split at h
  · split at h
    · cases h
    · split at h <;> cases h
  · split at h
    · cases h
    · split at h
      · cases h
      · rename_i s' q
        cases h
        exact put_str _ _ _ q
      · cases h
theorem no_str1 {K : PySem.W.Frag} : PySem.W.kitOne K (.type "list") (.type "str") = some false := by rfl
theorem no_str2 {K : PySem.W.Frag} : PySem.W.kitOne K (.type "tuple") (.type "str") = some false := by rfl
theorem no_str3 {K : PySem.W.Frag} : PySem.W.kitOne K (.type "dict") (.type "str") = some false := by rfl
/-- the values that are no texts -/
structure OddAt (K : PySem.W.Frag) (H : Hp) (p4 p1 p2 p3 : Addr) : Prop where
  l : H p4 = some (.lst [.non, .int 0, .bl true, .ref p1, .ref p2, .ref p3])
  a1 : H p1 = some (.lst [.str "none"])
  a2 : H p2 = some (.tup [.str "ring"])
  a3 : H p3 = some (.dK [])
theorem OddAt.not {K : PySem.W.Frag} {H : Hp} {p4 p1 p2 p3 : Addr} (o : OddAt K H p4 p1 p2 p3) {i : Nat} {x : V} (h : [V.non, .int 0, .bl true, .ref p1, .ref p2, .ref p3][i]? = some x) : NotStr K H x := by
  rcases i with _ | _ | _ | _ | _ | _ | i <;> cases h
  · trivial
  · trivial
  · trivial
  · exact ⟨_, .base (.lst o.a1), no_str1⟩
  · exact ⟨_, .base (.tup o.a2), no_str2⟩
  · exact ⟨_, .base (.dK o.a3), no_str3⟩
theorem OddAt.ext {K : PySem.W.Frag} {H H' : Hp} {p4 p1 p2 p3 : Addr} (o : OddAt K H p4 p1 p2 p3) (e : LamX.ExtN H H') : OddAt K H' p4 p1 p2 p3 :=
  ⟨e _ _ o.l (fun ps z => by cases z), e _ _ o.a1 (fun ps z => by cases z), e _ _ o.a2 (fun ps z => by cases z), e _ _ o.a3 (fun ps z => by cases z)⟩
theorem OddAt.same {K : PySem.W.Frag} {H H' : Hp} {p4 p1 p2 p3 : Addr} (o : OddAt K H p4 p1 p2 p3) (s : Same H H') : OddAt K H' p4 p1 p2 p3 := o.ext (.of fun b u e => s b u e)
theorem eqv_t00 : PyData.eqv (.tuple [.str "text", .int 0, .int 0]) (.tuple [.str "text", .int 0, .int 0]) = true := by decide +kernel
theorem pick2 {x y : Str} {k : Int} (h0 : 0 ≤ k) (h1 : k < 2) : ∃ w, atI [V.str x, .str y] k = some (.str w) ∧ (w = x ∨ w = y) := by
  rcases (by omega : k = 0 ∨ k = 1) with rfl | rfl
  · exact ⟨x, rfl, .inl rfl⟩
  · exact ⟨y, rfl, .inr rfl⟩
theorem BagAt.nt {K : PySem.W.Frag} {H : Hp} {g c : Addr} (b : BagAt K H g c) : ∃ o, H g = some o ∧ (∀ ps, o ≠ .tbl ps) ∧ ∀ q, o ≠ LamX.CodeO g q := by
  obtain ⟨a, r, st, ns, p⟩ := b
  refine ⟨_, p.at_, fun ps z => ?_, fun q z => ?_⟩
  · cases z
  · unfold LamX.CodeO at z
    cases z
theorem BagAt.ne {K : PySem.W.Frag} {H : Hp} {g c a : Addr} {o : HO} (b : BagAt K H g c) (h : H a = some o) (n : ∀ kvs, o ≠ .dK kvs := by intro kvs z; cases z) : a ≠ g := fun e => by
  obtain ⟨a, r, st, ns, p⟩ := b
  rw [e, p.at_] at h
  exact n _ (Option.some.inj h).symm
theorem BagAt.sbx {K : PySem.W.Frag} {H H' : Hp} {g c : Addr} {T : List (Addr × Str)} (b : BagAt K H g c) (s : SB g H H') : SBx T g H H' := let ⟨_, e, n, nc⟩ := b.nt; sbx_sb s e n nc
theorem BagAt.ext {K : PySem.W.Frag} {H H' : Hp} {g c : Addr} (b : BagAt K H g c) (e : LamX.ExtN H H') : BagAt K H' g c := by
  obtain ⟨a, r, st, ns, p⟩ := b
  exact ⟨a, r, st, ns, e _ _ p.at_ (fun ps z => by cases z), e _ _ p.cc (fun ps z => by cases z), p.a0, p.r0, p.s0, p.s1, p.n⟩
def sp_law (K : PySem.W.Frag) : Sp := fun vs H Q E => match vs with
  | [.ref a] => ∃ ns : List Int, SqL K H a (ns.map V.int) ∧ LamX.Tabs (TT K) H ∧ ∀ H', Q (.bl true) H'
  | _ => False
theorem sc_law : FnScope ["_law_script", "_law_bag_here", "_law_turn", "_law_lines", "_law_signs", "_law_again", "_law_bent", "_law_found_so", "_law_due_here", "_law_value", "_law_k"] ["_law_script"] (defScope s_law) := ⟨rfl, rfl, rfl, by decide +kernel, rfl, by decide +kernel, by decide +kernel⟩
theorem okF_law {w : World} {K : PySem.W.Frag} {mg : Str → Option Value} {base : Heap} {fd : FuncData} (TB : Ty K mg base) (F1 : FunD K "law" "law" (defArgs s_law) (defBody s_law) (defScope s_law) [] [] (He.ga K "law") fd) : FnOk P w K mg base (L2.CX P w) 16 (He.ga K "law") fd ["_law_script"] (sp_law K) := by
  have T : Tx K mg := TB.toTx
  have c__law_bag : Fc P w K mg base 1 "_law_bag" (sp__law_bag K) := ⟨_, ok__law_bag TB, T.g__law_bag, (T.f__law_bag).elim fun _ z => z.kp⟩
  have c__law_many_right : Fc P w K mg base 13 "_law_many_right" (sp__law_many_right K) := ⟨_, ok__law_many_right TB, T.g__law_many_right, (T.f__law_many_right).elim fun _ z => z.kp⟩
  have c__law_draw : Fc P w K mg base 1 "_law_draw" (sp__law_draw K) := ⟨_, ok__law_draw TB, T.g__law_draw, (T.f__law_draw).elim fun _ z => z.kp⟩
  have c__law_spoilt : Fc P w K mg base 2 "_law_spoilt" (sp__law_spoilt K) := ⟨_, ok__law_spoilt TB, T.g__law_spoilt, (T.f__law_spoilt).elim fun _ z => z.kp⟩
  have c_read_book : Fc P w K mg base 9 "read_book" (sp_read_book K) := ⟨_, ok_read_book TB, T.g_read_book, (T.f_read_book).elim fun _ z => z.kp⟩
  have c__law_due : Fc P w K mg base 5 "_law_due" (sp__law_due K) := ⟨_, ok__law_due TB, T.g__law_due, (T.f__law_due).elim fun _ z => z.kp⟩
  have lm := nd_zip (T := (mkl K).map fun f => tAt K f) (q := mkq.map lamQ) T.mkd (i := 1) rfl rfl
  obtain ⟨fd_law_heard, FL_law_heard⟩ := T.f__law_heard
  refine okC F1 (T.mka _ (by simp)) sc_law (fun vs H Q E h => ?_) (fun A outer s H vs Q E hr h => ?_)
  · unfold sp_law at h
    split at h
    · rfl
    · exact h.elim
  · unfold sp_law at h
    split at h
    rotate_left
    · exact h.elim
    · rename_i a
      refine ⟨_, (pss_cons (ps_set (i := 1) sc_law.nd rfl (Or.inl rfl) (e_c c__law_bag hr (pa_cons (e_v 0) pa_nil)))
        (pss_cons (s_if (pt_not (t_tru (e_c0 c__law_many_right hr))) (pss_one (ps_ret pe_bl)) pss_nil)
        (pss_cons (ps_for (passes_of rfl) rfl (pi_range1 rfl T.b_range (pa_cons pe_int pa_nil)) (pg_name (i := 2) sc_law.nd rfl (Or.inl rfl))
          (pss_cons (ps_setLc (i := 3) (own := [("_law_k", 10)]) (g := gName 10) (tt := tYes) rfl sc_law.nd rfl rfl (sw_true rfl rfl rfl (by decide +kernel)) (pi_range1 rfl T.b_range (pa_cons (e_c c__law_draw hr (pa_cons (e_v 1) (pa_cons pe_int pa_nil))) pa_nil)) (blkOk_by (own := [("_law_k", 10)]) (N := ["_law_script", "_law_bag_here", "_law_turn", "_law_lines", "_law_signs", "_law_again", "_law_bent", "_law_found_so", "_law_due_here", "_law_value", "_law_k"]) (sc := defScope s_law) (by decide +kernel)) (fun _ _ _ _ _ => (pg_name (i := 10) sc_law.nd rfl (Or.inl rfl))) (fun _ _ _ _ _ => pts_nil) (fun _ _ _ _ _ => (pe_op (k_add K) (pe_op (k_add K) pe_str (e_str T.b_str (pe_op (k_add K) pe_int (e_v 10)))) pe_str)))
        (pss_cons (ps_set (i := 3) sc_law.nd rfl (Or.inl rfl) (pe_op (k_add K) (e_v 3) (pe_op op_rep (pe_lst (pa_cons pe_str pa_nil)) (e_c c__law_draw hr (pa_cons (e_v 1) (pa_cons pe_int pa_nil))))))
        (pss_cons (ps_set (i := 4) sc_law.nd rfl (Or.inl rfl) (e_if (t_cmp (op_neD hr.units) (e_v 3) (pe_lst pa_nil) (nomark _)) (e_join pe_str (e_v 3)) pe_str))
        (pss_one (ps_for (passes_of rfl) rfl (pi_range1 rfl T.b_range (pa_cons pe_int pa_nil)) (pg_name (i := 5) sc_law.nd rfl (Or.inl rfl))
          (pss_cons (ps_set (i := 6) sc_law.nd rfl (Or.inr rfl) (e_c c__law_spoilt hr (pa_cons (e_v 1) (pa_cons (e_v 4) pa_nil))))
        (pss_cons (ps_par (i := 7) (j := 8) (by rfl) sc_law.nd rfl rfl (by decide) rfl rfl (pa_cons (e_lam (T := TT K) (TT := TT__law_heard K) (f := (He.ga K "law")) (k := 13) FL_law_heard (fun _ _ _ _ _ _ us hl => match us, hl with | [_], _ => rfl) T.g__law_heard sc__law_heard (fun cdv => _law_heard_gives T) (TB.tb _ (by simp [mkl])) lm.1 lm.2 hr (fun A outer s H E f c' hr => (e_cP c_read_book hr (passE' (takes_of (E := E) rfl rfl rfl rfl)) (pa_cons (e_v 6) pa_nil))) (L := LamX.lamS_by (sc := defScope s_law) (by decide +kernel))) (pa_cons (e_c c__law_due hr (pa_cons (e_v 6) pa_nil)) pa_nil)) (by rfl))
        (pss_cons (s_if (PW.pt (w_or (t_cmp o_ne (pe_ix (k_ixT K) (e_v 7) pe_int (fun _ _ => rfl)) (pe_ix (k_ixT K) (e_v 8) pe_int (fun _ _ => rfl)) (nomark _)) (w_or1 (PW.pt (w_and (t_cmp o_ne (pe_ix (k_ixT K) (e_v 8) pe_int (fun _ _ => rfl)) pe_str (nomark _)) (w_and1 (t_cmp (op_neD hr.units) (e_v 7) (e_v 8) (nomark _)))))))) (pss_one (ps_ret pe_bl)) pss_nil)
        (pss_cons (s_if (PW.pt (w_and (t_cmp o_eq (pe_ix (k_ixT K) (e_v 8) pe_int (fun _ _ => rfl)) pe_str (nomark _)) (w_and1 (pt_not (t_b (e_isC T.g_Book T.is_Book T.b_isinstance (pe_ix (k_ixT K) (e_v 7) pe_int (fun _ _ => rfl)))))))) (pss_one (ps_ret pe_bl)) pss_nil)
        (pss_one (ps_set (i := 4) sc_law.nd rfl (Or.inl rfl) (pe_ix (k_ixL K) (pe_lst (pa_cons (e_v 6) (pa_cons (e_v 4) pa_nil))) (e_c c__law_draw hr (pa_cons (e_v 1) (pa_cons pe_int pa_nil))) (fun _ _ => rfl))))))))))))))
        (pss_cons (ps_for (passes_of rfl) rfl (pi_list (pe_lst (pa_cons pe_non (pa_cons pe_int (pa_cons pe_bl (pa_cons (pe_lst (pa_cons pe_str pa_nil)) (pa_cons (pe_tup (pa_cons pe_str pa_nil)) (pa_cons pe_dnewK pa_nil)))))))) (pg_name (i := 9) sc_law.nd rfl (Or.inr rfl))
          (pss_one (s_if (t_cmp (op_neD hr.units) (e_lam (T := TT K) (TT := TT__law_heard K) (f := (He.ga K "law")) (k := 13) FL_law_heard (fun _ _ _ _ _ _ us hl => match us, hl with | [_], _ => rfl) T.g__law_heard sc__law_heard (fun cdv => _law_heard_gives T) (TB.tb _ (by simp [mkl])) lm.1 lm.2 hr (fun A outer s H E f c' hr => (e_cP c_read_book hr (passE' (takes_of (E := E) rfl rfl rfl rfl)) (pa_cons (e_v 9) pa_nil))) (L := LamX.lamS_by (sc := defScope s_law) (by decide +kernel))) (pe_tup (pa_cons pe_str (pa_cons pe_int (pa_cons pe_int pa_nil)))) (nomark _)) (pss_one (ps_ret pe_bl)) pss_nil)))
        (pss_one (ps_ret (pe_cmpR (op_eqD hr.units) (e_lam (T := TT K) (TT := TT__law_heard K) (f := (He.ga K "law")) (k := 13) FL_law_heard (fun _ _ _ _ _ _ us hl => match us, hl with | [_], _ => rfl) T.g__law_heard sc__law_heard (fun cdv => _law_heard_gives T) (TB.tb _ (by simp [mkl])) lm.1 lm.2 hr (fun A outer s H E f c' hr => (e_cP c_read_book hr (passE' (takes_of (E := E) rfl rfl rfl rfl)) (pa_cons pe_str pa_nil))) (L := LamX.lamS_by (sc := defScope s_law) (by decide +kernel))) (pe_tup (pa_cons pe_str (pa_cons pe_int (pa_cons pe_int pa_nil)))) (nomark _)))))))), ?_⟩
      obtain ⟨ns, hl, t0, h⟩ := h
      walk_at "n"
      refine ⟨ns, hl, fun g c H1 s1 hg b1 => ?_⟩
      walk_at "n"
      refine ⟨t0.ext fun b o e => s1 b o e, fun H2 s2 => ?_⟩
      have b2 : BagAt K H2 g c := b1.ext s2.k
      have t2 : LamX.Tabs (TT K) H2 := s2.t (t0.ext fun b o e => s1 b o e)
      walk_at "n"
      refine ⟨3, rfl, by decide, by decide, for_it (walk_range (lo := 0) (n := 3)) (fun i σ H' => (BagAt K H' g c ∧ LamX.Tabs (TT K) H') ∧ ∃ v2 v3 v4 v5 v6 v7 v8 v9 v10, σ = [some (.ref a), some (.ref g), v2, v3, v4, v5, v6, v7, v8, v9, v10]) ⟨⟨b2, t2⟩, _, _, _, _, _, _, _, _, _, rfl⟩ (fun _ _ _ _ _ => trivial) ?_ ?_⟩
      · rintro i x σ H3 H4 hi ⟨⟨b3, t3⟩, v2, v3, v4, v5, v6, v7, v8, v9, v10, rfl⟩ ⟨rfl, rfl⟩
        walk_at "n"
        refine ⟨c, b3, by decide, by decide, fun r H5 s5 b5 r0 r1 => ?_⟩
        walk_at "n"
        obtain ⟨r, rfl⟩ : ∃ k : Nat, r = (k : Int) := ⟨r.toNat, by omega⟩
        have hr : r < 4 := by omega
        refine ⟨r, rfl, by omega, by omega, fun D hD => lcW (walk_range (lo := 0) (n := r)) (fun i v _ => v = .str (ringL.getD i "")) (by omega) hD (fun _ _ => trivial) (fun _ _ _ _ _ z => z) ?_ gm_name ?_⟩
        · rintro i x H1 H2 acc Nx hi s hd ⟨rfl, rfl⟩ nx
          refine ⟨rfl, ?_⟩
          walk_at "n"
          have hlog : (1 + (0 + (i : Int))).natAbs.log2 < 1920 := by
            have e : (1 + (0 + (i : Int))).natAbs = 1 + i := by omega
            rw [e]
            exact Nat.lt_of_le_of_lt (Nat.log2_le_self _) (by omega)
          refine ⟨hlog, ?_⟩
          walk_at "n"
          obtain ⟨e1, e2⟩ := ring_at ⟨i, by omega⟩
          have e1 : (Str.ofString (toString (1 + (0 + (i : Int))))).length = 1 := e1
          have e4 : ("ring 2019-01-0" : Str).length = 14 := by decide
          have e5 : (" 06:00" : Str).length = 6 := by decide
          refine ⟨line_of (by omega), ?_⟩
          walk_at "n"
          refine ⟨line_of (by simp only [Str.length_append]; omega), ?_⟩
          exact nx _ _ (Same.refl _) (congrArg V.str e2)
        · intro ys H6 hl6 hy s6 hd6
          have ey : ys = (ringL.take r).map V.str := by
            refine (ys_fn hl6 hy).trans ?_
            rcases r with _ | _ | _ | _ | r <;> first | rfl | omega
          subst ey
          have b6 := b5.same s6
          have t6 : LamX.Tabs (TT K) H6 := ((b3.sbx s5).t t3).ext fun b o e => s6 b o e
          walk_at "n"
          refine ⟨line_of (by simp), fun p7 hp7 => ?_⟩
          walk_at "n"
          refine ⟨c, b6.same (snew hp7), by decide, by decide, fun w H8 s8 b8 w0 w1 => ?_⟩
          obtain ⟨w, rfl⟩ : ∃ k : Nat, w = (k : Int) := ⟨w.toNat, by omega⟩
          have hw : w < 2 := by omega
          have gD : H8 D = some (.lst ((ringL.take r).map V.str)) := s8.at2 (upd_keep hp7 hd6) (b6.ne hd6)
          have b7 := b6.same (snew (o := .lst [.str watchS]) hp7)
          have g7 : H8 p7 = some (.lst [.str watchS]) := s8.at2 upd_same (b7.ne upd_same)
          have t8 : LamX.Tabs (TT K) H8 := (b7.sbx s8).t (t6.ext fun b o e => snew hp7 b o e)
          walk_at "n"
          refine ⟨_, _, _, rfl, rfl, g7, by omega, by omega, line_of (by simp; omega), fun p9 hp9 => ?_⟩
          walk_at "n"
          refine .inl ⟨_, _, _, _, rfl, rfl, upd_keep hp9 gD, upd_same, line_of (by simp; omega), fun q hq => ?_⟩
          have el : (ringL.take r).map V.str ++ (List.replicate (Int.toNat (w : Int)) [V.str watchS]).flatten = (begL r w).map V.str := by
            unfold begL
            rw [List.map_append]
            rcases w with _ | _ | w <;> first | rfl | omega
          walk_at "n"
          refine ⟨by decide, fun e0 he0 => ?_⟩
          walk_at "n"
          have gq := upd_keep (u := .lst []) he0 (upd_same (H := upd H8 p9 (.lst (List.replicate (Int.toNat (w : Int)) [V.str watchS]).flatten)) (a := q) (o := .lst ((ringL.take r).map V.str ++ (List.replicate (Int.toNat (w : Int)) [V.str watchS]).flatten)))
          have s9 : Same H8 (upd (upd (upd H8 p9 (.lst (List.replicate (Int.toNat (w : Int)) [V.str watchS]).flatten)) q (.lst ((ringL.take r).map V.str ++ (List.replicate (Int.toNat (w : Int)) [V.str watchS]).flatten))) e0 (.lst [])) := sto (sto (snew hp9) hq) he0
          rw [el] at gq s9 ⊢
          have b9 := b8.same s9
          have t9 : LamX.Tabs (TT K) _ := t8.ext fun b o e => s9 b o e
          have gE : upd (upd (upd H8 p9 (.lst (List.replicate (Int.toNat (w : Int)) [V.str watchS]).flatten)) q (.lst ((begL r w).map V.str))) e0 (.lst []) e0 = some (.lst []) := upd_same
          generalize upd (upd (upd H8 p9 (.lst (List.replicate (Int.toNat (w : Int)) [V.str watchS]).flatten)) q (.lst ((begL r w).map V.str))) e0 (.lst []) = H9 at *
          refine ⟨.list ((begL r w).map PyData.str), .list [], .lst (SqL.of gq) (dp_strs _), .lst (SqL.of gE) .nil, ?_, by decide +kernel, ?_⟩
          · exact (beg_sh ⟨r, hr⟩ ⟨w, hw⟩).1
          have eq1 : PyData.eqv (.list ((begL r w).map PyData.str)) (.list []) = decide (begL r w = []) := (beg_sh ⟨r, hr⟩ ⟨w, hw⟩).2
          walk_at "n"
          rw [eq1]
          obtain ⟨k1, k2, k3⟩ : (begS r w).length ≤ 200 ∧ ((begS r w).cps.toList.all fun c => decide (c < 128)) = true ∧ ((begS r w).cps.toList.count 10) ≤ 3 := beg_ok ⟨r, hr⟩ ⟨w, hw⟩
          have k2 : Asc (begS r w) := fun c hc => by simpa using List.all_eq_true.mp k2 c hc
          have k3 : (Txt.split (begS r w) "\n").length ≤ 4 := by
            rw [nl_count]
            have : (TL.tl (begS r w)).count 10 ≤ 3 := k3
            omega
          refine cond_p (fun h0 => ?c1) (fun h0 => ?c2)
          case' c1 =>
            walk_at "n"
            rw [show ("none" : Str) = begS r w from (if_pos h0).symm]
          case' c2 =>
            walk_at "n"
            have hsum : ((begL r w).map fun x => x.length).sum + (begL r w).length * ("\n" : Str).length ≤ 1000 := beg_sum ⟨r, hr⟩ ⟨w, hw⟩
            refine ⟨begL r w, .inl (SqL.of gq), Nat.le_trans hsum (by decide), ?_⟩
            walk_at "n"
            rw [show Txt.join "\n" (begL r w) = begS r w from (if_neg h0).symm]
          all_goals
            generalize begS r w = z0 at k1 k2 k3 ⊢
            refine ⟨8, rfl, by decide, by decide, for_it (walk_range (lo := 0) (n := 8)) (fun j σ H' => (BagAt K H' g c ∧ LamX.Tabs (TT K) H') ∧ ∃ z, (z.length ≤ 200 + 100 * j ∧ Asc z ∧ (Txt.split z "\n").length ≤ 4 + j) ∧ ∃ v2 v3 v5 v6 v7 v8 v9 v10, σ = [some (.ref a), some (.ref g), v2, v3, some (.str z), v5, v6, v7, v8, v9, v10]) ⟨⟨b9, t9⟩, z0, ⟨k1, k2, k3⟩, _, _, _, _, _, _, _, _, rfl⟩ (fun _ _ _ _ _ => trivial) ?_ ?_⟩
            · rintro j x σ Ha Hb hj ⟨⟨ba, ta⟩, z, ⟨z1, z2, z3⟩, w2, w3, w5, w6, w7, w8, w9, w10, rfl⟩ ⟨rfl, rfl⟩
              walk_at "n"
              refine ⟨c, ba, ⟨by omega, z2, by omega⟩, fun rr Hc sc bc r1 r2 r3 => ?_⟩
              walk_at "n"
              refine ⟨(ba.sbx sc).t ta, fun Hd ed td => ?_⟩
              walk_at "n"
              have bd := bc.ext ed
              have nm := book_few (ls := (Txt.split rr "\n").map fun l => Txt.split l " ") (by rw [List.length_map]; omega)
              refine .inl ⟨rr, rfl, by omega, by omega, ?_⟩
              cases hB : bookOut ((Txt.split rr "\n").map fun l => Txt.split l " ") with
              | many => exact absurd hB nm
              | text l i =>
                intro d1 H1 sd hd1 e1
                refine ⟨d1, rfl, .inl ⟨_, _, rfl, e1, fun q1 hq1 => ?_⟩⟩
                walk_at "n"
                refine ⟨⟨by omega, r2, by omega⟩, fun p7 H7 s7 hp7 e7 => ?_⟩
                rw [hB] at e7
                have e7 : H7 p7 = some (.tup [.str "text", .int (l : Int), .int (i : Int)]) := e7
                have f7 : H7 q1 = some (.tup [.str "text", .int (l : Int), .int (i : Int)]) := s7 _ _ upd_same
                have ba7 := (bd.same (sd.trans (snew hq1))).same s7
                have t7 : LamX.Tabs (TT K) H7 := td.ext fun b o e => s7 _ _ (upd_keep hq1 (sd _ _ e))
                clear s7 sd ed hq1 hp7
                walk_at "n"
                refine ⟨_, _, rfl, ?_⟩
                walk_at "n"
                refine ⟨_, _, .inl (.inl f7), rfl, ?_⟩
                walk_at "n"
                refine ⟨_, _, .inl (.inl e7), rfl, ?_⟩
                walk_at "n"
                refine ⟨_, _, .inl (.inl e7), rfl, ?_⟩
                walk_at "n"
                refine ⟨.tuple [.str "text", .int l, .int i], .tuple [.str "text", .int l, .int i], .tup (.inl (.inl f7)) (.cons (.str _) (.cons (.int _) (.cons (.int _) .nil))), .tup (.inl (.inl e7)) (.cons (.str _) (.cons (.int _) (.cons (.int _) .nil))), sh_text _ _, sh_text _ _, ?_⟩
                rw [show PyData.eqv (.tuple [.str "text", .int l, .int i]) (.tuple [.str "text", .int l, .int i]) = true from by simp [PyData.eqv, PyData.eqvAll]]
                walk_at "n"
                refine ⟨_, _, .inl (.inl e7), rfl, ?_⟩
                walk_at "n"
                refine ⟨line_of (by simp), fun u hu => ?_⟩
                have su := snew (o := .lst [.str rr, .str z]) hu
                refine ⟨c, ba7.same su, by decide, by decide, fun k H9 s9 b9' k0 k1' => ?_⟩
                have g9 : H9 u = some (.lst [.str rr, .str z]) := s9.at2 upd_same ((ba7.same su).ne upd_same)
                have t9' : LamX.Tabs (TT K) H9 := ((ba7.same su).sbx s9).t (t7.ext fun b o e => su b o e)
                obtain ⟨zz, ez, hz⟩ := pick2 (x := rr) (y := z) k0 k1'
                walk_at "n"
                refine ⟨_, _, SqL.of g9, ez, ?_⟩
                walk_at "n"
                refine ⟨⟨b9', t9'⟩, zz, ?_, _, _, _, _, _, _, _, _, rfl⟩
                rcases hz with rfl | rfl
                · exact ⟨by omega, r2, by omega⟩
                · exact ⟨by omega, z2, by omega⟩
              | bad s =>
                have os := book_str hB
                intro d1 H1 sd hd1 e1
                refine ⟨d1, rfl, .inr (.inl ⟨_, rfl, e1, fun q1 hq1 => ?_⟩)⟩
                walk_at "n"
                refine ⟨⟨by omega, r2, by omega⟩, fun p7 H7 s7 hp7 e7 => ?_⟩
                rw [hB] at e7
                have e7 : H7 p7 = some (.tup [.str "watch", .str s]) := e7
                have f7 : H7 q1 = some (.tup [.str "watch", .str s]) := s7 _ _ upd_same
                have ba7 := (bd.same (sd.trans (snew hq1))).same s7
                have t7 : LamX.Tabs (TT K) H7 := td.ext fun b o e => s7 _ _ (upd_keep hq1 (sd _ _ e))
                clear s7 sd ed hq1 hp7
                walk_at "n"
                refine ⟨_, _, rfl, ?_⟩
                walk_at "n"
                refine ⟨_, _, .inl (.inl f7), rfl, ?_⟩
                walk_at "n"
                refine ⟨_, _, .inl (.inl e7), rfl, ?_⟩
                walk_at "n"
                refine ⟨_, _, .inl (.inl e7), rfl, ?_⟩
                walk_at "n"
                refine ⟨.tuple [.str "watch", .str s], .tuple [.str "watch", .str s], .tup (.inl (.inl f7)) (.cons (.str _) (.cons (.str _) .nil)), .tup (.inl (.inl e7)) (.cons (.str _) (.cons (.str _) .nil)), sh_watch os, sh_watch os, ?_⟩
                rw [show PyData.eqv (.tuple [.str "watch", .str s]) (.tuple [.str "watch", .str s]) = true from by simp [PyData.eqv, PyData.eqvAll]]
                walk_at "n"
                refine ⟨_, _, .inl (.inl e7), rfl, ?_⟩
                walk_at "n"
                refine ⟨line_of (by simp), fun u hu => ?_⟩
                have su := snew (o := .lst [.str rr, .str z]) hu
                refine ⟨c, ba7.same su, by decide, by decide, fun k H9 s9 b9' k0 k1' => ?_⟩
                have g9 : H9 u = some (.lst [.str rr, .str z]) := s9.at2 upd_same ((ba7.same su).ne upd_same)
                have t9' : LamX.Tabs (TT K) H9 := ((ba7.same su).sbx s9).t (t7.ext fun b o e => su b o e)
                obtain ⟨zz, ez, hz⟩ := pick2 (x := rr) (y := z) k0 k1'
                walk_at "n"
                refine ⟨_, _, SqL.of g9, ez, ?_⟩
                walk_at "n"
                refine ⟨⟨b9', t9'⟩, zz, ?_, _, _, _, _, _, _, _, _, rfl⟩
                rcases hz with rfl | rfl
                · exact ⟨by omega, r2, by omega⟩
                · exact ⟨by omega, z2, by omega⟩
              | ok =>
                intro bk H1 sd ib
                walk_at "n"
                refine ⟨line_of (by simp), fun q1 hq1 => ?_⟩
                walk_at "n"
                refine ⟨⟨by omega, r2, by omega⟩, fun p7 H7 s7 hp7 e7 => ?_⟩
                rw [hB] at e7
                have e7 : H7 p7 = some (.tup [.str "told", .non]) := e7
                have f7 : H7 q1 = some (.tup [.str "told", .ref bk]) := s7 _ _ upd_same
                have i7 : IsIns H7 bk (CB K) := let ⟨dx, fs, e⟩ := ib; ⟨dx, fs, s7 _ _ (upd_keep hq1 e)⟩
                have ba7 := (bd.same (sd.trans (snew hq1))).same s7
                have t7 : LamX.Tabs (TT K) H7 := td.ext fun b o e => s7 _ _ (upd_keep hq1 (sd _ _ e))
                clear s7 sd ed hq1 hp7 ib
                walk_at "n"
                refine ⟨_, _, rfl, ?_⟩
                walk_at "n"
                refine ⟨_, _, .inl (.inl f7), rfl, ?_⟩
                walk_at "n"
                refine ⟨_, _, .inl (.inl e7), rfl, ?_⟩
                walk_at "n"
                refine ⟨_, _, .inl (.inl e7), rfl, ?_⟩
                walk_at "n"
                refine ⟨_, _, .inl (.inl e7), rfl, ?_⟩
                walk_at "n"
                refine ⟨_, _, .inl (.inl f7), rfl, ?_⟩
                walk_at "n"
                refine ⟨rfl, .inl ⟨i7, ?_⟩⟩
                walk_at "n"
                refine ⟨line_of (by simp), fun u hu => ?_⟩
                have su := snew (o := .lst [.str rr, .str z]) hu
                refine ⟨c, ba7.same su, by decide, by decide, fun k H9 s9 b9' k0 k1' => ?_⟩
                have g9 : H9 u = some (.lst [.str rr, .str z]) := s9.at2 upd_same ((ba7.same su).ne upd_same)
                have t9' : LamX.Tabs (TT K) H9 := ((ba7.same su).sbx s9).t (t7.ext fun b o e => su b o e)
                obtain ⟨zz, ez, hz⟩ := pick2 (x := rr) (y := z) k0 k1'
                walk_at "n"
                refine ⟨_, _, SqL.of g9, ez, ?_⟩
                walk_at "n"
                refine ⟨⟨b9', t9'⟩, zz, ?_, _, _, _, _, _, _, _, _, rfl⟩
                rcases hz with rfl | rfl
                · exact ⟨by omega, r2, by omega⟩
                · exact ⟨by omega, z2, by omega⟩
            · rintro σ He ⟨⟨be, te⟩, z, _, w2, w3, w5, w6, w7, w8, w9, w10, rfl⟩
              walk_at "n"
              exact ⟨⟨be, te⟩, _, _, _, _, _, _, _, _, _, rfl⟩
      · rintro σ H3 ⟨⟨b3, t3⟩, v2, v3, v4, v5, v6, v7, v8, v9, v10, rfl⟩
        clear b1 b2 t2 s1 s2 hg
        walk_at "n"
        refine ⟨line_of (by simp), fun p1 hp1 => ?_⟩
        walk_at "n"
        refine ⟨line_of (by simp), fun p2 hp2 => ?_⟩
        walk_at "n"
        intro p3 hp3
        walk_at "n"
        refine ⟨line_of (by simp), fun p4 hp4 => ?_⟩
        walk_at "n"
        have od : OddAt K (upd (upd (upd (upd H3 p1 (.lst [.str "none"])) p2 (.tup [.str "ring"])) p3 (.dK [])) p4 (.lst [.non, .int 0, .bl true, .ref p1, .ref p2, .ref p3])) p4 p1 p2 p3 :=
          ⟨upd_same, upd_keep hp4 (upd_keep hp3 (upd_keep hp2 upd_same)), upd_keep hp4 (upd_keep hp3 upd_same), upd_keep hp4 upd_same⟩
        have t4 : LamX.Tabs (TT K) (upd (upd (upd (upd H3 p1 (.lst [.str "none"])) p2 (.tup [.str "ring"])) p3 (.dK [])) p4 (.lst [.non, .int 0, .bl true, .ref p1, .ref p2, .ref p3])) :=
          t3.ext fun b o e => upd_keep hp4 (upd_keep hp3 (upd_keep hp2 (upd_keep hp1 e)))
        generalize upd (upd (upd (upd H3 p1 (.lst [.str "none"])) p2 (.tup [.str "ring"])) p3 (.dK [])) p4 (.lst [.non, .int 0, .bl true, .ref p1, .ref p2, .ref p3]) = H4 at *
        refine ⟨_, rfl, ⟨_, SqL.of od.l⟩, for_it (walk_list (K := K) (a := p4) (xs := [.non, .int 0, .bl true, .ref p1, .ref p2, .ref p3])) (fun i σ H' => (OddAt K H' p4 p1 p2 p3 ∧ LamX.Tabs (TT K) H') ∧ ∃ v2 v3 v4 v5 v6 v7 v8 v9 v10, σ = [some (.ref a), some (.ref g), v2, v3, v4, v5, v6, v7, v8, v9, v10]) ⟨⟨od, t4⟩, _, _, _, _, _, _, _, _, _, rfl⟩ (fun _ _ _ _ z => SqL.of z.1.1.l) ?_ ?_⟩
        · rintro i x σ Ha Hb hi ⟨⟨oa, ta⟩, v2, v3, v4, v5, v6, v7, v8, v9, v10, rfl⟩ ⟨rfl, hx⟩
          walk_at "n"
          refine ⟨ta, fun Hd ed td => ?_⟩
          walk_at "n"
          refine .inr ⟨(oa.ext ed).not hx, fun d1 H1 sd hd1 e1 => ?_⟩
          refine ⟨d1, rfl, .inl ⟨_, _, rfl, e1, fun q1 hq1 => ?_⟩⟩
          walk_at "n"
          refine ⟨line_of (by simp), fun q2 hq2 => ?_⟩
          walk_at "n"
          refine ⟨.tuple [.str "text", .int 0, .int 0], .tuple [.str "text", .int 0, .int 0], .tup (.inl (.inl (upd_keep hq2 upd_same))) (.cons (.str _) (.cons (.int _) (.cons (.int _) .nil))), .tup (.inl (.inl upd_same)) (.cons (.str _) (.cons (.int _) (.cons (.int _) .nil))), sh_text _ _, sh_text _ _, ?_⟩
          rw [eqv_t00]
          walk_at "n"
          exact ⟨⟨(((oa.ext ed).same sd).same (snew hq1)).same (snew hq2), td.ext fun b o e => upd_keep hq2 (upd_keep hq1 (sd _ _ e))⟩, _, _, _, _, _, _, _, _, _, rfl⟩
        · rintro σ H5 ⟨⟨oa, ta⟩, v2, v3, v4, v5, v6, v7, v8, v9, v10, rfl⟩
          walk_at "n"
          refine ⟨ta, fun Hd ed td => ?_⟩
          walk_at "n"
          refine .inl ⟨_, rfl, by decide, by decide +kernel, ?_⟩
          rw [empty_out]
          intro d1 H1 sd hd1 e1
          refine ⟨d1, rfl, .inl ⟨_, _, rfl, e1, fun q1 hq1 => ?_⟩⟩
          walk_at "n"
          refine ⟨line_of (by simp), fun q2 hq2 => ?_⟩
          walk_at "n"
          refine ⟨.tuple [.str "text", .int 0, .int 0], .tuple [.str "text", .int 0, .int 0], .tup (.inl (.inl (upd_keep hq2 upd_same))) (.cons (.str _) (.cons (.int _) (.cons (.int _) .nil))), .tup (.inl (.inl upd_same)) (.cons (.str _) (.cons (.int _) (.cons (.int _) .nil))), sh_text _ _, sh_text _ _, ?_⟩
          rw [eqv_t00]
          exact h _
theorem ok_law {w : World} {K : PySem.W.Frag} {mg : Str → Option Value} {base : Heap} (TB : Ty K mg base) : F.Fr P w K mg base 16 (He.ga K "law") (sp_law K) := (TB.toTx.f_law).elim fun fd F1 => fr_of F1 (okF_law TB F1) (fun _ _ _ _ _ _ us hl => match us, hl with | [_], _ => rfl)
end G
set_option maxHeartbeats 0
namespace G
open PySem PySem.Spec PyProof.Rows L2 F

theorem tx {K : PySem.W.Frag} {h0 : Heap} {mg : Str → Option Value} (X0 : K.In h0) (G0 : h0.Ns mainGlobals mg) (c : SaysT checks fns initl tabl h0 K) : Tx K mg where
  x_BadText := have h : ((He.Fa.free "super").ok K && (gloB K "BadText" (He.ga K "BadText") && xB K R.prog.main.file "BadText" (He.ga K "BadText") (He.ma K (He.ga K "BadText") "__init__") ["word", "item"] "BadText.__init__")) = true := c.x.fact 0; P_eq ▸ xc_ok X0 G0 (He.ba h).1 (He.ba (He.ba h).2).2 (gloB_ok X0 G0 (He.ba (He.ba h).2).1) (c.init 0) syn_BadText
  xf_BadText := have h : (xfB K (He.ga K "BadText")) = true := c.x.fact 1; xfB_ok h
  xi_BadText := have h : (xiB K (He.ga K "BadText")) = true := c.x.fact 2; xiB_ok h
  xm_BadText_RungError := have h : (oB (PySem.W.exmOne K (.ref (He.ga K "BadText")) (.ref (He.ga K "RungError"))) true) = true := c.x.fact 3; of_decide_eq_true h
  xk_BadText_BadText := have h : (oB (PySem.W.kitOne K (.ref (He.ga K "BadText")) (.ref (He.ga K "BadText"))) true) = true := c.x.fact 4; of_decide_eq_true h
  xk_BadText_BadWatch := have h : (oB (PySem.W.kitOne K (.ref (He.ga K "BadText")) (.ref (He.ga K "BadWatch"))) false) = true := c.x.fact 5; of_decide_eq_true h
  xk_BadText_TooMany := have h : (oB (PySem.W.kitOne K (.ref (He.ga K "BadText")) (.ref (He.ga K "TooMany"))) false) = true := c.x.fact 6; of_decide_eq_true h
  x_BadWatch := have h : ((He.Fa.free "super").ok K && (gloB K "BadWatch" (He.ga K "BadWatch") && xB K R.prog.main.file "BadWatch" (He.ga K "BadWatch") (He.ma K (He.ga K "BadWatch") "__init__") ["part"] "BadWatch.__init__")) = true := c.x.fact 7; P_eq ▸ xc_ok X0 G0 (He.ba h).1 (He.ba (He.ba h).2).2 (gloB_ok X0 G0 (He.ba (He.ba h).2).1) (c.init 1) syn_BadWatch
  xf_BadWatch := have h : (xfB K (He.ga K "BadWatch")) = true := c.x.fact 8; xfB_ok h
  xi_BadWatch := have h : (xiB K (He.ga K "BadWatch")) = true := c.x.fact 9; xiB_ok h
  xm_BadWatch_RungError := have h : (oB (PySem.W.exmOne K (.ref (He.ga K "BadWatch")) (.ref (He.ga K "RungError"))) true) = true := c.x.fact 10; of_decide_eq_true h
  xk_BadWatch_BadText := have h : (oB (PySem.W.kitOne K (.ref (He.ga K "BadWatch")) (.ref (He.ga K "BadText"))) false) = true := c.x.fact 11; of_decide_eq_true h
  xk_BadWatch_BadWatch := have h : (oB (PySem.W.kitOne K (.ref (He.ga K "BadWatch")) (.ref (He.ga K "BadWatch"))) true) = true := c.x.fact 12; of_decide_eq_true h
  xk_BadWatch_TooMany := have h : (oB (PySem.W.kitOne K (.ref (He.ga K "BadWatch")) (.ref (He.ga K "TooMany"))) false) = true := c.x.fact 13; of_decide_eq_true h
  x_TooMany := have h : ((He.Fa.free "super").ok K && (gloB K "TooMany" (He.ga K "TooMany") && xB K R.prog.main.file "TooMany" (He.ga K "TooMany") (He.ma K (He.ga K "TooMany") "__init__") ["what", "most"] "TooMany.__init__")) = true := c.x.fact 14; P_eq ▸ xc_ok X0 G0 (He.ba h).1 (He.ba (He.ba h).2).2 (gloB_ok X0 G0 (He.ba (He.ba h).2).1) (c.init 2) syn_TooMany
  xf_TooMany := have h : (xfB K (He.ga K "TooMany")) = true := c.x.fact 15; xfB_ok h
  xi_TooMany := have h : (xiB K (He.ga K "TooMany")) = true := c.x.fact 16; xiB_ok h
  xm_TooMany_RungError := have h : (oB (PySem.W.exmOne K (.ref (He.ga K "TooMany")) (.ref (He.ga K "RungError"))) true) = true := c.x.fact 17; of_decide_eq_true h
  xk_TooMany_BadText := have h : (oB (PySem.W.kitOne K (.ref (He.ga K "TooMany")) (.ref (He.ga K "BadText"))) false) = true := c.x.fact 18; of_decide_eq_true h
  xk_TooMany_BadWatch := have h : (oB (PySem.W.kitOne K (.ref (He.ga K "TooMany")) (.ref (He.ga K "BadWatch"))) false) = true := c.x.fact 19; of_decide_eq_true h
  xk_TooMany_TooMany := have h : (oB (PySem.W.kitOne K (.ref (He.ga K "TooMany")) (.ref (He.ga K "TooMany"))) true) = true := c.x.fact 20; of_decide_eq_true h
  g__wall := have h : (gloB K "_wall" (He.ga K "_wall")) = true := c.x.fact 21; gloB_ok X0 G0 h
  g_RungError := have h : (gloB K "RungError" (He.ga K "RungError")) = true := c.x.fact 22; gloB_ok X0 G0 h
  g_BadMoment := have h : (gloB K "BadMoment" (He.ga K "BadMoment")) = true := c.x.fact 23; gloB_ok X0 G0 h
  g_BadText := have h : (gloB K "BadText" (He.ga K "BadText")) = true := c.x.fact 24; gloB_ok X0 G0 h
  g_BadWatch := have h : (gloB K "BadWatch" (He.ga K "BadWatch")) = true := c.x.fact 25; gloB_ok X0 G0 h
  g_TooMany := have h : (gloB K "TooMany" (He.ga K "TooMany")) = true := c.x.fact 26; gloB_ok X0 G0 h
  g_NoEntry := have h : (gloB K "NoEntry" (He.ga K "NoEntry")) = true := c.x.fact 27; gloB_ok X0 G0 h
  g_is_whole := have h : (gloB K "is_whole" (He.ga K "is_whole")) = true := c.x.fact 28; gloB_ok X0 G0 h
  g_is_between := have h : (gloB K "is_between" (He.ga K "is_between")) = true := c.x.fact 29; gloB_ok X0 G0 h
  g_is_leap := have h : (gloB K "is_leap" (He.ga K "is_leap")) = true := c.x.fact 30; gloB_ok X0 G0 h
  g_month_length := have h : (gloB K "month_length" (He.ga K "month_length")) = true := c.x.fact 31; gloB_ok X0 G0 h
  g_days_ahead := have h : (gloB K "days_ahead" (He.ga K "days_ahead")) = true := c.x.fact 32; gloB_ok X0 G0 h
  g_day_number := have h : (gloB K "day_number" (He.ga K "day_number")) = true := c.x.fact 33; gloB_ok X0 G0 h
  g_date_of := have h : (gloB K "date_of" (He.ga K "date_of")) = true := c.x.fact 34; gloB_ok X0 G0 h
  g_weekday_of := have h : (gloB K "weekday_of" (He.ga K "weekday_of")) = true := c.x.fact 35; gloB_ok X0 G0 h
  g_wrong_part := have h : (gloB K "wrong_part" (He.ga K "wrong_part")) = true := c.x.fact 36; gloB_ok X0 G0 h
  g_number_in := have h : (gloB K "number_in" (He.ga K "number_in")) = true := c.x.fact 37; gloB_ok X0 G0 h
  g_date_in := have h : (gloB K "date_in" (He.ga K "date_in")) = true := c.x.fact 38; gloB_ok X0 G0 h
  g_time_in := have h : (gloB K "time_in" (He.ga K "time_in")) = true := c.x.fact 39; gloB_ok X0 G0 h
  g_moment_at := have h : (gloB K "moment_at" (He.ga K "moment_at")) = true := c.x.fact 40; gloB_ok X0 G0 h
  g_Moment := have h : (gloB K "Moment" (He.ga K "Moment")) = true := c.x.fact 41; gloB_ok X0 G0 h
  g_need_watch := have h : (gloB K "need_watch" (He.ga K "need_watch")) = true := c.x.fact 42; gloB_ok X0 G0 h
  g_span_code := have h : (gloB K "span_code" (He.ga K "span_code")) = true := c.x.fact 43; gloB_ok X0 G0 h
  g_with_ring := have h : (gloB K "with_ring" (He.ga K "with_ring")) = true := c.x.fact 44; gloB_ok X0 G0 h
  g_rings_in := have h : (gloB K "rings_in" (He.ga K "rings_in")) = true := c.x.fact 45; gloB_ok X0 G0 h
  g_spans_in := have h : (gloB K "spans_in" (He.ga K "spans_in")) = true := c.x.fact 46; gloB_ok X0 G0 h
  g_Book := have h : (gloB K "Book" (He.ga K "Book")) = true := c.x.fact 47; gloB_ok X0 G0 h
  g_moment_in := have h : (gloB K "moment_in" (He.ga K "moment_in")) = true := c.x.fact 48; gloB_ok X0 G0 h
  g_moment_of := have h : (gloB K "moment_of" (He.ga K "moment_of")) = true := c.x.fact 49; gloB_ok X0 G0 h
  g_need_end := have h : (gloB K "need_end" (He.ga K "need_end")) = true := c.x.fact 50; gloB_ok X0 G0 h
  g_read_entry := have h : (gloB K "read_entry" (He.ga K "read_entry")) = true := c.x.fact 51; gloB_ok X0 G0 h
  g_lines_in := have h : (gloB K "lines_in" (He.ga K "lines_in")) = true := c.x.fact 52; gloB_ok X0 G0 h
  g_read_book := have h : (gloB K "read_book" (He.ga K "read_book")) = true := c.x.fact 53; gloB_ok X0 G0 h
  g__law_bag := have h : (gloB K "_law_bag" (He.ga K "_law_bag")) = true := c.x.fact 54; gloB_ok X0 G0 h
  g__law_draw := have h : (gloB K "_law_draw" (He.ga K "_law_draw")) = true := c.x.fact 55; gloB_ok X0 G0 h
  g__law_length := have h : (gloB K "_law_length" (He.ga K "_law_length")) = true := c.x.fact 56; gloB_ok X0 G0 h
  g__law_date := have h : (gloB K "_law_date" (He.ga K "_law_date")) = true := c.x.fact 57; gloB_ok X0 G0 h
  g__law_number := have h : (gloB K "_law_number" (He.ga K "_law_number")) = true := c.x.fact 58; gloB_ok X0 G0 h
  g__law_heard := have h : (gloB K "_law_heard" (He.ga K "_law_heard")) = true := c.x.fact 59; gloB_ok X0 G0 h
  g__law_digits := have h : (gloB K "_law_digits" (He.ga K "_law_digits")) = true := c.x.fact 60; gloB_ok X0 G0 h
  g__law_date_in := have h : (gloB K "_law_date_in" (He.ga K "_law_date_in")) = true := c.x.fact 61; gloB_ok X0 G0 h
  g__law_time_in := have h : (gloB K "_law_time_in" (He.ga K "_law_time_in")) = true := c.x.fact 62; gloB_ok X0 G0 h
  g__law_line_due := have h : (gloB K "_law_line_due" (He.ga K "_law_line_due")) = true := c.x.fact 63; gloB_ok X0 G0 h
  g__law_due := have h : (gloB K "_law_due" (He.ga K "_law_due")) = true := c.x.fact 64; gloB_ok X0 G0 h
  g__law_spoilt := have h : (gloB K "_law_spoilt" (He.ga K "_law_spoilt")) = true := c.x.fact 65; gloB_ok X0 G0 h
  g__law_many_right := have h : (gloB K "_law_many_right" (He.ga K "_law_many_right")) = true := c.x.fact 66; gloB_ok X0 G0 h
  g_law := have h : (gloB K "law" (He.ga K "law")) = true := c.x.fact 67; gloB_ok X0 G0 h
  b_NotImplemented := have h : ((He.Fa.free "NotImplemented").ok K) = true := c.x.fact 68; He.free_ok X0 G0 h
  b_ValueError := have h : ((He.Fa.free "ValueError").ok K) = true := c.x.fact 69; He.free_ok X0 G0 h
  b_abs := have h : ((He.Fa.free "abs").ok K) = true := c.x.fact 70; He.free_ok X0 G0 h
  b_all := have h : ((He.Fa.free "all").ok K) = true := c.x.fact 71; He.free_ok X0 G0 h
  b_bool := have h : ((He.Fa.free "bool").ok K) = true := c.x.fact 72; He.free_ok X0 G0 h
  b_classmethod := have h : ((He.Fa.free "classmethod").ok K) = true := c.x.fact 73; He.free_ok X0 G0 h
  b_enumerate := have h : ((He.Fa.free "enumerate").ok K) = true := c.x.fact 74; He.free_ok X0 G0 h
  b_int := have h : ((He.Fa.free "int").ok K) = true := c.x.fact 75; He.free_ok X0 G0 h
  b_isinstance := have h : ((He.Fa.free "isinstance").ok K) = true := c.x.fact 76; He.free_ok X0 G0 h
  b_len := have h : ((He.Fa.free "len").ok K) = true := c.x.fact 77; He.free_ok X0 G0 h
  b_list := have h : ((He.Fa.free "list").ok K) = true := c.x.fact 78; He.free_ok X0 G0 h
  b_property := have h : ((He.Fa.free "property").ok K) = true := c.x.fact 79; He.free_ok X0 G0 h
  b_range := have h : ((He.Fa.free "range").ok K) = true := c.x.fact 80; He.free_ok X0 G0 h
  b_sorted := have h : ((He.Fa.free "sorted").ok K) = true := c.x.fact 81; He.free_ok X0 G0 h
  b_staticmethod := have h : ((He.Fa.free "staticmethod").ok K) = true := c.x.fact 82; He.free_ok X0 G0 h
  b_str := have h : ((He.Fa.free "str").ok K) = true := c.x.fact 83; He.free_ok X0 G0 h
  b_sum := have h : ((He.Fa.free "sum").ok K) = true := c.x.fact 84; He.free_ok X0 G0 h
  b_super := have h : ((He.Fa.free "super").ok K) = true := c.x.fact 85; He.free_ok X0 G0 h
  b_tuple := have h : ((He.Fa.free "tuple").ok K) = true := c.x.fact 86; He.free_ok X0 G0 h
  v_ROUND_YEARS := have h : ((He.Fa.int "ROUND_YEARS" 400).ok K) = true := c.x.fact 87; (He.int_ok X0 G0 h).elim fun t e => ⟨_, e, t, rfl⟩
  v_ROUND_DAYS := have h : ((He.Fa.int "ROUND_DAYS" 146097).ok K) = true := c.x.fact 88; (He.int_ok X0 G0 h).elim fun t e => ⟨_, e, t, rfl⟩
  v_DAY_MINUTES := have h : ((He.Fa.int "DAY_MINUTES" 1440).ok K) = true := c.x.fact 89; (He.int_ok X0 G0 h).elim fun t e => ⟨_, e, t, rfl⟩
  v_LENGTHS := have h : (gloB K "LENGTHS" (He.ga K "LENGTHS")) = true := c.x.fact 90; ⟨_, gloB_ok X0 G0 h, rfl⟩
  t_LENGTHS := have h : (He.tupB K "LENGTHS" [(.int 31), (.int 28), (.int 31), (.int 30), (.int 31), (.int 30), (.int 31), (.int 31), (.int 30), (.int 31), (.int 30), (.int 31)]) = true := c.x.fact 91; fun H => He.tupB_ok h H
  v_DIGITS := have h : ((He.Fa.str "DIGITS" "0123456789").ok K) = true := c.x.fact 92; (He.str_ok X0 G0 h).elim fun t e => ⟨_, e, t, rfl⟩
  v_Moment := have h : (gloB K "Moment" (He.ga K "Moment")) = true := c.x.fact 93; ⟨_, gloB_ok X0 G0 h, rfl⟩
  c_Moment := have h : (clsB K (He.ga K "Moment")) = true := c.x.fact 94; clsB_ok h
  n_Moment_year := have h : (noatB K (He.ga K "Moment") "year") = true := c.x.fact 95; noatB_ok h
  n_Moment_month := have h : (noatB K (He.ga K "Moment") "month") = true := c.x.fact 96; noatB_ok h
  n_Moment_day := have h : (noatB K (He.ga K "Moment") "day") = true := c.x.fact 97; noatB_ok h
  n_Moment_hour := have h : (noatB K (He.ga K "Moment") "hour") = true := c.x.fact 98; noatB_ok h
  n_Moment_minute := have h : (noatB K (He.ga K "Moment") "minute") = true := c.x.fact 99; noatB_ok h
  n_Moment_date := have h : (noatB K (He.ga K "Moment") "date") = true := c.x.fact 100; noatB_ok h
  n_Moment_weekday := have h : (noatB K (He.ga K "Moment") "weekday") = true := c.x.fact 101; noatB_ok h
  n_Moment_number := have h : (noatB K (He.ga K "Moment") "number") = true := c.x.fact 102; noatB_ok h
  is_Moment := have h : (isCB K (He.ga K "Moment") && clsB K (He.ga K "Moment")) = true := c.x.fact 103; isCB_ok h
  r_Moment := have h : (creadB K (He.ga K "Moment")) = true := c.x.fact 104; creadB_ok h
  sf_Moment := have h : (PySem.W.selfFirst K (He.ga K "Moment")) = true := c.x.fact 105; h
  cv_Moment_MOST_YEAR := have h : (cvalB K (He.ga K "Moment") "MOST_YEAR" (.int 999999)) = true := c.x.fact 106; cvalB_ok h
  mk_Moment := have h : (mkrB K (He.ga K "Moment") (He.ma K (He.ga K "Moment") "__init__")) = true := c.x.fact 107; mkrB_ok h
  m_Moment___init__ := have h : (methB K (He.ga K "Moment") "__init__" (He.ma K (He.ga K "Moment") "__init__")) = true := c.x.fact 108; methB_ok h
  o_Moment___init__ := have h : (methB K (He.ga K "Moment") "__init__" (He.ma K (He.ga K "Moment") "__init__")) = true := c.x.fact 109; ⟨(methB_ok h).at_, (methB_ok h).fn⟩
  m_Moment___add__ := have h : (methB K (He.ga K "Moment") "__add__" (He.ma K (He.ga K "Moment") "__add__")) = true := c.x.fact 110; methB_ok h
  o_Moment___add__ := have h : (methB K (He.ga K "Moment") "__add__" (He.ma K (He.ga K "Moment") "__add__")) = true := c.x.fact 111; ⟨(methB_ok h).at_, (methB_ok h).fn⟩
  m_Moment___radd__ := have h : (methB K (He.ga K "Moment") "__radd__" (He.ma K (He.ga K "Moment") "__radd__")) = true := c.x.fact 112; methB_ok h
  o_Moment___radd__ := have h : (methB K (He.ga K "Moment") "__radd__" (He.ma K (He.ga K "Moment") "__radd__")) = true := c.x.fact 113; ⟨(methB_ok h).at_, (methB_ok h).fn⟩
  m_Moment___sub__ := have h : (methB K (He.ga K "Moment") "__sub__" (He.ma K (He.ga K "Moment") "__sub__")) = true := c.x.fact 114; methB_ok h
  o_Moment___sub__ := have h : (methB K (He.ga K "Moment") "__sub__" (He.ma K (He.ga K "Moment") "__sub__")) = true := c.x.fact 115; ⟨(methB_ok h).at_, (methB_ok h).fn⟩
  m_Moment___floordiv__ := have h : (methB K (He.ga K "Moment") "__floordiv__" (He.ma K (He.ga K "Moment") "__floordiv__")) = true := c.x.fact 116; methB_ok h
  o_Moment___floordiv__ := have h : (methB K (He.ga K "Moment") "__floordiv__" (He.ma K (He.ga K "Moment") "__floordiv__")) = true := c.x.fact 117; ⟨(methB_ok h).at_, (methB_ok h).fn⟩
  m_Moment___mod__ := have h : (methB K (He.ga K "Moment") "__mod__" (He.ma K (He.ga K "Moment") "__mod__")) = true := c.x.fact 118; methB_ok h
  o_Moment___mod__ := have h : (methB K (He.ga K "Moment") "__mod__" (He.ma K (He.ga K "Moment") "__mod__")) = true := c.x.fact 119; ⟨(methB_ok h).at_, (methB_ok h).fn⟩
  m_Moment___lt__ := have h : (methB K (He.ga K "Moment") "__lt__" (He.ma K (He.ga K "Moment") "__lt__")) = true := c.x.fact 120; methB_ok h
  o_Moment___lt__ := have h : (methB K (He.ga K "Moment") "__lt__" (He.ma K (He.ga K "Moment") "__lt__")) = true := c.x.fact 121; ⟨(methB_ok h).at_, (methB_ok h).fn⟩
  m_Moment___le__ := have h : (methB K (He.ga K "Moment") "__le__" (He.ma K (He.ga K "Moment") "__le__")) = true := c.x.fact 122; methB_ok h
  o_Moment___le__ := have h : (methB K (He.ga K "Moment") "__le__" (He.ma K (He.ga K "Moment") "__le__")) = true := c.x.fact 123; ⟨(methB_ok h).at_, (methB_ok h).fn⟩
  m_Moment___gt__ := have h : (methB K (He.ga K "Moment") "__gt__" (He.ma K (He.ga K "Moment") "__gt__")) = true := c.x.fact 124; methB_ok h
  o_Moment___gt__ := have h : (methB K (He.ga K "Moment") "__gt__" (He.ma K (He.ga K "Moment") "__gt__")) = true := c.x.fact 125; ⟨(methB_ok h).at_, (methB_ok h).fn⟩
  m_Moment___ge__ := have h : (methB K (He.ga K "Moment") "__ge__" (He.ma K (He.ga K "Moment") "__ge__")) = true := c.x.fact 126; methB_ok h
  o_Moment___ge__ := have h : (methB K (He.ga K "Moment") "__ge__" (He.ma K (He.ga K "Moment") "__ge__")) = true := c.x.fact 127; ⟨(methB_ok h).at_, (methB_ok h).fn⟩
  m_Moment___eq__ := have h : (methB K (He.ga K "Moment") "__eq__" (He.ma K (He.ga K "Moment") "__eq__")) = true := c.x.fact 128; methB_ok h
  o_Moment___eq__ := have h : (methB K (He.ga K "Moment") "__eq__" (He.ma K (He.ga K "Moment") "__eq__")) = true := c.x.fact 129; ⟨(methB_ok h).at_, (methB_ok h).fn⟩
  m_Moment___str__ := have h : (methB K (He.ga K "Moment") "__str__" (He.ma K (He.ga K "Moment") "__str__")) = true := c.x.fact 130; methB_ok h
  o_Moment___str__ := have h : (methB K (He.ga K "Moment") "__str__" (He.ma K (He.ga K "Moment") "__str__")) = true := c.x.fact 131; ⟨(methB_ok h).at_, (methB_ok h).fn⟩
  ne_Moment := have h : (neB K (He.ga K "Moment")) = true := c.x.fact 132; neB_ok h
  fm_Moment := have h : (fmB K (He.ga K "Moment")) = true := c.x.fact 133; fmB_ok h
  v_Book := have h : (gloB K "Book" (He.ga K "Book")) = true := c.x.fact 134; ⟨_, gloB_ok X0 G0 h, rfl⟩
  c_Book := have h : (clsB K (He.ga K "Book")) = true := c.x.fact 135; clsB_ok h
  n_Book_rung := have h : (noatB K (He.ga K "Book") "rung") = true := c.x.fact 136; noatB_ok h
  n_Book_spans := have h : (noatB K (He.ga K "Book") "spans") = true := c.x.fact 137; noatB_ok h
  is_Book := have h : (isCB K (He.ga K "Book") && clsB K (He.ga K "Book")) = true := c.x.fact 138; isCB_ok h
  r_Book := have h : (creadB K (He.ga K "Book")) = true := c.x.fact 139; creadB_ok h
  sf_Book := have h : (PySem.W.selfFirst K (He.ga K "Book")) = true := c.x.fact 140; h
  cv_Book_MOST_RINGS := have h : (cvalB K (He.ga K "Book") "MOST_RINGS" (.int 2000)) = true := c.x.fact 141; cvalB_ok h
  cv_Book_MOST_WATCHES := have h : (cvalB K (He.ga K "Book") "MOST_WATCHES" (.int 12)) = true := c.x.fact 142; cvalB_ok h
  cv_Book_LONGEST := have h : (cvalB K (He.ga K "Book") "LONGEST" (.int 1152000)) = true := c.x.fact 143; cvalB_ok h
  mk_Book := have h : (mkrB K (He.ga K "Book") (He.ma K (He.ga K "Book") "__init__")) = true := c.x.fact 144; mkrB_ok h
  m_Book___init__ := have h : (methB K (He.ga K "Book") "__init__" (He.ma K (He.ga K "Book") "__init__")) = true := c.x.fact 145; methB_ok h
  o_Book___init__ := have h : (methB K (He.ga K "Book") "__init__" (He.ma K (He.ga K "Book") "__init__")) = true := c.x.fact 146; ⟨(methB_ok h).at_, (methB_ok h).fn⟩
  p_Book_rings := have h : (propB K (He.ga K "Book") "rings" (He.ma K (He.ga K "Book") "rings")) = true := c.x.fact 147; propB_ok h
  p_Book_watches := have h : (propB K (He.ga K "Book") "watches" (He.ma K (He.ga K "Book") "watches")) = true := c.x.fact 148; propB_ok h
  m_Book___iadd__ := have h : (methB K (He.ga K "Book") "__iadd__" (He.ma K (He.ga K "Book") "__iadd__")) = true := c.x.fact 149; methB_ok h
  o_Book___iadd__ := have h : (methB K (He.ga K "Book") "__iadd__" (He.ma K (He.ga K "Book") "__iadd__")) = true := c.x.fact 150; ⟨(methB_ok h).at_, (methB_ok h).fn⟩
  m_Book___isub__ := have h : (methB K (He.ga K "Book") "__isub__" (He.ma K (He.ga K "Book") "__isub__")) = true := c.x.fact 151; methB_ok h
  o_Book___isub__ := have h : (methB K (He.ga K "Book") "__isub__" (He.ma K (He.ga K "Book") "__isub__")) = true := c.x.fact 152; ⟨(methB_ok h).at_, (methB_ok h).fn⟩
  m_Book___contains__ := have h : (methB K (He.ga K "Book") "__contains__" (He.ma K (He.ga K "Book") "__contains__")) = true := c.x.fact 153; methB_ok h
  o_Book___contains__ := have h : (methB K (He.ga K "Book") "__contains__" (He.ma K (He.ga K "Book") "__contains__")) = true := c.x.fact 154; ⟨(methB_ok h).at_, (methB_ok h).fn⟩
  m_Book_watch := have h : (methB K (He.ga K "Book") "watch" (He.ma K (He.ga K "Book") "watch")) = true := c.x.fact 155; methB_ok h
  m_Book___or__ := have h : (methB K (He.ga K "Book") "__or__" (He.ma K (He.ga K "Book") "__or__")) = true := c.x.fact 156; methB_ok h
  o_Book___or__ := have h : (methB K (He.ga K "Book") "__or__" (He.ma K (He.ga K "Book") "__or__")) = true := c.x.fact 157; ⟨(methB_ok h).at_, (methB_ok h).fn⟩
  m_Book___eq__ := have h : (methB K (He.ga K "Book") "__eq__" (He.ma K (He.ga K "Book") "__eq__")) = true := c.x.fact 158; methB_ok h
  o_Book___eq__ := have h : (methB K (He.ga K "Book") "__eq__" (He.ma K (He.ga K "Book") "__eq__")) = true := c.x.fact 159; ⟨(methB_ok h).at_, (methB_ok h).fn⟩
  ne_Book := have h : (neB K (He.ga K "Book")) = true := c.x.fact 160; neB_ok h
  d_Book___init___0 := have h : (tup0B K (dfl0 (fun K => He.ma K (He.ga K "Book") "__init__") 0 K)) = true := c.x.fact 161; fun H => tup0B_ok h H
  d_Book___init___1 := have h : (tup0B K (dfl0 (fun K => He.ma K (He.ga K "Book") "__init__") 1 K)) = true := c.x.fact 162; fun H => tup0B_ok h H
  lim := have h : (noLimB K) = true := c.x.fact 163; noLimB_ok h
  mka := have h : (([(He.ga K "_law_many_right"), (He.ga K "law")] : List Addr).all fun f => makB K f) = true := c.x.fact 164; List.all_eq_true.mp h
  mkd := have h : (decide ((([(He.ga K "_law_many_right"), (He.ga K "law")] : List Addr).map fun f => tAt K f).Nodup)) = true := c.x.fact 165; of_decide_eq_true h
  f_is_whole := c.x.def_ 0 (d := dd_is_whole)
  f_is_between := c.x.def_ 1 (d := dd_is_between)
  f_is_leap := c.x.def_ 2 (d := dd_is_leap)
  f_month_length := c.x.def_ 3 (d := dd_month_length)
  f_days_ahead := c.x.def_ 4 (d := dd_days_ahead)
  f_day_number := c.x.def_ 5 (d := dd_day_number)
  f_date_of := c.x.def_ 6 (d := dd_date_of)
  f_weekday_of := c.x.def_ 7 (d := dd_weekday_of)
  f_wrong_part := c.x.def_ 8 (d := dd_wrong_part)
  f_number_in := c.x.def_ 9 (d := dd_number_in)
  f_date_in := c.x.def_ 10 (d := dd_date_in)
  f_time_in := c.x.def_ 11 (d := dd_time_in)
  f_moment_at := c.x.def_ 12 (d := dd_moment_at)
  f_Moment___init__ := c.x.def_ 13 (d := dd_Moment___init__)
  f_Moment_at := c.x.def_ 14 (d := dd_Moment_at)
  f_Moment_read := c.x.def_ 15 (d := dd_Moment_read)
  f_Moment___add__ := c.x.def_ 16 (d := dd_Moment___add__)
  f_Moment___radd__ := c.x.def_ 17 (d := dd_Moment___radd__)
  f_Moment___sub__ := c.x.def_ 18 (d := dd_Moment___sub__)
  f_Moment___floordiv__ := c.x.def_ 19 (d := dd_Moment___floordiv__)
  f_Moment___mod__ := c.x.def_ 20 (d := dd_Moment___mod__)
  f_Moment___lt__ := c.x.def_ 21 (d := dd_Moment___lt__)
  f_Moment___le__ := c.x.def_ 22 (d := dd_Moment___le__)
  f_Moment___gt__ := c.x.def_ 23 (d := dd_Moment___gt__)
  f_Moment___ge__ := c.x.def_ 24 (d := dd_Moment___ge__)
  f_Moment___eq__ := c.x.def_ 25 (d := dd_Moment___eq__)
  f_Moment___str__ := c.x.def_ 26 (d := dd_Moment___str__)
  f_need_watch := c.x.def_ 27 (d := dd_need_watch)
  f_span_code := c.x.def_ 28 (d := dd_span_code)
  f_with_ring := c.x.def_ 29 (d := dd_with_ring)
  f_rings_in := c.x.def_ 30 (d := dd_rings_in)
  f_spans_in := c.x.def_ 31 (d := dd_spans_in)
  f_Book___init__ := c.x.def_ 32 (d := dd_Book___init__)
  f_Book_rings := c.x.def_ 33 (d := dd_Book_rings)
  f_Book_watches := c.x.def_ 34 (d := dd_Book_watches)
  f_Book___iadd__ := c.x.def_ 35 (d := dd_Book___iadd__)
  f_Book___isub__ := c.x.def_ 36 (d := dd_Book___isub__)
  f_Book___contains__ := c.x.def_ 37 (d := dd_Book___contains__)
  f_Book_watch := c.x.def_ 38 (d := dd_Book_watch)
  f_Book___or__ := c.x.def_ 39 (d := dd_Book___or__)
  f_Book___eq__ := c.x.def_ 40 (d := dd_Book___eq__)
  f_moment_in := c.x.def_ 41 (d := dd_moment_in)
  f_moment_of := c.x.def_ 42 (d := dd_moment_of)
  f_need_end := c.x.def_ 43 (d := dd_need_end)
  f_read_entry := c.x.def_ 44 (d := dd_read_entry)
  f_lines_in := c.x.def_ 45 (d := dd_lines_in)
  f_read_book := c.x.def_ 46 (d := dd_read_book)
  f__law_bag := c.x.def_ 47 (d := dd__law_bag)
  f__law_draw := c.x.def_ 48 (d := dd__law_draw)
  f__law_length := c.x.def_ 49 (d := dd__law_length)
  f__law_date := c.x.def_ 50 (d := dd__law_date)
  f__law_number := c.x.def_ 51 (d := dd__law_number)
  f__law_heard := c.x.def_ 52 (d := dd__law_heard)
  f__law_digits := c.x.def_ 53 (d := dd__law_digits)
  f__law_date_in := c.x.def_ 54 (d := dd__law_date_in)
  f__law_time_in := c.x.def_ 55 (d := dd__law_time_in)
  f__law_line_due := c.x.def_ 56 (d := dd__law_line_due)
  f__law_due := c.x.def_ 57 (d := dd__law_due)
  f__law_spoilt := c.x.def_ 58 (d := dd__law_spoilt)
  f__law_many_right := c.x.def_ 59 (d := dd__law_many_right)
  f_law := c.x.def_ 60 (d := dd_law)
theorem law_at {w : World} {K : PySem.W.Frag} {mg : Str → Option Value} {fa : Addr} {h0 : Heap} (KX : K.In h0) (G0 : h0.Ns mainGlobals mg) (c : SaysT checks fns initl tabl h0 K) (hm : mg "law" = some (.ref fa)) : LamX.LawAtS PySem.Challenge.rw_rungback_k80_texts_of_no_book w K (L2.CX (PySem.W.OpenLaw.prog PySem.Challenge.rw_rungback_k80_texts_of_no_book) w) 16 63 "_law_script" mg fa h0 := by
  have T := tx KX G0 c
  have e := hm.symm.trans T.g_law
  cases e
  obtain ⟨fd, F1⟩ := T.f_law
  have hmk : ∀ f ∈ mkl K, makB K f = true := T.mka
  refine ⟨fd, (mkl K).map fun f => (cAt K f, tAt K f), sp_law K, ?_, ?_, ?_, fun z v => L2.FunD.bindsA (ps := ["_law_script"]) F1 (fun _ _ _ _ _ _ us hl => match us, hl with | [_], _ => rfl) z [v] rfl, fun H a ns hle hbits hH hS => ⟨ns, hS, tabs_nil fun p hp => ?_, fun _ => rfl⟩, fun base hK hns hTB => ?_⟩
  · rintro p hp
    obtain ⟨f, hf, rfl⟩ := List.mem_map.mp hp
    exact c.e f hf
  · rintro p hp
    obtain ⟨f, hf, rfl⟩ := List.mem_map.mp hp
    exact noK_mk (hmk f hf)
  · rintro p hp
    obtain ⟨f, hf, rfl⟩ := List.mem_map.mp hp
    exact codeHd_mk KX (hmk f hf)
  · obtain ⟨a, b⟩ := p
    have hp2 := (List.of_mem_zip hp).1
    obtain ⟨f, hf, e⟩ := List.mem_map.mp hp2
    subst e
    exact hH _ (List.mem_map_of_mem hf)
  · have z := okF_law (w := w) (base := base) (Ty.mk T fun f hf => hTB _ (List.mem_map_of_mem hf)) F1
    rw [P_eq] at z
    exact z
end G
open PySem PySem.W PySem.Calls PyProof.Rows
set_option maxHeartbeats 0 in
theorem PySem.Challenge.cw_rungback_k80_texts_of_no_book_holds : PySem.Challenge.rw_rungback_k80_texts_of_no_book.Holds := by
  w_on; o_law
  refine HandSHeadRun.head_any (r := OpenLaw.row PySem.Challenge.rw_rungback_k80_texts_of_no_book) (q := view (OpenLaw.row PySem.Challenge.rw_rungback_k80_texts_of_no_book).prog [56]) (H := G.hk) (ob := G.ob) (M := 20000) (loose := G.loose) (d := HandSHeadRun.topDef (OpenLaw.row PySem.Challenge.rw_rungback_k80_texts_of_no_book).prog 56) (kwd := []) G.ob_eq
    (by kernel_rfl) (fun z => by kernel_rfl) G.run (by kernel_rfl) (by kernel_rfl) (by kernel_rfl) (by rfl) (by first | assumption | decide +kernel) (by decide +kernel) ⟨rfl, rfl, rfl, rfl, rfl, by decide +kernel⟩ ?hw ?hc
  case hw => w_witness2
  case hc =>
    refine F.walk_endT (l := PySem.Challenge.rw_rungback_k80_texts_of_no_book) (n := 63) (k := 16) (x := "_law_script") rfl (by decide) (by kernel_rfl) ⟨rfl, by decide, by decide⟩ fun w mg fa h0 Yd Gd hm0 => ?_
    obtain ⟨K, KX, c⟩ := Yd
    have hm : mg ("law" : PySem.Str) = some (.ref fa) := by
      have e : (HandSHeadRun.topDef (OpenLaw.row PySem.Challenge.rw_rungback_k80_texts_of_no_book).prog 56).name = ("law" : PySem.Str) := by kernel_rfl
      rw [← e]
      exact hm0
    exact ⟨K, KX, G.law_at KX Gd c hm⟩
