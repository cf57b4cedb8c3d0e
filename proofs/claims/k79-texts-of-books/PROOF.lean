import PyProof.Rows.All
import Wide.All
import OpenK.AllK
import Wide.FinOn
import KE.KStateDown
import HandS.Property
import HandS.ClsMeth
import HandS.Defaults
import HandS.IsInst
import HandS.Head0
import HandS.Head1
import HandS.Head2
import HandS.HeadEnd
import HandS.HeadHook1
import HandS.HeadHook2
import HandS.HeadNt
import HandS.ForMost
import HandS.ForExc
import HandS.FStr
import HandS.Flow
import HandS.Style
import HandS.TupAny
import HandS.SlotsOwn
import KE.KFmtOwn
import KE.KOpsOwn
import KE.KxField
import KE.KWithOwn
import HandS.Star
import HandS.SortInts
import HandS.Deep
import HandS.StrMore
import HandS.Walk
import HandS.OwnEq
import HandS.MakeKwOnly
import PySem.Challenge.RW_rungback_k79_texts_of_books
set_option Elab.async false
set_option linter.all false
set_option maxRecDepth 100000
set_option maxHeartbeats 2000000
/-! H0: a head whose facts are any list of tests. -/
namespace F
open PySem PySem.Spec PyProof.Rows L2
section
variable {chk : PySem.W.Frag → List Bool} {fn : List He5.DefA} {K : PySem.W.Frag}
def obsX (chk : PySem.W.Frag → List Bool) (fn : List He5.DefA) (K : PySem.W.Frag) : He.AlD := ((chk K).all id && fn.all (fun d => d.ok K), fn.map fun d => He5.fnA K (d.at_ K))
def SaysX (chk : PySem.W.Frag → List Bool) (fn : List He5.DefA) (K : PySem.W.Frag) : Prop := obsX chk fn K = He5.valA fn
def obsXG (n : Nat) (chk : PySem.W.Frag → List Bool) (fn : List He5.DefA) (g : Addr → Option Obj) : He.AlD := obsX chk fn (He.frG g (He5.asA g n))
def hookX (n : Nat) (chk : PySem.W.Frag → List Bool) (fn : List He5.DefA) : PySem.W.Hook where
  α := He.AlD
  obs := fun z => obsXG n chk fn z.heap.get?
  val := fun _ => He5.valA fn
  says := fun _ h => ∃ K : PySem.W.Frag, K.In h ∧ SaysX chk fn K
  of := fun _ _ e => ⟨_, He.frG_in, e⟩
  keeps := fun _ _ _ ⟨K, hK, c⟩ k => ⟨K, PySem.W.Frag.In.keeps hK k, c⟩
theorem obsXG_eq {n : Nat} {g : Addr → Option Obj} {z : Shared} (h : ∀ a, g a = z.heap.get? a) : obsXG n chk fn g = (hookX n chk fn).obs z := by
  rw [show g = z.heap.get? from funext h]
  rfl
theorem SaysX.all (c : SaysX chk fn K) : ((chk K).all id && fn.all (fun d => d.ok K)) = true := congrArg (fun z : He.AlD => z.1) c
theorem SaysX.fact (c : SaysX chk fn K) (i : Nat) {b : Bool} (h : (chk K)[i]? = some b := by rfl) : b = true := List.all_eq_true.mp (He.ba c.all).1 b (List.mem_of_getElem? h)
theorem SaysX.def_ (c : SaysX chk fn K) (i : Nat) {d : He5.DefA} (h : fn[i]? = some d := by rfl) : ∃ fd, FunD K d.name d.qual d.params d.body d.scope (d.dvs K) (d.kws K) (d.at_ K) fd := by
  have e : (fn.map fun d => He5.fnA K (d.at_ K))[i]? = (fn.map He5.DefA.val)[i]? := congrArg (fun z : He.AlD => z.2[i]?) c
  rw [List.getElem?_map, List.getElem?_map, h] at e
  exact He5.DefA.funD (Option.some.inj e) (List.all_eq_true.mp (He.ba c.all).2 d (List.mem_of_getElem? h))
end
/-! ### the facts as tests -/
abbrev oB (a : Option Bool) (b : Bool) : Bool := decide (a = some b)
def isCB (K : PySem.W.Frag) (C : Addr) : Bool := [He.eqO (PySem.W.findIn K (.ref C) "__class__") (some (some (.builtin "object.__class__"))), He.eqO (PySem.W.specialIn K (.builtin "object.__class__") "__get__") (some (some (.builtin "getset_descriptor.__get__"))),
  oB (PySem.W.takesIn K (.builtin "object.__class__")) true, oB (PySem.W.mroIn K C (.type "object")) true, oB (PySem.W.kitOne K (.ref C) (.ref C)) true, oB (PySem.W.kitOne K (.type "int") (.ref C)) false, oB (PySem.W.kitOne K (.type "bool") (.ref C)) false,
  oB (PySem.W.kitOne K (.type "str") (.ref C)) false, oB (PySem.W.kitOne K (.type "NoneType") (.ref C)) false].all id
def creadB (K : PySem.W.Frag) (C : Addr) : Bool := PySem.W.readsIn K C (.type "type") && He.eqO (PySem.W.specialIn K (.ref C) "__getattribute__") (some (some (.builtin "type.__getattribute__")))
def cvalB (K : PySem.W.Frag) (C : Addr) (f : Str) (v : V) : Bool := match PySem.W.findCls K (.ref C) (.type "type") f with
  | some (.val u) => He.relB v u
  | _ => false
def neB (K : PySem.W.Frag) (C : Addr) : Bool := He.eqO (PySem.W.findIn K (.ref C) "__ne__") (some (some (.builtin "object.__ne__"))) && oB (PySem.W.mroIn K C (.type "object")) true
def fmB (K : PySem.W.Frag) (C : Addr) : Bool := He.eqO (PySem.W.findIn K (.ref C) "__format__") (some (some (.builtin "object.__format__"))) && oB (PySem.W.mroIn K C (.type "object")) true
def propB (K : PySem.W.Frag) (C : Addr) (m : Str) : Bool := [He.eqO (PySem.W.findIn K (.ref C) m) (some (some (.ref (He.ma K C m)))), He.eqO (PySem.W.specialIn K (.ref (He.ma K C m)) "__get__") (some (some (.builtin "property.__get__"))), oB (PySem.W.takesIn K (.ref (He.ma K C m))) true,
  (match PySem.W.recIn K (He.ma K C m) "property" with
    | some (.ref _ :: _) => true
    | _ => false)].all id
def tup0B (K : PySem.W.Frag) (a : Addr) : Bool := match K.lookup a with
  | some ⟨.type c, _, .seq its _, _⟩ => decide (c = "tuple") && decide (its = #[])
  | _ => false
def noLimB (K : PySem.W.Frag) : Bool := He.eqO (PySem.W.nsIn K cStatics "sys.int_max_str_digits") (some none)
end F
set_option maxHeartbeats 400000
namespace G
open PySem PySem.Spec PyProof.Rows L2 F
def dfl0 (p : PySem.W.Frag → Addr) (i : Nat) (K : PySem.W.Frag) : Addr := match K.lookup (p K) with
  | some ⟨_, _, .func fd, _⟩ => (match fd.defaults with
    | .ref T => (match K.lookup T with
      | some ⟨_, _, .seq its _, _⟩ => (match its.toList[i]? with
        | some (.ref a) => a
        | _ => 0)
      | _ => 0)
    | _ => 0)
  | _ => 0
def top (i : Nat) : Stmt := PySem.Challenge.pw_rungback_k79_texts_of_books.main.body.getD i (.Pass ⟨0, 0, 0, 0⟩)
abbrev s__wall : Stmt := top 0
abbrev s_book_text : Stmt := top 2
abbrev s_BadMoment___init__ : Stmt := inClass (top 5) 0
abbrev s_BadText___init__ : Stmt := inClass (top 6) 0
abbrev s_BadWatch___init__ : Stmt := inClass (top 7) 0
abbrev s_TooMany___init__ : Stmt := inClass (top 8) 0
abbrev s_NoEntry___init__ : Stmt := inClass (top 9) 0
abbrev s_is_whole : Stmt := top 16
abbrev s_is_between : Stmt := top 17
abbrev s_is_leap : Stmt := top 18
abbrev s_month_length : Stmt := top 19
abbrev s_days_ahead : Stmt := top 20
abbrev s_day_number : Stmt := top 21
abbrev s_date_of : Stmt := top 22
abbrev s_weekday_of : Stmt := top 23
abbrev s_wrong_part : Stmt := top 24
abbrev s_number_in : Stmt := top 25
abbrev s_date_in : Stmt := top 26
abbrev s_time_in : Stmt := top 27
abbrev s_moment_at : Stmt := top 28
abbrev s_Moment___init__ : Stmt := inClass (top 29) 1
abbrev s_Moment_at : Stmt := inClass (top 29) 2
abbrev s_Moment_earliest : Stmt := inClass (top 29) 3
abbrev s_Moment_latest : Stmt := inClass (top 29) 4
abbrev s_Moment_is_date : Stmt := inClass (top 29) 5
abbrev s_Moment_read : Stmt := inClass (top 29) 6
abbrev s_Moment_midnight : Stmt := inClass (top 29) 7
abbrev s_Moment___add__ : Stmt := inClass (top 29) 8
abbrev s_Moment___radd__ : Stmt := inClass (top 29) 9
abbrev s_Moment___sub__ : Stmt := inClass (top 29) 10
abbrev s_Moment___floordiv__ : Stmt := inClass (top 29) 11
abbrev s_Moment___mod__ : Stmt := inClass (top 29) 12
abbrev s_Moment___lt__ : Stmt := inClass (top 29) 13
abbrev s_Moment___le__ : Stmt := inClass (top 29) 14
abbrev s_Moment___gt__ : Stmt := inClass (top 29) 15
abbrev s_Moment___ge__ : Stmt := inClass (top 29) 16
abbrev s_Moment___eq__ : Stmt := inClass (top 29) 17
abbrev s_Moment___str__ : Stmt := inClass (top 29) 18
abbrev s_need_watch : Stmt := top 31
abbrev s_span_code : Stmt := top 32
abbrev s_with_ring : Stmt := top 33
abbrev s_rings_in : Stmt := top 34
abbrev s_spans_in : Stmt := top 35
abbrev s_Book___init__ : Stmt := inClass (top 36) 3
abbrev s_Book_of_line : Stmt := inClass (top 36) 4
abbrev s_Book_rings : Stmt := inClass (top 36) 5
abbrev s_Book_watches : Stmt := inClass (top 36) 6
abbrev s_Book___iadd__ : Stmt := inClass (top 36) 7
abbrev s_Book___isub__ : Stmt := inClass (top 36) 8
abbrev s_Book___contains__ : Stmt := inClass (top 36) 9
abbrev s_Book_watch : Stmt := inClass (top 36) 10
abbrev s_Book_unwatch : Stmt := inClass (top 36) 11
abbrev s_Book_is_watched : Stmt := inClass (top 36) 12
abbrev s_Book_is_silent : Stmt := inClass (top 36) 13
abbrev s_Book_twin : Stmt := inClass (top 36) 14
abbrev s_Book___or__ : Stmt := inClass (top 36) 15
abbrev s_Book___eq__ : Stmt := inClass (top 36) 16
abbrev s_Book_trial : Stmt := inClass (top 36) 17
abbrev s_moment_in : Stmt := top 38
abbrev s_moment_of : Stmt := top 39
abbrev s_need_end : Stmt := top 40
abbrev s_read_entry : Stmt := top 41
abbrev s_lines_in : Stmt := top 42
abbrev s_read_book : Stmt := top 43
abbrev s__law_bag : Stmt := top 45
abbrev s__law_draw : Stmt := top 46
abbrev s__law_length : Stmt := top 47
abbrev s__law_date : Stmt := top 48
abbrev s__law_weekday : Stmt := top 49
abbrev s__law_number : Stmt := top 50
abbrev s__law_morrow : Stmt := top 51
abbrev s__law_moment : Stmt := top 52
abbrev s__law_drawn_date : Stmt := top 53
abbrev s__law_drawn_watch : Stmt := top 54
abbrev s__law_ordered : Stmt := top 55
abbrev s__law_spec : Stmt := top 56
abbrev s__law_book : Stmt := top 57
abbrev s__law_word : Stmt := top 58
abbrev s__law_lines : Stmt := top 59
abbrev s__law_shuffled : Stmt := top 60
abbrev s_law : Stmt := top 61
def checks (K : PySem.W.Frag) : List Bool := [
  ((He.Fa.glo "_wall").ok K),
  ((He.Fa.glo "book_text").ok K),
  ((He.Fa.glo "RungError").ok K),
  ((He.Fa.glo "BadMoment").ok K),
  ((He.Fa.glo "BadText").ok K),
  ((He.Fa.glo "BadWatch").ok K),
  ((He.Fa.glo "TooMany").ok K),
  ((He.Fa.glo "NoEntry").ok K),
  ((He.Fa.glo "is_whole").ok K),
  ((He.Fa.glo "is_between").ok K),
  ((He.Fa.glo "is_leap").ok K),
  ((He.Fa.glo "month_length").ok K),
  ((He.Fa.glo "days_ahead").ok K),
  ((He.Fa.glo "day_number").ok K),
  ((He.Fa.glo "date_of").ok K),
  ((He.Fa.glo "weekday_of").ok K),
  ((He.Fa.glo "wrong_part").ok K),
  ((He.Fa.glo "number_in").ok K),
  ((He.Fa.glo "date_in").ok K),
  ((He.Fa.glo "time_in").ok K),
  ((He.Fa.glo "moment_at").ok K),
  ((He.Fa.glo "Moment").ok K),
  ((He.Fa.glo "need_watch").ok K),
  ((He.Fa.glo "span_code").ok K),
  ((He.Fa.glo "with_ring").ok K),
  ((He.Fa.glo "rings_in").ok K),
  ((He.Fa.glo "spans_in").ok K),
  ((He.Fa.glo "Book").ok K),
  ((He.Fa.glo "moment_in").ok K),
  ((He.Fa.glo "moment_of").ok K),
  ((He.Fa.glo "need_end").ok K),
  ((He.Fa.glo "read_entry").ok K),
  ((He.Fa.glo "lines_in").ok K),
  ((He.Fa.glo "read_book").ok K),
  ((He.Fa.glo "_law_bag").ok K),
  ((He.Fa.glo "_law_draw").ok K),
  ((He.Fa.glo "_law_length").ok K),
  ((He.Fa.glo "_law_date").ok K),
  ((He.Fa.glo "_law_weekday").ok K),
  ((He.Fa.glo "_law_number").ok K),
  ((He.Fa.glo "_law_morrow").ok K),
  ((He.Fa.glo "_law_moment").ok K),
  ((He.Fa.glo "_law_drawn_date").ok K),
  ((He.Fa.glo "_law_drawn_watch").ok K),
  ((He.Fa.glo "_law_ordered").ok K),
  ((He.Fa.glo "_law_spec").ok K),
  ((He.Fa.glo "_law_book").ok K),
  ((He.Fa.glo "_law_word").ok K),
  ((He.Fa.glo "_law_lines").ok K),
  ((He.Fa.glo "_law_shuffled").ok K),
  ((He.Fa.glo "law").ok K),
  ((He.Fa.free "NotImplemented").ok K),
  ((He.Fa.free "ValueError").ok K),
  ((He.Fa.free "abs").ok K),
  ((He.Fa.free "all").ok K),
  ((He.Fa.free "bool").ok K),
  ((He.Fa.free "classmethod").ok K),
  ((He.Fa.free "dict").ok K),
  ((He.Fa.free "enumerate").ok K),
  ((He.Fa.free "int").ok K),
  ((He.Fa.free "isinstance").ok K),
  ((He.Fa.free "len").ok K),
  ((He.Fa.free "list").ok K),
  ((He.Fa.free "property").ok K),
  ((He.Fa.free "range").ok K),
  ((He.Fa.free "sorted").ok K),
  ((He.Fa.free "staticmethod").ok K),
  ((He.Fa.free "str").ok K),
  ((He.Fa.free "sum").ok K),
  ((He.Fa.free "super").ok K),
  ((He.Fa.free "tuple").ok K),
  ((He.Fa.int "ROUND_YEARS" 400).ok K),
  ((He.Fa.int "ROUND_DAYS" 146097).ok K),
  ((He.Fa.int "DAY_MINUTES" 1440).ok K),
  ((He.Fa.glo "LENGTHS").ok K),
  (He.tupB K "LENGTHS" [(.int 31), (.int 28), (.int 31), (.int 30), (.int 31), (.int 30), (.int 31), (.int 31), (.int 30), (.int 31), (.int 30), (.int 31)]),
  ((He.Fa.str "DIGITS" "0123456789").ok K),
  ((He.Fa.glo "Moment").ok K),
  ((He.Fa.cls "Moment").ok K),
  ((He.Fa.noat "Moment" "year").ok K),
  ((He.Fa.noat "Moment" "month").ok K),
  ((He.Fa.noat "Moment" "day").ok K),
  ((He.Fa.noat "Moment" "hour").ok K),
  ((He.Fa.noat "Moment" "minute").ok K),
  ((He.Fa.noat "Moment" "date").ok K),
  ((He.Fa.noat "Moment" "weekday").ok K),
  ((He.Fa.noat "Moment" "number").ok K),
  (isCB K (He.ga K "Moment") && (He.Fa.cls "Moment").ok K),
  (creadB K (He.ga K "Moment")),
  (PySem.W.selfFirst K (He.ga K "Moment")),
  (cvalB K (He.ga K "Moment") "MOST_YEAR" (.int 999999)),
  ((He.Fa.mkr "Moment").ok K),
  ((He.Fa.meth "Moment" "__init__").ok K),
  ((He.Fa.meth "Moment" "__init__").ok K),
  ((He.Fa.meth "Moment" "__add__").ok K),
  ((He.Fa.meth "Moment" "__add__").ok K),
  ((He.Fa.meth "Moment" "__radd__").ok K),
  ((He.Fa.meth "Moment" "__radd__").ok K),
  ((He.Fa.meth "Moment" "__sub__").ok K),
  ((He.Fa.meth "Moment" "__sub__").ok K),
  ((He.Fa.meth "Moment" "__floordiv__").ok K),
  ((He.Fa.meth "Moment" "__floordiv__").ok K),
  ((He.Fa.meth "Moment" "__mod__").ok K),
  ((He.Fa.meth "Moment" "__mod__").ok K),
  ((He.Fa.meth "Moment" "__lt__").ok K),
  ((He.Fa.meth "Moment" "__lt__").ok K),
  ((He.Fa.meth "Moment" "__le__").ok K),
  ((He.Fa.meth "Moment" "__le__").ok K),
  ((He.Fa.meth "Moment" "__gt__").ok K),
  ((He.Fa.meth "Moment" "__gt__").ok K),
  ((He.Fa.meth "Moment" "__ge__").ok K),
  ((He.Fa.meth "Moment" "__ge__").ok K),
  ((He.Fa.meth "Moment" "__eq__").ok K),
  ((He.Fa.meth "Moment" "__eq__").ok K),
  ((He.Fa.meth "Moment" "__str__").ok K),
  ((He.Fa.meth "Moment" "__str__").ok K),
  (neB K (He.ga K "Moment")),
  (fmB K (He.ga K "Moment")),
  ((He.Fa.glo "Book").ok K),
  ((He.Fa.cls "Book").ok K),
  ((He.Fa.noat "Book" "rung").ok K),
  ((He.Fa.noat "Book" "spans").ok K),
  (isCB K (He.ga K "Book") && (He.Fa.cls "Book").ok K),
  (creadB K (He.ga K "Book")),
  (PySem.W.selfFirst K (He.ga K "Book")),
  (cvalB K (He.ga K "Book") "MOST_RINGS" (.int 2000)),
  (cvalB K (He.ga K "Book") "MOST_WATCHES" (.int 12)),
  (cvalB K (He.ga K "Book") "LONGEST" (.int 1152000)),
  ((He.Fa.mkr "Book").ok K),
  ((He.Fa.meth "Book" "__init__").ok K),
  ((He.Fa.meth "Book" "__init__").ok K),
  (propB K (He.ga K "Book") "rings"),
  (propB K (He.ga K "Book") "watches"),
  ((He.Fa.meth "Book" "__iadd__").ok K),
  ((He.Fa.meth "Book" "__iadd__").ok K),
  ((He.Fa.meth "Book" "__isub__").ok K),
  ((He.Fa.meth "Book" "__isub__").ok K),
  ((He.Fa.meth "Book" "__contains__").ok K),
  ((He.Fa.meth "Book" "__contains__").ok K),
  ((He.Fa.meth "Book" "watch").ok K),
  ((He.Fa.meth "Book" "__or__").ok K),
  ((He.Fa.meth "Book" "__or__").ok K),
  ((He.Fa.meth "Book" "__eq__").ok K),
  ((He.Fa.meth "Book" "__eq__").ok K),
  (neB K (He.ga K "Book")),
  (tup0B K (dfl0 (fun K => He.ma K (He.ga K "Book") "__init__") 0 K)),
  (tup0B K (dfl0 (fun K => He.ma K (He.ga K "Book") "__init__") 1 K)),
  (noLimB K)]
def dd_book_text : He5.DefA := { at_ := fun K => He.ga K "book_text", name := "book_text", qual := "book_text", params := defArgs s_book_text, body := defBody s_book_text, scope := defScope s_book_text, dfl := [] }
def dd_is_whole : He5.DefA := { at_ := fun K => He.ga K "is_whole", name := "is_whole", qual := "is_whole", params := defArgs s_is_whole, body := defBody s_is_whole, scope := defScope s_is_whole, dfl := [] }
def dd_is_between : He5.DefA := { at_ := fun K => He.ga K "is_between", name := "is_between", qual := "is_between", params := defArgs s_is_between, body := defBody s_is_between, scope := defScope s_is_between, dfl := [] }
def dd_is_leap : He5.DefA := { at_ := fun K => He.ga K "is_leap", name := "is_leap", qual := "is_leap", params := defArgs s_is_leap, body := defBody s_is_leap, scope := defScope s_is_leap, dfl := [] }
def dd_month_length : He5.DefA := { at_ := fun K => He.ga K "month_length", name := "month_length", qual := "month_length", params := defArgs s_month_length, body := defBody s_month_length, scope := defScope s_month_length, dfl := [] }
def dd_days_ahead : He5.DefA := { at_ := fun K => He.ga K "days_ahead", name := "days_ahead", qual := "days_ahead", params := defArgs s_days_ahead, body := defBody s_days_ahead, scope := defScope s_days_ahead, dfl := [] }
def dd_day_number : He5.DefA := { at_ := fun K => He.ga K "day_number", name := "day_number", qual := "day_number", params := defArgs s_day_number, body := defBody s_day_number, scope := defScope s_day_number, dfl := [] }
def dd_date_of : He5.DefA := { at_ := fun K => He.ga K "date_of", name := "date_of", qual := "date_of", params := defArgs s_date_of, body := defBody s_date_of, scope := defScope s_date_of, dfl := [] }
def dd_weekday_of : He5.DefA := { at_ := fun K => He.ga K "weekday_of", name := "weekday_of", qual := "weekday_of", params := defArgs s_weekday_of, body := defBody s_weekday_of, scope := defScope s_weekday_of, dfl := [] }
def dd_wrong_part : He5.DefA := { at_ := fun K => He.ga K "wrong_part", name := "wrong_part", qual := "wrong_part", params := defArgs s_wrong_part, body := defBody s_wrong_part, scope := defScope s_wrong_part, dfl := [] }
def dd_number_in : He5.DefA := { at_ := fun K => He.ga K "number_in", name := "number_in", qual := "number_in", params := defArgs s_number_in, body := defBody s_number_in, scope := defScope s_number_in, dfl := [] }
def dd_date_in : He5.DefA := { at_ := fun K => He.ga K "date_in", name := "date_in", qual := "date_in", params := defArgs s_date_in, body := defBody s_date_in, scope := defScope s_date_in, dfl := [] }
def dd_time_in : He5.DefA := { at_ := fun K => He.ga K "time_in", name := "time_in", qual := "time_in", params := defArgs s_time_in, body := defBody s_time_in, scope := defScope s_time_in, dfl := [] }
def dd_moment_at : He5.DefA := { at_ := fun K => He.ga K "moment_at", name := "moment_at", qual := "moment_at", params := defArgs s_moment_at, body := defBody s_moment_at, scope := defScope s_moment_at, dfl := [] }
def dd_Moment___init__ : He5.DefA := { at_ := fun K => He.ma K (He.ga K "Moment") "__init__", name := "__init__", qual := "Moment.__init__", params := defArgs s_Moment___init__, body := defBody s_Moment___init__, scope := defScope s_Moment___init__, dfl := [.int 0, .int 0] }
def dd_Moment_at : He5.DefA := { at_ := fun K => He5.wf K (He.ga K "Moment") "staticmethod" "at", name := "at", qual := "Moment.at", params := defArgs s_Moment_at, body := defBody s_Moment_at, scope := defScope s_Moment_at, dfl := [] }
def dd_Moment_read : He5.DefA := { at_ := fun K => He5.wf K (He.ga K "Moment") "classmethod" "read", name := "read", qual := "Moment.read", params := defArgs s_Moment_read, body := defBody s_Moment_read, scope := defScope s_Moment_read, dfl := [] }
def dd_Moment___add__ : He5.DefA := { at_ := fun K => He.ma K (He.ga K "Moment") "__add__", name := "__add__", qual := "Moment.__add__", params := defArgs s_Moment___add__, body := defBody s_Moment___add__, scope := defScope s_Moment___add__, dfl := [] }
def dd_Moment___radd__ : He5.DefA := { at_ := fun K => He.ma K (He.ga K "Moment") "__radd__", name := "__radd__", qual := "Moment.__radd__", params := defArgs s_Moment___radd__, body := defBody s_Moment___radd__, scope := defScope s_Moment___radd__, dfl := [] }
def dd_Moment___sub__ : He5.DefA := { at_ := fun K => He.ma K (He.ga K "Moment") "__sub__", name := "__sub__", qual := "Moment.__sub__", params := defArgs s_Moment___sub__, body := defBody s_Moment___sub__, scope := defScope s_Moment___sub__, dfl := [] }
def dd_Moment___floordiv__ : He5.DefA := { at_ := fun K => He.ma K (He.ga K "Moment") "__floordiv__", name := "__floordiv__", qual := "Moment.__floordiv__", params := defArgs s_Moment___floordiv__, body := defBody s_Moment___floordiv__, scope := defScope s_Moment___floordiv__, dfl := [] }
def dd_Moment___mod__ : He5.DefA := { at_ := fun K => He.ma K (He.ga K "Moment") "__mod__", name := "__mod__", qual := "Moment.__mod__", params := defArgs s_Moment___mod__, body := defBody s_Moment___mod__, scope := defScope s_Moment___mod__, dfl := [] }
def dd_Moment___lt__ : He5.DefA := { at_ := fun K => He.ma K (He.ga K "Moment") "__lt__", name := "__lt__", qual := "Moment.__lt__", params := defArgs s_Moment___lt__, body := defBody s_Moment___lt__, scope := defScope s_Moment___lt__, dfl := [] }
def dd_Moment___le__ : He5.DefA := { at_ := fun K => He.ma K (He.ga K "Moment") "__le__", name := "__le__", qual := "Moment.__le__", params := defArgs s_Moment___le__, body := defBody s_Moment___le__, scope := defScope s_Moment___le__, dfl := [] }
def dd_Moment___gt__ : He5.DefA := { at_ := fun K => He.ma K (He.ga K "Moment") "__gt__", name := "__gt__", qual := "Moment.__gt__", params := defArgs s_Moment___gt__, body := defBody s_Moment___gt__, scope := defScope s_Moment___gt__, dfl := [] }
def dd_Moment___ge__ : He5.DefA := { at_ := fun K => He.ma K (He.ga K "Moment") "__ge__", name := "__ge__", qual := "Moment.__ge__", params := defArgs s_Moment___ge__, body := defBody s_Moment___ge__, scope := defScope s_Moment___ge__, dfl := [] }
def dd_Moment___eq__ : He5.DefA := { at_ := fun K => He.ma K (He.ga K "Moment") "__eq__", name := "__eq__", qual := "Moment.__eq__", params := defArgs s_Moment___eq__, body := defBody s_Moment___eq__, scope := defScope s_Moment___eq__, dfl := [] }
def dd_Moment___str__ : He5.DefA := { at_ := fun K => He.ma K (He.ga K "Moment") "__str__", name := "__str__", qual := "Moment.__str__", params := defArgs s_Moment___str__, body := defBody s_Moment___str__, scope := defScope s_Moment___str__, dfl := [] }
def dd_need_watch : He5.DefA := { at_ := fun K => He.ga K "need_watch", name := "need_watch", qual := "need_watch", params := defArgs s_need_watch, body := defBody s_need_watch, scope := defScope s_need_watch, dfl := [] }
def dd_span_code : He5.DefA := { at_ := fun K => He.ga K "span_code", name := "span_code", qual := "span_code", params := defArgs s_span_code, body := defBody s_span_code, scope := defScope s_span_code, dfl := [] }
def dd_with_ring : He5.DefA := { at_ := fun K => He.ga K "with_ring", name := "with_ring", qual := "with_ring", params := defArgs s_with_ring, body := defBody s_with_ring, scope := defScope s_with_ring, dfl := [] }
def dd_rings_in : He5.DefA := { at_ := fun K => He.ga K "rings_in", name := "rings_in", qual := "rings_in", params := defArgs s_rings_in, body := defBody s_rings_in, scope := defScope s_rings_in, dfl := [] }
def dd_spans_in : He5.DefA := { at_ := fun K => He.ga K "spans_in", name := "spans_in", qual := "spans_in", params := defArgs s_spans_in, body := defBody s_spans_in, scope := defScope s_spans_in, dfl := [] }
def dd_Book___init__ : He5.DefA := { at_ := fun K => He.ma K (He.ga K "Book") "__init__", name := "__init__", qual := "Book.__init__", params := defArgs s_Book___init__, body := defBody s_Book___init__, scope := defScope s_Book___init__, dfl := [.adr (dfl0 (fun K => He.ma K (He.ga K "Book") "__init__") 0), .adr (dfl0 (fun K => He.ma K (He.ga K "Book") "__init__") 1)] }
def dd_Book_rings : He5.DefA := { at_ := fun K => He5.wf K (He.ga K "Book") "property" "rings", name := "rings", qual := "Book.rings", params := defArgs s_Book_rings, body := defBody s_Book_rings, scope := defScope s_Book_rings, dfl := [] }
def dd_Book_watches : He5.DefA := { at_ := fun K => He5.wf K (He.ga K "Book") "property" "watches", name := "watches", qual := "Book.watches", params := defArgs s_Book_watches, body := defBody s_Book_watches, scope := defScope s_Book_watches, dfl := [] }
def dd_Book___iadd__ : He5.DefA := { at_ := fun K => He.ma K (He.ga K "Book") "__iadd__", name := "__iadd__", qual := "Book.__iadd__", params := defArgs s_Book___iadd__, body := defBody s_Book___iadd__, scope := defScope s_Book___iadd__, dfl := [] }
def dd_Book___isub__ : He5.DefA := { at_ := fun K => He.ma K (He.ga K "Book") "__isub__", name := "__isub__", qual := "Book.__isub__", params := defArgs s_Book___isub__, body := defBody s_Book___isub__, scope := defScope s_Book___isub__, dfl := [] }
def dd_Book___contains__ : He5.DefA := { at_ := fun K => He.ma K (He.ga K "Book") "__contains__", name := "__contains__", qual := "Book.__contains__", params := defArgs s_Book___contains__, body := defBody s_Book___contains__, scope := defScope s_Book___contains__, dfl := [] }
def dd_Book_watch : He5.DefA := { at_ := fun K => He.ma K (He.ga K "Book") "watch", name := "watch", qual := "Book.watch", params := defArgs s_Book_watch, body := defBody s_Book_watch, scope := defScope s_Book_watch, dfl := [] }
def dd_Book___or__ : He5.DefA := { at_ := fun K => He.ma K (He.ga K "Book") "__or__", name := "__or__", qual := "Book.__or__", params := defArgs s_Book___or__, body := defBody s_Book___or__, scope := defScope s_Book___or__, dfl := [] }
def dd_Book___eq__ : He5.DefA := { at_ := fun K => He.ma K (He.ga K "Book") "__eq__", name := "__eq__", qual := "Book.__eq__", params := defArgs s_Book___eq__, body := defBody s_Book___eq__, scope := defScope s_Book___eq__, dfl := [] }
def dd_moment_in : He5.DefA := { at_ := fun K => He.ga K "moment_in", name := "moment_in", qual := "moment_in", params := defArgs s_moment_in, body := defBody s_moment_in, scope := defScope s_moment_in, dfl := [] }
def dd_moment_of : He5.DefA := { at_ := fun K => He.ga K "moment_of", name := "moment_of", qual := "moment_of", params := defArgs s_moment_of, body := defBody s_moment_of, scope := defScope s_moment_of, dfl := [] }
def dd_need_end : He5.DefA := { at_ := fun K => He.ga K "need_end", name := "need_end", qual := "need_end", params := defArgs s_need_end, body := defBody s_need_end, scope := defScope s_need_end, dfl := [] }
def dd_read_entry : He5.DefA := { at_ := fun K => He.ga K "read_entry", name := "read_entry", qual := "read_entry", params := defArgs s_read_entry, body := defBody s_read_entry, scope := defScope s_read_entry, dfl := [] }
def dd_lines_in : He5.DefA := { at_ := fun K => He.ga K "lines_in", name := "lines_in", qual := "lines_in", params := defArgs s_lines_in, body := defBody s_lines_in, scope := defScope s_lines_in, dfl := [] }
def dd_read_book : He5.DefA := { at_ := fun K => He.ga K "read_book", name := "read_book", qual := "read_book", params := defArgs s_read_book, body := defBody s_read_book, scope := defScope s_read_book, dfl := [] }
def dd__law_bag : He5.DefA := { at_ := fun K => He.ga K "_law_bag", name := "_law_bag", qual := "_law_bag", params := defArgs s__law_bag, body := defBody s__law_bag, scope := defScope s__law_bag, dfl := [] }
def dd__law_draw : He5.DefA := { at_ := fun K => He.ga K "_law_draw", name := "_law_draw", qual := "_law_draw", params := defArgs s__law_draw, body := defBody s__law_draw, scope := defScope s__law_draw, dfl := [] }
def dd__law_length : He5.DefA := { at_ := fun K => He.ga K "_law_length", name := "_law_length", qual := "_law_length", params := defArgs s__law_length, body := defBody s__law_length, scope := defScope s__law_length, dfl := [] }
def dd__law_date : He5.DefA := { at_ := fun K => He.ga K "_law_date", name := "_law_date", qual := "_law_date", params := defArgs s__law_date, body := defBody s__law_date, scope := defScope s__law_date, dfl := [] }
def dd__law_weekday : He5.DefA := { at_ := fun K => He.ga K "_law_weekday", name := "_law_weekday", qual := "_law_weekday", params := defArgs s__law_weekday, body := defBody s__law_weekday, scope := defScope s__law_weekday, dfl := [] }
def dd__law_number : He5.DefA := { at_ := fun K => He.ga K "_law_number", name := "_law_number", qual := "_law_number", params := defArgs s__law_number, body := defBody s__law_number, scope := defScope s__law_number, dfl := [] }
def dd__law_morrow : He5.DefA := { at_ := fun K => He.ga K "_law_morrow", name := "_law_morrow", qual := "_law_morrow", params := defArgs s__law_morrow, body := defBody s__law_morrow, scope := defScope s__law_morrow, dfl := [] }
def dd__law_moment : He5.DefA := { at_ := fun K => He.ga K "_law_moment", name := "_law_moment", qual := "_law_moment", params := defArgs s__law_moment, body := defBody s__law_moment, scope := defScope s__law_moment, dfl := [] }
def dd__law_drawn_date : He5.DefA := { at_ := fun K => He.ga K "_law_drawn_date", name := "_law_drawn_date", qual := "_law_drawn_date", params := defArgs s__law_drawn_date, body := defBody s__law_drawn_date, scope := defScope s__law_drawn_date, dfl := [] }
def dd__law_drawn_watch : He5.DefA := { at_ := fun K => He.ga K "_law_drawn_watch", name := "_law_drawn_watch", qual := "_law_drawn_watch", params := defArgs s__law_drawn_watch, body := defBody s__law_drawn_watch, scope := defScope s__law_drawn_watch, dfl := [] }
def dd__law_ordered : He5.DefA := { at_ := fun K => He.ga K "_law_ordered", name := "_law_ordered", qual := "_law_ordered", params := defArgs s__law_ordered, body := defBody s__law_ordered, scope := defScope s__law_ordered, dfl := [] }
def dd__law_spec : He5.DefA := { at_ := fun K => He.ga K "_law_spec", name := "_law_spec", qual := "_law_spec", params := defArgs s__law_spec, body := defBody s__law_spec, scope := defScope s__law_spec, dfl := [] }
def dd__law_book : He5.DefA := { at_ := fun K => He.ga K "_law_book", name := "_law_book", qual := "_law_book", params := defArgs s__law_book, body := defBody s__law_book, scope := defScope s__law_book, dfl := [] }
def dd__law_word : He5.DefA := { at_ := fun K => He.ga K "_law_word", name := "_law_word", qual := "_law_word", params := defArgs s__law_word, body := defBody s__law_word, scope := defScope s__law_word, dfl := [] }
def dd__law_lines : He5.DefA := { at_ := fun K => He.ga K "_law_lines", name := "_law_lines", qual := "_law_lines", params := defArgs s__law_lines, body := defBody s__law_lines, scope := defScope s__law_lines, dfl := [] }
def dd__law_shuffled : He5.DefA := { at_ := fun K => He.ga K "_law_shuffled", name := "_law_shuffled", qual := "_law_shuffled", params := defArgs s__law_shuffled, body := defBody s__law_shuffled, scope := defScope s__law_shuffled, dfl := [] }
def dd_law : He5.DefA := { at_ := fun K => He.ga K "law", name := "law", qual := "law", params := defArgs s_law, body := defBody s_law, scope := defScope s_law, dfl := [] }
def fns : List He5.DefA := [dd_book_text, dd_is_whole, dd_is_between, dd_is_leap, dd_month_length, dd_days_ahead, dd_day_number, dd_date_of, dd_weekday_of, dd_wrong_part, dd_number_in, dd_date_in, dd_time_in, dd_moment_at, dd_Moment___init__, dd_Moment_at, dd_Moment_read, dd_Moment___add__, dd_Moment___radd__, dd_Moment___sub__, dd_Moment___floordiv__, dd_Moment___mod__, dd_Moment___lt__, dd_Moment___le__, dd_Moment___gt__, dd_Moment___ge__, dd_Moment___eq__, dd_Moment___str__, dd_need_watch, dd_span_code, dd_with_ring, dd_rings_in, dd_spans_in, dd_Book___init__, dd_Book_rings, dd_Book_watches, dd_Book___iadd__, dd_Book___isub__, dd_Book___contains__, dd_Book_watch, dd_Book___or__, dd_Book___eq__, dd_moment_in, dd_moment_of, dd_need_end, dd_read_entry, dd_lines_in, dd_read_book, dd__law_bag, dd__law_draw, dd__law_length, dd__law_date, dd__law_weekday, dd__law_number, dd__law_morrow, dd__law_moment, dd__law_drawn_date, dd__law_drawn_watch, dd__law_ordered, dd__law_spec, dd__law_book, dd__law_word, dd__law_lines, dd__law_shuffled, dd_law]
abbrev R : PySem.W.OpenRow := PySem.W.OpenLaw.row PySem.Challenge.rw_rungback_k79_texts_of_books
abbrev hk : PySem.W.Hook := hookX 5 checks fns
def ob (z : PySem.W.SharedT) : He.AlD := obsXG 5 checks fns (HandSHeadRun.getT z)
theorem ob_eq (z : PySem.W.SharedT) : ob z = hk.obs z.abs := obsXG_eq (HandSHeadRun.getT_eq z)
def loose : List PySem.Str := (["_wall", "book_text", "RungError", "BadMoment", "BadText", "BadWatch", "TooMany", "NoEntry", "ROUND_YEARS", "ROUND_DAYS", "DAY_MINUTES", "LENGTHS", "DIGITS", "is_whole", "is_between", "is_leap", "month_length", "days_ahead", "day_number", "date_of", "weekday_of", "wrong_part", "number_in", "date_in", "time_in", "moment_at", "Moment", "need_watch", "span_code", "with_ring"] : List PySem.Str) ++ (["rings_in", "spans_in", "Book", "moment_in", "moment_of", "need_end", "read_entry", "lines_in", "read_book", "_law_bag", "_law_draw", "_law_length", "_law_date", "_law_weekday", "_law_number", "_law_morrow", "_law_moment", "_law_drawn_date", "_law_drawn_watch", "_law_ordered", "_law_spec", "_law_book", "_law_word", "_law_lines", "_law_shuffled"] : List PySem.Str)
end G
set_option maxHeartbeats 0
namespace G
open PySem PySem.Spec PyProof.Rows L2 F
theorem run (w : World) : HandSHeadRun.RunEq R (PySem.W.view R.prog [61]) hk ob 20000 loose w := by
  intro os
  kernel_rfl
end G
/-! M: the mathematics, no program in sight. -/
namespace M
def isLeap (y : Int) : Bool := decide (y % 4 = 0) && (!decide (y % 100 = 0) || decide (y % 400 = 0))
def daysAhead (y : Int) : Int := 365 * (y - 1) + (y - 1) / 4 - (y - 1) / 100 + (y - 1) / 400
/-- the lengths of the months of a common year -/
def lens : List Int := [31, 28, 31, 30, 31, 30, 31, 31, 30, 31, 30, 31]
def monthLen (y m : Int) : Int := lens.getD (m - 1).toNat 0 + (if decide (m = 2) && isLeap y then 1 else 0)
/-- the days of the months ahead of one -/
def monthsSum (y : Int) (n : Nat) : Int := ((List.range n).map fun (i : Nat) => monthLen y (1 + (i : Int))).sum
def dayNumber (y m d : Int) : Int := daysAhead y + monthsSum y (m - 1).toNat + d - 1
/-- a moment: year, month, day, hour, minute -/
structure Mo where
  y : Int
  m : Int
  d : Int
  h : Int
  i : Int
deriving DecidableEq
@[irreducible] def Mo.date (q : Mo) : Int := dayNumber q.y q.m q.d
@[irreducible] def Mo.num (q : Mo) : Int := q.date * 1440 + q.h * 60 + q.i
structure Mo.ok (q : Mo) : Prop where
  y1 : 1 ≤ q.y
  y2 : q.y ≤ 999999
  m1 : 1 ≤ q.m
  m2 : q.m ≤ 12
  d1 : 1 ≤ q.d
  d2 : q.d ≤ monthLen q.y q.m
  h1 : 0 ≤ q.h
  h2 : q.h ≤ 23
  i1 : 0 ≤ q.i
  i2 : q.i ≤ 59
def leapN (y : Int) : Int := if isLeap y then 1 else 0
theorem daysAhead_step (y : Int) : daysAhead (y + 1) = daysAhead y + 365 + leapN y := by
  unfold daysAhead leapN isLeap
  have e : y + 1 - 1 = y := by omega
  rw [e]
  by_cases h4 : y % 4 = 0 <;> by_cases h100 : y % 100 = 0 <;> by_cases h400 : y % 400 = 0 <;> simp only [h4, h100, h400, decide_true, decide_false, Bool.not_true, Bool.not_false, Bool.and_true, Bool.or_true, Bool.true_and, Bool.false_and, Bool.and_false, Bool.or_false, Bool.false_or, Bool.true_or, if_true, if_false, reduceIte, Bool.false_eq_true] <;> omega
theorem daysAhead_mono {y y' : Int} (h : y ≤ y') : daysAhead y ≤ daysAhead y' := by
  unfold daysAhead
  omega
theorem monthLen_cases (y : Int) : monthLen y 1 = 31 ∧ monthLen y 2 = 28 + leapN y ∧ monthLen y 3 = 31 ∧ monthLen y 4 = 30 ∧ monthLen y 5 = 31 ∧ monthLen y 6 = 30 ∧ monthLen y 7 = 31 ∧ monthLen y 8 = 31 ∧ monthLen y 9 = 30 ∧ monthLen y 10 = 31 ∧ monthLen y 11 = 30 ∧ monthLen y 12 = 31 := by
  refine ⟨rfl, ?_, rfl, rfl, rfl, rfl, rfl, rfl, rfl, rfl, rfl, rfl⟩
  rfl
theorem monthsSum_step (y : Int) (n : Nat) : monthsSum y (n + 1) = monthsSum y n + monthLen y (1 + (n : Int)) := by
  unfold monthsSum
  rw [List.range_succ, List.map_append, List.sum_append]
  simp
theorem leapN_b (y : Int) : 0 ≤ leapN y ∧ leapN y ≤ 1 := by
  unfold leapN
  split <;> omega
theorem months_val (y : Int) (n : Nat) (h : n ≤ 12) : monthsSum y n = ([0, 31, 59, 90, 120, 151, 181, 212, 243, 273, 304, 334, 365] : List Int).getD n 0 + (if 2 ≤ n then leapN y else 0) := by
  obtain ⟨l1, l2, l3, l4, l5, l6, l7, l8, l9, l10, l11, l12⟩ := monthLen_cases y
  have s0 : monthsSum y 0 = 0 := rfl
  have s1 : monthsSum y 1 = monthsSum y 0 + monthLen y 1 := monthsSum_step y 0
  have s2 : monthsSum y 2 = monthsSum y 1 + monthLen y 2 := monthsSum_step y 1
  have s3 : monthsSum y 3 = monthsSum y 2 + monthLen y 3 := monthsSum_step y 2
  have s4 : monthsSum y 4 = monthsSum y 3 + monthLen y 4 := monthsSum_step y 3
  have s5 : monthsSum y 5 = monthsSum y 4 + monthLen y 5 := monthsSum_step y 4
  have s6 : monthsSum y 6 = monthsSum y 5 + monthLen y 6 := monthsSum_step y 5
  have s7 : monthsSum y 7 = monthsSum y 6 + monthLen y 7 := monthsSum_step y 6
  have s8 : monthsSum y 8 = monthsSum y 7 + monthLen y 8 := monthsSum_step y 7
  have s9 : monthsSum y 9 = monthsSum y 8 + monthLen y 9 := monthsSum_step y 8
  have s10 : monthsSum y 10 = monthsSum y 9 + monthLen y 10 := monthsSum_step y 9
  have s11 : monthsSum y 11 = monthsSum y 10 + monthLen y 11 := monthsSum_step y 10
  have s12 : monthsSum y 12 = monthsSum y 11 + monthLen y 12 := monthsSum_step y 11
  have hc : n = 0 ∨ n = 1 ∨ n = 2 ∨ n = 3 ∨ n = 4 ∨ n = 5 ∨ n = 6 ∨ n = 7 ∨ n = 8 ∨ n = 9 ∨ n = 10 ∨ n = 11 ∨ n = 12 := by omega
  rcases hc with rfl | rfl | rfl | rfl | rfl | rfl | rfl | rfl | rfl | rfl | rfl | rfl | rfl <;> simp <;> omega
theorem monthLen_ge (y m : Int) (h1 : 1 ≤ m) (h2 : m ≤ 12) : 28 ≤ monthLen y m ∧ monthLen y m ≤ 31 := by
  obtain ⟨l1, l2, l3, l4, l5, l6, l7, l8, l9, l10, l11, l12⟩ := monthLen_cases y
  have b := leapN_b y
  have hc : m = 1 ∨ m = 2 ∨ m = 3 ∨ m = 4 ∨ m = 5 ∨ m = 6 ∨ m = 7 ∨ m = 8 ∨ m = 9 ∨ m = 10 ∨ m = 11 ∨ m = 12 := by omega
  rcases hc with rfl | rfl | rfl | rfl | rfl | rfl | rfl | rfl | rfl | rfl | rfl | rfl <;> omega
theorem monthsSum_mono (y : Int) (a : Nat) : ∀ k : Nat, a + k ≤ 12 → monthsSum y a ≤ monthsSum y (a + k)
  | 0, _ => Int.le_refl _
  | k + 1, h => by
    have ih := monthsSum_mono y a k (by omega)
    have e := monthsSum_step y (a + k)
    have g := monthLen_ge y (1 + ((a + k : Nat) : Int)) (by omega) (by omega)
    have e2 : a + (k + 1) = a + k + 1 := by omega
    rw [e2]
    omega
theorem monthsSum_12 (y : Int) : monthsSum y 12 = 365 + leapN y := by
  have := months_val y 12 (by omega)
  simp at this
  omega
theorem Mo.ok.date_b {q : Mo} (k : q.ok) : daysAhead q.y ≤ q.date ∧ q.date < daysAhead (q.y + 1) := by
  obtain ⟨y1, y2, m1, m2, d1, d2, _, _, _, _⟩ := k
  have a1 := monthsSum_mono q.y 0 (q.m - 1).toNat (by omega)
  have s0 : monthsSum q.y 0 = 0 := rfl
  have st := monthsSum_step q.y (q.m - 1).toNat
  have em : (1 + (((q.m - 1).toNat : Nat) : Int)) = q.m := by omega
  rw [em] at st
  have a2 := monthsSum_mono q.y ((q.m - 1).toNat + 1) (12 - ((q.m - 1).toNat + 1)) (by omega)
  have e12 : (q.m - 1).toNat + 1 + (12 - ((q.m - 1).toNat + 1)) = 12 := by omega
  rw [e12, monthsSum_12] at a2
  have ds := daysAhead_step q.y
  rw [Nat.zero_add] at a1
  unfold Mo.date dayNumber
  omega
theorem Mo.date_inj {q p : Mo} (k : q.ok) (l : p.ok) (e : q.date = p.date) : q.y = p.y ∧ q.m = p.m ∧ q.d = p.d := by
  have b1 := k.date_b
  have b2 := l.date_b
  have ey : q.y = p.y := by
    rcases Int.lt_trichotomy q.y p.y with h | h | h
    · have := daysAhead_mono (show q.y + 1 ≤ p.y by omega)
      omega
    · exact h
    · have := daysAhead_mono (show p.y + 1 ≤ q.y by omega)
      omega
  have one : ∀ a c : Mo, a.ok → c.ok → a.y = c.y → a.date = c.date → ¬ a.m < c.m := fun a c ka kc ey e h => by
    have st := monthsSum_step a.y (a.m - 1).toNat
    have := ka.m1
    have := ka.m2
    have := kc.m1
    have := kc.m2
    have em : (1 + (((a.m - 1).toNat : Nat) : Int)) = a.m := by omega
    rw [em] at st
    have a2 := monthsSum_mono a.y ((a.m - 1).toNat + 1) ((c.m - 1).toNat - ((a.m - 1).toNat + 1)) (by omega)
    have e12 : (a.m - 1).toNat + 1 + ((c.m - 1).toNat - ((a.m - 1).toNat + 1)) = (c.m - 1).toNat := by omega
    rw [e12] at a2
    have := ka.d2
    have := kc.d1
    unfold Mo.date dayNumber at e
    rw [← ey] at e
    omega
  have em : q.m = p.m := by
    have h1 := one q p k l ey e
    have h2 := one p q l k ey.symm e.symm
    omega
  refine ⟨ey, em, ?_⟩
  unfold Mo.date dayNumber at e
  rw [ey, em] at e
  omega
theorem Mo.num_inj {q p : Mo} (k : q.ok) (l : p.ok) (e : q.num = p.num) : q = p := by
  have := k.h1
  have := k.h2
  have := k.i1
  have := k.i2
  have := l.h1
  have := l.h2
  have := l.i1
  have := l.i2
  unfold Mo.num at e
  have ed : q.date = p.date := by omega
  obtain ⟨a, b, c⟩ := Mo.date_inj k l ed
  cases q
  cases p
  simp only [Mo.mk.injEq] at *
  refine ⟨a, b, c, ?_, ?_⟩ <;> omega
theorem Mo.ok.num_b {q : Mo} (k : q.ok) : 0 ≤ q.num ∧ q.num < 526000000000 := by
  have b := k.date_b
  have := k.y1
  have := k.y2
  have := k.h1
  have := k.h2
  have := k.i1
  have := k.i2
  have e : daysAhead q.y ≥ 0 := by unfold daysAhead; omega
  have e2 : daysAhead (q.y + 1) ≤ 365242135 := by unfold daysAhead; omega
  unfold Mo.num
  omega
end M
set_option maxHeartbeats 2000000
/-! F: readings as functions of the values (they compute by whnf), over the hand layer. -/
namespace F
open PySem PySem.Spec PyProof.Rows L2
abbrev Sl := List (Option V)
/-- both ways of a test -/
@[irreducible] def Cond (b : Bool) (A B : Prop) : Prop := (b = true → A) ∧ (b = false → B)
section
variable {A B : Prop} {b c : Bool}
theorem cond_b (h1 : b = true → A) (h2 : b = false → B) : Cond b A B := by
  unfold Cond
  exact ⟨h1, h2⟩
theorem Cond.t (h : Cond b A B) : b = true → A := by
  unfold Cond at h
  exact h.1
theorem Cond.f (h : Cond b A B) : b = false → B := by
  unfold Cond at h
  exact h.2
theorem Cond.ite (h : Cond b A B) : if b = true then A else B := by
  cases b with
  | true => exact iteT (h.t rfl)
  | false => exact iteF (h.f rfl)
theorem cond_p {p : Prop} [Decidable p] (h1 : p → A) (h2 : ¬ p → B) : Cond (decide p) A B := cond_b (fun z => h1 (of_decide_eq_true z)) fun z => h2 (of_decide_eq_false z)
theorem cond_n (h : Cond b B A) : Cond (!b) A B := cond_b (fun z => h.f (by simpa using z)) fun z => h.t (by simpa using z)
theorem cond_t (hb : b = true) (h : A) : Cond b A B := cond_b (fun _ => h) fun z => by rw [hb] at z; cases z
theorem cond_f (hb : b = false) (h : B) : Cond b A B := cond_b (fun z => by (rw [hb] at z; cases z)) fun _ => h
theorem cond_q {p : Prop} [Decidable p] (hp : p) (h : A) : Cond (decide p) A B := cond_t (decide_eq_true hp) h
theorem cond_nq {p : Prop} [Decidable p] (hp : ¬ p) (h : B) : Cond (decide p) A B := cond_f (decide_eq_false hp) h
/-- the value that a bool-valued test hands on -/
theorem cond_v {Q : Bool → Prop} (h : Q b) : Cond b (Q true) (Q false) := cond_b (fun z => by (rw [z] at h; exact h)) fun z => by (rw [z] at h; exact h)
end
/-- the i-th slot's value -/
def nth : Sl → Nat → Option V
  | [], _ => none
  | a :: _, 0 => a
  | _ :: r, n + 1 => nth r n
theorem nth_get : ∀ {σ : Sl} {i : Nat} {v : V}, nth σ i = some v → σ[i]? = some (some v)
  | [], _, _, h => by cases h
  | a :: _, 0, v, h => by
    have e : a = some v := h
    rw [e] <;> rfl
  | _ :: r, i + 1, v, h => by
    have q := nth_get (σ := r) (i := i) (v := v) h
    simpa using q
theorem upE {X : Cx} {e : Expr} {t u : TE} (h : PE X e t) (k : ∀ σ H Q, u σ H Q → t σ H Q) : PE X e u := ⟨fun pins s σ H Q I z => h.run pins s σ H Q I (k _ _ _ z)⟩
theorem upT {X : Cx} {e : Expr} {t u : TT} (h : PT X e t) (k : ∀ σ H Q, u σ H Q → t σ H Q) : PT X e u := ⟨fun pins s σ H Q I z => h.run pins s σ H Q I (k _ _ _ z)⟩
theorem upW {X : Cx} {e : Expr} {t u : TT} (h : PW X e t) (k : ∀ σ H Q, u σ H Q → t σ H Q) : PW X e u := ⟨fun wh pins s σ H Q I z => h.run wh pins s σ H Q I (k _ _ _ z)⟩
theorem upS {X : Cx} {e : Stmt} {t u : TS} (h : PS X e t) (k : ∀ D σ H, u D σ H → t D σ H) : PS X e u := ⟨fun pins s σ H D I z => h.run pins s σ H D I (k _ _ _ z)⟩
theorem upR {X : Cx} {f : Value → Value → Sem Value} {r r' : R2} (h : OpR X f r) (k : ∀ x y H Q, r' x y H Q → r x y H Q) : OpR X f r' := fun pins s σ H x y v u Q I rx ry z => h pins s σ H x y v u Q I rx ry (k _ _ _ _ z)
theorem upC {X : Cx} {f : Value} {r r' : List V → Hp → VK → Prop} (h : CallR X f r) (k : ∀ xs H Q, r' xs H Q → r xs H Q) : CallR X f r' := fun pins s σ H xs us Q I rv z => h pins s σ H xs us Q I rv (k _ _ _ z)
/-! ### names, constants, logic -/
def fVar (i : Nat) : TE := fun σ H Q => match nth σ i with
  | some v => Q v H
  | none => False
def fAndV (ta tb : TE) : TE := fun σ H Q => ta σ H fun x H1 => match x with
  | .bl c => Cond c (tb σ H1 Q) (Q (.bl false) H1)
  | _ => False
def fOrV (ta tb : TE) : TE := fun σ H Q => ta σ H fun x H1 => match x with
  | .bl c => Cond c (Q (.bl true) H1) (tb σ H1 Q)
  | _ => False
def fNotV (ta : TE) : TE := fun σ H Q => ta σ H fun x H1 => match x with
  | .bl c => Q (.bl (!c)) H1
  | _ => False
/-- a value that is a bool, as a test -/
def fB (t : TE) : TT := fun σ H Q => t σ H fun x H1 => match x with
  | .bl c => Q c H1
  | _ => False
def fAnd (t u : TT) : TT := fun σ H Q => t σ H fun c H1 => Cond c (u σ H1 Q) (Q false H1)
def fOr (t u : TT) : TT := fun σ H Q => t σ H fun c H1 => Cond c (Q true H1) (u σ H1 Q)
def fIf (t : TT) (ta tb : TE) : TE := fun σ H Q => t σ H fun c H1 => Cond c (ta σ H1 Q) (tb σ H1 Q)
def fIfS (c : TT) (t u : TS) : TS := fun D σ H => c σ H fun b H1 => Cond b (t D σ H1) (u D σ H1)
/-- truth of any value -/
def fTru (K : PySem.W.Frag) (t : TE) : TT := fun σ H Q => t σ H fun x H1 => match x with
  | .bl c => Q c H1
  | .non => Q false H1
  | .int i => Q (i != 0) H1
  | .str z => z.length ≤ sizeLine ∧ Q ((z.length : Int) != 0) H1
  | x => ∃ k, TruV K x H1 k ∧ Q k H1
section
variable {X : Cx} {e a b c : Expr} {ta tb te : TE} {t u : TT} {pos : Pos} {rest : List Expr}
theorem e_v (i : Nat) {x : Str} {pos : Pos} (hN : X.N[i]? = some x := by rfl) (hv : Vis X.env.scope x := by first | exact Or.inl rfl | exact Or.inr (Or.inl rfl) | exact Or.inr (Or.inr rfl)) (hd : (x == ("__debug__" : Str)) = false := by decide)
    (hcd : (x == ("__classdict__" : Str)) = false := by decide) : PE X (.Name x pos) (fVar i) := upE (pe_var hN hv hd hcd) fun σ H Q h => by
  unfold fVar at h
  split at h
  · rename_i v q
    exact ⟨v, nth_get q, h⟩
  · exact h.elim
theorem e_and (ha : PE X a ta) (hb : PE X (.BoolOp .And (b :: rest) pos) tb) : PE X (.BoolOp .And (a :: b :: rest) pos) (fAndV ta tb) := by
  refine ⟨fun pins s σ H Q I h => ?_⟩
  refine BoolOp_and (thn (ha.run pins s σ H _ I h) fun u s1 ⟨x, H1, I1, r1, q1⟩ => ?_)
  cases x with
  | bl k =>
    cases r1
    refine wpAny_truthy_bool ?_
    cases k with
    | true => exact hb.run pins s1 σ H1 Q I1 (q1.t rfl)
    | false => exact ⟨.bl false, H1, I1, rfl, q1.f rfl⟩
  | _ => exact q1.elim
theorem e_or (ha : PE X a ta) (hb : PE X (.BoolOp .Or (b :: rest) pos) tb) : PE X (.BoolOp .Or (a :: b :: rest) pos) (fOrV ta tb) := by
  refine ⟨fun pins s σ H Q I h => ?_⟩
  refine BoolOp_or (thn (ha.run pins s σ H _ I h) fun u s1 ⟨x, H1, I1, r1, q1⟩ => ?_)
  cases x with
  | bl k =>
    cases r1
    refine wpAny_truthy_bool ?_
    cases k with
    | false => exact hb.run pins s1 σ H1 Q I1 (q1.f rfl)
    | true => exact ⟨.bl true, H1, I1, rfl, q1.t rfl⟩
  | _ => exact q1.elim
theorem e_not (ha : PE X a ta) : PE X (.UnaryOp .Not a pos) (fNotV ta) := by
  refine ⟨fun pins s σ H Q I h => ?_⟩
  refine UnaryOp_ (thn (ha.run pins s σ H _ I h) fun u s1 ⟨x, H1, I1, r1, q1⟩ => ?_)
  cases x with
  | bl k =>
    cases r1
    exact not_of (wpAny_truthy_bool ⟨.bl (!k), H1, I1, rfl, q1⟩)
  | _ => exact q1.elim
/-- a value that is a bool as a test -/
theorem t_b {e : Expr} {t : TE} (h : PE X e t) (he : ∀ whole, isTrue e X.env whole = (do let v ← whole; standAt e.pos; holding [v] (truthy v)) := by intro _; rfl) : PT X e (fB t) := by
  refine ⟨fun pins s σ H Q I hw => ?_⟩
  refine isTrue_plain (thn (h.run pins s σ H _ I hw) fun u s1 ⟨x, H1, I1, r1, q1⟩ => ?_) (he _)
  cases x with
  | bl k =>
    cases r1
    exact wpAny_truthy_bool ⟨H1, I1, q1⟩
  | _ => exact q1.elim
theorem truV_str {K : PySem.W.Frag} {z : Str} {H : Hp} (h : z.length ≤ sizeLine) : TruV K (.str z) H ((z.length : Int) != 0) := ⟨h, rfl⟩
/-- any value as a test -/
theorem t_tru (ha : PE X a ta) (he : ∀ whole, isTrue a X.env whole = (do let v ← whole; standAt a.pos; holding [v] (truthy v)) := by intro _; rfl) : PT X a (fTru X.K ta) := by
  have g := pt_truth ha he
  refine ⟨fun pins s σ H Q I hw => ?_⟩
  refine isTrue_plain (thn (ha.run pins s σ H _ I hw) fun u s1 ⟨x, H1, I1, r1, q1⟩ => ?_) (he _)
  refine tru_ok pins s1 σ H1 x u Q I1 r1 ?_
  cases x with
  | bl k => exact ⟨k, rfl, q1⟩
  | non => exact ⟨false, rfl, q1⟩
  | int i => exact ⟨_, rfl, q1⟩
  | str z => exact ⟨_, truV_str q1.1, q1.2⟩
  | byt b => exact q1
  | flt b => exact q1
  | ref b => exact q1
  | ty b => exact q1
theorem w_and1 (ha : PT X a t) : PW X (.BoolOp .And [a] pos) t := pw_and1 ha
theorem w_or1 (ha : PT X a t) : PW X (.BoolOp .Or [a] pos) t := pw_or1 ha
theorem w_and (ha : PT X a t) (hb : PW X (.BoolOp .And (b :: rest) pos) u) : PW X (.BoolOp .And (a :: b :: rest) pos) (fAnd t u) := by
  refine ⟨fun wh pins s σ H Q I h => ?_⟩
  refine isTrue_and (thn (ha.run pins s σ H _ I h) fun k s1 ⟨H1, I1, q1⟩ => ?_)
  cases k with
  | true => exact hb.run wh pins s1 σ H1 Q I1 (q1.t rfl)
  | false => exact ⟨H1, I1, q1.f rfl⟩
theorem w_or (ha : PT X a t) (hb : PW X (.BoolOp .Or (b :: rest) pos) u) : PW X (.BoolOp .Or (a :: b :: rest) pos) (fOr t u) := by
  refine ⟨fun wh pins s σ H Q I h => ?_⟩
  refine isTrue_or (thn (ha.run pins s σ H _ I h) fun k s1 ⟨H1, I1, q1⟩ => ?_)
  cases k with
  | true => exact ⟨H1, I1, q1.t rfl⟩
  | false => exact hb.run wh pins s1 σ H1 Q I1 (q1.f rfl)
theorem e_if {c : Expr} (hc : PT X c t) (ha : PE X a ta) (hb : PE X b tb) : PE X (.IfExp c a b pos) (fIf t ta tb) := by
  refine ⟨fun pins s σ H Q I h => ?_⟩
  refine wpAny_IfExp (thn (hc.run pins s σ H _ I h) fun k s1 ⟨H1, I1, q1⟩ => ?_)
  cases k with
  | true => exact ha.run pins s1 σ H1 Q I1 (q1.t rfl)
  | false => exact hb.run pins s1 σ H1 Q I1 (q1.f rfl)
theorem s_if {c : Expr} {a b : List Stmt} {t' u' : TS} (hc : PT X c t) (ha : PSs X a t') (hb : PSs X b u') : PS X (.If c a b pos) (fIfS t t' u') := by
  refine ⟨fun pins s σ H D I h => ?_⟩
  refine wpAny_If (thn (hc.run pins s σ H _ I h) fun k s1 ⟨H1, I1, q1⟩ => ?_)
  cases k with
  | true => exact ha.run pins s1 σ H1 D I1 (q1.t rfl)
  | false => exact hb.run pins s1 σ H1 D I1 (q1.f rfl)
end
/-! ### operators, by the values -/
/-- two lists, two tuples joined -/
def rJoin (K : PySem.W.Frag) : R2 := fun x y H Q => rCat x y H Q ∨ rCatA K x y H Q
def rAddF (K : PySem.W.Frag) : R2 := fun x y H Q => match x, y with
  | .int i, .int j => Q (.int (i + j)) H
  | .str a, .str b => a.length + b.length ≤ sizeLine ∧ Q (.str (a ++ b)) H
  | .int i, .bl k => Q (.int (i + b2i k)) H
  | x, y => rJoin K x y H Q
def rSubF : R2 := fun x y H Q => match x, y with
  | .int i, .int j => Q (.int (i - j)) H
  | _, _ => False
def rMulF : R2 := fun x y H Q => match x, y with
  | .int i, .int j => CMul i j ∧ Q (.int (i * j)) H
  | _, _ => False
def rDivF : R2 := fun x y H Q => match x, y with
  | .int i, .int j => CDiv i j ∧ Q (.int (i / j)) H
  | _, _ => False
def rModF : R2 := fun x y H Q => match x, y with
  | .int i, .int j => 0 < j ∧ Q (.int (i % j)) H
  | _, _ => False
def rPowF : R2 := fun x y H Q => match x, y with
  | .int i, .int j => CPow i j ∧ Q (.int (i ^ j.toNat)) H
  | _, _ => False
def rShlF : R2 := fun x y H Q => match x, y with
  | .int i, .int j => CPow i j ∧ Q (.int (i * 2 ^ j.toNat)) H
  | _, _ => False
def rLtF : R2 := fun x y H Q => match x, y with
  | .int i, .int j => Q (.bl (decide (i < j))) H
  | _, _ => False
def rLeF : R2 := fun x y H Q => match x, y with
  | .int i, .int j => Q (.bl (decide (i ≤ j))) H
  | _, _ => False
def rGtF : R2 := fun x y H Q => match x, y with
  | .int i, .int j => Q (.bl (decide (j < i))) H
  | _, _ => False
def rGeF : R2 := fun x y H Q => match x, y with
  | .int i, .int j => Q (.bl (decide (j ≤ i))) H
  | _, _ => False
def rEqF : R2 := fun x y H Q => match x, y with
  | .int i, .int j => Q (.bl (decide (i = j))) H
  | .str i, .str j => Q (.bl (decide (i = j))) H
  | x, y => scal x y = true ∧ Q (.bl (decide (x = y))) H
def rNeF : R2 := fun x y H Q => match x, y with
  | .int i, .int j => Q (.bl (!decide (i = j))) H
  | .str i, .str j => Q (.bl (!decide (i = j))) H
  | x, y => scal x y = true ∧ Q (.bl (!decide (x = y))) H
def rIsF : R2 := fun x y H Q => match x, y with
  | .non, .non => Q (.bl true) H
  | _, .non => Q (.bl false) H
  | _, _ => False
def rIsNotF : R2 := fun x y H Q => match x, y with
  | .non, .non => Q (.bl false) H
  | _, .non => Q (.bl true) H
  | _, _ => False
theorem dI (i j : Int) : decide (V.int i = V.int j) = decide (i = j) := by
  by_cases h : i = j
  · rw [h]; simp
  · rw [decide_eq_false h, decide_eq_false fun q => h (V.int.inj q)]
theorem dS (i j : Str) : decide (V.str i = V.str j) = decide (i = j) := by
  by_cases h : i = j
  · rw [h]; simp
  · rw [decide_eq_false h, decide_eq_false fun q => h (V.str.inj q)]
section
variable {X : Cx}
theorem OpR.or3 {f : Value → Value → Sem Value} {r r' r'' : R2} (h : OpR X f r) (h' : OpR X f r') (h'' : OpR X f r'') : OpR X f (fun x y H Q => r x y H Q ∨ r' x y H Q ∨ r'' x y H Q) := h.or (h'.or h'')
theorem o_join : OpR X (binaryOp .Add) (rJoin X.K) := OpR.or op_cat op_catA
theorem o_add : OpR X (binaryOp .Add) (rAddF X.K) := upR ((op_add.or op_add_str).or (op_add_ib.or o_join)) fun x y H Q h => by
  unfold rAddF at h
  split at h
  · exact .inl (.inl ⟨_, _, rfl, rfl, h⟩)
  · exact .inl (.inr ⟨_, _, rfl, rfl, h⟩)
  · exact .inr (.inl ⟨_, _, rfl, rfl, h⟩)
  · exact .inr (.inr h)
theorem o_sub : OpR X (binaryOp .Sub) rSubF := upR op_sub fun x y H Q h => by
  unfold rSubF at h
  split at h
  · exact ⟨_, _, rfl, rfl, h⟩
  · exact h.elim
theorem o_mul : OpR X (binaryOp .Mult) rMulF := upR op_mul fun x y H Q h => by
  unfold rMulF at h
  split at h
  · exact ⟨_, _, rfl, rfl, h⟩
  · exact h.elim
theorem o_div : OpR X (binaryOp .FloorDiv) rDivF := upR op_fdiv fun x y H Q h => by
  unfold rDivF at h
  split at h
  · exact ⟨_, _, rfl, rfl, h⟩
  · exact h.elim
theorem o_mod : OpR X (binaryOp .Mod) rModF := upR op_mod fun x y H Q h => by
  unfold rModF at h
  split at h
  · exact ⟨_, _, rfl, rfl, h⟩
  · exact h.elim
theorem o_pow : OpR X (binaryOp .Pow) rPowF := upR op_pow fun x y H Q h => by
  unfold rPowF at h
  split at h
  · exact ⟨_, _, rfl, rfl, h⟩
  · exact h.elim
theorem o_shl : OpR X (binaryOp .LShift) rShlF := upR op_shl fun x y H Q h => by
  unfold rShlF at h
  split at h
  · exact ⟨_, _, rfl, rfl, h⟩
  · exact h.elim
theorem o_lt : OpR X (compareOp .Lt) rLtF := upR op_lt fun x y H Q h => by
  unfold rLtF at h
  split at h
  · exact ⟨_, _, rfl, rfl, h⟩
  · exact h.elim
theorem o_le : OpR X (compareOp .LtE) rLeF := upR op_le fun x y H Q h => by
  unfold rLeF at h
  split at h
  · exact ⟨_, _, rfl, rfl, h⟩
  · exact h.elim
theorem o_gt : OpR X (compareOp .Gt) rGtF := upR op_gt fun x y H Q h => by
  unfold rGtF at h
  split at h
  · exact ⟨_, _, rfl, rfl, h⟩
  · exact h.elim
theorem o_ge : OpR X (compareOp .GtE) rGeF := upR op_ge fun x y H Q h => by
  unfold rGeF at h
  split at h
  · exact ⟨_, _, rfl, rfl, h⟩
  · exact h.elim
theorem o_eq : OpR X (compareOp .Eq) rEqF := upR op_eq fun x y H Q h => by
  unfold rEqF at h
  split at h
  · exact ⟨rfl, by rw [dI]; exact h⟩
  · exact ⟨rfl, by rw [dS]; exact h⟩
  · exact h
theorem o_ne : OpR X (compareOp .NotEq) rNeF := upR op_ne fun x y H Q h => by
  unfold rNeF at h
  split at h
  · exact ⟨rfl, by rw [dI]; exact h⟩
  · exact ⟨rfl, by rw [dS]; exact h⟩
  · exact h
theorem o_is : OpR X (compareOp .Is) rIsF := upR op_isN fun x y H Q h => by
  unfold rIsF at h
  split at h
  · exact ⟨rfl, h⟩
  · rename_i hx
    refine ⟨rfl, ?_⟩
    rw [decide_eq_false fun q => hx q]
    exact h
  · exact h.elim
theorem o_isnot : OpR X (compareOp .IsNot) rIsNotF := upR op_notN fun x y H Q h => by
  unfold rIsNotF at h
  split at h
  · exact ⟨rfl, h⟩
  · rename_i hx
    refine ⟨rfl, ?_⟩
    rw [decide_eq_false fun q => hx q]
    exact h
  · exact h.elim
end
/-! ### attributes -/
def FieldOf (K : PySem.W.Frag) (H : Hp) (a : Addr) (f : Str) (v : V) : Prop := ∃ C dx fs, H a = some (.ins C dx fs) ∧ Cls K C ∧ NoAttr K C f ∧ fs.lookup f = some v
def fFld (K : PySem.W.Frag) (ta : TE) (f : Str) : TE := fun σ H Q => ta σ H fun x H1 => match x with
  | .ref a => ∃ v, FieldOf K H1 a f v ∧ Q v H1
  | _ => False
section
variable {X : Cx} {e : Expr} {ta : TE} {f : Str} {pos p : Pos} {C : Addr} {mc : Value} {v : V} {u : Value} {x : Str}
theorem e_fld (he : PE X e ta) (hb : attributeBase e f X.env (eval e X.env) = eval e X.env := by rfl) : PE X (.Attribute e f pos) (fFld X.K ta f) := by
  refine ⟨fun pins s σ H Q I h => ?_⟩
  refine attr_of hb (thn (he.run pins s σ H _ I h) fun u s1 ⟨x, H1, I1, rx, q⟩ => ?_)
  cases x with
  | ref a =>
    obtain ⟨w, ⟨C, dx, fs, ea, c, n, l⟩, q⟩ := q
    obtain rfl : u = Value.ref a := rx
    exact getattr_ok I1 ea c n l fun u' s' I' r' => ⟨w, H1, I', r', q⟩
  | _ => exact q.elim
/-- a constant of a class, read off its name -/
theorem e_cval (hg : Gl X x) (hm : X.mg x = some (.ref C)) (r : ClX.CRead X.K C mc) (k : ∃ u, ClX.CVal X.K C mc f v u) (hd : (x == ("__debug__" : Str)) = false := by decide)
    (hb : attributeBase (.Name x p) f X.env (eval (.Name x p) X.env) = eval (.Name x p) X.env := by rfl) : PE X (.Attribute (.Name x p) f pos) (tC v) := by
  refine ⟨fun pins s σ H Q I h => ?_⟩
  refine attr_of hb (thn ((pe_glob (v := .ref C) hg hm rfl hd).run pins s σ H (fun y H1 => y = .ref C ∧ H1 = H) I ⟨rfl, rfl⟩) fun u s1 ⟨y, H1, I1, r1, q1⟩ => ?_)
  obtain ⟨rfl, rfl⟩ := q1
  cases r1
  obtain ⟨w', k⟩ := k
  exact ClX.getcval_ok I1 r k fun s' I' => ⟨v, _, I', k.rel, h⟩
end
end F
set_option maxHeartbeats 2000000
/-! F2: calls by promises, own operators, texts with fields. -/
namespace F
open PySem PySem.Spec PyProof.Rows L2
/-- an instance of the class at C -/
def IsIns (H : Hp) (a C : Addr) : Prop := ∃ dx fs, H a = some (.ins C dx fs)
/-- .. that has no attribute of its own named m -/
def InsNo (H : Hp) (a C : Addr) (m : Str) : Prop := ∃ dx fs, H a = some (.ins C dx fs) ∧ fs.lookup m = none
/-- a function at f keeps sp -/
abbrev Fr (P : Program) (w : World) (K : PySem.W.Frag) (mg : Str → Option Value) (base : Heap) (k : Nat) (f : Addr) (sp : Sp) : Prop := FnR P w K mg base (L2.CX P w) k f sp
/-- a def under its name -/
structure Fc (P : Program) (w : World) (K : PySem.W.Frag) (mg : Str → Option Value) (base : Heap) (k : Nat) (x : Str) (sp : Sp) : Prop where
  ex : ∃ f, F.Fr P w K mg base k f sp ∧ mg x = some (.ref f) ∧ PySem.W.keepIn K (.ref f) = true
/-- a method -/
structure Fm (P : Program) (w : World) (K : PySem.W.Frag) (mg : Str → Option Value) (base : Heap) (k : Nat) (C : Addr) (m : Str) (sp : Sp) : Prop where
  ex : ∃ f, F.Fr P w K mg base k f sp ∧ Meth K C m f
  cl : Cls K C
/-- a property -/
structure Fp (P : Program) (w : World) (K : PySem.W.Frag) (mg : Str → Option Value) (base : Heap) (k : Nat) (C : Addr) (m : Str) (sp : Sp) : Prop where
  ex : ∃ p f, F.Fr P w K mg base k f sp ∧ PropOf K C m p f
  cl : Cls K C
/-- a class made by its name; sp: its __init__ -/
structure Fk (P : Program) (w : World) (K : PySem.W.Frag) (mg : Str → Option Value) (base : Heap) (k : Nat) (x : Str) (C : Addr) (sp : Sp) : Prop where
  ex : ∃ f, F.Fr P w K mg base k f sp ∧ Mk K C f
  g : mg x = some (.ref C)
def fCall (sp : Sp) (E : XK) (t : TA) : TE := fun σ H Q => t σ H fun vs H1 => sp vs H1 Q E
def fMeth (C : Addr) (m : Str) (sp : Sp) (E : XK) (ta : TE) (t : TA) : TE := fun σ H Q => ta σ H fun x H1 => match x with
  | .ref a => InsNo H1 a C m ∧ t σ H1 fun vs H2 => sp (.ref a :: vs) H2 Q E
  | _ => False
def fProp (C : Addr) (sp : Sp) (ta : TE) : TE := fun σ H Q => ta σ H fun x H1 => match x with
  | .ref a => IsIns H1 a C ∧ sp [.ref a] H1 Q E0
  | _ => False
def fMake (C : Addr) (sp : Sp) (E : XK) (t : TA) : TE := fun σ H Q => t σ H fun vs H1 => ∀ x dx, H1 x = none → H1 dx = none → dx ≠ x →
  sp (.ref x :: vs) (upd (upd H1 dx (.own x)) x (.ins C dx [])) (fun v H2 => v = .non ∧ Q (.ref x) H2) E
section
variable {X : Cx} {k j : Nat} {C : Addr} {sp : Sp} {E : XK} {x m : Str} {p pos apos : Pos} {e o : Expr} {es : List Expr} {ta : TE} {t : TA}
theorem passE : Passes (L2.CX X.prog X.w) X E0 := passL
theorem e_c' (c : Fc X.prog X.w X.K X.mg X.base k x sp) (hr : Room j X.A) (hk : k ≤ j) (hx : Passes (L2.CX X.prog X.w) X E) (hg : Gl X x) (ha : PA X (e :: es) t) (hdb : (x == ("__debug__" : Str)) = false)
    (he : starEach (e :: es) X.env = (false, eval e X.env) :: starEach es X.env) (hpl : (backTo pos (starEach es X.env)).any (·.1) = false) : PE X (.Call (.Name x p) (e :: es) [] pos) (fCall sp E t) := by
  obtain ⟨f, G, hm, kp⟩ := c.ex
  refine ⟨fun pins s σ H Q I h => ?_⟩
  refine wpAny_Call_Name_kw (ld_glob I hg hm ?_ hdb)
  refine PySem.W.callWith_K (h₀ := X.base) I.ok.mod.kin kp (thn (ha.run pos pins s σ H _ I h) fun us s1 ⟨vs, H1, I1, r, q⟩ => ⟨I1.kIn, ?_⟩) he hpl
  exact wpAny_call (run_fnR G (hr.mono hk) hx I1 r q)
theorem e_c0' (c : Fc X.prog X.w X.K X.mg X.base k x sp) (hr : Room j X.A) (hk : k ≤ j) (hx : Passes (L2.CX X.prog X.w) X E) (hg : Gl X x) (hdb : (x == ("__debug__" : Str)) = false) :
    PE X (.Call (.Name x p) [] [] pos) (fCall sp E tNil) := by
  obtain ⟨f, G, hm, kp⟩ := c.ex
  refine ⟨fun pins s σ H Q I h => ?_⟩
  refine wpAny_Call_Name_kw (ld_glob I hg hm ?_ hdb)
  exact PySem.W.callWith_K0 I.kIn kp (wpAny_call (run_fnR (us := []) G (hr.mono hk) hx I .nil h))
/-- f(e, ..) that raises nothing -/
theorem e_c (c : Fc X.prog X.w X.K X.mg X.base k x sp) (hr : Room j X.A) (ha : PA X (e :: es) t) (hk : k ≤ j := by decide) (hg : Gl X x := by rfl) (hdb : (x == ("__debug__" : Str)) = false := by decide)
    (he : starEach (e :: es) X.env = (false, eval e X.env) :: starEach es X.env := by rfl) (hpl : (backTo pos (starEach es X.env)).any (·.1) = false := by rfl) : PE X (.Call (.Name x p) (e :: es) [] pos) (fCall sp E0 t) :=
  e_c' c hr hk passE hg ha hdb he hpl
theorem e_c0 (c : Fc X.prog X.w X.K X.mg X.base k x sp) (hr : Room j X.A) (hk : k ≤ j := by decide) (hg : Gl X x := by rfl) (hdb : (x == ("__debug__" : Str)) = false := by decide) : PE X (.Call (.Name x p) [] [] pos) (fCall sp E0 tNil) :=
  e_c0' c hr hk passE hg hdb
theorem e_m {pl : Sem Bool} (c : Fm X.prog X.w X.K X.mg X.base k C m sp) (hr : Room j X.A) (he : PE X o ta) (ha : PA X (e :: es) t) (hk : k ≤ j := by decide) (hx : Passes (L2.CX X.prog X.w) X E := by exact passL)
    (hst : starEach (e :: es) X.env = (false, eval e X.env) :: starEach es X.env := by rfl) (hpl : (backTo pos (starEach es X.env)).any (·.1) = false := by rfl)
    (ht : eval (.Call (.Attribute o m apos) (e :: es) [] pos) X.env = (do
      let ov ← eval o X.env
      standAt apos.atName
      let (f, first) ← holding [ov] (getMethod ov m pl)
      callWith pos f first (backTo pos (starEach (e :: es) X.env)) (backToKw pos (keywordEach [] X.env))) := by rfl) :
    PE X (.Call (.Attribute o m apos) (e :: es) [] pos) (fMeth C m sp E ta t) := by
  obtain ⟨f, G, hm⟩ := c.ex
  refine ⟨fun pins s σ H Q I h => ?_⟩
  refine PySem.W.methodCall_KW (pl := pl) (thn (he.run pins s σ H _ I h) fun u s1 ⟨y, H1, I1, rx, q⟩ => ?_) ht
  cases y with
  | ref a =>
    obtain ⟨⟨dx, fs, ea, l⟩, q⟩ := q
    obtain rfl : u = Value.ref a := rx
    refine getmeth_ok I1 ea c.cl hm l ?_
    refine PySem.W.callWith_K (first := [.ref a]) (h₀ := X.base) I.ok.mod.kin hm.kp (thn (ha.run pos pins s1 σ H1 _ I1 q) fun us s2 ⟨vs, H2, I2, r, q2⟩ => ⟨I2.kIn, ?_⟩) hst hpl
    exact wpAny_call (run_fnR (us := .ref a :: us) (vs := .ref a :: vs) G (hr.mono hk) hx I2 (.cons rfl r) q2)
  | _ => exact q.elim
theorem e_m0 {pl : Sem Bool} (c : Fm X.prog X.w X.K X.mg X.base k C m sp) (hr : Room j X.A) (he : PE X o ta) (hk : k ≤ j := by decide) (hx : Passes (L2.CX X.prog X.w) X E := by exact passL)
    (ht : eval (.Call (.Attribute o m apos) [] [] pos) X.env = (do
      let ov ← eval o X.env
      standAt apos.atName
      let (f, first) ← holding [ov] (getMethod ov m pl)
      callWith pos f first (backTo pos (starEach [] X.env)) (backToKw pos (keywordEach [] X.env))) := by rfl) :
    PE X (.Call (.Attribute o m apos) [] [] pos) (fMeth C m sp E ta tNil) := by
  obtain ⟨f, G, hm⟩ := c.ex
  refine ⟨fun pins s σ H Q I h => ?_⟩
  refine PySem.W.methodCall_KW (pl := pl) (thn (he.run pins s σ H _ I h) fun u s1 ⟨y, H1, I1, rx, q⟩ => ?_) ht
  cases y with
  | ref a =>
    obtain ⟨⟨dx, fs, ea, l⟩, q⟩ := q
    obtain rfl : u = Value.ref a := rx
    refine getmeth_ok I1 ea c.cl hm l ?_
    exact PySem.W.callWith_K0 (first := [.ref a]) I1.kIn hm.kp (wpAny_call (run_fnR (us := [.ref a]) (vs := [.ref a]) G (hr.mono hk) hx I1 (.cons rfl .nil) q))
  | _ => exact q.elim
/-- o.f, a property -/
theorem e_p {f : Str} (c : Fp X.prog X.w X.K X.mg X.base k C f sp) (hr : Room j X.A) (he : PE X e ta) (hk : k + 1 ≤ j := by decide) (hab : attributeBase e f X.env (eval e X.env) = eval e X.env := by rfl) :
    PE X (.Attribute e f pos) (fProp C sp ta) := by
  obtain ⟨p, g, G, hp⟩ := c.ex
  refine ⟨fun pins s σ H Q I h => ?_⟩
  refine attr_of hab (thn (he.run pins s σ H _ I h) fun u s1 ⟨y, H1, I1, rx, q⟩ => ?_)
  cases y with
  | ref a =>
    obtain ⟨⟨dx, fs, ea⟩, q⟩ := q
    obtain rfl : u = Value.ref a := rx
    obtain ⟨mA, O, _, _, _, _⟩ := ins_get I1.hok ea
    obtain ⟨od, J, _⟩ := O.look
    obtain ⟨rest, hrec⟩ := hp.rec_
    have I2 := I1.tok (s1.toks + 1)
    have hc : (PySem.W.clsIn X.K C).isSome = true := by
      obtain ⟨cd, hc, _⟩ := PySem.W.any_some c.cl.hd
      rw [hc]
      rfl
    refine PySem.W.get_bind I1.kIn J (PySem.W.plainGet_of (c.cl.get f)).1 (PySem.W.findObj_data hc hp.at_ hp.get hp.tak) (PySem.W.plainGet_of (c.cl.get f)).2 (wpAny_call (PySem.W.prop_get (s := { s1 with toks := s1.toks + 1 }) I1.kIn hrec ?_))
    refine codeAny_mono (G X.A.in1 X.stack { s1 with toks := s1.toks + 1 } H1 [.ref a] [.ref a] Q E0 (hr.mono hk).in1 I2.env0.in1 (.cons rfl .nil) q) fun r s' hq => ?_
    cases r with
    | error er => exact False.elim (passL (X := X.nox) pins σ H1 { s1 with toks := s1.toks + 1 } er s' (I2.wish _) hq)
    | ok fl =>
      cases fl with
      | ret w' =>
        obtain ⟨v, H', I3, rv, q3⟩ := I2.after hq
        show wpAny _ _ (handedOut w') _ _ _
        rw [PySem.W.handedOut_of (handed_of rv)]
        exact wpAny_pure ⟨v, H', I3, rv, q3⟩
      | next => exact False.elim hq
      | brk => exact False.elim hq
      | cont => exact False.elim hq
  | _ => exact q.elim
theorem run_mk {pins : List (Addr × Obj)} {σ : L2.St} {H : Hp} {s : Shared} {Q : VK} {us : List Value} {vs : List V} (c : Fk X.prog X.w X.K X.mg X.base k x C sp) (hr : Room (k + 1) X.A) (hx : Passes (L2.CX X.prog X.w) X E) (I : Inv X pins σ H s) (r : Vals vs us)
    (h : ∀ x dx, H x = none → H dx = none → dx ≠ x → sp (.ref x :: vs) (upd (upd H dx (.own x)) x (.ins C dx [])) (fun v H2 => v = .non ∧ Q (.ref x) H2) E) :
    wpAny (model X.prog X.w) X.A (call (.ref C) us) (EP X pins σ Q) X.xe s := by
  obtain ⟨f, G, M⟩ := c.ex
  have hq := h (s.heap.objs.size + 1) s.heap.objs.size (I.hok.fresh (Nat.le_succ _)) (I.hok.fresh (Nat.le_refl _)) (Nat.ne_of_lt (Nat.lt_succ_self _))
  have I2 := Inv.made (C := C) I
  have r2 : Vals (V.ref (s.heap.objs.size + 1) :: vs) (Value.ref (s.heap.objs.size + 1) :: us) := .cons rfl r
  refine wpAny_call (make_map (f := f) I.kIn M.makes M.init (beq_iff_eq.mp M.fn) (codeAny_mono (G _ X.stack _ _ (Value.ref (s.heap.objs.size + 1) :: us) (V.ref (s.heap.objs.size + 1) :: vs) _ E (hr.make C us [])
    (I2.env0.make C us []) r2 hq) fun r s' hq' => ?_))
  cases r with
  | error e => exact hx pins σ _ _ e s' I2 hq'
  | ok fl =>
    cases fl with
    | ret u =>
      obtain ⟨v, H', I3, rv, ev, q3⟩ := I2.after hq'
      subst ev
      exact ⟨rv, ⟨V.ref (s.heap.objs.size + 1), H', I3, rfl, q3⟩⟩
    | next => exact False.elim hq'
    | brk => exact False.elim hq'
    | cont => exact False.elim hq'
theorem e_k (c : Fk X.prog X.w X.K X.mg X.base k x C sp) (hr : Room j X.A) (ha : PA X (e :: es) t) (hk : k + 1 ≤ j := by decide) (hx : Passes (L2.CX X.prog X.w) X E := by exact passL) (hg : Gl X x := by rfl) (hdb : (x == ("__debug__" : Str)) = false := by decide)
    (he : starEach (e :: es) X.env = (false, eval e X.env) :: starEach es X.env := by rfl) (hpl : (backTo pos (starEach es X.env)).any (·.1) = false := by rfl) : PE X (.Call (.Name x p) (e :: es) [] pos) (fMake C sp E t) := by
  obtain ⟨f, G, M⟩ := c.ex
  refine ⟨fun pins s σ H Q I h => ?_⟩
  refine wpAny_Call_Name_kw (ld_glob I hg c.g ?_ hdb)
  refine PySem.W.callWith_K (h₀ := X.base) I.ok.mod.kin M.kp (thn (ha.run pos pins s σ H _ I h) fun us s1 ⟨vs, H1, I1, r, q⟩ => ⟨I1.kIn, ?_⟩) he hpl
  exact run_mk c (hr.mono hk) hx I1 r q
theorem e_k0 (c : Fk X.prog X.w X.K X.mg X.base k x C sp) (hr : Room j X.A) (hk : k + 1 ≤ j := by decide) (hx : Passes (L2.CX X.prog X.w) X E := by exact passL) (hg : Gl X x := by rfl) (hdb : (x == ("__debug__" : Str)) = false := by decide) :
    PE X (.Call (.Name x p) [] [] pos) (fMake C sp E tNil) := by
  obtain ⟨f, G, M⟩ := c.ex
  refine ⟨fun pins s σ H Q I h => ?_⟩
  refine wpAny_Call_Name_kw (ld_glob I hg c.g ?_ hdb)
  exact PySem.W.callWith_K0 I.kIn M.kp (run_mk (us := []) c (hr.mono hk) hx I .nil h)
end
/-! ### own operators -/
structure OwnM (K : PySem.W.Frag) (C : Addr) (m : Str) (g : Addr) : Prop where
  at_ : PySem.W.findIn K (.ref C) m = some (some (.ref g))
  fn : PySem.W.isFn K (.ref g) = true
/-- both instances of the class at C -/
def rOwn2 (C : Addr) (sp : Sp) (E : XK) : R2 := fun x y H Q => match x, y with
  | .ref a, .ref b => IsIns H a C ∧ IsIns H b C ∧ sp [.ref a, .ref b] H Q E
  | _, _ => False
section
variable {X : Cx} {k j : Nat} {C g : Addr} {sp : Sp} {E : XK} {pins : List (Addr × Obj)} {σ : L2.St} {H : Hp} {s : Shared}
theorem isins (I : Inv X pins σ H s) {a : Addr} (h : IsIns H a C) : ∃ dx od, PySem.W.InstAt s.heap a (PySem.W.instObj C dx) C (some od) := by
  obtain ⟨dx, fs, ea⟩ := h
  obtain ⟨mA, O, _, _, _, _⟩ := ins_get I.hok ea
  obtain ⟨od, J, _⟩ := O.look
  exact ⟨dx, od, J⟩
theorem o_ownCmp {op : CmpOp} (hop : ∀ a b, compareOp op a b = richCompare op a b) (o : OwnM X.K C (cmpInfo op).2.1 g) (G2 : F.Fr X.prog X.w X.K X.mg X.base k g sp) (hr : Room j X.A) (hk : k ≤ j := by decide) (hx : Passes (L2.CX X.prog X.w) X E := by exact passL) :
    OpR X (compareOp op) (rOwn2 C sp E) := by
  intro pins s σ H x y v u Q I rx ry h
  unfold rOwn2 at h
  split at h
  · rename_i a b
    obtain ⟨ha, hb, q⟩ := h
    obtain rfl : v = Value.ref a := rx
    obtain rfl : u = Value.ref b := ry
    obtain ⟨dx, od, J⟩ := isins I ha
    obtain ⟨dy, od', J'⟩ := isins I hb
    obtain ⟨m, hF⟩ := I.fr
    rw [hop]
    refine PySem.W.cmp_K (op := op) (tb := .ref C) hr.units0 hF I.ok.mod.kin J J'.type (by unfold PySem.W.notFirst; rw [beq_self_eq_true]; rfl) o.at_ o.fn ?_
    refine wpAny_mono (wpAny_call (run_fnR (us := [.ref a, .ref b]) (vs := [.ref a, .ref b]) G2 (hr.mono hk) hx I (.cons rfl (.cons rfl .nil)) q)) (fun w' s' z => ?_) fun _ _ x => x
    obtain ⟨z', H', I', rz, qz⟩ := z
    exact SlX.cmpback rz ⟨z', H', I', rz, qz⟩
  · exact h.elim
theorem o_ownBin {op : Operator} (hc : PySem.W.selfFirst X.K C = true) (o : OwnM X.K C (PySem.dunder op.info.2) g) (G2 : F.Fr X.prog X.w X.K X.mg X.base k g sp) (hr : Room j X.A) (hk : k ≤ j := by decide) (hx : Passes (L2.CX X.prog X.w) X E := by exact passL) :
    OpR X (binaryOp op) (rOwn2 C sp E) := by
  intro pins s σ H x y v u Q I rx ry h
  unfold rOwn2 at h
  split at h
  · rename_i a b
    obtain ⟨ha, hb, q⟩ := h
    obtain rfl : v = Value.ref a := rx
    obtain rfl : u = Value.ref b := ry
    obtain ⟨dx, od, J⟩ := isins I ha
    obtain ⟨dy, od', J'⟩ := isins I hb
    obtain ⟨m, hF⟩ := I.fr
    refine PySem.W.binop_K hF I.ok.mod.kin J J'.type hc o.at_ o.fn ?_
    refine wpAny_mono (wpAny_call (run_fnR (us := [.ref a, .ref b]) (vs := [.ref a, .ref b]) G2 (hr.mono hk) hx I (.cons rfl (.cons rfl .nil)) q)) (fun w' s' z => ?_) fun _ _ x => x
    obtain ⟨z', H', I', rz, qz⟩ := z
    exact SlX.cmpback rz ⟨z', H', I', rz, qz⟩
  · exact h.elim
/-- x op= y, x an instance with the in-place def, y anything -/
def rOwnI (C : Addr) (sp : Sp) (E : XK) : TIp := fun x y H Q => match x with
  | .ref a => IsIns H a C ∧ sp [.ref a, y] H Q E
  | _ => False
theorem o_ownI {op : Operator} (hc : PySem.W.selfFirst X.K C = true) (o : OwnM X.K C (dunderI op.info.2) g) (G2 : F.Fr X.prog X.w X.K X.mg X.base k g sp) (hr : Room j X.A) (hk : k ≤ j := by decide) (hx : Passes (L2.CX X.prog X.w) X E := by exact passL) :
    PIp X op (rOwnI C sp E) := by
  intro pins s σ H x y v u Q I rx ry h
  unfold rOwnI at h
  split at h
  · rename_i a
    obtain ⟨ha, q⟩ := h
    obtain rfl : v = Value.ref a := rx
    obtain ⟨dx, od, J⟩ := isins I ha
    obtain ⟨m, hF⟩ := I.fr
    refine PySem.W.ksp_inplace hF I.ok.mod.kin J hc o.at_ o.fn ?_
    refine wpAny_mono (wpAny_call (run_fnR (us := [.ref a, u]) (vs := [.ref a, y]) G2 (hr.mono hk) hx I (.cons rfl (.cons ry .nil)) q)) (fun w' s' z => ?_) fun _ _ x => x
    obtain ⟨z', H', I', rz, qz⟩ := z
    exact SlX.cmpback rz ⟨z', H', I', rz, qz⟩
  · exact h.elim
end
end F
set_option maxHeartbeats 2000000
/-! F3: != by an own ==; texts with fields; displays with stars; keywords alone. -/
namespace F
open PySem PySem.Spec PyProof.Rows L2
section
variable {prog : Program} {w : World} {M : Model} {A : Around} {E : Value → Shared → Prop} {s : Shared} {K : PySem.W.Frag} {x C f : Addr} {ox : Obj} {od : Option Obj} {b : Value}
theorem ifBound_B {name : Str} {id : String} {args : List Value} {Q : Option Value → Shared → Prop} (X : K.In s.heap) (I : PySem.W.InstAt s.heap x ox C od) (hs : PySem.W.findIn K (.ref C) name = some (some (.builtin id)))
    (hb : ∀ self, bindSpecial (.builtin id) self = pure (.builtin id, [self])) (h : wpAny M A (call (.builtin id) (.ref x :: args)) (fun v => Q (some v)) E s) : wpAny M A (callSpecialIfBound? (.ref x) name args) Q E s := by
  simp only [callSpecialIfBound?, bindSpecialIfBound?]
  refine wpAny_holding (wpAny_bind (wpAny_bind (wpAny_bind (I.type.here ((PySem.W.looks_findIn X hs).here ?_)))))
  refine wpAny_bind (wpAny_askSetting (wpAny_ite ?_))
  have fin : wpAny M A (call (.builtin id) ([.ref x] ++ args) >>= fun v => pure (some v)) Q E s := wpAny_bind (wpAny_mono h (fun v s' h' => wpAny_pure h') fun _ _ h' => h')
  split
  · exact wpAny_bind ((PySem.W.Looks.of_pure (hb _)).here (wpAny_pure (by exact fin)))
  · exact wpAny_tryCatch (wpAny_bind ((PySem.W.Looks.of_pure (hb _)).here (wpAny_pure (by exact fin))))
theorem own_ne {Q : Value → Shared → Prop} (hu : A.units + 1 < cLine) (X : K.In s.heap) (I : PySem.W.InstAt s.heap x ox C od) (hb : PySem.W.Looks (model prog w) s.heap (typeOf b) (.ref C))
    (hne : PySem.W.findIn K (.ref C) "__ne__" = some (some (.builtin "object.__ne__"))) (hm : PySem.W.mroIn K C (.type "object") = some true) (heq : PySem.W.findIn K (.ref C) "__eq__" = some (some (.ref f))) (hf : PySem.W.isFn K (.ref f) = true)
    (h : wpAny (model prog w) A.in1 (call (.ref f) [.ref x, b]) (fun v s' => ∃ k, v = .bool k ∧ Q (.bool (!k)) s') E s) : wpAny (model prog w) A (richCompare .NotEq (.ref x) b) Q E s := by
  have one : wpAny (model prog w) A (tryCompare (.ref x) (cmpInfo .NotEq).2.1 b) (fun r s' => ∃ v, r = some v ∧ Q v s') E s := by
    unfold tryCompare
    refine wpAny_bind (m := callSpecialIfBound? (.ref x) _ [b]) (ifBound_B X I hne PySem.F.slot_object_ne.bind ?_)
    refine wpAny_call (codeAny_call_builtin PySem.F.slot_object_ne.plain PySem.F.entry_object_ne (PySem.W.check_slot (i := "object.__ne__") (owner := "object") (n := "__ne__") (by decide +kernel) (by decide +kernel) (I.type.andThen (PySem.W.looks_mroIn X hm)) (PySem.F.args_object_ne_2 _ _) ?_))
    unfold Builtin.«object.__ne__»
    refine wpAny_bind (wpAny_pure ?_)
    refine wpAny_bind (m := cRoomFor _ _) (wpAny_cRoomFor (show A.in1.units < cLine from hu) ?_)
    refine wpAny_bind (m := callSpecialIfBound? (.ref x) (Str.ofString "__eq__") _) (PySem.W.ifBound_K X I heq hf (wpAny_mono h (fun r s' hq => ?_) fun _ _ y => y))
    obtain ⟨k, rfl, hq⟩ := hq
    repeat (first | exact ⟨_, rfl, hq⟩ | exact wpAny_pure ⟨_, rfl, hq⟩ | exact wpAny_pure (wpAny_pure ⟨_, rfl, hq⟩) | refine wpAny_bind (m := truthy (.bool _)) (wpAny_truthy_bool ?_) | refine wpAny_pure ?_ | refine wpAny_bind (wpAny_pure ?_) | wp_step)
  unfold richCompare
  simp only [oneThing_ref]
  refine wpAny_holding (wpAny_bind (wpAny_cRoomFor (Nat.lt_of_succ_lt hu) ?_))
  refine wpAny_bind (I.type.here (wpAny_bind (hb.here ?_)))
  split
  · rename_i q
    simp at q
  · refine wpAny_bind (wpAny_pure ?_)
    simp only [Bool.false_eq_true, if_false]
    refine wpAny_bind (wpAny_mono one (fun r s' z => ?_) fun _ _ e => e)
    obtain ⟨v, rfl, hq⟩ := z
    exact wpAny_pure hq
end
/-- both instances of the class at C; sp: its own == -/
def rOwnNe (C : Addr) (sp : Sp) : R2 := fun x y H Q => match x, y with
  | .ref a, .ref b => IsIns H a C ∧ IsIns H b C ∧ sp [.ref a, .ref b] H (fun v H' => ∃ k, v = .bl k ∧ Q (.bl (!k)) H') E0
  | _, _ => False
structure NeC (K : PySem.W.Frag) (C : Addr) : Prop where
  ne : PySem.W.findIn K (.ref C) "__ne__" = some (some (.builtin "object.__ne__"))
  ob : PySem.W.mroIn K C (.type "object") = some true
section
variable {X : Cx} {k j : Nat} {C g : Addr} {sp : Sp} {E : XK}
theorem o_ownNe (n : NeC X.K C) (o : OwnM X.K C "__eq__" g) (G2 : F.Fr X.prog X.w X.K X.mg X.base k g sp) (hr : Room j X.A) (hk : k + 1 ≤ j := by decide) : OpR X (compareOp .NotEq) (rOwnNe C sp) := by
  intro pins s σ H x y v u Q I rx ry h
  unfold rOwnNe at h
  split at h
  · rename_i a b
    obtain ⟨ha, hb, q⟩ := h
    obtain rfl : v = Value.ref a := rx
    obtain rfl : u = Value.ref b := ry
    obtain ⟨dx, od, J⟩ := isins I ha
    obtain ⟨dy, od', J'⟩ := isins I hb
    have hr1 : Room k X.A.in1 := (hr.mono hk).in1
    unfold compareOp
    refine own_ne (by have := hr.units; omega) I.kIn J J'.type n.ne n.ob o.at_ o.fn ?_
    refine wpAny_mono (wpAny_call (SlX.run_at (us := [.ref a, .ref b]) (ws := [.ref a, .ref b]) G2 hr1 I.env0.in1 passL I (.cons rfl (.cons rfl .nil)) q)) (fun w' s' z => ?_) fun _ _ x => x
    obtain ⟨z', H', I', rz, k', e, qz⟩ := z
    subst e
    obtain rfl : w' = Value.bool k' := rz
    exact ⟨k', rfl, .bl (!k'), H', I', rfl, qz⟩
  · exact h.elim
end
/-! ### texts with fields -/
/-- {x}: a text, an int, an instance of the class at C by its own __str__ -/
def fFmt (te : TE) : TE := fun σ H Q => te σ H fun x H1 => match x with
  | .str y => y.length ≤ sizeLine ∧ Q (.str y) H1
  | .int i => i.natAbs.log2 < 1920 ∧ Q (.str (toString i)) H1
  | _ => False
def fFmtO (C : Addr) (sp : Sp) (te : TE) : TE := fun σ H Q => te σ H fun x H1 => match x with
  | .ref a => IsIns H1 a C ∧ sp [.ref a] H1 (fun v H2 => ∃ z, v = .str z ∧ Q (.str z) H2) E0
  | _ => False
structure FmtC (K : PySem.W.Frag) (C : Addr) : Prop where
  fm : PySem.W.findIn K (.ref C) "__format__" = some (some (.builtin "object.__format__"))
  ob : PySem.W.mroIn K C (.type "object") = some true
/-- digits of a whole number, at least W, zeros ahead -/
def zpad (W : Nat) (i : Int) : Str := (⟨(List.replicate (W - (Nat.toDigits 10 i.natAbs).length) 48).toArray⟩ : Str) ++ Str.ofString (toString i)
/-- {x:0Wd} -/
def fFmtZ (W : Nat) (te : TE) : TE := fun σ H Q => te σ H fun x H1 => match x with
  | .int i => (0 ≤ i ∧ i < 10 ^ 10) ∧ Q (.str (zpad W i)) H1
  | _ => False
section
variable {X : Cx} {e : Expr} {te : TE} {pos : Pos} {k j : Nat} {C g : Addr} {sp : Sp}
theorem e_fmt (he : PE X e te) : PE X (.FormattedValue e (-1) none pos) (fFmt te) := by
  refine ⟨fun pins s σ H Q I h => ?_⟩
  refine wpAny_FormattedValue_plain (thn (he.run pins s σ H _ I h) fun v s1 hv => ?_)
  obtain ⟨x, H1, I1, r1, q⟩ := hv
  cases x with
  | str y =>
    obtain ⟨t, rfl⟩ := r1
    exact wpAny_formatField_str ⟨.str y, H1, I1, ⟨t, rfl⟩, q.2⟩ ⟨.str y, H1, I1.tok _, ⟨_, rfl⟩, q.2⟩ q.1
  | int i =>
    obtain ⟨t, rfl⟩ := r1
    exact wpAny_formatField_int q.1 ⟨.str (toString i), H1, I1.tok _, ⟨_, rfl⟩, q.2⟩
  | _ => exact q.elim
theorem strback {P : Value → Shared → Prop} {z : Str} {v : Value} {s' : Shared} (r : RelV (.str z) v) (h : ∀ t, P (.str z t) s') : PySem.W.StrBack P v s' := by
  obtain ⟨t, rfl⟩ := r
  exact h t
theorem e_fmtO (c : FmtC X.K C) (o : OwnM X.K C "__str__" g) (G2 : F.Fr X.prog X.w X.K X.mg X.base k g sp) (hr : Room j X.A) (he : PE X e te) (hk : k + 1 ≤ j := by decide) : PE X (.FormattedValue e (-1) none pos) (fFmtO C sp te) := by
  refine ⟨fun pins s σ H Q I h => ?_⟩
  refine wpAny_FormattedValue_plain (thn (he.run pins s σ H _ I h) fun v s1 hv => ?_)
  obtain ⟨x, H1, I1, r1, q⟩ := hv
  cases x with
  | ref a =>
    obtain rfl : v = Value.ref a := r1
    obtain ⟨ha, q⟩ := q
    obtain ⟨dx, od, J⟩ := isins I1 ha
    have hr1 : Room k X.A.in1 := (hr.mono hk).in1
    have I2 := I1.tok (s1.toks + 1)
    refine PySem.W.kfo_fieldS (show X.A.in1.units < cLine from by have := hr1.units; omega) I1.kIn J c.fm c.ob o.at_ o.fn ?_
    refine wpAny_mono (wpAny_call (SlX.run_at (us := [.ref a]) (ws := [.ref a]) G2 hr1 I2.env0.in1 passL I2 (.cons rfl .nil) q)) (fun w' s' z => ?_) fun _ _ x => x
    obtain ⟨z', H', I', rz, z, e, qz⟩ := z
    subst e
    exact strback rz fun t => ⟨.str z, H', I', ⟨t, rfl⟩, qz⟩
  | _ => exact q.elim
end
end F
set_option maxHeartbeats 2000000
/-! F4: built-in functions by values, constants, chains, fields of numbers. -/
namespace F
open PySem PySem.Spec PyProof.Rows L2
theorem CallR.or {X : Cx} {f : Value} {r r' : List V → Hp → VK → Prop} (h : CallR X f r) (h' : CallR X f r') : CallR X f (fun xs H Q => r xs H Q ∨ r' xs H Q) := fun pins s σ H xs us Q I rv z => z.elim (fun z => h pins s σ H xs us Q I rv z) fun z => h' pins s σ H xs us Q I rv z
/-! ### len, int, str, list, tuple, abs -/
def rLenF (K : PySem.W.Frag) : List V → Hp → VK → Prop := fun xs H Q => match xs with
  | [.str z] => z.length ≤ sizeLine ∧ Q (.int z.length) H
  | [.ref a] => (∃ ys, (SqL K H a ys ∨ SqT K H a ys) ∧ Q (.int ys.length) H) ∨ ∃ kvs, H a = some (.dK kvs) ∧ Q (.int kvs.length) H
  | _ => False
def rIntF : List V → Hp → VK → Prop := fun xs H Q => match xs with
  | [.int i] => Q (.int i) H
  | [.bl k] => Q (.int (if k then 1 else 0)) H
  | [.str a] => ∃ n, PySem.intText? a = some n ∧ a.length ≤ 640 ∧ Q (.int n) H
  | _ => False
def rStrF : List V → Hp → VK → Prop := fun xs H Q => match xs with
  | [.int i] => i.natAbs.log2 < 1920 ∧ Q (.str (toString i)) H
  | _ => False
@[irreducible] def absI (i : Int) : Int := if i < 0 then -i else i
theorem absI_nn (i : Int) : 0 ≤ absI i := by
  unfold absI
  split <;> omega
def rAbsF : List V → Hp → VK → Prop := fun xs H Q => match xs with
  | [.int i] => Q (.int (absI i)) H
  | _ => False
def rListF (K : PySem.W.Frag) : List V → Hp → VK → Prop := fun xs H Q => match xs with
  | [.ref a] => ∃ ys, (SqL K H a ys ∨ SqT K H a ys) ∧ ∀ l, H l = none → Q (.ref l) (upd H l (.lst ys))
  | _ => False
def rTupF (K : PySem.W.Frag) : List V → Hp → VK → Prop := fun xs H Q => match xs with
  | [.ref a] => ∃ ys, SqL K H a ys ∧ ∀ l, H l = none → Q (.ref l) (upd H l (.tup ys))
  | _ => False
def rSumF (K : PySem.W.Frag) : List V → Hp → VK → Prop := fun xs H Q => match xs with
  | [.ref a] => ∃ ns : List Int, SqL K H a (ns.map V.int) ∧ Q (.int ns.sum) H
  | _ => False
def rAllF (K : PySem.W.Frag) : List V → Hp → VK → Prop := fun xs H Q => match xs with
  | [.ref a] => ∃ bs : List Bool, SqL K H a (bs.map V.bl) ∧ Q (.bl (bs.all id)) H
  | _ => False
def rAnyF (K : PySem.W.Frag) : List V → Hp → VK → Prop := fun xs H Q => match xs with
  | [.ref a] => ∃ bs : List Bool, SqL K H a (bs.map V.bl) ∧ Q (.bl (bs.any id)) H
  | _ => False
/-- sorted of whole numbers -/
def rSrtF (K : PySem.W.Frag) : List V → Hp → VK → Prop := fun xs H Q => match xs with
  | [.ref a] => ∃ ns : List Int, SqL K H a (ns.map V.int) ∧ ∀ (ms : List Int) p, ms.Perm ns → ms.Pairwise (· ≤ ·) → H p = none → Q (.ref p) (upd H p (.lst (ms.map V.int)))
  | _ => False
section
variable {X : Cx} {a : Expr} {ta : TE} {p pos : Pos} {x : Str}
theorem k_len : CallR X (.builtin "len") (rLenF X.K) := upC (CallR.or call_len call_lenD) fun xs H Q h => by
  unfold rLenF at h
  split at h
  · exact .inl ⟨_, _, rfl, ⟨h.1, rfl⟩, h.2⟩
  · rcases h with ⟨ys, hs, q⟩ | ⟨kvs, hd, q⟩
    · refine .inl ⟨_, _, rfl, ?_, q⟩
      rcases hs with hs | hs
      · exact .inl ⟨ys, hs, rfl⟩
      · exact .inr ⟨ys, hs, rfl⟩
    · exact .inr ⟨_, kvs, rfl, hd, q⟩
  · exact h.elim
theorem k_int : CallR X (.type "int") rIntF := upC (CallR.or call_int1 call_int_str) fun xs H Q h => by
  unfold rIntF at h
  split at h
  · exact .inl (.inl ⟨_, rfl, h⟩)
  · exact .inl (.inr ⟨_, rfl, h⟩)
  · obtain ⟨n, e, l, q⟩ := h
    exact .inr ⟨_, n, rfl, e, l, q⟩
  · exact h.elim
theorem k_str : CallR X (.type "str") rStrF := upC call_str_int fun xs H Q h => by
  unfold rStrF at h
  split at h
  · exact ⟨_, rfl, h⟩
  · exact h.elim
theorem k_abs : CallR X (.builtin "abs") rAbsF := upC call_abs fun xs H Q h => by
  unfold rAbsF at h
  split at h
  · unfold absI at h
    exact ⟨_, rfl, h⟩
  · exact h.elim
theorem k_list : CallR X (.type "list") (rListF X.K) := upC call_list_of fun xs H Q h => by
  unfold rListF at h
  split at h
  · obtain ⟨ys, z⟩ := h
    exact ⟨_, ys, rfl, z⟩
  · exact h.elim
theorem k_tuple : CallR X (.type "tuple") (rTupF X.K) := upC call_tuple_of fun xs H Q h => by
  unfold rTupF at h
  split at h
  · obtain ⟨ys, z⟩ := h
    exact ⟨_, ys, rfl, .inl z⟩
  · exact h.elim
theorem k_sum (hc : X.calm = true) : CallR X (.builtin "sum") (rSumF X.K) := upC (cr_sum hc) fun xs H Q h => by
  unfold rSumF at h
  split at h
  · obtain ⟨ys, z⟩ := h
    exact ⟨_, ys, rfl, z⟩
  · exact h.elim
theorem k_all (hc : X.calm = true) : CallR X (.builtin "all") (rAllF X.K) := upC (cr_all hc) fun xs H Q h => by
  unfold rAllF at h
  split at h
  · obtain ⟨ys, z⟩ := h
    exact ⟨_, ys, rfl, z⟩
  · exact h.elim
theorem k_any (hc : X.calm = true) : CallR X (.builtin "any") (rAnyF X.K) := upC (cr_any hc) fun xs H Q h => by
  unfold rAnyF at h
  split at h
  · obtain ⟨ys, z⟩ := h
    exact ⟨_, ys, rfl, z⟩
  · exact h.elim
theorem e_len (hm : X.mg "len" = none) (ha : PE X a ta) (hg : Gl X "len" := by rfl) (hs : starEach (a :: []) X.env = (false, eval a X.env) :: starEach [] X.env := by rfl) : PE X (.Call (.Name "len" p) [a] [] pos) (tCB (rLenF X.K) (tCons ta tNil)) :=
  pe_callB k_len hg hm PySem.boot_len (pa_cons ha pa_nil hs) (he := hs)
theorem e_abs (hm : X.mg "abs" = none) (ha : PE X a ta) (hg : Gl X "abs" := by rfl) (hs : starEach (a :: []) X.env = (false, eval a X.env) :: starEach [] X.env := by rfl) : PE X (.Call (.Name "abs" p) [a] [] pos) (tCB rAbsF (tCons ta tNil)) :=
  pe_callB k_abs hg hm (by decide +kernel) (pa_cons ha pa_nil hs) (he := hs)
theorem e_int (hm : X.mg "int" = none) (ha : PE X a ta) (hg : Gl X "int" := by rfl) (hs : starEach (a :: []) X.env = (false, eval a X.env) :: starEach [] X.env := by rfl) : PE X (.Call (.Name "int" p) [a] [] pos) (tCB rIntF (tCons ta tNil)) :=
  pe_callTy k_int hg hm (by decide +kernel) (pa_cons ha pa_nil hs) (he := hs)
theorem e_str (hm : X.mg "str" = none) (ha : PE X a ta) (hg : Gl X "str" := by rfl) (hs : starEach (a :: []) X.env = (false, eval a X.env) :: starEach [] X.env := by rfl) : PE X (.Call (.Name "str" p) [a] [] pos) (tCB rStrF (tCons ta tNil)) :=
  pe_callTy k_str hg hm (by decide +kernel) (pa_cons ha pa_nil hs) (he := hs)
theorem e_list (hm : X.mg "list" = none) (ha : PE X a ta) (hg : Gl X "list" := by rfl) (hs : starEach (a :: []) X.env = (false, eval a X.env) :: starEach [] X.env := by rfl) : PE X (.Call (.Name "list" p) [a] [] pos) (tCB (rListF X.K) (tCons ta tNil)) :=
  pe_callTy k_list hg hm (by decide +kernel) (pa_cons ha pa_nil hs) (he := hs)
theorem e_tuple (hm : X.mg "tuple" = none) (ha : PE X a ta) (hg : Gl X "tuple" := by rfl) (hs : starEach (a :: []) X.env = (false, eval a X.env) :: starEach [] X.env := by rfl) : PE X (.Call (.Name "tuple" p) [a] [] pos) (tCB (rTupF X.K) (tCons ta tNil)) :=
  pe_callTy k_tuple hg hm (by decide +kernel) (pa_cons ha pa_nil hs) (he := hs)
theorem e_sum (hc : X.calm = true) (hm : X.mg "sum" = none) (ha : PE X a ta) (hg : Gl X "sum" := by rfl) (hs : starEach (a :: []) X.env = (false, eval a X.env) :: starEach [] X.env := by rfl) : PE X (.Call (.Name "sum" p) [a] [] pos) (tCB (rSumF X.K) (tCons ta tNil)) :=
  pe_callB (k_sum hc) hg hm (by decide +kernel) (pa_cons ha pa_nil hs) (he := hs)
theorem e_all (hc : X.calm = true) (hm : X.mg "all" = none) (ha : PE X a ta) (hg : Gl X "all" := by rfl) (hs : starEach (a :: []) X.env = (false, eval a X.env) :: starEach [] X.env := by rfl) : PE X (.Call (.Name "all" p) [a] [] pos) (tCB (rAllF X.K) (tCons ta tNil)) :=
  pe_callB (k_all hc) hg hm (by decide +kernel) (pa_cons ha pa_nil hs) (he := hs)
theorem e_any (hc : X.calm = true) (hm : X.mg "any" = none) (ha : PE X a ta) (hg : Gl X "any" := by rfl) (hs : starEach (a :: []) X.env = (false, eval a X.env) :: starEach [] X.env := by rfl) : PE X (.Call (.Name "any" p) [a] [] pos) (tCB (rAnyF X.K) (tCons ta tNil)) :=
  pe_callB (k_any hc) hg hm (by decide +kernel) (pa_cons ha pa_nil hs) (he := hs)
theorem e_g {v : V} (h : ∃ u, X.mg x = some u ∧ RelV v u) (hg : Gl X x := by rfl) (hd : (x == ("__debug__" : Str)) = false := by decide) : PE X (.Name x pos) (tC v) := by
  obtain ⟨u, hm, r⟩ := h
  exact pe_glob hg hm r hd
/-- a built-in type as a value -/
theorem e_ty {n : String} (hm : X.mg x = none) (hv : bootBuiltins x = some (.type n)) (hg : Gl X x := by rfl) (hn : x ≠ "__name__" := by decide) (hd : (x == ("__debug__" : Str)) = false := by decide) : PE X (.Name x pos) (tC (.ty n)) :=
  pe_bltn hg hm hv rfl hn hd
end
/-! ### a chain of two comparisons -/
def fChain (r r' : R2) (ta tb tc : TE) : TE := fun σ H Q => ta σ H fun x H1 => tb σ H1 fun y H2 => r x y H2 fun z H3 => match z with
  | .bl k => Cond k (tc σ H3 fun w' H4 => r' y w' H4 Q) (Q (.bl false) H3)
  | _ => False
section
variable {X : Cx} {a b c : Expr} {ta tb tc : TE} {pos : Pos} {op op' : CmpOp}
theorem e_chain {r r' : R2} (ho : OpR X (compareOp op) r) (ho' : OpR X (compareOp op') r') (ha : PE X a ta) (hb : PE X b tb) (hc : PE X c tc)
    (hm : lastMarks [op, op'] [b, c] = false := by with_unfolding_all rfl) : PE X (.Compare a [op, op'] [b, c] pos) (fChain r r' ta tb tc) := by
  refine ⟨fun pins s σ H Q I h => ?_⟩
  refine Compare_chain (thn (ha.run pins s σ H _ I h) fun v s1 ⟨x, H1, I1, r1, q1⟩ => chain_link (thn (hb.run pins s1 σ H1 _ I1 q1) fun u s2 ⟨y, H2, I2, r2, q2⟩ =>
    thn (ho pins s2 σ H2 x y v u _ I2 r1 r2 q2) fun d s3 ⟨z, H3, I3, r3, q3⟩ => ?_)) hm
  cases z with
  | bl k =>
    cases r3
    refine wpAny_truthy_bool ?_
    cases k with
    | false => exact ite_ff ⟨.bl false, H3, I3, rfl, q3.f rfl⟩
    | true => exact ite_tt (chain_last (thn (hc.run pins s3 σ H3 _ I3 (q3.t rfl)) fun w' s4 ⟨z', H4, I4, r4, q4⟩ => ho' pins s4 σ H4 y z' u w' Q I4 r2 r4 q4))
  | _ => exact q3.elim
/-- .. as a test -/
theorem t_chain {r r' : R2} (ho : OpR X (compareOp op) r) (ho' : OpR X (compareOp op') r') (ha : PE X a ta) (hb : PE X b tb) (hc : PE X c tc)
    (hm : lastMarks [op, op'] [b, c] = false := by with_unfolding_all rfl) : PT X (.Compare a [op, op'] [b, c] pos) (fB (fChain r r' ta tb tc)) := by
  refine ⟨fun pins s σ H Q I h => ?_⟩
  refine isTrue_chain (thn (ha.run pins s σ H _ I h) fun v s1 ⟨x, H1, I1, r1, q1⟩ => test_link (thn (hb.run pins s1 σ H1 _ I1 q1) fun u s2 ⟨y, H2, I2, r2, q2⟩ =>
    thn (ho pins s2 σ H2 x y v u _ I2 r1 r2 q2) fun d s3 ⟨z, H3, I3, r3, q3⟩ => ?_)) hm
  cases z with
  | bl k =>
    cases r3
    refine wpAny_truthy_bool ?_
    cases k with
    | false => exact ite_ff ⟨H3, I3, q3.f rfl⟩
    | true =>
      refine ite_tt (test_last (thn (hc.run pins s3 σ H3 _ I3 (q3.t rfl)) fun w' s4 ⟨z', H4, I4, r4, q4⟩ => thn (ho' pins s4 σ H4 y z' u w' _ I4 r2 r4 q4) fun d' s5 ⟨z2, H5, I5, r5, q5⟩ => ?_))
      cases z2 with
      | bl k2 =>
        cases r5
        exact wpAny_truthy_bool ⟨H5, I5, q5⟩
      | _ => exact q5.elim
  | _ => exact q3.elim
end
end F
set_option maxHeartbeats 2000000
/-! F5: isinstance, sorted, what a def is. -/
namespace F
open PySem PySem.Spec PyProof.Rows L2
/-- an object that is no T -/
def NotTy (K : PySem.W.Frag) (H : Hp) (a : Addr) (c : Value) : Prop := ∃ t, TyX K H (.ref a) t ∧ PySem.W.kitOne K t c = some false
def rIsTy (K : PySem.W.Frag) (T : String) (bI bB bS bN : Bool) : List V → Hp → VK → Prop := fun xs H Q => match xs with
  | [x, .ty n] => n = T ∧ match x with
    | .int _ => Q (.bl bI) H
    | .bl _ => Q (.bl bB) H
    | .str _ => Q (.bl bS) H
    | .non => Q (.bl bN) H
    | .ref a => NotTy K H a (.type T) ∧ Q (.bl false) H
    | _ => False
  | _ => False
/-- what isinstance(.., C) asks of the class at C -/
structure IsC (K : PySem.W.Frag) (C : Addr) : Prop where
  cl : Cls K C
  ha : PySem.W.findIn K (.ref C) "__class__" = some (some (.builtin "object.__class__"))
  hn : PySem.W.specialIn K (.builtin "object.__class__") "__get__" = some (some (.builtin "getset_descriptor.__get__"))
  htk : PySem.W.takesIn K (.builtin "object.__class__") = some true
  hm : PySem.W.mroIn K C (.type "object") = some true
  me : PySem.W.kitOne K (.ref C) (.ref C) = some true
  i : PySem.W.kitOne K (.type "int") (.ref C) = some false
  b : PySem.W.kitOne K (.type "bool") (.ref C) = some false
  s : PySem.W.kitOne K (.type "str") (.ref C) = some false
  n : PySem.W.kitOne K (.type "NoneType") (.ref C) = some false
theorem IsC.ty {K : PySem.W.Frag} {C D : Addr} {H : Hp} {a : Addr} (c : IsC K D) (h : IsIns H a D) (no : PySem.W.kitOne K (.ref D) (.ref C) = some false) : NotTy K H a (.ref C) := by
  obtain ⟨dx, fs, e⟩ := h
  exact ⟨_, .base (.ins e c.cl c.ha c.hn c.htk c.hm), no⟩
def rIsC (K : PySem.W.Frag) (C : Addr) : List V → Hp → VK → Prop := fun xs H Q => match xs with
  | [x, .ref c] => c = C ∧ match x with
    | .int _ => Q (.bl false) H
    | .bl _ => Q (.bl false) H
    | .str _ => Q (.bl false) H
    | .non => Q (.bl false) H
    | .ref a => (IsIns H a C ∧ Q (.bl true) H) ∨ (NotTy K H a (.ref C) ∧ Q (.bl false) H)
    | _ => False
  | _ => False
section
variable {X : Cx} {a : Expr} {ta : TE} {p p2 pos : Pos} {x : Str} {C : Addr}
theorem k_isTy {T : String} {bI bB bS bN : Bool} (hI : kitB "int" T = some bI) (hB : kitB "bool" T = some bB) (hS : kitB "str" T = some bS) (hN : kitB "NoneType" T = some bN) : CallR X (.builtin "isinstance") (rIsTy X.K T bI bB bS bN) := upC call_isi fun xs H Q h => by
  unfold rIsTy at h
  split at h
  · rename_i x n
    obtain ⟨e, h⟩ := h
    subst e
    split at h
    · exact ⟨_, _, _, _, _, rfl, .ty _, .base (.int _), kit_ty hI, h⟩
    · exact ⟨_, _, _, _, _, rfl, .ty _, .base (.bl _), kit_ty hB, h⟩
    · exact ⟨_, _, _, _, _, rfl, .ty _, .base (.str _), kit_ty hS, h⟩
    · exact ⟨_, _, _, _, _, rfl, .ty _, .base .non, kit_ty hN, h⟩
    · obtain ⟨⟨t, ht, hk⟩, q⟩ := h
      exact ⟨_, _, t, _, _, rfl, .ty _, ht, hk, q⟩
    · exact h.elim
  · exact h.elim
theorem k_isC (c : IsC X.K C) : CallR X (.builtin "isinstance") (rIsC X.K C) := upC call_isi fun xs H Q h => by
  unfold rIsC at h
  split at h
  · rename_i x n
    obtain ⟨e, h⟩ := h
    subst e
    split at h
    · exact ⟨_, _, _, _, _, rfl, .own _, .base (.int _), c.i, h⟩
    · exact ⟨_, _, _, _, _, rfl, .own _, .base (.bl _), c.b, h⟩
    · exact ⟨_, _, _, _, _, rfl, .own _, .base (.str _), c.s, h⟩
    · exact ⟨_, _, _, _, _, rfl, .own _, .base .non, c.n, h⟩
    · rcases h with ⟨⟨dx, fs, e⟩, q⟩ | ⟨⟨t, ht, hk⟩, q⟩
      · exact ⟨_, _, _, _, _, rfl, .own _, .base (.ins e c.cl c.ha c.hn c.htk c.hm), c.me, q⟩
      · exact ⟨_, _, t, _, _, rfl, .own _, ht, hk, q⟩
    · exact h.elim
  · exact h.elim
theorem e_isTy {y : Str} {T : String} {bI bB bS bN : Bool} (hI : kitB "int" T = some bI) (hB : kitB "bool" T = some bB) (hS : kitB "str" T = some bS) (hN : kitB "NoneType" T = some bN) (hv : bootBuiltins y = some (.type T)) (hm : X.mg y = none) (hi : X.mg "isinstance" = none) (ha : PE X a ta)
    (hg : Gl X "isinstance" := by rfl) (hg2 : Gl X y := by rfl) (hn : y ≠ "__name__" := by decide) (hd : (y == ("__debug__" : Str)) = false := by decide)
    (he : starEach (a :: [.Name y p2]) X.env = (false, eval a X.env) :: starEach [.Name y p2] X.env := by rfl) (he2 : starEach [.Name y p2] X.env = (false, eval (.Name y p2) X.env) :: starEach [] X.env := by rfl)
    (hpl : (backTo pos (starEach [.Name y p2] X.env)).any (·.1) = false := by rfl) :
    PE X (.Call (.Name "isinstance" p) [a, .Name y p2] [] pos) (tCB (rIsTy X.K T bI bB bS bN) (tCons ta (tCons (tC (.ty T)) tNil))) :=
  pe_callB (k_isTy hI hB hS hN) hg hi (by decide +kernel) (pa_cons ha (pa_cons (e_ty hm hv hg2 hn hd) pa_nil he2) he) (he := he) (hpl := hpl)
theorem e_is_int (hm : X.mg "int" = none) (hi : X.mg "isinstance" = none) (ha : PE X a ta)
    (hg : Gl X "isinstance" := by rfl) (hg2 : Gl X "int" := by rfl) (he : starEach (a :: [.Name "int" p2]) X.env = (false, eval a X.env) :: starEach [.Name "int" p2] X.env := by rfl) :
    PE X (.Call (.Name "isinstance" p) [a, .Name "int" p2] [] pos) (tCB (rIsTy X.K "int" true true false false) (tCons ta (tCons (tC (.ty "int")) tNil))) :=
  e_isTy (by decide +kernel) (by decide +kernel) (by decide +kernel) (by decide +kernel) (by decide +kernel) hm hi ha hg hg2 (he := he) (he2 := by rfl) (hpl := by rfl)
theorem e_is_bool (hm : X.mg "bool" = none) (hi : X.mg "isinstance" = none) (ha : PE X a ta)
    (hg : Gl X "isinstance" := by rfl) (hg2 : Gl X "bool" := by rfl) (he : starEach (a :: [.Name "bool" p2]) X.env = (false, eval a X.env) :: starEach [.Name "bool" p2] X.env := by rfl) :
    PE X (.Call (.Name "isinstance" p) [a, .Name "bool" p2] [] pos) (tCB (rIsTy X.K "bool" false true false false) (tCons ta (tCons (tC (.ty "bool")) tNil))) :=
  e_isTy (by decide +kernel) (by decide +kernel) (by decide +kernel) (by decide +kernel) (by decide +kernel) hm hi ha hg hg2 (he := he) (he2 := by rfl) (hpl := by rfl)
theorem e_is_str (hm : X.mg "str" = none) (hi : X.mg "isinstance" = none) (ha : PE X a ta)
    (hg : Gl X "isinstance" := by rfl) (hg2 : Gl X "str" := by rfl) (he : starEach (a :: [.Name "str" p2]) X.env = (false, eval a X.env) :: starEach [.Name "str" p2] X.env := by rfl) :
    PE X (.Call (.Name "isinstance" p) [a, .Name "str" p2] [] pos) (tCB (rIsTy X.K "str" false false true false) (tCons ta (tCons (tC (.ty "str")) tNil))) :=
  e_isTy (by decide +kernel) (by decide +kernel) (by decide +kernel) (by decide +kernel) (by decide +kernel) hm hi ha hg hg2 (he := he) (he2 := by rfl) (hpl := by rfl)
theorem e_isC (gC : X.mg x = some (.ref C)) (c : IsC X.K C) (hi : X.mg "isinstance" = none) (ha : PE X a ta) (hg : Gl X "isinstance" := by rfl) (hg2 : Gl X x := by rfl) (hd : (x == ("__debug__" : Str)) = false := by decide)
    (he : starEach (a :: [.Name x p2]) X.env = (false, eval a X.env) :: starEach [.Name x p2] X.env := by rfl) :
    PE X (.Call (.Name "isinstance" p) [a, .Name x p2] [] pos) (tCB (rIsC X.K C) (tCons ta (tCons (tC (.ref C)) tNil))) :=
  pe_callB (k_isC c) hg hi (by decide +kernel) (pa_cons ha (pa_cons (pe_glob hg2 gC rfl hd) pa_nil (by rfl)) he) (he := he) (hpl := by rfl)
/-- sorted of whole numbers, any number -/
theorem k_sorted : CallR X (.builtin "sorted") (rSrtF X.K) := upC cr_sortedI fun xs H Q h => by
  unfold rSrtF at h
  split at h
  · obtain ⟨ns, hs, q⟩ := h
    exact ⟨_, ns, rfl, hs, fun ms p hp hr hn => q ms p hp hr hn⟩
  · exact h.elim
theorem e_sorted (hm : X.mg "sorted" = none) (ha : PE X a ta) (hg : Gl X "sorted" := by rfl) (hs : starEach (a :: []) X.env = (false, eval a X.env) :: starEach [] X.env := by rfl) : PE X (.Call (.Name "sorted" p) [a] [] pos) (tCB (rSrtF X.K) (tCons ta tNil)) :=
  pe_callB k_sorted hg hm (by decide +kernel) (pa_cons ha pa_nil hs) (he := hs)
end
/-! ### a def keeps its promise -/
section
variable {P : Program} {w : World} {K : PySem.W.Frag} {mg : Str → Option Value} {base : Heap} {x qual : Str} {f C p : Addr} {fd : FuncData} {params : Arguments} {body : List Stmt} {scope : Scope} {N ps : List Str} {k : Nat} {sp : Sp} {dvs : List V}
abbrev BodyOk (P : Program) (w : World) (K : PySem.W.Frag) (mg : Str → Option Value) (base : Heap) (k : Nat) (f : Addr) (qual : Str) (scope : Scope) (N : List Str) (body : List Stmt) (sp : Sp) : Prop :=
  ∀ (cdv : Value) (A : Around) (outer : List Env) (s : Shared) (H : Hp) (vs : List V) (Q : VK) (E : XK), Room k (A.deeper (envOfC qual scope s.heap.objs.size f cdv)) → sp vs H Q E →
      ∃ t, PSs (cxOf (L2.CX P w) P w K mg base N qual scope f cdv A outer s H E) body t ∧ t { nx := fun _ H' => Q .non H', rt := Q } (start N vs) H
abbrev BindN (x qual : Str) (params : Arguments) (body : List Stmt) (scope : Scope) (ps : List Str) : Prop :=
  ∀ (kV doc pm : Value) (an : Option Addr) (cdv ct : Value) (us : List Value), us.length = ps.length → bindArgs (PySem.W.fnOf x qual params body scope .none kV doc pm an cdv ct) ⟨us, []⟩ = pure (ps.zip us)
/-- no defaults -/
theorem fr_mk (F1 : FunD K x qual params body scope [] [] f fd) (S : FnScope N ps scope) (len : ∀ vs H Q E, sp vs H Q E → vs.length = ps.length) (bd : BindN x qual params body scope ps) (hb : BodyOk P w K mg base k f qual scope N body sp) : F.Fr P w K mg base (k + 1) f sp :=
  (FnOk.raw (F1.ok S len hb) (F1.bindsN bd) .nil).imp (fun vs H Q E h => by rw [List.append_nil]; exact h)
end
end F
set_option maxHeartbeats 2000000
/-! F6: heaps, subscripts as functions, comprehensions by what each turn gives. -/
namespace F
open PySem PySem.Spec PyProof.Rows L2
section
variable {H H' H1 H2 : Hp} {a b p D : Addr} {o u : HO}
theorem upd_keep (hp : H p = none) (h : H a = some o) : upd H p u a = some o := by
  rw [upd_ne (ne_of_none h hp)]
  exact h
theorem sm (s : Same H H') (h : H a = some o) : H' a = some o := s _ _ h
theorem snew (hp : H p = none) : Same H (upd H p o) := fun b o h => upd_keep hp h
theorem sto (s : Same H H') (hp : H' p = none) : Same H (upd H' p o) := fun b o h => upd_keep hp (s _ _ h)
theorem sl {K : PySem.W.Frag} {xs : List V} (s : Same H H') (h : SqL K H a xs) : SqL K H' a xs := s.seq h
theorem st {K : PySem.W.Frag} {xs : List V} (s : Same H H') (h : SqT K H a xs) : SqT K H' a xs := by
  rcases h with (h | ⟨o, h⟩) | h
  · exact .inl (.inl (s _ _ h))
  · exact .inl (.inr ⟨o, s _ _ h⟩)
  · exact .inr h
/-- an object put into an address that the elder heap has not -/
theorem sput (s : Same H H') (hp : H p = none) : Same H (upd H' p o) := fun b o h => by
  rw [upd_ne (ne_of_none h hp)]
  exact s _ _ h
/-- the heap without what stands at D -/
def hide (D : Addr) (H : Hp) : Hp := fun b => if b = D then none else H b
theorem hide_ne (h : a ≠ D) : hide D H a = H a := if_neg h
theorem hide_at (h : H a = some o) (hD : H D = some u) (n : o ≠ u) : hide D H a = some o := (hide_ne (ne_of h hD n)).trans h
theorem hide_new (h : H a = none) (hD : H D = some u) (h' : H' a = some o) : hide D H' a = some o := (hide_ne (ne_of_none hD h).symm).trans h'
theorem hide_sub : Same (hide D H) H := fun b o h => by
  by_cases e : b = D
  · subst e
    unfold hide at h
    rw [if_pos rfl] at h
    cases h
  · rw [hide_ne e] at h
    exact h
theorem hide_mono (s : Same H H') : Same (hide D H) (hide D H') := fun b o h => by
  by_cases e : b = D
  · subst e
    unfold hide at h
    rw [if_pos rfl] at h
    cases h
  · rw [hide_ne e] at h ⊢
    exact s _ _ h
theorem hide_upd : hide D (upd H D o) = hide D H := by
  funext b
  by_cases e : b = D
  · subst e
    unfold hide
    rw [if_pos rfl, if_pos rfl]
  · rw [hide_ne e, hide_ne e, upd_ne e]
theorem hide_none (h : H D = none) : hide D H = H := by
  funext b
  by_cases e : b = D
  · subst e
    unfold hide
    rw [if_pos rfl, h]
  · rw [hide_ne e]
theorem line_of {n : Nat} (h : n ≤ 1000000) : n ≤ sizeLine := Nat.le_trans h (by decide)
theorem line_lt {n : Nat} (h : n ≤ 1000000) : n < sizeLine := Nat.lt_of_le_of_lt h (by decide)
end
/-! ### subscripts -/
def rIxTF (K : PySem.W.Frag) : R2 := fun x y H Q => match x, y with
  | .ref p, .int i => ∃ xs v, SqT K H p xs ∧ atI xs i = some v ∧ Q v H
  | _, _ => False
def rIxLF (K : PySem.W.Frag) : R2 := fun x y H Q => match x, y with
  | .ref p, .int i => ∃ xs v, SqL K H p xs ∧ atI xs i = some v ∧ Q v H
  | _, _ => False
def rIxSF : R2 := fun x y H Q => match x, y with
  | .str z, .int i => ∃ c, z.length ≤ sizeLine ∧ atI z.cps.toList i = some c ∧ Q (.str ⟨#[c]⟩) H
  | _, _ => False
section
variable {X : Cx}
theorem upIx {r r' : R2} (h : IxR X r) (k : ∀ x y H Q, r' x y H Q → r x y H Q) : IxR X r' := fun value slice pins s σ H x y v u Q I rx ry z hs => h value slice pins s σ H x y v u Q I rx ry (k _ _ _ _ z) hs
theorem ixT : IxR X (rIxTF X.K) := upIx ix_tup fun x y H Q h => by
  unfold rIxTF at h
  split at h
  · obtain ⟨xs, v, a, b, c⟩ := h
    exact ⟨_, xs, _, v, rfl, rfl, a, b, c⟩
  · exact h.elim
theorem ixL : IxR X (rIxLF X.K) := upIx ix_list fun x y H Q h => by
  unfold rIxLF at h
  split at h
  · obtain ⟨xs, v, a, b, c⟩ := h
    exact ⟨_, xs, _, v, rfl, rfl, a, b, c⟩
  · exact h.elim
theorem ixS : IxR X rIxSF := upIx ix_str fun x y H Q h => by
  unfold rIxSF at h
  split at h
  · obtain ⟨c, a, b, d⟩ := h
    exact ⟨_, _, c, rfl, rfl, a, b, d⟩
  · exact h.elim
end
theorem atI_lt {α : Type} {xs : List α} {i : Int} (h0 : 0 ≤ i) (h : i < xs.length) : atI xs i = xs[i.toNat]? := by
  unfold atI ixN
  rw [if_pos h0, if_pos h]
  rfl
/-! ### comprehensions -/
section
variable {J : It} {n : Nat} {G : Hp → Prop} {Y : Nat → Hp → V → Hp → Prop} {g : TG} {te : TE} {tt : TT} {vs : List Nat} {σ : L2.St} {H1 : Hp} {D : Addr} {Qd : Hp → Prop}
abbrev LcW (J : It) (g : TG) (tt : TT) (te : TE) (vs : List Nat) (σ : L2.St) (H1 : Hp) (D : Addr) (Qd : Hp → Prop) : Prop :=
  ∃ W : Nat → Nat → Hp → Prop, (∃ m, W 0 m (upd H1 D (.lst []))) ∧ ∀ i m H, W i m H →
      (J.stop i H ∧ Qd H) ∨ (J.go i H ∧ ∃ Nx : Hp → Prop, (∀ H', Nx H' → ∃ m', m' < m ∧ W (i + 1) m' H') ∧ ∀ x H', J.yld i H x H' → g x (wipe σ vs) H' fun σ2 H2 => wipe σ2 vs = wipe σ vs ∧ tt σ2 H2 fun b H3 =>
        if b = true then te σ2 H3 fun y H4 => ∃ acc, H4 D = some (.lst acc) ∧ acc.length < sizeLine ∧ Nx (upd H4 D (.lst (acc ++ [y]))) else Nx H3)
/-- [elt for target in ..]: R i y H: what the i-th turn gives is y; it is told of the heap without the new list -/
theorem lcW (w : Walk J n G Y) (R : Nat → V → Hp → Prop) (hn : n ≤ 1000000) (hD : H1 D = none) (hG : ∀ H, Same H1 H → G H) (mono : ∀ i y H H', Same H H' → R i y H → R i y H')
    (turn : ∀ i x H H' acc (Nx : V → Hp → Prop), i < n → Same H1 H → H D = some (.lst acc) → Y i H x H' → (∀ y H4, Same H H4 → R i y (hide D H4) → Nx y H4) → g x (wipe σ vs) H' fun σ2 H2 => wipe σ2 vs = wipe σ vs ∧ te σ2 H2 Nx)
    (gm : ∀ x σ H (P P' : L2.St → Hp → Prop), (∀ σ2 H2, P σ2 H2 → P' σ2 H2) → g x σ H P → g x σ H P')
    (done : ∀ ys H, ys.length = n → (∀ i y, ys[i]? = some y → R i y H) → Same H1 H → H D = some (.lst ys) → Qd H) : LcW J g tYes te vs σ H1 D Qd := by
  refine lc_it w (fun i H => ∃ acc : List V, acc.length = i ∧ H D = some (.lst acc) ∧ Same H1 H ∧ ∀ j y, acc[j]? = some y → R j y (hide D H)) ⟨[], rfl, upd_same, snew hD, fun j y h => by simp at h⟩ (fun i H _ ⟨_, _, _, s, _⟩ => hG H s) ?_ ?_
  · rintro i x H H' hi ⟨acc, hl, hd, s, hR⟩ y
    let Nx : V → Hp → Prop := fun y H4 => ∃ acc, H4 D = some (.lst acc) ∧ acc.length < sizeLine ∧ ∃ acc' : List V, acc'.length = i + 1 ∧ upd H4 D (.lst (acc ++ [y])) D = some (.lst acc') ∧ Same H1 (upd H4 D (.lst (acc ++ [y]))) ∧ ∀ j z, acc'[j]? = some z → R j z (hide D (upd H4 D (.lst (acc ++ [y]))))
    have t := turn i x H H' acc Nx hi s hd y ?_
    · refine gm _ _ _ _ _ (fun σ2 H2 z => ⟨z.1, ?_⟩) t
      simp only [tYes, ↓reduceIte]
      exact z.2
    refine fun y H4 s4 r4 => ⟨acc, s4 _ _ hd, line_lt (by omega), acc ++ [y], by rw [List.length_append, hl] <;> rfl, upd_same, sput (s.trans s4) hD, fun j z hz => ?_⟩
    rw [hide_upd]
    by_cases hj : j < acc.length
    · rw [List.getElem?_append_left hj] at hz
      exact mono _ _ _ _ (hide_mono s4) (hR j z hz)
    · rw [List.getElem?_append_right (Nat.le_of_not_lt hj)] at hz
      have e0 : j - acc.length = 0 := by
        cases e : j - acc.length with
        | zero => rfl
        | succ m => rw [e] at hz; simp at hz
      rw [e0] at hz
      have ez : y = z := by simpa using hz
      have ej : j = i := by omega
      subst ez ej
      exact r4
  · rintro H ⟨acc, hl, hd, s, hR⟩
    exact done acc H hl (fun i y h => mono _ _ _ _ hide_sub (hR i y h)) s hd
/-- .. with a test: R i none: the i-th is left out -/
theorem lcF (w : Walk J n G Y) (R : Nat → Option V → Hp → Prop) (hn : n ≤ 1000000) (hD : H1 D = none) (hG : ∀ H, Same H1 H → G H) (mono : ∀ i y H H', Same H H' → R i y H → R i y H')
    (turn : ∀ i x H H' acc (Nx : V → Hp → Prop) (No : Hp → Prop), i < n → Same H1 H → H D = some (.lst acc) → Y i H x H' → (∀ y H4, Same H H4 → R i (some y) (hide D H4) → Nx y H4) → (∀ H4, Same H H4 → R i none (hide D H4) → No H4) →
      g x (wipe σ vs) H' fun σ2 H2 => wipe σ2 vs = wipe σ vs ∧ tt σ2 H2 fun b H3 => if b = true then te σ2 H3 Nx else No H3)
    (done : ∀ (os : List (Option V)) H, os.length = n → (∀ i o, os[i]? = some o → R i o H) → Same H1 H → H D = some (.lst (os.filterMap id)) → Qd H) : LcW J g tt te vs σ H1 D Qd := by
  refine lc_it w (fun i H => ∃ os : List (Option V), os.length = i ∧ H D = some (.lst (os.filterMap id)) ∧ Same H1 H ∧ ∀ j y, os[j]? = some y → R j y (hide D H)) ⟨[], rfl, upd_same, snew hD, fun j y h => by simp at h⟩ (fun i H _ ⟨_, _, _, s, _⟩ => hG H s) ?_ ?_
  · rintro i x H H' hi ⟨os, hl, hd, s, hR⟩ y
    have len : (os.filterMap id).length ≤ 1000000 := Nat.le_trans (List.length_filterMap_le _ _) (by omega)
    have old : ∀ (o : Option V) H4, Same H H4 → R i o (hide D H4) → ∀ j z, (os ++ [o])[j]? = some z → R j z (hide D H4) := fun o H4 s4 r4 j z hz => by
      by_cases hj : j < os.length
      · rw [List.getElem?_append_left hj] at hz
        exact mono _ _ _ _ (hide_mono s4) (hR j z hz)
      · rw [List.getElem?_append_right (Nat.le_of_not_lt hj)] at hz
        have e0 : j - os.length = 0 := by
          cases e : j - os.length with
          | zero => rfl
          | succ m => rw [e] at hz; simp at hz
        rw [e0] at hz
        have ez : o = z := by simpa using hz
        have ej : j = i := by omega
        subst ez ej
        exact r4
    refine turn i x H H' _ _ _ hi s hd y (fun y H4 s4 r4 => ⟨_, s4 _ _ hd, line_lt len, os ++ [some y], by rw [List.length_append, hl] <;> rfl, ?_, sput (s.trans s4) hD, ?_⟩) fun H4 s4 r4 => ⟨os ++ [none], by rw [List.length_append, hl] <;> rfl, ?_, s.trans s4, ?_⟩
    · rw [List.filterMap_append]
      exact upd_same
    · rw [hide_upd]
      exact old _ _ s4 r4
    · rw [List.filterMap_append]
      show H4 D = some (.lst (os.filterMap id ++ []))
      rw [List.append_nil]
      exact s4 _ _ hd
    · exact old _ _ s4 r4
  · rintro H ⟨os, hl, hd, s, hR⟩
    exact done os H hl (fun i y h => mono _ _ _ _ hide_sub (hR i y h)) s hd
theorem gm_name {i : Nat} : ∀ x σ H (P P' : L2.St → Hp → Prop), (∀ σ2 H2, P σ2 H2 → P' σ2 H2) → gName i x σ H P → gName i x σ H P' := fun _ _ _ _ _ k h => k _ _ h
/-- the results are a function of the turn -/
theorem ys_fn {f : Nat → V} {ys : List V} {n : Nat} (hl : ys.length = n) (h : ∀ i y, ys[i]? = some y → y = f i) : ys = (List.range n).map f := by
  refine List.ext_getElem? fun i => ?_
  rw [List.getElem?_map]
  by_cases hi : i < n
  · obtain ⟨y, hy⟩ : ∃ y, ys[i]? = some y := ⟨ys[i]'(by omega), by rw [List.getElem?_eq_getElem]⟩
    rw [hy, h i y hy, List.getElem?_range hi]
    rfl
  · rw [List.getElem?_eq_none (by omega), List.getElem?_eq_none (by simp; omega)]
    rfl
end
/-- one sign in a text -/
def rInS : R2 := fun x y H Q => match x, y with
  | .str a, .str z => ∃ c, a = ⟨#[c]⟩ ∧ Q (.bl (decide (c ∈ z.cps.toList))) H
  | _, _ => False
theorem o_inS {X : Cx} : OpR X (compareOp .In) rInS := upR op_in_sign fun x y H Q h => by
  unfold rInS at h
  split at h
  · obtain ⟨c, e, q⟩ := h
    subst e
    exact ⟨c, _, rfl, rfl, q⟩
  · exact h.elim
/-- .. where the results are told item by item -/
theorem ys_get {α : Type} {f : α → V} {l : List α} {ys : List V} (hl : ys.length = l.length) (h : ∀ (i : Nat) y, ys[i]? = some y → ∃ a, l[i]? = some a ∧ y = f a) : ys = l.map f := by
  refine List.ext_getElem? fun i => ?_
  rw [List.getElem?_map]
  by_cases hi : i < l.length
  · obtain ⟨y, hy⟩ : ∃ y, ys[i]? = some y := ⟨ys[i]'(by omega), by rw [List.getElem?_eq_getElem]⟩
    obtain ⟨a, ha, e⟩ := h i y hy
    rw [hy, ha, e]
    rfl
  · rw [List.getElem?_eq_none (by omega), List.getElem?_eq_none (by omega)]
    rfl
end F
set_option maxHeartbeats 2000000
/-! F7: methods of texts as functions, fields stored, a def with defaults. -/
namespace F
open PySem PySem.Spec PyProof.Rows L2
def fM1 (r : Str → V → Hp → VK → Prop) (to te : TE) : TE := fun σ H Q => to σ H fun x H1 => match x with
  | .str a => te σ H1 fun y H2 => r a y H2 Q
  | _ => False
def rSplitF : Str → V → Hp → VK → Prop := fun a y H Q => match y with
  | .str b => ((b.length == 0) = false ∧ a.length + 2 ≤ sizeLine) ∧ ∀ p, H p = none → Q (.ref p) (upd H p (.lst ((Txt.split a b).map V.str)))
  | _ => False
def rJoinF (K : PySem.W.Frag) : Str → V → Hp → VK → Prop := fun a y H Q => match y with
  | .ref p => ∃ ys : List Str, (SqL K H p (ys.map V.str) ∨ SqT K H p (ys.map V.str)) ∧ (ys.map (·.length)).sum + ys.length * a.length ≤ 16777216 ∧ Q (.str (Txt.join a ys)) H
  | _ => False
section
variable {X : Cx} {o e : Expr} {to te : TE} {apos pos : Pos}
theorem m1_mk {id : String} {name : Str} {r : V → List V → Hp → VK → Prop} {r' : Str → V → Hp → VK → Prop} (slot : Slot "str" name id) (ty : typeOf (.builtin id) = pure (.type "method_descriptor")) (rule : MtR X id r) (k : ∀ a y H Q, r' a y H Q → r (.str a) [y] H Q) (ho : PE X o to) (he : PE X e te)
    (hs : starEach [e] X.env = [(false, eval e X.env)]) (hbase : attributeBase o name X.env (eval o X.env) = eval o X.env) (hline : (apos.endLine == pos.line) = true) :
    PE X (.Call (.Attribute o name apos) [e] [] pos) (fM1 r' to te) := by
  refine ⟨fun pins s σ H Q I h => ?_⟩
  refine PySem.Call_method1 hbase hs hline (thn (ho.run pins s σ H _ I h) fun v s1 ⟨x, H1, I1, r1, q1⟩ => ?_)
  cases x with
  | str a =>
    obtain ⟨t, rfl⟩ := _root_.id r1
    refine ⟨"str", _, PySem.F.plainAttrs_str, slot, ty, typeIs_str _ _ _, (fun _ e => nomatch e), Calls.callWith_builtin rfl (Calls.evalArgs_plain (Calls.spliced_cons ?_))⟩
    exact thn (he.run pins s1 σ H1 _ I1 q1) fun u s2 ⟨y, H2, I2, r2, q2⟩ => Calls.spliced_nil (rule pins s2 σ H2 _ [y] _ [u] Q I2 r1 (.cons r2 .nil) (k a y H2 Q q2))
  | _ => exact q1.elim
theorem e_split (ho : PE X o to) (he : PE X e te) (hs : starEach [e] X.env = [(false, eval e X.env)] := by rfl) (hbase : attributeBase o "split" X.env (eval o X.env) = eval o X.env := by rfl) (hline : (apos.endLine == pos.line) = true := by rfl) :
    PE X (.Call (.Attribute o "split" apos) [e] [] pos) (fM1 rSplitF to te) :=
  m1_mk PySem.F.slot_str_split PySem.F.type_str_split mt_split (fun a y H Q h => by
    unfold rSplitF at h
    split at h
    · exact ⟨_, _, rfl, rfl, h.1.1, h.1.2, h.2⟩
    · exact h.elim) ho he hs hbase hline
theorem e_join (ho : PE X o to) (he : PE X e te) (hs : starEach [e] X.env = [(false, eval e X.env)] := by rfl) (hbase : attributeBase o "join" X.env (eval o X.env) = eval o X.env := by rfl) (hline : (apos.endLine == pos.line) = true := by rfl) :
    PE X (.Call (.Attribute o "join" apos) [e] [] pos) (fM1 (rJoinF X.K) to te) :=
  m1_mk PySem.F.slot_str_join PySem.F.type_str_join mt_join (fun a y H Q h => by
    unfold rJoinF at h
    split at h
    · obtain ⟨ys, z⟩ := h
      exact ⟨_, _, ys, rfl, rfl, z⟩
    · exact h.elim) ho he hs hbase hline
end
/-! ### o.f = e -/
def fSFld (K : PySem.W.Frag) (ta tv : TE) (f : Str) : TS := fun D σ H => tv σ H fun y H1 => ta σ H1 fun x H2 => match x with
  | .ref a => ∃ C dx fs, H2 a = some (.ins C dx fs) ∧ Cls K C ∧ NoAttr K C f ∧ fs.length < 1000 ∧ D.nx σ (upd H2 a (.ins C dx (putF f y fs)))
  | _ => False
section
variable {X : Cx} {o e value : Expr} {ta tv : TE} {f : Str} {pos pos' : Pos}
theorem s_fld (ha : PE X o ta) (hv : PE X value tv) (hs : swapsWith value (some (.Attribute o f pos')) pos.line X.env = pure false := by rfl) : PS X (.Assign [.Attribute o f pos'] value pos) (fSFld X.K ta tv f) := by
  refine ⟨fun pins s σ H D I h => ?_⟩
  refine plainObj_wpAny_Assign_Attribute (thn (hv.run pins s σ H _ I h) fun u s1 ⟨y, H1, I1, ry, q⟩ => thn (ha.run pins s1 σ H1 _ I1 q) fun ov s2 ⟨x, H2, I2, rx, q2⟩ => ?_) hs
  cases x with
  | ref a =>
    obtain ⟨C, dx, fs, ea, c, n, l, q2⟩ := q2
    obtain rfl : ov = Value.ref a := rx
    exact setattr_ok I2 ea c n l ry fun s3 I3 => ⟨σ, _, I3, q2⟩
  | _ => exact q2.elim
end
end F
set_option maxHeartbeats 2000000
/-! F8: {**d, k: v}. -/
namespace F
open PySem PySem.Spec PyProof.Rows L2
section
variable {prog : Program} {w : World} {κ : Type} [DecidableEq κ] {knd : KeyKind prog w κ} {A : Around} {E : Value → Shared → Prop} {s : Shared}
theorem put_pairs {d : Addr} {kvs : List (κ × Value)} {k : κ} {key v : Value} {Q : Unit → Shared → Prop} (hkey : knd.is k key = true) (hm : s.heap.DictOf knd d kvs)
    (hQ : ∀ h', h'.DictOf knd d (stored kvs k v) → Heap.SameBut d s.heap h' → Q () { s with heap := h' }) (hsz : kvs.length ≤ sizeLine) :
    wpAny (model prog w) A (dictPut d (knd.hash k) key v) Q E s := by
  obtain ⟨o, es, ep, ho, hc, hd, hk, hp, hn⟩ := hm
  have hes : es.size ≤ sizeLine := by
    have e1 := hp.length
    have e2 : es.toList.length = es.size := by simp
    omega
  unfold dictPut
  refine wpAny_bind (wpAny_dictFind_of hkey ho hd hk ?_)
  have hidx : (es.findIdx? fun e => knd.is k e.key) = kvs.findIdx? fun kv => decide (kv.1 = k) := by
    rw [← hp.findIdx k]
    obtain ⟨l⟩ := es
    simp
  cases hi : es.findIdx? fun e => knd.is k e.key with
  | some i =>
    refine wpAny_updateDict ho hd (hQ _ ⟨_, _, ep, Heap.get?_update_self _ ho (Obj.isFreed_of_dict (Obj.data_mapDict hd _)), hc.mapDict _, Obj.data_mapDict hd _, hk.modify _ _, ?_, ?_⟩ (Heap.SameBut.update ..))
    · rw [stored, if_pos (any_of_findIdx_some (hidx ▸ hi))]
      have hl : (es.toList.findIdx? fun e => knd.is k e.key) = some i := by
        rw [← hi]
        obtain ⟨l⟩ := es
        simp
      have := hp.modify hn hl v
      obtain ⟨l⟩ := es
      simpa using this
    · rw [stored, if_pos (any_of_findIdx_some (hidx ▸ hi)), keys_map_store]
      exact hn
  | none =>
    have hnot : k ∉ kvs.map (·.1) := not_mem_of_findIdx_none (hidx ▸ hi)
    have hany : ¬ (kvs.any fun kv => decide (kv.1 = k)) = true := by
      rw [List.any_eq_true]
      rintro ⟨kv, hkv, he⟩
      exact hnot (List.mem_map.mpr ⟨kv, hkv, of_decide_eq_true he⟩)
    refine wpAny_updateDictKeys (hz := hes) ho hd (hQ _ ⟨_, _, ep + 1, Heap.get?_update_self _ ho (Obj.isFreed_of_dict (Obj.data_mapDictKeys hd _)), hc.mapDictKeys _, Obj.data_mapDictKeys hd _, hk.push hkey _, ?_, ?_⟩ (Heap.SameBut.update ..))
    · rw [stored, if_neg hany]
      have := hp.append hkey (knd.hash k) v
      obtain ⟨l⟩ := es
      simpa using this
    · rw [stored, if_neg hany, List.map_append, List.nodup_append]
      refine ⟨hn, by simp, ?_⟩
      intro a ha b hb
      simp only [List.map_cons, List.map_nil, List.mem_singleton] at hb
      subst hb
      exact fun e => hnot (e ▸ ha)
theorem merge_map {d o : Addr} {kvs more : List (κ × Value)} {Q : Unit → Shared → Prop} (hdo : d ≠ o) (hoS : (o == sysModules) = false) (hd : s.heap.DictOf knd d kvs) (ho : s.heap.DictOf knd o more)
    (hQ : ∀ h', h'.DictOf knd d (merged kvs more) → Heap.SameBut d s.heap h' → Q () { s with heap := h' }) (hsz : kvs.length + more.length ≤ sizeLine) :
    wpAny (model prog w) A (mergeMapping d (.ref o) false) Q E s := by
  have hTo := ho.typeIs
  obtain ⟨od, esd, epd, hod, hcd, hdd, hkd, hpd, hnd⟩ := id hd
  obtain ⟨oo, eso, epo, hoo, hco, hdo', hko, hpo, hno⟩ := id ho
  have hlen : more.length = eso.size := by rw [← hpo.length]; simp
  have loop : ∀ h1, h1 = s.heap → wpAny (model prog w) A (do
      let l ← dictEntries o
      let epoch ← dictEpoch o
      for i in List.range l.size do
        let some e := (← dictEntries o)[i]? | unsupported "dict.changed-during-merge"
        holding [e.key, e.val] do
          if false = true then
            if (← dictFind d e.key e.hash).isSome then rule "dict.merge.duplicate-key"; raiseNew (← newExc (.type "KeyError") [e.key])
          dictPut d e.hash e.key e.val
        if (← dictEpoch o) != epoch then unsupported "dict.changed-during-merge") Q E s := by
    intro _ _
    refine wpAny_bind (wpAny_dictEntries hoo hdo' ?_)
    refine wpAny_bind (wpAny_dictEpoch hoo hdo' ?_)
    refine wpAny_bind ?_
    refine wpAny_forIn_list _ (fun rest _ s' => ∃ h' i, s' = { s with heap := h' } ∧ rest = List.range' i (eso.size - i) ∧ i ≤ eso.size ∧ h'.DictOf knd d (merged kvs (more.take i)) ∧ h'.get? o = some oo ∧ Heap.SameBut d s.heap h') _ ?_ ?_ _ _
      ⟨s.heap, 0, rfl, by rw [List.range_eq_range']; simp, Nat.zero_le _, by simpa [merged] using hd, hoo, Heap.SameBut.refl _ _⟩
    · rintro x rest b s' ⟨h', i, rfl, hr, hi, hd', hoo', hs'⟩
      have hlt : i < eso.size := by
        rcases Nat.lt_or_ge i eso.size with h | h
        · exact h
        · rw [Nat.sub_eq_zero_of_le h] at hr
          simp at hr
      obtain ⟨rfl, hrest⟩ : x = i ∧ rest = List.range' (i + 1) (eso.size - (i + 1)) := by
        have e : eso.size - i = (eso.size - (i + 1)) + 1 := by omega
        rw [e, List.range'_succ] at hr
        injection hr with h1 h2
        exact ⟨h1, h2⟩
      refine wpAny_bind (wpAny_dictEntries hoo' hdo' ?_)
      rw [Array.getElem?_eq_getElem hlt]
      obtain ⟨kv, hkv⟩ : ∃ kv, more[x]? = some kv := ⟨more[x]'(by rw [hlen]; exact hlt), List.getElem?_eq_getElem _⟩
      obtain ⟨k, v⟩ := kv
      obtain ⟨hkey, hval⟩ := hpo.get? (e := eso[x]) (by simp [hlt]) hkv
      obtain ⟨k', hkey', hhash⟩ := hko eso[x] (Array.getElem_mem hlt)
      obtain rfl : k' = k := knd.inj _ _ _ hkey' hkey
      have hmx : (merged kvs (more.take x)).length ≤ sizeLine := by
        have e1 := merged_length_le kvs (more.take x)
        have e2 : (more.take x).length ≤ more.length := by rw [List.length_take]; omega
        omega
      dsimp only
      refine wpAny_bind (wpAny_holding ?_)
      simp only [Bool.false_eq_true, if_false]
      try refine wpAny_bind (wpAny_pure ?_)
      rw [hhash, hval]
      refine put_pairs (hsz := hmx) hkey hd' fun h'' hd'' hs'' => ?_
      have hoo'' : h''.get? o = some oo := (hs''.2 o (Ne.symm hdo)).trans hoo'
      refine wpAny_bind (wpAny_dictEpoch hoo'' hdo' ?_)
      rw [if_neg (by simp)]
      repeat (first | exact wpAny_pure ⟨h'', x + 1, rfl, hrest, hlt, by rw [merged_take_succ kvs more x (k', v) hkv]; exact hd'', hoo'', hs'.trans hs''⟩ | refine wpAny_bind (wpAny_pure ?_))
    · rintro b s' ⟨h', i, rfl, hr, hi, hd', hoo', hs'⟩
      have hin : i = eso.size := by
        rcases Nat.lt_or_ge i eso.size with h | h
        · have e : eso.size - i = (eso.size - (i + 1)) + 1 := by omega
          rw [e, List.range'_succ] at hr
          exact nomatch hr
        · exact Nat.le_antisymm hi h
      have q := hQ h' (by rw [hin, ← hlen, List.take_length] at hd'; exact hd') hs'
      first | exact wpAny_pure q | exact q
  unfold mergeMapping
  refine wpAny_bind (m := isInstance _ _) (wpAny_isInstance hTo isSubtype_dict_dict ?_)
  simp only [if_true]
  refine wpAny_bind (m := specialOf _ _) (wpAny_specialOf hTo F.slot_dict_iter.lookup ?_)
  try refine wpAny_bind (wpAny_pure ?_)
  simp only [beq_self_eq_true, hoS, Bool.false_eq_true, if_false]
  refine wpAny_bind (wpAny_dictEntries hod hdd ?_)
  split
  · refine wpAny_bind (wpAny_dictEntries hoo hdo' ?_)
    have hl : ∀ f : DictEntry → PUnit → Sem (ForInStep PUnit), (∀ e, e ∈ eso.toList → f e PUnit.unit = pure (.yield PUnit.unit)) → forIn eso PUnit.unit f = pure PUnit.unit := fun f hf => by
      rw [← Array.forIn_toList]
      exact forIn_yield_id _ fun e he c => hf e he
    rw [hl _ fun e he => ?_]
    · refine wpAny_bind (wpAny_pure ?_)
      exact loop _ rfl
    · obtain ⟨k, hkey, _⟩ := hko e (Array.mem_toList_iff.mp he)
      have hb := knd.byValue k _ hkey
      split
      · rename_i a q
        rw [q] at hb
        cases hb
      · rfl
  · exact loop _ rfl
/-- {**e, k: v} -/
def tStar1 (te tk tv : TE) : TE := fun σ H Q => ∀ p, H p = none → te σ (upd H p (.dK [])) fun x H1 => match x with
  | .ref o => ∃ kvs : List (Key × V), H1 o = some (.dK kvs) ∧ H1 p = some (.dK []) ∧ o ≠ p ∧ ∀ q, H1 q = none → tk σ (upd (upd H1 p (.dK (mergeK [] kvs))) q (.dK [])) fun y H2 => tv σ H2 fun z H3 =>
      ∃ k : Key, y = kV k ∧ H3 q = some (.dK []) ∧ H3 p = some (.dK (mergeK [] kvs)) ∧ (mergeK [] kvs).length < sizeLine ∧ Q (.ref p) (upd (upd H3 q (.dK [(k, z)])) p (.dK (putK (mergeK [] kvs) k z)))
  | _ => False
end
section
variable {X : Cx} {e k v : Expr} {te tk tv : TE} {pos : Pos}
theorem e_star1 (he : PE X e te) (hk : PE X k tk) (hv : PE X v tv) : PE X (.Dict [none, some k] [e, v] pos) (tStar1 te tk tv) := by
  refine ⟨fun pins s σ H Q I h => ?_⟩
  rw [arm_eval_Dict]
  refine wpAny_bind (wpAny_standAt ?_)
  unfold dictDisplay
  simp only [evalEachOpt, evalOpt, evalEach, List.map_cons, List.map_nil, List.zip_cons_cons, List.zip_nil_left, List.forIn_cons, List.forIn_nil, List.isEmpty_nil, if_true, pure_bind, bind_assoc, List.nil_append, List.length_cons, List.length_nil]
  have hn := I.hok.fresh (Nat.le_refl s.heap.objs.size)
  have I1 := I.laid (a := s.heap.objs.size) (o := .dK []) (h' := s.heap.push { cls := .type "dict", data := .dict #[] }) (t' := s.toks) (fun _ _ q => Heap.get?_push_of_some _ q) (Nat.le_refl _) (dk_empty s.heap I.big)
  have hm := h _ hn
  refine wpAny_bind (wpAny_alloc ?_)
  refine wpAny_bind (wpAny_holding (wpAny_bind (thn (he.run pins _ σ _ _ I1 hm) fun u s1 ⟨x, H1, I2, rx, q1⟩ => wpAny_bind (wpAny_standAt (wpAny_pure ?_)))))
  cases x with
  | ref o =>
    obtain ⟨kvs, eo, ep, hop, q2⟩ := q1
    obtain rfl : u = Value.ref o := rx
    obtain ⟨zo, hoS, vs, ro, ddo⟩ := dk_of I2.hok eo
    obtain ⟨zp, hpS, vp, rp, ddp⟩ := dk_of I2.hok ep
    cases rp
    have hz : (mergeK [] kvs).length ≤ sizeLine := by
      have h1 := length_mergeK kvs []
      rw [List.length_nil] at h1
      omega
    refine wpAny_bind (wpAny_onRaise (wpAny_tryCatch (wpAny_onRaise (wpAny_holding (merge_map (knd := mixKind X.prog X.w) (Ne.symm hop) hoS ddp ddo (fun h' dd' hs' => ?_) (by have := ro.length; rw [List.length_nil]; omega))))))
    have he' : ∃ q, h'.get? s.heap.objs.size = some q := let ⟨q, _, _, hq, _⟩ := dd'; ⟨q, hq⟩
    have I3 := d_write (t' := s1.toks) I2 (by rw [ep]; exact True.intro) hs' he' (dk_new hz hpS (ro.merge .nil) dd')
    simp only [Nat.zero_add, Nat.reduceBEq, Bool.false_eq_true, if_false, pure_bind, List.isEmpty_cons]
    refine wpAny_bind ?_
    refine wpAny_bind (wpAny_holding ?_)
    have hn2 := I3.hok.fresh (Nat.le_refl h'.objs.size)
    have I4 := I3.laid (a := h'.objs.size) (o := .dK []) (h' := h'.push { cls := .type "dict", data := .dict #[] }) (t' := s1.toks) (fun _ _ q => Heap.get?_push_of_some _ q) (Nat.le_refl _) (dk_empty h' I3.big)
    have npq : s.heap.objs.size ≠ h'.objs.size := fun e => by
      rw [← e, upd_same] at hn2
      cases hn2
    have hn3 : H1 h'.objs.size = none := by
      rw [upd_ne (Ne.symm npq)] at hn2
      exact hn2
    refine wpAny_subDict (knd := mixKind X.prog X.w) (by simp) (evalPairs_cons ?_)
    refine thn (hk.run pins _ σ _ _ I4 (q2 _ hn3)) fun ku s3 ⟨y, H2, I5, ry, q3⟩ => ?_
    refine wpAny_bind (thn (hv.run pins _ σ _ _ I5 q3) fun vu s4 ⟨z, H3, I6, rz, k0, ey, eq, ep2, lz, q4⟩ => wpAny_bind (wpAny_standAt (wpAny_pure (evalPairs_nil ?_))))
    subst ey
    obtain ⟨zq, hqS, vq, rq, ddq⟩ := dk_of I6.hok eq
    cases rq
    have rk : KV [(k0, z)] [(k0, vu)] := .cons ⟨rfl, rz⟩ .nil
    refine ⟨[(k0, vu)], ⟨kV_is ry, rfl, True.intro⟩, ddq, fun h2 dd2 hs2 => ?_⟩
    have he2 : ∃ q, h2.get? h'.objs.size = some q := let ⟨q, _, _, hq, _⟩ := dd2; ⟨q, hq⟩
    have I7 := d_write (t' := s4.toks + 1) I6 (by rw [eq]; exact True.intro) hs2 he2 (dk_new (kvs := [(k0, z)]) (by rw [sizeLine_eq]; simp) hqS rk dd2)
    have ep3 : upd H3 h'.objs.size (.dK [(k0, z)]) s.heap.objs.size = some (.dK (mergeK [] kvs)) := by
      rw [upd_ne npq]
      exact ep2
    obtain ⟨_, _, vs5, r5, dd5⟩ := dk_of I7.hok ep3
    refine wpAny_bind (wpAny_onRaise (wpAny_holding (merge_map (knd := mixKind X.prog X.w) npq hqS dd5 dd2 (fun h3 dd3 hs3 => ?_) (by have := r5.length; have e : (merged ([] : List (Key × Value)) [(k0, vu)]).length = 1 := rfl; omega))))
    have he3 : ∃ q, h3.get? s.heap.objs.size = some q := let ⟨q, _, _, hq, _⟩ := dd3; ⟨q, hq⟩
    have I8 := d_write (t' := s4.toks + 1) I7 (by rw [ep3]; exact True.intro) hs3 he3 (dk_new (kvs := putK (mergeK [] kvs) k0 z) (by have := length_putK (mergeK [] kvs) k0 z; omega) hpS (r5.put k0 rz) dd3)
    refine wpAny_pure (wpAny_pure ?_)
    exact ⟨.ref s.heap.objs.size, _, I8, rfl, q4⟩
  | _ => exact q1.elim
end
end F
set_option maxHeartbeats 2000000
/-! F9: fields of numbers with zeros, keyword calls, defaults, own == of nested things, keys of a dict. -/
namespace F
open PySem PySem.Spec PyProof.Rows L2
section
variable {X : Cx} {e spec : Expr} {te : TE} {pos : Pos} {pins : List (Addr × Obj)} {σ : L2.St} {H : Hp} {s : Shared}
abbrev NoLim (K : PySem.W.Frag) : Prop := PySem.W.nsIn K cStatics "sys.int_max_str_digits" = some none
theorem noDig (hn : NoLim X.K) (I : Inv X pins σ H s) : s.heap.NoDigits := by
  obtain ⟨m, hF⟩ := I.fr
  obtain ⟨mc, h1, _⟩ := I.ok.mod.nolimit
  have N : X.base.NoDigits := ⟨mc, h1, PySem.W.ns_none_of I.ok.mod.kin h1 hn⟩
  exact N.keeps hF.keep
theorem e_fmtZ {sp : Str} {W : Nat} (hn : NoLim X.K) (hok : PyProof.Rows.intSpecOk sp = true) (hW : PyProof.Rows.intSpecWidthOf sp = W) (hz : PyProof.Rows.intSpecZeroOf sp = true) (hsz : sp.length ≤ sizeLine) (he : PE X e te) (hs : PE X spec (tC (.str sp))) :
    PE X (.FormattedValue e (-1) (some spec) pos) (fFmtZ W te) := by
  refine ⟨fun pins s σ H Q I h => ?_⟩
  refine wpAny_FormattedValue_spec (thn (he.run pins s σ H _ I h) fun v s1 ⟨x, H1, I1, r1, q⟩ => thn (hs.run pins s1 σ H1 (fun v H2 => v = .str sp ∧ H2 = H1) I1 ⟨rfl, rfl⟩) fun r s2 ⟨z, H2, I2, r2, e1, e2⟩ => ?_)
  subst e1 e2
  obtain ⟨t2, rfl⟩ := r2
  refine ⟨sp, t2, rfl, ?_⟩
  cases x with
  | int i =>
    obtain ⟨t, rfl⟩ := r1
    refine PySem.W.KXf.field_sym (W := W) (noDig hn I2) q.1.1 q.1.2 hok hW hsz fun t' k f _ _ => ?_
    refine ⟨.str (zpad W i), _, I2.tok k, ⟨t', ?_⟩, q.2⟩
    rw [f.zeroG hz q.1.1]
    rfl
  | _ => exact q.elim
end
/-! ### f(k = v) -/
structure Fck (P : Program) (w : World) (K : PySem.W.Frag) (mg : Str → Option Value) (base : Heap) (k : Nat) (x : Str) (ps : List Str) (sp : Sp) : Prop where
  ex : ∃ f fd, FnOk P w K mg base (L2.CX P w) k f fd ps sp ∧ KBinds K fd ps ps (fun us ws => us ++ ws) (fun vs zs => vs ++ zs) ∧ mg x = some (.ref f) ∧ PySem.W.keepIn K (.ref f) = true
def fCallK (sp : Sp) (E : XK) (tk : TA) : TE := fun σ H Q => tk σ H fun zs H1 => sp zs H1 Q E
section
variable {X : Cx} {k j : Nat} {sp : Sp} {x : Str} {p pos : Pos} {ps : List Str} {kws : List Keyword} {tk : TA}
theorem e_ck0 (c : Fck X.prog X.w X.K X.mg X.base k x ps sp) (hr : Room j X.A) (hkw : PK X kws tk) (hk : k ≤ j := by decide) (hg : Gl X x := by rfl) (hall : (backToKw pos (keywordEach kws X.env)).all (·.1.isSome) = true := by rfl)
    (hks : (backToKw pos (keywordEach kws X.env)).filterMap (·.1) = ps := by rfl) (hdb : (x == ("__debug__" : Str)) = false := by decide)
    (hpl : ((backTo pos (starEach [] X.env)).any (·.1) || (backToKw pos (keywordEach kws X.env)).any (·.1.isNone)) = false := by rfl) :
    PE X (.Call (.Name x p) [] kws pos) (fCallK sp E0 tk) := by
  obtain ⟨f, fd, G, hb, hm, kp⟩ := c.ex
  refine ⟨fun pins s σ H Q I h => ?_⟩
  refine wpAny_Call_Name_kw (ld_glob I hg hm ?_ hdb)
  refine PySem.W.callWith_KW0 (h₀ := X.base) I.ok.mod.kin kp hall ?_ hpl
  refine thn (hkw.run pos pins s σ H _ I h) fun ws s2 ⟨zs, H2, I2, rz, q2⟩ => ⟨I2.kIn, ?_⟩
  rw [hks]
  exact run_fnk (us := []) (vs := []) G (hr.mono hk) hb passE I2 .nil rz q2
end
/-! ### defaults -/
section
variable {P : Program} {w : World} {K : PySem.W.Frag} {mg : Str → Option Value} {base : Heap} {x qual : Str} {f : Addr} {fd : FuncData} {params : Arguments} {body : List Stmt} {scope : Scope} {N ps : List Str} {k : Nat} {sp : Sp} {dvs : List V}
abbrev BindD (x qual : Str) (params : Arguments) (body : List Stmt) (scope : Scope) (ps : List Str) (n j : Nat) (dn : Nat) : Prop :=
  ∀ (T : Addr) (kV doc pm : Value) (an : Option Addr) (cdv ct : Value) (us its : List Value), us.length = n → its.length = dn →
    ∃ k, bindArgs (PySem.W.fnOf x qual params body scope (.ref T) kV doc pm an cdv ct) ⟨us, []⟩ = seqItems? (.ref T) >>= k ∧ k (some its.toArray) = pure (ps.zip (us ++ its.drop j))
theorem fr_of (F1 : FunD K x qual params body scope [] [] f fd) (ok : FnOk P w K mg base (L2.CX P w) k f fd ps sp) (bd : BindN x qual params body scope ps) : F.Fr P w K mg base k f sp :=
  (FnOk.raw ok (F1.bindsN bd) .nil).imp (fun vs H Q E h => by rw [List.append_nil]; exact h)
theorem _root_.L2.FunD.kb {ks : List Str} (F1 : FunD K x qual params body scope [] [] f fd) (e : ks = ps)
    (h : ∀ (kV doc pm : Value) (an : Option Addr) (cdv ct : Value) (us ws : List Value), (us ++ ws).length = ps.length → bindArgs (PySem.W.fnOf x qual params body scope .none kV doc pm an cdv ct) ⟨us, ks.zip ws⟩ = pure (ps.zip (us ++ ws))) :
    KBinds K fd ps ks (fun us ws => us ++ ws) (fun vs zs => vs ++ zs) := by
  obtain ⟨oc, od, dV, kV, doc, pm, an, cdv, ct, osl, rfl, lk, hcd, hD, hK⟩ := F1.ex
  rcases hD with ⟨_, rfl⟩ | ⟨e, _⟩
  · exact ⟨fun s us ws X hl => .of_eq (h kV doc pm an cdv ct us ws hl), fun r1 r2 => r1.append r2⟩
  · exact absurd rfl e
/-- the last values are the defaults behind the first j -/
theorem fr_dfl (F1 : FunD K x qual params body scope dvs [] f fd) (ok : FnOk P w K mg base (L2.CX P w) k f fd ps sp) (n j : Nat) (hd : dvs ≠ []) (hn : n + (dvs.length - j) = ps.length) (h : BindD x qual params body scope ps n j dvs.length) :
    F.Fr P w K mg base k f (fun vs H Q E => sp (vs ++ dvs.drop j) H Q E) := by
  obtain ⟨ds, r, b⟩ := F1.binds1 n j hd hn h
  exact FnOk.raw ok b r
/-- all values given -/
theorem fr_full (F1 : FunD K x qual params body scope dvs [] f fd) (ok : FnOk P w K mg base (L2.CX P w) k f fd ps sp) (hd : dvs ≠ []) (h : BindD x qual params body scope ps ps.length dvs.length dvs.length) : F.Fr P w K mg base k f sp :=
  (fr_dfl F1 ok ps.length dvs.length hd (by omega) h).imp fun vs H Q E z => by
    rw [List.drop_length, List.append_nil]
    exact z
end
/-! ### own == -/
section
variable {X : Cx} {n : Nat} {C f : Addr} {R : Addr → Addr → Hp → Prop}
theorem rcG_insR (G : F.Fr X.prog X.w X.K X.mg X.base n f (spEq R)) (o : OwnM X.K C "__eq__" f) : RcG X n (DIns C R) := by
  intro A pins s σ H x y u v sb I rx ry d
  obtain ⟨a, b, dx, dy, fs, gs, rfl, rfl, ha, hb', hr⟩ := d
  cases rx
  cases ry
  obtain ⟨mA, J, _⟩ := ins_get I.hok ha
  obtain ⟨mB, J', _⟩ := ins_get I.hok hb'
  obtain ⟨od, J, _⟩ := J.look
  obtain ⟨od', J', _⟩ := J'.look
  obtain ⟨m, hF⟩ := I.fr
  refine PySem.W.cmp_K (op := .Eq) (tb := .ref C) sb.room.units0 hF I.ok.mod.kin J J'.type (by simp [PySem.W.notFirst]) o.at_ o.fn ?_
  have hsp : spEq R [.ref a, .ref b] H (fun v H' => v = .bl true ∧ Ext H H') E0 := ⟨a, b, rfl, hr, fun H' e => ⟨rfl, e⟩⟩
  have e0 : Env0 X.prog X.w X.K X.mg X.base A X.stack s H := by
    have e := I.env0
    exact ⟨by rw [sb.fr]; exact e.frames, e.mod, e.bs, e.bsz, e.funs, e.frf, e.hok, e.bare⟩
  refine wpAny_call (codeAny_mono (G A X.stack s H [.ref a, .ref b] [.ref a, .ref b] _ E0 sb.room e0 (.cons rfl (.cons rfl .nil)) hsp) fun r s' hq => ?_)
  cases r with
  | error e => exact passE pins σ H s e s' I hq
  | ok fl =>
    cases fl with
    | ret w =>
      obtain ⟨z, H', I', rz, ez, ex⟩ := I.after hq
      subst ez
      cases rz
      exact ⟨rfl, H', I', ex⟩
    | next => exact False.elim hq
    | brk => exact False.elim hq
    | cont => exact False.elim hq
theorem eqG_insR (G : F.Fr X.prog X.w X.K X.mg X.base n f (spEq R)) (o : OwnM X.K C "__eq__" f) : EqG X n (DIns C R) := (rcG_insR G o).eqG fun _ _ _ d => let ⟨a, b, _, _, _, _, hx, hy, _⟩ := d; ⟨a, b, hx, hy⟩
end
/-! ### the keys of a dict -/
section
variable {H H' : Hp} {d : Addr} {u f : HO}
theorem unlock (hd : H d = some u) (s : Same (upd H d f) H') : Same H (upd H' d u) := fun b o h => by
  by_cases e : b = d
  · subst e
    rw [upd_same]
    rw [hd] at h
    exact h
  · rw [upd_ne e]
    exact s b o (by rw [upd_ne e]; exact h)
theorem unlock_at (hd : H d = some u) (hD : H p = none) (h : H' p = some o) : upd H' d u p = some o := by
  rw [upd_ne (fun e => by rw [e, hd] at hD; cases hD)]
  exact h
end
section
variable {K : PySem.W.Frag} {H : Hp} {d : Addr} {kvs : List (Key × V)} {ns : List Int} {σ : L2.St} {Q : VK} {td : TE} {i : Nat}
theorem nth_set : ∀ {σ : Sl} {i : Nat} {v : V}, i < σ.length → nth (σ.set i (some v)) i = some v
  | [], _, _, h => by simp at h
  | _ :: _, 0, _, _ => rfl
  | _ :: r, i + 1, v, h => nth_set (σ := r) (by simpa using h)
/-- [int(one) for one in d] -/
theorem keysInt (hd : H d = some (.dK kvs)) (hk : kvs.map (fun kv => kV kv.1) = ns.map V.int) (hn : kvs.length ≤ 1000000) (hi : i < σ.length) (htd : ∀ od R, R (.ref d) (upd H d (.frz od (.dK kvs))) → td σ (upd H d (.frz od (.dK kvs))) R)
    (k : ∀ p H', Same H H' → H' p = some (.lst (ns.map V.int)) → Q (.ref p) H') :
    ∃ d u, H d = some u ∧ Mut (some u) ∧ ∀ od, tLc (iKeys td) (gName i) tYes (tCB rIntF (tCons (fVar i) tNil)) [i] σ (upd H d (.frz od u)) fun v H' => H' d = some (.frz od u) ∧ Q v (upd H' d u) := by
  refine ⟨d, _, hd, True.intro, fun od => ?_⟩
  unfold tLc iKeys
  refine htd od _ ⟨d, od, rfl, .inl ⟨kvs, upd_same, fun D hD => ?_⟩⟩
  refine lcW (walk_keys (d := d) (o := od) (kvs := kvs)) (fun i v _ => ∃ a, ns[i]? = some a ∧ v = V.int a) hn hD (fun H' s => s _ _ upd_same) (fun _ _ _ _ _ z => z) ?_ gm_name ?_
  · rintro j x H1 H2 acc Nx hj s hd' ⟨rfl, k0, v0, hk0, rfl⟩ nx
    have e1 : (kvs.map fun kv => kV kv.1)[j]? = some (kV k0) := by rw [List.getElem?_map, hk0]; rfl
    rw [hk, List.getElem?_map] at e1
    obtain ⟨a, ha, e2⟩ := Option.map_eq_some_iff.mp e1
    have e3 : wipe ((wipe σ [i]).set i (some (kV k0))) [i] = wipe σ [i] := by
      show ((σ.set i none).set i (some (kV k0))).set i none = σ.set i none
      rw [List.set_set, List.set_set]
    refine ⟨e3, ?_⟩
    show fVar i ((σ.set i none).set i (some (kV k0))) _ _
    rw [List.set_set]
    unfold fVar
    rw [nth_set hi, ← e2]
    exact nx _ _ (Same.refl _) ⟨a, ha, rfl⟩
  · intro ys H1 hl hy s hD'
    have hl2 : ys.length = ns.length := by
      rw [hl]
      have := congrArg List.length hk
      simpa using this
    have e := ys_get (l := ns) (f := V.int) hl2 hy
    rw [e] at hD'
    refine ⟨s _ _ upd_same, k D _ (unlock hd s) (unlock_at hd ?_ hD')⟩
    rw [upd_ne (fun e => by rw [e, upd_same] at hD; cases hD)] at hD
    exact hD
end
/-! ### comparisons as tests; in a dict -/
section
variable {X : Cx} {a b : Expr} {ta tb : TE} {pos : Pos} {op : CmpOp} {r : R2}
theorem t_cmp (ho : OpR X (compareOp op) r) (ha : PE X a ta) (hb : PE X b tb) (hm : behindInMarks op b = false) : PT X (.Compare a [op] [b] pos) (fB (tOp r ta tb)) := by
  refine ⟨fun pins s σ H Q I h => ?_⟩
  refine wpAny_isTrue_Compare1 (thn (ha.run pins s σ H _ I h) fun v s1 ⟨x, H1, I1, r1, q1⟩ => thn (hb.run pins s1 σ H1 _ I1 q1) fun u s2 ⟨y, H2, I2, r2, q2⟩ =>
    thn (ho pins s2 σ H2 x y v u _ I2 r1 r2 q2) fun c s3 ⟨z, H3, I3, r3, q3⟩ => ?_) hm
  cases z with
  | bl k =>
    cases r3
    exact wpAny_truthy_bool ⟨H3, I3, q3⟩
  | _ => exact q3.elim
def rInK : R2 := fun x y H Q => match y with
  | .ref d => ∃ o, DGet H d x o ∧ Q (.bl o.isSome) H
  | _ => False
def rNotInK : R2 := fun x y H Q => match y with
  | .ref d => ∃ o, DGet H d x o ∧ Q (.bl (!o.isSome)) H
  | _ => False
theorem o_inK (hu : X.A.units + 1 < cLine) : OpR X (compareOp .In) rInK := by
  intro pins s σ H x y v u Q I rx ry h
  cases y with
  | ref d =>
    obtain ⟨o, g, q⟩ := h
    obtain rfl : u = Value.ref d := ry
    exact d_in hu I g rx fun s3 I3 => ⟨.bl o.isSome, H, I3, rfl, q⟩
  | _ => exact h.elim
theorem o_notInK (hu : X.A.units + 1 < cLine) : OpR X (compareOp .NotIn) rNotInK := by
  intro pins s σ H x y v u Q I rx ry h
  cases y with
  | ref d =>
    obtain ⟨o, g, q⟩ := h
    obtain rfl : u = Value.ref d := ry
    exact d_notIn hu I g rx fun s3 I3 => ⟨.bl (!o.isSome), H, I3, rfl, q⟩
  | _ => exact h.elim
end
end F
set_option maxHeartbeats 2000000
/-! F10: heaps the same but at one place; fields; instances made. -/
namespace F
open PySem PySem.Spec PyProof.Rows L2
section
variable {H H1 H2 H' : Hp} {a p x dx D : Addr} {o o' : HO} {C : Addr}
/-- all objects kept but what stands at a -/
def SB (a : Addr) (H H' : Hp) : Prop := ∀ b o, b ≠ a → H b = some o → H' b = some o
theorem sb_refl : SB a H H := fun _ _ _ h => h
theorem SB.trans (s : SB a H H1) (t : SB a H1 H2) : SB a H H2 := fun b o n h => t b o n (s b o n h)
theorem sb_same (s : Same H H') : SB a H H' := fun b o _ h => s b o h
theorem sb_upd : SB a H (upd H a o) := fun b o n h => by
  rw [upd_ne n]
  exact h
theorem SB.upd (s : SB a H H1) : SB a H (L2.upd H1 a o) := s.trans sb_upd
theorem SB.same (s : SB a H H1) (t : Same H1 H2) : SB a H H2 := s.trans (sb_same t)
theorem SB.new (s : SB a H H1) (hp : H1 p = none) : SB a H (L2.upd H1 p o) := s.same (snew hp)
/-- what stands elsewhere -/
theorem SB.at (s : SB a H H1) (h : H p = some o) (h0 : H a = some o') (n : o ≠ o') : H1 p = some o := s p o (fun e => n (by rw [e, h0] at h; exact (Option.some.inj h).symm)) h
theorem SB.at2 (s : SB a H H1) (h : H p = some o) (n : p ≠ a) : H1 p = some o := s p o n h
theorem SB.free (s : SB a H H1) (n : p ≠ a) (h : H1 p = none) : H p = none := by
  cases e : H p with
  | none => rfl
  | some o => rw [s p o n e] at h; cases h
theorem same_of_sb (s : SB a H H') (h : H' a = some o) (h0 : H a = some o) : Same H H' := fun b u q => by
  by_cases e : b = a
  · subst e
    rw [h0] at q
    rw [h, q]
  · exact s b u e q
/-- .. with a new one at a -/
theorem SB.fresh (s : SB a H H') (h0 : H a = none) : Same H H' := fun b u q => s b u (fun e => by rw [e, h0] at q; cases q) q
/-- from a new instance's heap back to the elder -/
theorem SB.made (s : SB x (L2.upd (L2.upd H dx (.own x)) x (.ins C dx [])) H') (hx : H x = none) (hdx : H dx = none) : Same H H' := fun b u q => by
  have n1 : b ≠ x := fun e => by rw [e, hx] at q; cases q
  have n2 : b ≠ dx := fun e => by rw [e, hdx] at q; cases q
  refine s b u n1 ?_
  rw [upd_ne n1, upd_ne n2]
  exact q
end
section
variable {f g : Str} {v : V} {fs : List (Str × V)} {n : Nat}
theorem lf0 : ([] : List (Str × V)).length ≤ 0 := Nat.le_refl _
theorem lf (h : fs.length ≤ n) : (putF f v fs).length ≤ n + 1 := Nat.le_trans (length_putF _ _ _) (Nat.succ_le_succ h)
theorem lk_here : (putF f v fs).lookup f = some v := by rw [lookup_putF, if_pos rfl]
theorem lk_next {r : Option V} (ne : g ≠ f) (h : fs.lookup g = r) : (putF f v fs).lookup g = r := by rw [lookup_putF, if_neg ne]; exact h
end
end F
set_option maxHeartbeats 2000000
/-! F11: dicts from whole numbers to objects, as tables; sorted walks over them; either a list or a tuple. -/
namespace F
open PySem PySem.Spec PyProof.Rows L2
section
variable {α β : Type} {k : α → Int} {c : α → β} {ts us : List (Addr × α)} {t u : Addr × α} {n : Int} {H H' : Hp} {d : Addr}
def keysT (k : α → Int) (ts : List (Addr × α)) : List Int := ts.map fun t => k t.2
def kvT (k : α → Int) (ts : List (Addr × α)) : List (Key × V) := ts.map fun t => (.inl (k t.2), .ref t.1)
/-- the dict at d -/
structure Tab (k : α → Int) (H : Hp) (d : Addr) (ts : List (Addr × α)) : Prop where
  at_ : H d = some (.dK (kvT k ts))
  nd : (keysT k ts).Nodup
theorem Tab.same (h : Tab k H d ts) (s : Same H H') : Tab k H' d ts := ⟨s _ _ h.at_, h.nd⟩
theorem Tab.sb {a : Addr} (h : Tab k H d ts) (s : SB a H H') (n : d ≠ a) : Tab k H' d ts := ⟨s _ _ n h.at_, h.nd⟩
theorem tab_nil (h : H d = some (.dK [])) : Tab k H d [] := ⟨h, List.nodup_nil⟩
theorem kvT_len : (kvT k ts).length = ts.length := List.length_map ..
theorem kvT_keys : (kvT k ts).map (fun kv => kV kv.1) = (keysT k ts).map V.int := by
  unfold kvT keysT
  rw [List.map_map, List.map_map]
  rfl
theorem val_some : ∀ {ts : List (Addr × α)}, (keysT k ts).Nodup → ∀ {t}, t ∈ ts → valV (kvT k ts) (Sum.inl (k t.2) : Key) = some (.ref t.1)
  | [], _, _, h => by simp at h
  | u :: r, nd, t, h => by
    have nd2 : (k u.2 :: keysT k r).Nodup := nd
    rw [List.nodup_cons] at nd2
    by_cases e : u = t
    · subst e
      exact valV_pos (p := ((Sum.inl (k u.2) : Key), V.ref u.1)) rfl
    · have hr : t ∈ r := by
        rcases List.mem_cons.mp h with h | h
        · exact absurd h.symm e
        · exact h
      have ne : ¬ (Sum.inl (k u.2) : Key) = (Sum.inl (k t.2) : Key) := fun z => nd2.1 (by
        rw [Sum.inl.inj z]
        exact List.mem_map.mpr ⟨t, hr, rfl⟩)
      show valV ((.inl (k u.2), .ref u.1) :: kvT k r) (.inl (k t.2)) = _
      rw [valV_neg ne]
      exact val_some nd2.2 hr
theorem val_none : ∀ {ts : List (Addr × α)}, n ∉ keysT k ts → valV (kvT k ts) (Sum.inl n : Key) = none
  | [], _ => rfl
  | u :: r, h => by
    have h1 : n ∉ k u.2 :: keysT k r := h
    simp only [List.mem_cons, not_or] at h1
    show valV ((.inl (k u.2), .ref u.1) :: kvT k r) (.inl n) = _
    rw [valV_neg (fun z => h1.1 (Sum.inl.inj z).symm)]
    exact val_none h1.2
theorem Tab.get (h : Tab k H d ts) (ht : t ∈ ts) : DGet H d (.int (k t.2)) (some (.ref t.1)) := by
  rw [← val_some h.nd ht]
  exact DGet.k (k := .inl (k t.2)) h.at_
theorem mem_keysT : n ∈ keysT k ts ↔ ∃ t, t ∈ ts ∧ k t.2 = n := List.mem_map
theorem Tab.has (h : Tab k H d ts) (n : Int) : ∃ o, DGet H d (.int n) o ∧ (o.isSome = true ↔ n ∈ keysT k ts) := by
  refine ⟨_, DGet.k (k := .inl n) h.at_, ?_⟩
  by_cases e : n ∈ keysT k ts
  · obtain ⟨t, ht, rfl⟩ := mem_keysT.mp e
    rw [val_some h.nd ht]
    exact ⟨fun _ => e, fun _ => rfl⟩
  · rw [val_none e]
    exact Iff.intro (fun z => absurd z (by decide)) fun z => absurd z e
open Classical in
/-- in its place, or at the end -/
noncomputable def putT (k : α → Int) (ts : List (Addr × α)) (t : Addr × α) : List (Addr × α) := if k t.2 ∈ keysT k ts then ts.map fun u => if k u.2 = k t.2 then t else u else ts ++ [t]
theorem any_keys : ((kvT k ts).any fun kv => decide (kv.1 = .inl n)) = true ↔ n ∈ keysT k ts := by
  unfold kvT keysT
  rw [List.any_map, List.any_eq_true, List.mem_map]
  constructor
  · rintro ⟨u, hu, e⟩
    exact ⟨u, hu, Sum.inl.inj (of_decide_eq_true e)⟩
  · rintro ⟨u, hu, e⟩
    exact ⟨u, hu, decide_eq_true (congrArg Sum.inl e)⟩
theorem kvT_put : putK (kvT k ts) (.inl (k t.2)) (.ref t.1) = kvT k (putT k ts t) := by
  unfold putK putT
  by_cases e : k t.2 ∈ keysT k ts
  · rw [if_pos (any_keys.mpr e), if_pos e]
    unfold kvT
    rw [List.map_map, List.map_map]
    refine List.map_congr_left fun u _ => ?_
    show (if (Sum.inl (k u.2) : Key) = .inl (k t.2) then _ else _) = _
    by_cases q : k u.2 = k t.2
    · rw [if_pos (congrArg Sum.inl q)]
      show _ = (Sum.inl (k (if k u.2 = k t.2 then t else u).2), V.ref (if k u.2 = k t.2 then t else u).1)
      rw [if_pos q]
      show ((Sum.inl (k u.2) : Key), V.ref t.1) = _
      rw [q]
    · rw [if_neg fun z => q (Sum.inl.inj z)]
      show _ = (Sum.inl (k (if k u.2 = k t.2 then t else u).2), V.ref (if k u.2 = k t.2 then t else u).1)
      rw [if_neg q]
  · rw [if_neg fun z => e (any_keys.mp z), if_neg e]
    unfold kvT
    rw [List.map_append]
    rfl
theorem keys_put : keysT k (putT k ts t) = if k t.2 ∈ keysT k ts then keysT k ts else keysT k ts ++ [k t.2] := by
  unfold putT
  by_cases e : k t.2 ∈ keysT k ts
  · rw [if_pos e, if_pos e]
    unfold keysT
    rw [List.map_map]
    refine List.map_congr_left fun u _ => ?_
    show k (if k u.2 = k t.2 then t else u).2 = _
    by_cases q : k u.2 = k t.2
    · rw [if_pos q, q]
    · rw [if_neg q]
  · rw [if_neg e, if_neg e]
    unfold keysT
    rw [List.map_append]
    rfl
theorem put_nd (h : (keysT k ts).Nodup) : (keysT k (putT k ts t)).Nodup := by
  rw [keys_put]
  split
  · exact h
  · rename_i e
    rw [List.nodup_append]
    refine ⟨h, by simp, fun a ha b hb z => ?_⟩
    simp at hb
    subst hb
    rw [z] at ha
    exact e ha
theorem put_len : (putT k ts t).length ≤ ts.length + 1 := by
  unfold putT
  split
  · rw [List.length_map]
    omega
  · rw [List.length_append]
    simp
theorem mem_put {u : Addr × α} (h : u ∈ putT k ts t) : u = t ∨ u ∈ ts := by
  unfold putT at h
  split at h
  · obtain ⟨v, hv, e⟩ := List.mem_map.mp h
    by_cases q : k v.2 = k t.2
    · rw [if_pos q] at e
      exact .inl e.symm
    · rw [if_neg q] at e
      subst e
      exact .inr hv
  · rcases List.mem_append.mp h with h | h
    · exact .inr h
    · exact .inl (by simpa using h)
theorem put_mem : t ∈ putT k ts t := by
  unfold putT
  split
  · rename_i e
    obtain ⟨u, hu, q⟩ := mem_keysT.mp e
    exact List.mem_map.mpr ⟨u, hu, if_pos q⟩
  · simp
theorem put_old {u : Addr × α} (h : u ∈ ts) (n : k u.2 ≠ k t.2) : u ∈ putT k ts t := by
  unfold putT
  split
  · exact List.mem_map.mpr ⟨u, h, if_neg n⟩
  · exact List.mem_append_left _ h
/-- what the table tells -/
def conT (c : α → β) (ts : List (Addr × α)) : List β := ts.map fun t => c t.2
theorem mem_conT {y : β} : y ∈ conT c ts ↔ ∃ t, t ∈ ts ∧ c t.2 = y := List.mem_map
theorem con_put (inj : ∀ u, u ∈ ts → k u.2 = k t.2 → c u.2 = c t.2) (y : β) : y ∈ conT c (putT k ts t) ↔ y ∈ conT c ts ∨ y = c t.2 := by
  rw [mem_conT, mem_conT]
  constructor
  · rintro ⟨u, hu, rfl⟩
    rcases mem_put hu with rfl | hu
    · exact .inr rfl
    · exact .inl ⟨u, hu, rfl⟩
  · rintro (⟨u, hu, rfl⟩ | rfl)
    · by_cases q : k u.2 = k t.2
      · exact ⟨t, put_mem, (inj u hu q).symm⟩
      · exact ⟨u, put_old hu q, rfl⟩
    · exact ⟨t, put_mem, rfl⟩
theorem Tab.put (h : Tab k H d ts) (hl : ts.length < sizeLine) : DPut H d (.int (k t.2)) (.ref t.1) (upd H d (.dK (kvT k (putT k ts t)))) ∧ Tab k (upd H d (.dK (kvT k (putT k ts t)))) d (putT k ts t) := by
  refine ⟨?_, ⟨upd_same, put_nd h.nd⟩⟩
  rw [← kvT_put]
  exact DPut.k (k := .inl (k t.2)) h.at_ (by rw [kvT_len]; exact hl)
/-- the table's items in the order of their keys -/
theorem Tab.sorted (h : Tab k H d ts) {ms : List Int} (hp : ms.Perm (keysT k ts)) (hs : ms.Pairwise (· ≤ ·)) :
    ∃ us : List (Addr × α), us.map (fun u => k u.2) = ms ∧ (∀ u, u ∈ us ↔ u ∈ ts) ∧ us.Pairwise (fun a b => k a.2 < k b.2) ∧ us.length = ts.length := by
  have nd : ms.Nodup := hp.nodup_iff.mpr h.nd
  have lt : ms.Pairwise (· < ·) := by
    have := hs.and nd
    exact this.imp fun {a b} z => by have := z.1; have := z.2; omega
  have ex : ∀ ms' : List Int, (∀ m, m ∈ ms' → m ∈ keysT k ts) → ∃ us : List (Addr × α), us.map (fun u => k u.2) = ms' ∧ ∀ u, u ∈ us → u ∈ ts := by
    intro ms'
    induction ms' with
    | nil => exact fun _ => ⟨[], rfl, fun u hu => by simp at hu⟩
    | cons m r ih =>
      intro hm
      obtain ⟨us, e, hu⟩ := ih fun x hx => hm x (List.mem_cons_of_mem _ hx)
      obtain ⟨t, ht, q⟩ := mem_keysT.mp (hm m List.mem_cons_self)
      refine ⟨t :: us, by rw [List.map_cons, e, q], fun u z => ?_⟩
      rcases List.mem_cons.mp z with rfl | z
      · exact ht
      · exact hu u z
  obtain ⟨us, e, hu⟩ := ex ms fun m hm => hp.mem_iff.mp hm
  refine ⟨us, e, fun u => ⟨hu u, fun z => ?_⟩, ?_, ?_⟩
  rotate_left
  rotate_left
  · have := hp.length_eq
    rw [← e] at this
    unfold keysT at this
    simpa using this
  · have : k u.2 ∈ ms := hp.mem_iff.mpr (mem_keysT.mpr ⟨u, z, rfl⟩)
    rw [← e] at this
    obtain ⟨v, hv, q⟩ := List.mem_map.mp this
    have hvt := hu v hv
    have g1 := val_some h.nd z
    have g2 := val_some h.nd hvt
    -- the same key stands once
    have : v = u := by
      have nodup_inj : ∀ {l : List (Addr × α)}, (keysT k l).Nodup → ∀ {a b}, a ∈ l → b ∈ l → k a.2 = k b.2 → a = b := by
        intro l
        induction l with
        | nil => intro _ a b ha; simp at ha
        | cons x r ih =>
          intro nd a b ha hb q
          have nd2 : (k x.2 :: keysT k r).Nodup := nd
          rw [List.nodup_cons] at nd2
          rcases List.mem_cons.mp ha with ea | ha <;> rcases List.mem_cons.mp hb with eb | hb
          · rw [ea, eb]
          · exact absurd (mem_keysT.mpr ⟨b, hb, by rw [← q, ea]⟩) nd2.1
          · exact absurd (mem_keysT.mpr ⟨a, ha, by rw [q, eb]⟩) nd2.1
          · exact ih nd2.2 ha hb q
      exact nodup_inj h.nd hvt z q
    rw [← this]
    exact hv
  · rw [← e] at lt
    exact List.pairwise_map.mp lt
end
theorem con_take {α β : Type} {c : α → β} {ps : List (Addr × α)} {i : Nat} {t : Addr × α} (h : ps[i]? = some t) (y : β) : y ∈ conT c (ps.take (i + 1)) ↔ y ∈ conT c (ps.take i) ∨ y = c t.2 := by
  unfold conT
  rw [List.take_add_one, h, List.map_append, List.mem_append]
  simp
/-- two strictly sorted lists of the same members -/
theorem sorted_ext {α : Type} (f : α → Int) : ∀ {l m : List α}, l.Pairwise (fun a b => f a < f b) → m.Pairwise (fun a b => f a < f b) → (∀ x, x ∈ l ↔ x ∈ m) → l = m
  | [], [], _, _, _ => rfl
  | [], b :: m, _, _, h => by have := (h b).mpr List.mem_cons_self; simp at this
  | a :: l, [], _, _, h => by have := (h a).mp List.mem_cons_self; simp at this
  | a :: l, b :: m, hl, hm, h => by
    rw [List.pairwise_cons] at hl hm
    have e : a = b := by
      rcases List.mem_cons.mp ((h a).mp List.mem_cons_self) with z | z
      · exact z
      · rcases List.mem_cons.mp ((h b).mpr List.mem_cons_self) with y | y
        · exact y.symm
        · have := hl.1 b y
          have := hm.1 a z
          omega
    subst e
    rw [sorted_ext f hl.2 hm.2 fun x => ?_]
    constructor
    · intro hx
      rcases List.mem_cons.mp ((h x).mp (List.mem_cons_of_mem _ hx)) with z | z
      · subst z
        have := hl.1 x hx
        omega
      · exact z
    · intro hx
      rcases List.mem_cons.mp ((h x).mpr (List.mem_cons_of_mem _ hx)) with z | z
      · subst z
        have := hm.1 x hx
        omega
      · exact z
theorem merge_app {α : Type} {k : α → Int} : ∀ (more acc : List (Addr × α)), (keysT k (acc ++ more)).Nodup → mergeK (kvT k acc) (kvT k more) = kvT k (acc ++ more)
  | [], acc, _ => by rw [List.append_nil]; rfl
  | t :: r, acc, h => by
    have h2 : (keysT k (acc ++ [t] ++ r)).Nodup := by rw [List.append_assoc]; exact h
    have hn : k t.2 ∉ keysT k acc := fun z => by
      unfold keysT at h z
      rw [List.map_append, List.nodup_append] at h
      exact h.2.2 _ z _ (List.mem_cons_self) rfl
    have e : putK (kvT k acc) (Sum.inl (k t.2)) (.ref t.1) = kvT k (acc ++ [t]) := by
      rw [putK_new _ (val_none hn)]
      unfold kvT
      rw [List.map_append]
      rfl
    show mergeK (putK (kvT k acc) (Sum.inl (k t.2)) (.ref t.1)) (kvT k r) = _
    rw [e, merge_app r (acc ++ [t]) h2, List.append_assoc]
    rfl
theorem merge_nil {α : Type} {k : α → Int} {ts : List (Addr × α)} (h : (keysT k ts).Nodup) : mergeK [] (kvT k ts) = kvT k ts := merge_app ts [] h
/-! ### a list or a tuple -/
section
variable {X : Cx} {tg l : Expr} {tl : TE} {wi wi' : TI}
theorem PI.or (h : PI X tg l wi) (h' : PI X tg l wi') : PI X tg l (fun σ H R => wi σ H R ∨ wi' σ H R) := ⟨fun pins s σ H R I z => z.elim (fun z => h.run pins s σ H R I z) fun z => h'.run pins s σ H R I z⟩
def iSeq (K : PySem.W.Frag) (tl : TE) : TI := fun σ H R => tl σ H fun x H1 => match x with
  | .ref a => ∃ xs, (SqL K H1 a xs ∨ SqT K H1 a xs) ∧ ∀ J G, Walk J xs.length G (YAt xs) → (∀ H', (∀ o, H1 a = some o → (∀ kvs, o ≠ .dK kvs) → H' a = some o) → G H') → R J H1
  | _ => False
theorem pi_seq (hl : PE X l tl) : PI X tg l (iSeq X.K tl) := by
  refine ⟨fun pins s σ H R I h => ?_⟩
  refine thn (hl.run pins s σ H _ I h) fun v s1 ⟨x, H1, I1, r1, q1⟩ => ?_
  cases x with
  | ref a =>
    obtain ⟨xs, hq, k⟩ := q1
    cases r1
    have fp : ∀ b ∈ [s1.heap.objs.size], H1 b = none ∧ FpOk X pins H1 b := fun b hb => by
      have e : b = s1.heap.objs.size := by simpa using hb
      subst e
      exact ⟨I1.hok.fresh (Nat.le_refl _), I1.fpOk (Nat.le_refl _) (I1.hok.fresh (Nat.le_refl _))⟩
    rcases hq with hq | hq
    · obtain ⟨its, rv, p, hz⟩ := I1.list hq
      refine wpAny_pyIter_list p.isList ?_
      exact ⟨s1.heap.objs.size, [s1.heap.objs.size], _, _, H1, rfl, I1.kept (t' := s1.toks) fun b o e => Heap.get?_push_of_some _ e, turn_list a _, ⟨_, Heap.get?_push_size _ rfl, rfl, rfl⟩, fun b hb => (fp b hb).2, k _ _ (walk_list (xs := xs)) fun H' g => hq.elim (fun z => z.elim (fun z => .inl (.inl (g _ z fun _ e => by cases e))) fun ⟨o, z⟩ => .inl (.inr ⟨o, g _ z fun _ e => by cases e⟩)) .inr⟩
    · obtain ⟨its, rv, p, hz⟩ := I1.tuple hq
      refine wpAny_pyIter_tuple (show s1.heap.IsTuple a its.toArray from p) ?_
      exact ⟨s1.heap.objs.size, [s1.heap.objs.size], _, _, H1, rfl, I1.kept (t' := s1.toks) fun b o e => Heap.get?_push_of_some _ e, turn_tuple a _, ⟨_, Heap.get?_push_size _ rfl, rfl, rfl⟩, fun b hb => (fp b hb).2, k _ _ (walk_tup (xs := xs)) fun H' g => hq.elim (fun z => z.elim (fun z => .inl (.inl (g _ z fun _ e => by cases e))) fun ⟨o, z⟩ => .inl (.inr ⟨o, g _ z fun _ e => by cases e⟩)) .inr⟩
  | _ => exact q1.elim
end
/-! ### targets that are tuples -/
def fGNil : TGs := fun vs σ H Q => match vs with
  | [] => Q σ H
  | _ => False
def fGCons (t : TG) (u : TGs) : TGs := fun vs σ H Q => match vs with
  | v :: r => t v σ H fun σ' H' => u r σ' H' Q
  | [] => False
def fGTup (K : PySem.W.Frag) (n : Nat) (t : TGs) : TG := fun v σ H Q => match v with
  | .ref a => ∃ xs, SqT K H a xs ∧ xs.length = n ∧ t xs σ H Q
  | _ => False
section
variable {X : Cx}
theorem upG {e : Expr} {g g' : TG} (h : PG X e g) (m : ∀ v σ H Q, g' v σ H Q → g v σ H Q) : PG X e g' := ⟨fun pins s σ H v u Q I r z => h.run pins s σ H v u Q I r (m _ _ _ _ z)⟩
theorem upGs {es : List Expr} {g g' : TGs} (h : PGs X es g) (m : ∀ v σ H Q, g' v σ H Q → g v σ H Q) : PGs X es g' := ⟨fun pins s σ H v u Q I r z => h.run pins s σ H v u Q I r (m _ _ _ _ z)⟩
theorem fgs_nil : PGs X [] fGNil := upGs pgs_nil fun v σ H Q h => by
  cases v with
  | nil => exact ⟨rfl, h⟩
  | cons a b => exact h.elim
theorem fgs_cons {e : Expr} {es : List Expr} {t : TG} {u : TGs} (h1 : PG X e t) (h2 : PGs X es u) (hs : (assignEach (e :: es) X.env).map (·.2) = assign e X.env :: (assignEach es X.env).map (·.2) := by rfl) : PGs X (e :: es) (fGCons t u) :=
  upGs (pgs_cons h1 h2 hs) fun v σ H Q h => by
    cases v with
    | nil => exact h.elim
    | cons a b => exact ⟨a, b, rfl, h⟩
theorem fg_tup {es : List Expr} {k : Nat} {t : TGs} {n : Nat} {pos : Pos} (hc : X.calm = true) (h : PGs X es t)
    (hn : (assignEach es X.env).length = n := by rfl) (hst : (assignEach es X.env).findIdx? (·.1) = none := by rfl) : PG X (.Tuple es k pos) (fGTup X.K n t) :=
  upG (pg_tup hc h hn hst) fun v σ H Q h => by
    cases v with
    | ref a =>
      obtain ⟨xs, a1, a2, a3⟩ := h
      exact ⟨_, xs, rfl, a1, a2, a3⟩
    | _ => exact h.elim
end
/-! ### d[k], d[k] = v -/
section
variable {X : Cx} {o i value : Expr} {td ty tv : TE} {j : Nat} {pos pos' : Pos}
theorem e_dget (hr : Room j X.A) (ho : PE X o td) (hi : PE X i ty) (hs : NoSl i := by exact fun _ _ => rfl) : PE X (.Subscript o i pos) (tDGet td ty) := pe_dget (hu_of hr) ho hi hs
end
/-! ### readings with K named (within comprehensions) -/
section
variable {X : Cx} {K : PySem.W.Frag} {e a : Expr} {ta : TE} {f x : Str} {p pos : Pos}
theorem k_fld (K : PySem.W.Frag) (he : PE X e ta) (hK : X.K = K := by rfl) (hb : attributeBase e f X.env (eval e X.env) = eval e X.env := by rfl) : PE X (.Attribute e f pos) (fFld K ta f) := by
  subst hK
  exact e_fld he hb
theorem k_ixT (K : PySem.W.Frag) (hK : X.K = K := by rfl) : IxR X (rIxTF K) := by
  subst hK
  exact ixT
theorem k_ixL (K : PySem.W.Frag) (hK : X.K = K := by rfl) : IxR X (rIxLF K) := by
  subst hK
  exact ixL
theorem kk_len (K : PySem.W.Frag) (hm : X.mg "len" = none) (ha : PE X a ta) (hK : X.K = K := by rfl) (hg : Gl X "len" := by rfl) (hs : starEach (a :: []) X.env = (false, eval a X.env) :: starEach [] X.env := by rfl) : PE X (.Call (.Name "len" p) [a] [] pos) (tCB (rLenF K) (tCons ta tNil)) := by
  subst hK
  exact e_len hm ha hg hs
theorem k_add (K : PySem.W.Frag) (hK : X.K = K := by rfl) : OpR X (binaryOp .Add) (rAddF K) := by
  subst hK
  exact o_add
theorem kg_tup (K : PySem.W.Frag) {es : List Expr} {k : Nat} {t : TGs} {n : Nat} (hc : X.calm = true) (h : PGs X es t) (hK : X.K = K := by rfl)
    (hn : (assignEach es X.env).length = n := by rfl) (hst : (assignEach es X.env).findIdx? (·.1) = none := by rfl) : PG X (.Tuple es k pos) (fGTup K n t) := by
  subst hK
  exact fg_tup hc h hn hst
end
def fJoined (ts : List TE) : TE := fun σ H Q => tJs ts Str.empty σ H fun out H1 => Q (.str out) H1
theorem e_joined {X : Cx} {v1 v2 : Expr} {rest : List Expr} {ts : List TE} {pos : Pos} (h : PJ X (v1 :: v2 :: rest) ts) : PE X (.JoinedStr (v1 :: v2 :: rest) pos) (fJoined ts) := pe_joined h
theorem gm_t2 {K : PySem.W.Frag} {i j : Nat} : ∀ x σ H (P P' : L2.St → Hp → Prop), (∀ σ2 H2, P σ2 H2 → P' σ2 H2) → fGTup K 2 (fGCons (gName i) (fGCons (gName j) fGNil)) x σ H P → fGTup K 2 (fGCons (gName i) (fGCons (gName j) fGNil)) x σ H P' := fun x σ H P P' k h => by
  cases x with
  | ref a =>
    obtain ⟨xs, h1, h2, h3⟩ := h
    refine ⟨xs, h1, h2, ?_⟩
    match xs, h2, h3 with
    | [u, v], _, h3 => exact k _ _ h3
  | _ => exact h.elim
/-- the results told one by one -/
theorem ys_ex {α : Type} {f : α → V} {P : Nat → α → Prop} : ∀ {ys : List V} , (∀ (i : Nat) y, ys[i]? = some y → ∃ a, P i a ∧ y = f a) → ∃ l : List α, ys = l.map f ∧ ∀ (i : Nat) a, l[i]? = some a → P i a := by
  intro ys
  induction ys generalizing P with
  | nil => exact fun _ => ⟨[], rfl, fun i a h => by simp at h⟩
  | cons y r ih =>
    intro h
    obtain ⟨a, pa, e⟩ := h 0 y rfl
    obtain ⟨l, e2, hl⟩ := ih (P := fun i => P (i + 1)) fun i z hz => h (i + 1) z (by simpa using hz)
    refine ⟨a :: l, by rw [e, e2]; rfl, fun i b hb => ?_⟩
    cases i with
    | zero =>
      simp at hb
      subst hb
      exact pa
    | succ i => exact hl i b (by simpa using hb)
theorem ite_p {p : Prop} [Decidable p] {A B : Prop} (h1 : p → A) (h2 : ¬ p → B) : if decide p = true then A else B := by
  by_cases h : p
  · rw [if_pos (decide_eq_true h)]
    exact h1 h
  · rw [if_neg (by rw [decide_eq_false h]; decide)]
    exact h2 h
/-- two tuples joined, neither empty -/
def rCatT (K : PySem.W.Frag) : R2 := fun x y H Q => match x, y with
  | .ref a, .ref b => ∃ xs ys, SqT K H a xs ∧ SqT K H b ys ∧ (xs.isEmpty = false ∧ ys.isEmpty = false ∧ xs.length + ys.length ≤ 1000) ∧ ∀ p, H p = none → Q (.ref p) (upd H p (.tup (xs ++ ys)))
  | _, _ => False
theorem k_catT (K : PySem.W.Frag) {X : Cx} (hK : X.K = K := by rfl) : OpR X (binaryOp .Add) (rCatT K) := by
  subst hK
  exact upR op_catA fun x y H Q h => by
    unfold rCatT at h
    split at h
    · obtain ⟨xs, ys, h1, h2, ⟨h3, h4, h5⟩, h6⟩ := h
      refine ⟨_, _, xs, ys, rfl, rfl, h1, h2, Nat.le_trans h5 (by decide), fun e => ?_, fun _ e => ?_, fun _ _ => h6⟩
      · rw [e] at h3
        cases h3
      · rw [e] at h4
        cases h4
    · exact h.elim
end F
set_option maxHeartbeats 2000000
/-! F12: what the tests say; the end for promises with exceptions. -/
namespace F
open PySem PySem.Spec PyProof.Rows L2
/-- the end of a law, promises over L2.CX -/
theorem walk_end {l : PySem.W.OpenLaw} {n k : Nat} {q : Program} {loose : List Str} {XP : (Str → Option Value) → Heap → Prop} {YP : World → Heap → Prop} {d : DefRec} {x : Str}
    (hn : l.most = some n) (hn2 : n ≤ sizeLine) (hdf : d.params.defaults = []) (hr : Room k callerA)
    (F : ∀ (w : World) (mg : Str → Option Value) (fa : Addr) (h : Heap), YP w h → h.Ns mainGlobals mg → mg d.name = some (.ref fa) → ∃ (K : PySem.W.Frag) (fd : FuncData) (sp : Sp), K.In h ∧
        (∀ (s : Shared) (u : Value), BindsTo s fd ⟨[u], []⟩ [(x, u)]) ∧
        (∀ (H : Hp) (a : Addr) (ns : List Int), ns.length ≤ n → SqL K H a (ns.map V.int) → sp [.ref a] H (fun v _ => v = .bl true) fun _ _ _ => False) ∧
        ∀ base : Heap, FnOk l.prog w K mg base (L2.CX l.prog w) k fa fd [x] sp) :
    PySem.W.WalkO q loose XP YP l.row.toRowW d [] (fun f vs => PySem.call f vs) := by
  refine Att.attach_call hn hdf fun w z0 z1 mg mb fa o pm cd doc a vs ns Gd Yd _ _ _ hm hob hin hle hge => ?_
  obtain ⟨K, fd, sp, KX, hb, hs, hF⟩ := F w mg fa _ Yd Gd.T.g hm
  refine law_call KX Gd.T.g Gd.T.b Gd.T.builtins Gd.T.nolimit hge hob hin (Nat.le_trans hle hn2) hr (fun base _ _ => hF base) hb (fun H _ hS => hs H a ns hle hS) fun H e s' z => ?_
  obtain ⟨_, _, _, _, _, _, _, _, _, _, _, _, k⟩ := z
  exact k
theorem allB {l : List Bool} (h : l.all id = true) (i : Nat) {b : Bool} (e : l[i]? = some b := by rfl) : b = true := List.all_eq_true.mp h b (List.mem_of_getElem? e)
theorem isCB_ok {K : PySem.W.Frag} {x : Str} (h : (isCB K (He.ga K x) && (He.Fa.cls x).ok K) = true) : IsC K (He.ga K x) := by
  obtain ⟨h1, h2⟩ := He.ba h
  unfold isCB at h1
  exact ⟨He.cls_ok h2, He.eqO_ok (allB h1 0), He.eqO_ok (allB h1 1), of_decide_eq_true (allB h1 2), of_decide_eq_true (allB h1 3), of_decide_eq_true (allB h1 4), of_decide_eq_true (allB h1 5), of_decide_eq_true (allB h1 6), of_decide_eq_true (allB h1 7), of_decide_eq_true (allB h1 8)⟩
theorem creadB_ok {K : PySem.W.Frag} {C : Addr} (h : creadB K C = true) : ClX.CRead K C (.type "type") := ⟨(He.ba h).1, He.eqO_ok (He.ba h).2⟩
theorem cvalB_ok {K : PySem.W.Frag} {C : Addr} {f : Str} {v : V} (h : cvalB K C f v = true) : ∃ u, ClX.CVal K C (.type "type") f v u := by
  unfold cvalB at h
  split at h
  · rename_i u e
    exact ⟨u, e, He.relB_ok h⟩
  · cases h
theorem neB_ok {K : PySem.W.Frag} {C : Addr} (h : neB K C = true) : NeC K C := ⟨He.eqO_ok (He.ba h).1, of_decide_eq_true (He.ba h).2⟩
theorem fmB_ok {K : PySem.W.Frag} {C : Addr} (h : fmB K C = true) : FmtC K C := ⟨He.eqO_ok (He.ba h).1, of_decide_eq_true (He.ba h).2⟩
theorem propB_ok {K : PySem.W.Frag} {C : Addr} {m : Str} (h : propB K C m = true) : PropOf K C m (He.ma K C m) (He5.wf K C "property" m) := by
  unfold propB at h
  refine ⟨He.eqO_ok (allB h 0), He.eqO_ok (allB h 1), of_decide_eq_true (allB h 2), ?_⟩
  have h3 := allB h 3
  unfold He5.wf
  split at h3
  · rename_i f r e
    exact ⟨r, by rw [e]⟩
  · cases h3
theorem tup0B_ok {K : PySem.W.Frag} {a : Addr} (h : tup0B K a = true) (H : Hp) : SqT K H a [] := by
  unfold tup0B at h
  split at h
  · rename_i c d its n sl e
    obtain ⟨h1, h2⟩ := He.ba h
    obtain rfl := of_decide_eq_true h1
    obtain rfl := of_decide_eq_true h2
    exact .inr ⟨_, _, n, e, rfl, rfl, by decide, .nil⟩
  · cases h
theorem noLimB_ok {K : PySem.W.Frag} (h : noLimB K = true) : NoLim K := He.eqO_ok h
end F
set_option maxHeartbeats 400000
namespace G
open PySem PySem.Spec PyProof.Rows L2 F
structure Tx (K : PySem.W.Frag) (mg : Str → Option Value) : Prop where
  g__wall : mg "_wall" = some (.ref (He.ga K "_wall"))
  g_book_text : mg "book_text" = some (.ref (He.ga K "book_text"))
  g_RungError : mg "RungError" = some (.ref (He.ga K "RungError"))
  g_BadMoment : mg "BadMoment" = some (.ref (He.ga K "BadMoment"))
  g_BadText : mg "BadText" = some (.ref (He.ga K "BadText"))
  g_BadWatch : mg "BadWatch" = some (.ref (He.ga K "BadWatch"))
  g_TooMany : mg "TooMany" = some (.ref (He.ga K "TooMany"))
  g_NoEntry : mg "NoEntry" = some (.ref (He.ga K "NoEntry"))
  g_is_whole : mg "is_whole" = some (.ref (He.ga K "is_whole"))
  g_is_between : mg "is_between" = some (.ref (He.ga K "is_between"))
  g_is_leap : mg "is_leap" = some (.ref (He.ga K "is_leap"))
  g_month_length : mg "month_length" = some (.ref (He.ga K "month_length"))
  g_days_ahead : mg "days_ahead" = some (.ref (He.ga K "days_ahead"))
  g_day_number : mg "day_number" = some (.ref (He.ga K "day_number"))
  g_date_of : mg "date_of" = some (.ref (He.ga K "date_of"))
  g_weekday_of : mg "weekday_of" = some (.ref (He.ga K "weekday_of"))
  g_wrong_part : mg "wrong_part" = some (.ref (He.ga K "wrong_part"))
  g_number_in : mg "number_in" = some (.ref (He.ga K "number_in"))
  g_date_in : mg "date_in" = some (.ref (He.ga K "date_in"))
  g_time_in : mg "time_in" = some (.ref (He.ga K "time_in"))
  g_moment_at : mg "moment_at" = some (.ref (He.ga K "moment_at"))
  g_Moment : mg "Moment" = some (.ref (He.ga K "Moment"))
  g_need_watch : mg "need_watch" = some (.ref (He.ga K "need_watch"))
  g_span_code : mg "span_code" = some (.ref (He.ga K "span_code"))
  g_with_ring : mg "with_ring" = some (.ref (He.ga K "with_ring"))
  g_rings_in : mg "rings_in" = some (.ref (He.ga K "rings_in"))
  g_spans_in : mg "spans_in" = some (.ref (He.ga K "spans_in"))
  g_Book : mg "Book" = some (.ref (He.ga K "Book"))
  g_moment_in : mg "moment_in" = some (.ref (He.ga K "moment_in"))
  g_moment_of : mg "moment_of" = some (.ref (He.ga K "moment_of"))
  g_need_end : mg "need_end" = some (.ref (He.ga K "need_end"))
  g_read_entry : mg "read_entry" = some (.ref (He.ga K "read_entry"))
  g_lines_in : mg "lines_in" = some (.ref (He.ga K "lines_in"))
  g_read_book : mg "read_book" = some (.ref (He.ga K "read_book"))
  g__law_bag : mg "_law_bag" = some (.ref (He.ga K "_law_bag"))
  g__law_draw : mg "_law_draw" = some (.ref (He.ga K "_law_draw"))
  g__law_length : mg "_law_length" = some (.ref (He.ga K "_law_length"))
  g__law_date : mg "_law_date" = some (.ref (He.ga K "_law_date"))
  g__law_weekday : mg "_law_weekday" = some (.ref (He.ga K "_law_weekday"))
  g__law_number : mg "_law_number" = some (.ref (He.ga K "_law_number"))
  g__law_morrow : mg "_law_morrow" = some (.ref (He.ga K "_law_morrow"))
  g__law_moment : mg "_law_moment" = some (.ref (He.ga K "_law_moment"))
  g__law_drawn_date : mg "_law_drawn_date" = some (.ref (He.ga K "_law_drawn_date"))
  g__law_drawn_watch : mg "_law_drawn_watch" = some (.ref (He.ga K "_law_drawn_watch"))
  g__law_ordered : mg "_law_ordered" = some (.ref (He.ga K "_law_ordered"))
  g__law_spec : mg "_law_spec" = some (.ref (He.ga K "_law_spec"))
  g__law_book : mg "_law_book" = some (.ref (He.ga K "_law_book"))
  g__law_word : mg "_law_word" = some (.ref (He.ga K "_law_word"))
  g__law_lines : mg "_law_lines" = some (.ref (He.ga K "_law_lines"))
  g__law_shuffled : mg "_law_shuffled" = some (.ref (He.ga K "_law_shuffled"))
  g_law : mg "law" = some (.ref (He.ga K "law"))
  b_NotImplemented : mg "NotImplemented" = none
  b_ValueError : mg "ValueError" = none
  b_abs : mg "abs" = none
  b_all : mg "all" = none
  b_bool : mg "bool" = none
  b_classmethod : mg "classmethod" = none
  b_dict : mg "dict" = none
  b_enumerate : mg "enumerate" = none
  b_int : mg "int" = none
  b_isinstance : mg "isinstance" = none
  b_len : mg "len" = none
  b_list : mg "list" = none
  b_property : mg "property" = none
  b_range : mg "range" = none
  b_sorted : mg "sorted" = none
  b_staticmethod : mg "staticmethod" = none
  b_str : mg "str" = none
  b_sum : mg "sum" = none
  b_super : mg "super" = none
  b_tuple : mg "tuple" = none
  v_ROUND_YEARS : ∃ u, mg "ROUND_YEARS" = some u ∧ RelV (.int 400) u
  v_ROUND_DAYS : ∃ u, mg "ROUND_DAYS" = some u ∧ RelV (.int 146097) u
  v_DAY_MINUTES : ∃ u, mg "DAY_MINUTES" = some u ∧ RelV (.int 1440) u
  v_LENGTHS : ∃ u, mg "LENGTHS" = some u ∧ RelV (.ref (He.ga K "LENGTHS")) u
  t_LENGTHS : ∀ H : Hp, SqT K H (He.ga K "LENGTHS") [(.int 31), (.int 28), (.int 31), (.int 30), (.int 31), (.int 30), (.int 31), (.int 31), (.int 30), (.int 31), (.int 30), (.int 31)]
  v_DIGITS : ∃ u, mg "DIGITS" = some u ∧ RelV (.str "0123456789") u
  v_Moment : ∃ u, mg "Moment" = some u ∧ RelV (.ref (He.ga K "Moment")) u
  c_Moment : Cls K (He.ga K "Moment")
  n_Moment_year : NoAttr K (He.ga K "Moment") "year"
  n_Moment_month : NoAttr K (He.ga K "Moment") "month"
  n_Moment_day : NoAttr K (He.ga K "Moment") "day"
  n_Moment_hour : NoAttr K (He.ga K "Moment") "hour"
  n_Moment_minute : NoAttr K (He.ga K "Moment") "minute"
  n_Moment_date : NoAttr K (He.ga K "Moment") "date"
  n_Moment_weekday : NoAttr K (He.ga K "Moment") "weekday"
  n_Moment_number : NoAttr K (He.ga K "Moment") "number"
  is_Moment : IsC K (He.ga K "Moment")
  r_Moment : ClX.CRead K (He.ga K "Moment") (.type "type")
  sf_Moment : PySem.W.selfFirst K (He.ga K "Moment") = true
  cv_Moment_MOST_YEAR : ∃ u, ClX.CVal K (He.ga K "Moment") (.type "type") "MOST_YEAR" (.int 999999) u
  mk_Moment : Mk K (He.ga K "Moment") (He.ma K (He.ga K "Moment") "__init__")
  m_Moment___init__ : Meth K (He.ga K "Moment") "__init__" (He.ma K (He.ga K "Moment") "__init__")
  o_Moment___init__ : OwnM K (He.ga K "Moment") "__init__" (He.ma K (He.ga K "Moment") "__init__")
  m_Moment___add__ : Meth K (He.ga K "Moment") "__add__" (He.ma K (He.ga K "Moment") "__add__")
  o_Moment___add__ : OwnM K (He.ga K "Moment") "__add__" (He.ma K (He.ga K "Moment") "__add__")
  m_Moment___radd__ : Meth K (He.ga K "Moment") "__radd__" (He.ma K (He.ga K "Moment") "__radd__")
  o_Moment___radd__ : OwnM K (He.ga K "Moment") "__radd__" (He.ma K (He.ga K "Moment") "__radd__")
  m_Moment___sub__ : Meth K (He.ga K "Moment") "__sub__" (He.ma K (He.ga K "Moment") "__sub__")
  o_Moment___sub__ : OwnM K (He.ga K "Moment") "__sub__" (He.ma K (He.ga K "Moment") "__sub__")
  m_Moment___floordiv__ : Meth K (He.ga K "Moment") "__floordiv__" (He.ma K (He.ga K "Moment") "__floordiv__")
  o_Moment___floordiv__ : OwnM K (He.ga K "Moment") "__floordiv__" (He.ma K (He.ga K "Moment") "__floordiv__")
  m_Moment___mod__ : Meth K (He.ga K "Moment") "__mod__" (He.ma K (He.ga K "Moment") "__mod__")
  o_Moment___mod__ : OwnM K (He.ga K "Moment") "__mod__" (He.ma K (He.ga K "Moment") "__mod__")
  m_Moment___lt__ : Meth K (He.ga K "Moment") "__lt__" (He.ma K (He.ga K "Moment") "__lt__")
  o_Moment___lt__ : OwnM K (He.ga K "Moment") "__lt__" (He.ma K (He.ga K "Moment") "__lt__")
  m_Moment___le__ : Meth K (He.ga K "Moment") "__le__" (He.ma K (He.ga K "Moment") "__le__")
  o_Moment___le__ : OwnM K (He.ga K "Moment") "__le__" (He.ma K (He.ga K "Moment") "__le__")
  m_Moment___gt__ : Meth K (He.ga K "Moment") "__gt__" (He.ma K (He.ga K "Moment") "__gt__")
  o_Moment___gt__ : OwnM K (He.ga K "Moment") "__gt__" (He.ma K (He.ga K "Moment") "__gt__")
  m_Moment___ge__ : Meth K (He.ga K "Moment") "__ge__" (He.ma K (He.ga K "Moment") "__ge__")
  o_Moment___ge__ : OwnM K (He.ga K "Moment") "__ge__" (He.ma K (He.ga K "Moment") "__ge__")
  m_Moment___eq__ : Meth K (He.ga K "Moment") "__eq__" (He.ma K (He.ga K "Moment") "__eq__")
  o_Moment___eq__ : OwnM K (He.ga K "Moment") "__eq__" (He.ma K (He.ga K "Moment") "__eq__")
  m_Moment___str__ : Meth K (He.ga K "Moment") "__str__" (He.ma K (He.ga K "Moment") "__str__")
  o_Moment___str__ : OwnM K (He.ga K "Moment") "__str__" (He.ma K (He.ga K "Moment") "__str__")
  ne_Moment : NeC K (He.ga K "Moment")
  fm_Moment : FmtC K (He.ga K "Moment")
  v_Book : ∃ u, mg "Book" = some u ∧ RelV (.ref (He.ga K "Book")) u
  c_Book : Cls K (He.ga K "Book")
  n_Book_rung : NoAttr K (He.ga K "Book") "rung"
  n_Book_spans : NoAttr K (He.ga K "Book") "spans"
  is_Book : IsC K (He.ga K "Book")
  r_Book : ClX.CRead K (He.ga K "Book") (.type "type")
  sf_Book : PySem.W.selfFirst K (He.ga K "Book") = true
  cv_Book_MOST_RINGS : ∃ u, ClX.CVal K (He.ga K "Book") (.type "type") "MOST_RINGS" (.int 2000) u
  cv_Book_MOST_WATCHES : ∃ u, ClX.CVal K (He.ga K "Book") (.type "type") "MOST_WATCHES" (.int 12) u
  cv_Book_LONGEST : ∃ u, ClX.CVal K (He.ga K "Book") (.type "type") "LONGEST" (.int 1152000) u
  mk_Book : Mk K (He.ga K "Book") (He.ma K (He.ga K "Book") "__init__")
  m_Book___init__ : Meth K (He.ga K "Book") "__init__" (He.ma K (He.ga K "Book") "__init__")
  o_Book___init__ : OwnM K (He.ga K "Book") "__init__" (He.ma K (He.ga K "Book") "__init__")
  p_Book_rings : PropOf K (He.ga K "Book") "rings" (He.ma K (He.ga K "Book") "rings") (He5.wf K (He.ga K "Book") "property" "rings")
  p_Book_watches : PropOf K (He.ga K "Book") "watches" (He.ma K (He.ga K "Book") "watches") (He5.wf K (He.ga K "Book") "property" "watches")
  m_Book___iadd__ : Meth K (He.ga K "Book") "__iadd__" (He.ma K (He.ga K "Book") "__iadd__")
  o_Book___iadd__ : OwnM K (He.ga K "Book") "__iadd__" (He.ma K (He.ga K "Book") "__iadd__")
  m_Book___isub__ : Meth K (He.ga K "Book") "__isub__" (He.ma K (He.ga K "Book") "__isub__")
  o_Book___isub__ : OwnM K (He.ga K "Book") "__isub__" (He.ma K (He.ga K "Book") "__isub__")
  m_Book___contains__ : Meth K (He.ga K "Book") "__contains__" (He.ma K (He.ga K "Book") "__contains__")
  o_Book___contains__ : OwnM K (He.ga K "Book") "__contains__" (He.ma K (He.ga K "Book") "__contains__")
  m_Book_watch : Meth K (He.ga K "Book") "watch" (He.ma K (He.ga K "Book") "watch")
  m_Book___or__ : Meth K (He.ga K "Book") "__or__" (He.ma K (He.ga K "Book") "__or__")
  o_Book___or__ : OwnM K (He.ga K "Book") "__or__" (He.ma K (He.ga K "Book") "__or__")
  m_Book___eq__ : Meth K (He.ga K "Book") "__eq__" (He.ma K (He.ga K "Book") "__eq__")
  o_Book___eq__ : OwnM K (He.ga K "Book") "__eq__" (He.ma K (He.ga K "Book") "__eq__")
  ne_Book : NeC K (He.ga K "Book")
  d_Book___init___0 : ∀ H : Hp, SqT K H (dfl0 (fun K => He.ma K (He.ga K "Book") "__init__") 0 K) []
  d_Book___init___1 : ∀ H : Hp, SqT K H (dfl0 (fun K => He.ma K (He.ga K "Book") "__init__") 1 K) []
  lim : NoLim K
  f_book_text : ∃ fd, FunD K "book_text" "book_text" (defArgs s_book_text) (defBody s_book_text) (defScope s_book_text) [] [] (He.ga K "book_text") fd
  f_is_whole : ∃ fd, FunD K "is_whole" "is_whole" (defArgs s_is_whole) (defBody s_is_whole) (defScope s_is_whole) [] [] (He.ga K "is_whole") fd
  f_is_between : ∃ fd, FunD K "is_between" "is_between" (defArgs s_is_between) (defBody s_is_between) (defScope s_is_between) [] [] (He.ga K "is_between") fd
  f_is_leap : ∃ fd, FunD K "is_leap" "is_leap" (defArgs s_is_leap) (defBody s_is_leap) (defScope s_is_leap) [] [] (He.ga K "is_leap") fd
  f_month_length : ∃ fd, FunD K "month_length" "month_length" (defArgs s_month_length) (defBody s_month_length) (defScope s_month_length) [] [] (He.ga K "month_length") fd
  f_days_ahead : ∃ fd, FunD K "days_ahead" "days_ahead" (defArgs s_days_ahead) (defBody s_days_ahead) (defScope s_days_ahead) [] [] (He.ga K "days_ahead") fd
  f_day_number : ∃ fd, FunD K "day_number" "day_number" (defArgs s_day_number) (defBody s_day_number) (defScope s_day_number) [] [] (He.ga K "day_number") fd
  f_date_of : ∃ fd, FunD K "date_of" "date_of" (defArgs s_date_of) (defBody s_date_of) (defScope s_date_of) [] [] (He.ga K "date_of") fd
  f_weekday_of : ∃ fd, FunD K "weekday_of" "weekday_of" (defArgs s_weekday_of) (defBody s_weekday_of) (defScope s_weekday_of) [] [] (He.ga K "weekday_of") fd
  f_wrong_part : ∃ fd, FunD K "wrong_part" "wrong_part" (defArgs s_wrong_part) (defBody s_wrong_part) (defScope s_wrong_part) [] [] (He.ga K "wrong_part") fd
  f_number_in : ∃ fd, FunD K "number_in" "number_in" (defArgs s_number_in) (defBody s_number_in) (defScope s_number_in) [] [] (He.ga K "number_in") fd
  f_date_in : ∃ fd, FunD K "date_in" "date_in" (defArgs s_date_in) (defBody s_date_in) (defScope s_date_in) [] [] (He.ga K "date_in") fd
  f_time_in : ∃ fd, FunD K "time_in" "time_in" (defArgs s_time_in) (defBody s_time_in) (defScope s_time_in) [] [] (He.ga K "time_in") fd
  f_moment_at : ∃ fd, FunD K "moment_at" "moment_at" (defArgs s_moment_at) (defBody s_moment_at) (defScope s_moment_at) [] [] (He.ga K "moment_at") fd
  f_Moment___init__ : ∃ fd, FunD K "__init__" "Moment.__init__" (defArgs s_Moment___init__) (defBody s_Moment___init__) (defScope s_Moment___init__) [(.int 0), (.int 0)] [] (He.ma K (He.ga K "Moment") "__init__") fd
  f_Moment_at : ∃ fd, FunD K "at" "Moment.at" (defArgs s_Moment_at) (defBody s_Moment_at) (defScope s_Moment_at) [] [] (He5.wf K (He.ga K "Moment") "staticmethod" "at") fd
  f_Moment_read : ∃ fd, FunD K "read" "Moment.read" (defArgs s_Moment_read) (defBody s_Moment_read) (defScope s_Moment_read) [] [] (He5.wf K (He.ga K "Moment") "classmethod" "read") fd
  f_Moment___add__ : ∃ fd, FunD K "__add__" "Moment.__add__" (defArgs s_Moment___add__) (defBody s_Moment___add__) (defScope s_Moment___add__) [] [] (He.ma K (He.ga K "Moment") "__add__") fd
  f_Moment___radd__ : ∃ fd, FunD K "__radd__" "Moment.__radd__" (defArgs s_Moment___radd__) (defBody s_Moment___radd__) (defScope s_Moment___radd__) [] [] (He.ma K (He.ga K "Moment") "__radd__") fd
  f_Moment___sub__ : ∃ fd, FunD K "__sub__" "Moment.__sub__" (defArgs s_Moment___sub__) (defBody s_Moment___sub__) (defScope s_Moment___sub__) [] [] (He.ma K (He.ga K "Moment") "__sub__") fd
  f_Moment___floordiv__ : ∃ fd, FunD K "__floordiv__" "Moment.__floordiv__" (defArgs s_Moment___floordiv__) (defBody s_Moment___floordiv__) (defScope s_Moment___floordiv__) [] [] (He.ma K (He.ga K "Moment") "__floordiv__") fd
  f_Moment___mod__ : ∃ fd, FunD K "__mod__" "Moment.__mod__" (defArgs s_Moment___mod__) (defBody s_Moment___mod__) (defScope s_Moment___mod__) [] [] (He.ma K (He.ga K "Moment") "__mod__") fd
  f_Moment___lt__ : ∃ fd, FunD K "__lt__" "Moment.__lt__" (defArgs s_Moment___lt__) (defBody s_Moment___lt__) (defScope s_Moment___lt__) [] [] (He.ma K (He.ga K "Moment") "__lt__") fd
  f_Moment___le__ : ∃ fd, FunD K "__le__" "Moment.__le__" (defArgs s_Moment___le__) (defBody s_Moment___le__) (defScope s_Moment___le__) [] [] (He.ma K (He.ga K "Moment") "__le__") fd
  f_Moment___gt__ : ∃ fd, FunD K "__gt__" "Moment.__gt__" (defArgs s_Moment___gt__) (defBody s_Moment___gt__) (defScope s_Moment___gt__) [] [] (He.ma K (He.ga K "Moment") "__gt__") fd
  f_Moment___ge__ : ∃ fd, FunD K "__ge__" "Moment.__ge__" (defArgs s_Moment___ge__) (defBody s_Moment___ge__) (defScope s_Moment___ge__) [] [] (He.ma K (He.ga K "Moment") "__ge__") fd
  f_Moment___eq__ : ∃ fd, FunD K "__eq__" "Moment.__eq__" (defArgs s_Moment___eq__) (defBody s_Moment___eq__) (defScope s_Moment___eq__) [] [] (He.ma K (He.ga K "Moment") "__eq__") fd
  f_Moment___str__ : ∃ fd, FunD K "__str__" "Moment.__str__" (defArgs s_Moment___str__) (defBody s_Moment___str__) (defScope s_Moment___str__) [] [] (He.ma K (He.ga K "Moment") "__str__") fd
  f_need_watch : ∃ fd, FunD K "need_watch" "need_watch" (defArgs s_need_watch) (defBody s_need_watch) (defScope s_need_watch) [] [] (He.ga K "need_watch") fd
  f_span_code : ∃ fd, FunD K "span_code" "span_code" (defArgs s_span_code) (defBody s_span_code) (defScope s_span_code) [] [] (He.ga K "span_code") fd
  f_with_ring : ∃ fd, FunD K "with_ring" "with_ring" (defArgs s_with_ring) (defBody s_with_ring) (defScope s_with_ring) [] [] (He.ga K "with_ring") fd
  f_rings_in : ∃ fd, FunD K "rings_in" "rings_in" (defArgs s_rings_in) (defBody s_rings_in) (defScope s_rings_in) [] [] (He.ga K "rings_in") fd
  f_spans_in : ∃ fd, FunD K "spans_in" "spans_in" (defArgs s_spans_in) (defBody s_spans_in) (defScope s_spans_in) [] [] (He.ga K "spans_in") fd
  f_Book___init__ : ∃ fd, FunD K "__init__" "Book.__init__" (defArgs s_Book___init__) (defBody s_Book___init__) (defScope s_Book___init__) [(.ref (dfl0 (fun K => He.ma K (He.ga K "Book") "__init__") 0 K)), (.ref (dfl0 (fun K => He.ma K (He.ga K "Book") "__init__") 1 K))] [] (He.ma K (He.ga K "Book") "__init__") fd
  f_Book_rings : ∃ fd, FunD K "rings" "Book.rings" (defArgs s_Book_rings) (defBody s_Book_rings) (defScope s_Book_rings) [] [] (He5.wf K (He.ga K "Book") "property" "rings") fd
  f_Book_watches : ∃ fd, FunD K "watches" "Book.watches" (defArgs s_Book_watches) (defBody s_Book_watches) (defScope s_Book_watches) [] [] (He5.wf K (He.ga K "Book") "property" "watches") fd
  f_Book___iadd__ : ∃ fd, FunD K "__iadd__" "Book.__iadd__" (defArgs s_Book___iadd__) (defBody s_Book___iadd__) (defScope s_Book___iadd__) [] [] (He.ma K (He.ga K "Book") "__iadd__") fd
  f_Book___isub__ : ∃ fd, FunD K "__isub__" "Book.__isub__" (defArgs s_Book___isub__) (defBody s_Book___isub__) (defScope s_Book___isub__) [] [] (He.ma K (He.ga K "Book") "__isub__") fd
  f_Book___contains__ : ∃ fd, FunD K "__contains__" "Book.__contains__" (defArgs s_Book___contains__) (defBody s_Book___contains__) (defScope s_Book___contains__) [] [] (He.ma K (He.ga K "Book") "__contains__") fd
  f_Book_watch : ∃ fd, FunD K "watch" "Book.watch" (defArgs s_Book_watch) (defBody s_Book_watch) (defScope s_Book_watch) [] [] (He.ma K (He.ga K "Book") "watch") fd
  f_Book___or__ : ∃ fd, FunD K "__or__" "Book.__or__" (defArgs s_Book___or__) (defBody s_Book___or__) (defScope s_Book___or__) [] [] (He.ma K (He.ga K "Book") "__or__") fd
  f_Book___eq__ : ∃ fd, FunD K "__eq__" "Book.__eq__" (defArgs s_Book___eq__) (defBody s_Book___eq__) (defScope s_Book___eq__) [] [] (He.ma K (He.ga K "Book") "__eq__") fd
  f_moment_in : ∃ fd, FunD K "moment_in" "moment_in" (defArgs s_moment_in) (defBody s_moment_in) (defScope s_moment_in) [] [] (He.ga K "moment_in") fd
  f_moment_of : ∃ fd, FunD K "moment_of" "moment_of" (defArgs s_moment_of) (defBody s_moment_of) (defScope s_moment_of) [] [] (He.ga K "moment_of") fd
  f_need_end : ∃ fd, FunD K "need_end" "need_end" (defArgs s_need_end) (defBody s_need_end) (defScope s_need_end) [] [] (He.ga K "need_end") fd
  f_read_entry : ∃ fd, FunD K "read_entry" "read_entry" (defArgs s_read_entry) (defBody s_read_entry) (defScope s_read_entry) [] [] (He.ga K "read_entry") fd
  f_lines_in : ∃ fd, FunD K "lines_in" "lines_in" (defArgs s_lines_in) (defBody s_lines_in) (defScope s_lines_in) [] [] (He.ga K "lines_in") fd
  f_read_book : ∃ fd, FunD K "read_book" "read_book" (defArgs s_read_book) (defBody s_read_book) (defScope s_read_book) [] [] (He.ga K "read_book") fd
  f__law_bag : ∃ fd, FunD K "_law_bag" "_law_bag" (defArgs s__law_bag) (defBody s__law_bag) (defScope s__law_bag) [] [] (He.ga K "_law_bag") fd
  f__law_draw : ∃ fd, FunD K "_law_draw" "_law_draw" (defArgs s__law_draw) (defBody s__law_draw) (defScope s__law_draw) [] [] (He.ga K "_law_draw") fd
  f__law_length : ∃ fd, FunD K "_law_length" "_law_length" (defArgs s__law_length) (defBody s__law_length) (defScope s__law_length) [] [] (He.ga K "_law_length") fd
  f__law_date : ∃ fd, FunD K "_law_date" "_law_date" (defArgs s__law_date) (defBody s__law_date) (defScope s__law_date) [] [] (He.ga K "_law_date") fd
  f__law_weekday : ∃ fd, FunD K "_law_weekday" "_law_weekday" (defArgs s__law_weekday) (defBody s__law_weekday) (defScope s__law_weekday) [] [] (He.ga K "_law_weekday") fd
  f__law_number : ∃ fd, FunD K "_law_number" "_law_number" (defArgs s__law_number) (defBody s__law_number) (defScope s__law_number) [] [] (He.ga K "_law_number") fd
  f__law_morrow : ∃ fd, FunD K "_law_morrow" "_law_morrow" (defArgs s__law_morrow) (defBody s__law_morrow) (defScope s__law_morrow) [] [] (He.ga K "_law_morrow") fd
  f__law_moment : ∃ fd, FunD K "_law_moment" "_law_moment" (defArgs s__law_moment) (defBody s__law_moment) (defScope s__law_moment) [] [] (He.ga K "_law_moment") fd
  f__law_drawn_date : ∃ fd, FunD K "_law_drawn_date" "_law_drawn_date" (defArgs s__law_drawn_date) (defBody s__law_drawn_date) (defScope s__law_drawn_date) [] [] (He.ga K "_law_drawn_date") fd
  f__law_drawn_watch : ∃ fd, FunD K "_law_drawn_watch" "_law_drawn_watch" (defArgs s__law_drawn_watch) (defBody s__law_drawn_watch) (defScope s__law_drawn_watch) [] [] (He.ga K "_law_drawn_watch") fd
  f__law_ordered : ∃ fd, FunD K "_law_ordered" "_law_ordered" (defArgs s__law_ordered) (defBody s__law_ordered) (defScope s__law_ordered) [] [] (He.ga K "_law_ordered") fd
  f__law_spec : ∃ fd, FunD K "_law_spec" "_law_spec" (defArgs s__law_spec) (defBody s__law_spec) (defScope s__law_spec) [] [] (He.ga K "_law_spec") fd
  f__law_book : ∃ fd, FunD K "_law_book" "_law_book" (defArgs s__law_book) (defBody s__law_book) (defScope s__law_book) [] [] (He.ga K "_law_book") fd
  f__law_word : ∃ fd, FunD K "_law_word" "_law_word" (defArgs s__law_word) (defBody s__law_word) (defScope s__law_word) [] [] (He.ga K "_law_word") fd
  f__law_lines : ∃ fd, FunD K "_law_lines" "_law_lines" (defArgs s__law_lines) (defBody s__law_lines) (defScope s__law_lines) [] [] (He.ga K "_law_lines") fd
  f__law_shuffled : ∃ fd, FunD K "_law_shuffled" "_law_shuffled" (defArgs s__law_shuffled) (defBody s__law_shuffled) (defScope s__law_shuffled) [] [] (He.ga K "_law_shuffled") fd
  f_law : ∃ fd, FunD K "law" "law" (defArgs s_law) (defBody s_law) (defScope s_law) [] [] (He.ga K "law") fd
end G
set_option maxHeartbeats 400000
namespace G
open PySem PySem.Spec PyProof.Rows L2 F
local macro_rules | `(tactic| walk_at "side") => `(tactic| first | rfl | decide | omega | assumption | (unfold CMul; omega) | (unfold CPow; omega) | (unfold CDiv; omega))
local macro_rules | `(tactic| walk_at "hp") => `(tactic| first | assumption | exact upd_same | (refine upd_keep (by assumption) ?_; walk_at "hp") | (refine sm (by assumption) ?_; walk_at "hp"))
local macro_rules | `(tactic| walk_at "n") => `(tactic| ((try conv => whnf); repeat ((first | with_reducible refine cond_t rfl ?_ | with_reducible refine cond_f rfl ?_ | with_reducible refine cond_n ?_); (try conv => whnf))))
local macro_rules | `(tactic| walk_at "go") => `(tactic| (walk_at "n"; repeat (refine And.intro ?side ?_; (case side => walk_at "side"); walk_at "n")))

open M
/-- an object that is no number -/
def Plain (K : PySem.W.Frag) (H : Hp) (x : V) : Prop := match x with
  | .ref a => NotTy K H a (.type "int") ∧ NotTy K H a (.type "bool")
  | .int _ => True
  | .bl _ => True
  | .str _ => True
  | .non => True
  | _ => False
def whole : V → Bool
  | .int _ => true
  | _ => false
def betw (x : V) (lo hi : Int) : Bool := match x with
  | .int i => decide (lo ≤ i) && decide (i ≤ hi)
  | _ => false
def toI : V → Int
  | .int i => i
  | _ => 0
theorem at_lens {m : Int} (h1 : 1 ≤ m) (h2 : m ≤ 12) : atI ([.int 31, .int 28, .int 31, .int 30, .int 31, .int 30, .int 31, .int 31, .int 30, .int 31, .int 30, .int 31] : List V) (m - 1) = some (.int (lens.getD (m - 1).toNat 0)) := by
  obtain ⟨k, hk⟩ : ∃ k : Nat, m = (k : Int) + 1 := ⟨(m - 1).toNat, by omega⟩
  subst hk
  have hk : k < 12 := by omega
  have e : ((k : Int) + 1 - 1) = (k : Int) := by omega
  rw [e, atI_nat (j := k) (v := .int (lens.getD k 0))]
  · rfl
  · rcases k with _ | _ | _ | _ | _ | _ | _ | _ | _ | _ | _ | _ | k <;> first | rfl | omega
def sp_is_leap (K : PySem.W.Frag) : Sp := fun vs H Q E => match vs with
  | [.int y] => Q (.bl (isLeap y)) H
  | _ => False
theorem sc_is_leap : FnScope ["year"] ["year"] (defScope s_is_leap) := ⟨rfl, rfl, rfl, by decide +kernel, rfl, by decide +kernel, by decide +kernel⟩
theorem okF_is_leap {P : Program} {w : World} {K : PySem.W.Frag} {mg : Str → Option Value} {base : Heap} {fd : FuncData} (T : Tx K mg) (F1 : FunD K "is_leap" "is_leap" (defArgs s_is_leap) (defBody s_is_leap) (defScope s_is_leap) [] [] (He.ga K "is_leap") fd) : FnOk P w K mg base (L2.CX P w) 1 (He.ga K "is_leap") fd ["year"] (sp_is_leap K) := by
  refine F1.ok sc_is_leap (fun vs H Q E h => ?_) (fun cdv A outer s H vs Q E hr h => ?_)
  · unfold sp_is_leap at h
    split at h
    · rfl
    · exact h.elim
  · unfold sp_is_leap at h
    split at h
    rotate_left
    · exact h.elim
    · rename_i y
      refine ⟨_, (pss_one (ps_ret (e_and (pe_cmpR o_eq (pe_op o_mod (e_v 0) pe_int) pe_int (nomark _)) (pe_one (e_or (pe_cmpR o_ne (pe_op o_mod (e_v 0) pe_int) pe_int (nomark _)) (pe_one (pe_cmpR o_eq (pe_op o_mod (e_v 0) pe_int) pe_int (nomark _)))))))), ?_⟩
      walk_at "go"
      unfold isLeap at h
      refine cond_p (fun h1 => ?_) (fun h1 => ?_)
      · walk_at "go"
        refine cond_p (fun h2 => ?_) (fun h2 => ?_)
        · walk_at "go"
          simpa [h1, h2] using h
        · simpa [h1, h2] using h
      · simpa [h1] using h
theorem ok_is_leap {P : Program} {w : World} {K : PySem.W.Frag} {mg : Str → Option Value} {base : Heap} (T : Tx K mg) : F.Fr P w K mg base 1 (He.ga K "is_leap") (sp_is_leap K) := (T.f_is_leap).elim fun fd F1 => fr_of F1 (okF_is_leap T F1) (fun _ _ _ _ _ _ us hl => match us, hl with | [_], _ => rfl)
def sp_days_ahead (K : PySem.W.Frag) : Sp := fun vs H Q E => match vs with
  | [.int y] => Q (.int (daysAhead y)) H
  | _ => False
theorem sc_days_ahead : FnScope ["year", "past"] ["year"] (defScope s_days_ahead) := ⟨rfl, rfl, rfl, by decide +kernel, rfl, by decide +kernel, by decide +kernel⟩
theorem okF_days_ahead {P : Program} {w : World} {K : PySem.W.Frag} {mg : Str → Option Value} {base : Heap} {fd : FuncData} (T : Tx K mg) (F1 : FunD K "days_ahead" "days_ahead" (defArgs s_days_ahead) (defBody s_days_ahead) (defScope s_days_ahead) [] [] (He.ga K "days_ahead") fd) : FnOk P w K mg base (L2.CX P w) 1 (He.ga K "days_ahead") fd ["year"] (sp_days_ahead K) := by
  refine F1.ok sc_days_ahead (fun vs H Q E h => ?_) (fun cdv A outer s H vs Q E hr h => ?_)
  · unfold sp_days_ahead at h
    split at h
    · rfl
    · exact h.elim
  · unfold sp_days_ahead at h
    split at h
    rotate_left
    · exact h.elim
    · rename_i y
      refine ⟨_, (pss_cons (ps_set (i := 1) sc_days_ahead.nd rfl (Or.inl rfl) (pe_op o_sub (e_v 0) pe_int))
        (pss_one (ps_ret (pe_op (k_add K) (pe_op o_sub (pe_op (k_add K) (pe_op o_mul pe_int (e_v 1)) (pe_op o_div (e_v 1) pe_int)) (pe_op o_div (e_v 1) pe_int)) (pe_op o_div (e_v 1) pe_int))))), ?_⟩
      walk_at "go"
      exact h
theorem ok_days_ahead {P : Program} {w : World} {K : PySem.W.Frag} {mg : Str → Option Value} {base : Heap} (T : Tx K mg) : F.Fr P w K mg base 1 (He.ga K "days_ahead") (sp_days_ahead K) := (T.f_days_ahead).elim fun fd F1 => fr_of F1 (okF_days_ahead T F1) (fun _ _ _ _ _ _ us hl => match us, hl with | [_], _ => rfl)
def sp_weekday_of (K : PySem.W.Frag) : Sp := fun vs H Q E => match vs with
  | [.int n] => Q (.int (n % 7)) H
  | _ => False
theorem sc_weekday_of : FnScope ["number"] ["number"] (defScope s_weekday_of) := ⟨rfl, rfl, rfl, by decide +kernel, rfl, by decide +kernel, by decide +kernel⟩
theorem okF_weekday_of {P : Program} {w : World} {K : PySem.W.Frag} {mg : Str → Option Value} {base : Heap} {fd : FuncData} (T : Tx K mg) (F1 : FunD K "weekday_of" "weekday_of" (defArgs s_weekday_of) (defBody s_weekday_of) (defScope s_weekday_of) [] [] (He.ga K "weekday_of") fd) : FnOk P w K mg base (L2.CX P w) 1 (He.ga K "weekday_of") fd ["number"] (sp_weekday_of K) := by
  refine F1.ok sc_weekday_of (fun vs H Q E h => ?_) (fun cdv A outer s H vs Q E hr h => ?_)
  · unfold sp_weekday_of at h
    split at h
    · rfl
    · exact h.elim
  · unfold sp_weekday_of at h
    split at h
    rotate_left
    · exact h.elim
    · rename_i n
      refine ⟨_, (pss_one (ps_ret (pe_op o_mod (e_v 0) pe_int))), ?_⟩
      walk_at "go"
      exact h
theorem ok_weekday_of {P : Program} {w : World} {K : PySem.W.Frag} {mg : Str → Option Value} {base : Heap} (T : Tx K mg) : F.Fr P w K mg base 1 (He.ga K "weekday_of") (sp_weekday_of K) := (T.f_weekday_of).elim fun fd F1 => fr_of F1 (okF_weekday_of T F1) (fun _ _ _ _ _ _ us hl => match us, hl with | [_], _ => rfl)
def sp_is_whole (K : PySem.W.Frag) : Sp := fun vs H Q E => match vs with
  | [x] => Plain K H x ∧ Q (.bl (whole x)) H
  | _ => False
theorem sc_is_whole : FnScope ["value"] ["value"] (defScope s_is_whole) := ⟨rfl, rfl, rfl, by decide +kernel, rfl, by decide +kernel, by decide +kernel⟩
theorem okF_is_whole {P : Program} {w : World} {K : PySem.W.Frag} {mg : Str → Option Value} {base : Heap} {fd : FuncData} (T : Tx K mg) (F1 : FunD K "is_whole" "is_whole" (defArgs s_is_whole) (defBody s_is_whole) (defScope s_is_whole) [] [] (He.ga K "is_whole") fd) : FnOk P w K mg base (L2.CX P w) 1 (He.ga K "is_whole") fd ["value"] (sp_is_whole K) := by
  refine F1.ok sc_is_whole (fun vs H Q E h => ?_) (fun cdv A outer s H vs Q E hr h => ?_)
  · unfold sp_is_whole at h
    split at h
    · rfl
    · exact h.elim
  · unfold sp_is_whole at h
    split at h
    rotate_left
    · exact h.elim
    · rename_i x
      refine ⟨_, (pss_one (ps_ret (e_and (e_is_int T.b_int T.b_isinstance (e_v 0)) (pe_one (e_not (e_is_bool T.b_bool T.b_isinstance (e_v 0))))))), ?_⟩
      obtain ⟨hp, h⟩ := h
      cases x with
      | int i =>
        walk_at "go"
        exact h
      | bl i =>
        walk_at "go"
        exact h
      | str i =>
        walk_at "go"
        exact h
      | non =>
        walk_at "go"
        exact h
      | ref a =>
        walk_at "go"
        refine ⟨hp.1, ?_⟩
        walk_at "n"
        exact h
      | _ => exact hp.elim
theorem ok_is_whole {P : Program} {w : World} {K : PySem.W.Frag} {mg : Str → Option Value} {base : Heap} (T : Tx K mg) : F.Fr P w K mg base 1 (He.ga K "is_whole") (sp_is_whole K) := (T.f_is_whole).elim fun fd F1 => fr_of F1 (okF_is_whole T F1) (fun _ _ _ _ _ _ us hl => match us, hl with | [_], _ => rfl)
def sp_is_between (K : PySem.W.Frag) : Sp := fun vs H Q E => match vs with
  | [x, .int lo, .int hi] => Plain K H x ∧ Q (.bl (betw x lo hi)) H
  | _ => False
theorem sc_is_between : FnScope ["value", "low", "high"] ["value", "low", "high"] (defScope s_is_between) := ⟨rfl, rfl, rfl, by decide +kernel, rfl, by decide +kernel, by decide +kernel⟩
theorem okF_is_between {P : Program} {w : World} {K : PySem.W.Frag} {mg : Str → Option Value} {base : Heap} {fd : FuncData} (T : Tx K mg) (F1 : FunD K "is_between" "is_between" (defArgs s_is_between) (defBody s_is_between) (defScope s_is_between) [] [] (He.ga K "is_between") fd) : FnOk P w K mg base (L2.CX P w) 2 (He.ga K "is_between") fd ["value", "low", "high"] (sp_is_between K) := by
  have c_is_whole : Fc P w K mg base 1 "is_whole" (sp_is_whole K) := ⟨_, ok_is_whole T, T.g_is_whole, (T.f_is_whole).elim fun _ z => z.kp⟩
  refine F1.ok sc_is_between (fun vs H Q E h => ?_) (fun cdv A outer s H vs Q E hr h => ?_)
  · unfold sp_is_between at h
    split at h
    · rfl
    · exact h.elim
  · unfold sp_is_between at h
    split at h
    rotate_left
    · exact h.elim
    · rename_i x lo hi
      refine ⟨_, (pss_one (ps_ret (e_and (e_c c_is_whole hr (pa_cons (e_v 0) pa_nil)) (pe_one (e_chain o_le o_le (e_v 1) (e_v 0) (e_v 2)))))), ?_⟩
      obtain ⟨hp, h⟩ := h
      walk_at "n"
      refine ⟨hp, ?_⟩
      walk_at "n"
      cases x with
      | int i =>
        refine cond_t rfl ?_
        walk_at "n"
        refine cond_p (fun h1 => ?_) (fun h1 => ?_)
        · walk_at "n"
          simpa [betw, h1] using h
        · simpa [betw, h1] using h
      | ref a => exact cond_f rfl h
      | bl a => exact cond_f rfl h
      | str a => exact cond_f rfl h
      | non => exact cond_f rfl h
      | _ => exact hp.elim
theorem ok_is_between {P : Program} {w : World} {K : PySem.W.Frag} {mg : Str → Option Value} {base : Heap} (T : Tx K mg) : F.Fr P w K mg base 2 (He.ga K "is_between") (sp_is_between K) := (T.f_is_between).elim fun fd F1 => fr_of F1 (okF_is_between T F1) (fun _ _ _ _ _ _ us hl => match us, hl with | [_, _, _], _ => rfl)
def sp_month_length (K : PySem.W.Frag) : Sp := fun vs H Q E => match vs with
  | [.int y, .int m] => (1 ≤ m ∧ m ≤ 12) ∧ Q (.int (monthLen y m)) H
  | _ => False
theorem sc_month_length : FnScope ["year", "month"] ["year", "month"] (defScope s_month_length) := ⟨rfl, rfl, rfl, by decide +kernel, rfl, by decide +kernel, by decide +kernel⟩
theorem okF_month_length {P : Program} {w : World} {K : PySem.W.Frag} {mg : Str → Option Value} {base : Heap} {fd : FuncData} (T : Tx K mg) (F1 : FunD K "month_length" "month_length" (defArgs s_month_length) (defBody s_month_length) (defScope s_month_length) [] [] (He.ga K "month_length") fd) : FnOk P w K mg base (L2.CX P w) 2 (He.ga K "month_length") fd ["year", "month"] (sp_month_length K) := by
  have c_is_leap : Fc P w K mg base 1 "is_leap" (sp_is_leap K) := ⟨_, ok_is_leap T, T.g_is_leap, (T.f_is_leap).elim fun _ z => z.kp⟩
  refine F1.ok sc_month_length (fun vs H Q E h => ?_) (fun cdv A outer s H vs Q E hr h => ?_)
  · unfold sp_month_length at h
    split at h
    · rfl
    · exact h.elim
  · unfold sp_month_length at h
    split at h
    rotate_left
    · exact h.elim
    · rename_i y m
      refine ⟨_, (pss_one (ps_ret (pe_op (k_add K) (pe_ix (k_ixT K) (e_g T.v_LENGTHS) (pe_op o_sub (e_v 1) pe_int) (fun _ _ => rfl)) (e_int T.b_int (e_and (pe_cmpR o_eq (e_v 1) pe_int (nomark _)) (pe_one (e_c c_is_leap hr (pa_cons (e_v 0) pa_nil)))))))), ?_⟩
      obtain ⟨⟨h1, h2⟩, h⟩ := h
      walk_at "n"
      refine ⟨_, _, T.t_LENGTHS _, at_lens h1 h2, ?_⟩
      walk_at "n"
      unfold monthLen at h
      refine cond_p (fun h3 => ?_) (fun h3 => ?_)
      · walk_at "n"
        simpa [h3] using h
      · walk_at "n"
        simpa [h3] using h
theorem ok_month_length {P : Program} {w : World} {K : PySem.W.Frag} {mg : Str → Option Value} {base : Heap} (T : Tx K mg) : F.Fr P w K mg base 2 (He.ga K "month_length") (sp_month_length K) := (T.f_month_length).elim fun fd F1 => fr_of F1 (okF_month_length T F1) (fun _ _ _ _ _ _ us hl => match us, hl with | [_, _], _ => rfl)
def sp_day_number (K : PySem.W.Frag) : Sp := fun vs H Q E => match vs with
  | [.int y, .int m, .int d] => (1 ≤ m ∧ m ≤ 12) ∧ ∀ H', Same H H' → Q (.int (dayNumber y m d)) H'
  | _ => False
theorem sc_day_number : FnScope ["year", "month", "day", "one"] ["year", "month", "day"] (defScope s_day_number) := ⟨rfl, rfl, rfl, by decide +kernel, rfl, by decide +kernel, by decide +kernel⟩
theorem okF_day_number {P : Program} {w : World} {K : PySem.W.Frag} {mg : Str → Option Value} {base : Heap} {fd : FuncData} (T : Tx K mg) (F1 : FunD K "day_number" "day_number" (defArgs s_day_number) (defBody s_day_number) (defScope s_day_number) [] [] (He.ga K "day_number") fd) : FnOk P w K mg base (L2.CX P w) 3 (He.ga K "day_number") fd ["year", "month", "day"] (sp_day_number K) := by
  have c_days_ahead : Fc P w K mg base 1 "days_ahead" (sp_days_ahead K) := ⟨_, ok_days_ahead T, T.g_days_ahead, (T.f_days_ahead).elim fun _ z => z.kp⟩
  have c_month_length : Fc P w K mg base 2 "month_length" (sp_month_length K) := ⟨_, ok_month_length T, T.g_month_length, (T.f_month_length).elim fun _ z => z.kp⟩
  refine F1.ok sc_day_number (fun vs H Q E h => ?_) (fun cdv A outer s H vs Q E hr h => ?_)
  · unfold sp_day_number at h
    split at h
    · rfl
    · exact h.elim
  · unfold sp_day_number at h
    split at h
    rotate_left
    · exact h.elim
    · rename_i y m d
      refine ⟨_, (pss_one (ps_ret (pe_op o_sub (pe_op (k_add K) (pe_op (k_add K) (e_c c_days_ahead hr (pa_cons (e_v 0) pa_nil)) (e_sum rfl T.b_sum (pe_lc (own := [("one", 3)]) (g := gName 3) (tt := tYes) rfl sc_day_number.nd (pi_range2 rfl T.b_range (pa_cons pe_int (pa_cons (e_v 1) pa_nil))) (blkOk_by (own := [("one", 3)]) (N := ["year", "month", "day", "one"]) (sc := defScope s_day_number) (by decide +kernel)) (fun _ _ _ _ _ => (pg_name (i := 3) sc_day_number.nd rfl (Or.inl rfl))) (fun _ _ _ _ _ => pts_nil) (fun _ _ _ _ _ => (e_c c_month_length hr (pa_cons (e_v 0) (pa_cons (e_v 3) pa_nil))))))) (e_v 2)) pe_int))), ?_⟩
      obtain ⟨⟨h1, h2⟩, h⟩ := h
      walk_at "n"
      refine ⟨1, m, rfl, by omega, fun D hD => lcW (walk_range (lo := 1) (n := (m - 1).toNat)) (fun i v _ => v = .int (monthLen y (1 + (i : Int)))) (by omega) hD (fun _ _ => trivial) (fun _ _ _ _ _ z => z) ?_ gm_name ?_⟩
      · rintro i x H1 H2 acc Nx hi s hd ⟨rfl, rfl⟩ nx
        refine ⟨rfl, ?_⟩
        walk_at "n"
        refine ⟨by omega, ?_⟩
        exact nx _ _ (Same.refl _) rfl
      · intro ys H1 hl hy s hd
        have e := ys_fn hl hy
        walk_at "n"
        refine ⟨(List.range (m - 1).toNat).map fun (i : Nat) => monthLen y (1 + (i : Int)), ?_, ?_⟩
        · rw [List.map_map]
          rw [e] at hd
          exact SqL.of hd
        · walk_at "n"
          exact h _ s
theorem ok_day_number {P : Program} {w : World} {K : PySem.W.Frag} {mg : Str → Option Value} {base : Heap} (T : Tx K mg) : F.Fr P w K mg base 3 (He.ga K "day_number") (sp_day_number K) := (T.f_day_number).elim fun fd F1 => fr_of F1 (okF_day_number T F1) (fun _ _ _ _ _ _ us hl => match us, hl with | [_, _, _], _ => rfl)
end G
set_option maxHeartbeats 400000
namespace G
open PySem PySem.Spec PyProof.Rows L2 F
local macro_rules | `(tactic| walk_at "side") => `(tactic| first | rfl | decide | omega | assumption | (unfold CMul; omega) | (unfold CPow; omega) | (unfold CDiv; omega))
local macro_rules | `(tactic| walk_at "hp") => `(tactic| first | assumption | exact upd_same | (refine upd_keep (by assumption) ?_; walk_at "hp") | (refine sm (by assumption) ?_; walk_at "hp"))
local macro_rules | `(tactic| walk_at "n") => `(tactic| ((try conv => whnf); repeat ((first | with_reducible refine cond_t rfl ?_ | with_reducible refine cond_f rfl ?_ | with_reducible refine cond_n ?_); (try conv => whnf))))
local macro_rules | `(tactic| walk_at "go") => `(tactic| (walk_at "n"; repeat (refine And.intro ?side ?_; (case side => walk_at "side"); walk_at "n")))

open M
/-- the name of the first part that is wrong, as a value -/
def wrongPart (y m d h i : V) : V :=
  if betw y 1 999999 = false then .str "year" else if betw m 1 12 = false then .str "month" else if betw d 1 (monthLen (toI y) (toI m)) = false then .str "day" else if betw h 0 23 = false then .str "hour" else if betw i 0 59 = false then .str "minute" else .non
theorem betw_int {x : V} {lo hi : Int} (h : betw x lo hi = true) : ∃ i, x = .int i ∧ lo ≤ i ∧ i ≤ hi := by
  unfold betw at h
  split at h
  · simp at h
    exact ⟨_, rfl, h.1, h.2⟩
  · cases h
def sp_wrong_part (K : PySem.W.Frag) : Sp := fun vs H Q E => match vs with
  | [y, m, d, h1, i] => (Plain K H y ∧ Plain K H m ∧ Plain K H d ∧ Plain K H h1 ∧ Plain K H i) ∧ Q (wrongPart y m d h1 i) H
  | _ => False
theorem sc_wrong_part : FnScope ["year", "month", "day", "hour", "minute"] ["year", "month", "day", "hour", "minute"] (defScope s_wrong_part) := ⟨rfl, rfl, rfl, by decide +kernel, rfl, by decide +kernel, by decide +kernel⟩
theorem okF_wrong_part {P : Program} {w : World} {K : PySem.W.Frag} {mg : Str → Option Value} {base : Heap} {fd : FuncData} (T : Tx K mg) (F1 : FunD K "wrong_part" "wrong_part" (defArgs s_wrong_part) (defBody s_wrong_part) (defScope s_wrong_part) [] [] (He.ga K "wrong_part") fd) : FnOk P w K mg base (L2.CX P w) 3 (He.ga K "wrong_part") fd ["year", "month", "day", "hour", "minute"] (sp_wrong_part K) := by
  have c_is_between : Fc P w K mg base 2 "is_between" (sp_is_between K) := ⟨_, ok_is_between T, T.g_is_between, (T.f_is_between).elim fun _ z => z.kp⟩
  have c_month_length : Fc P w K mg base 2 "month_length" (sp_month_length K) := ⟨_, ok_month_length T, T.g_month_length, (T.f_month_length).elim fun _ z => z.kp⟩
  refine F1.ok sc_wrong_part (fun vs H Q E h => ?_) (fun cdv A outer s H vs Q E hr h => ?_)
  · unfold sp_wrong_part at h
    split at h
    · rfl
    · exact h.elim
  · unfold sp_wrong_part at h
    split at h
    rotate_left
    · exact h.elim
    · rename_i y m d h1 i
      refine ⟨_, (pss_cons (s_if (pt_not (t_b (e_c c_is_between hr (pa_cons (e_v 0) (pa_cons pe_int (pa_cons (e_cval rfl T.g_Moment T.r_Moment T.cv_Moment_MOST_YEAR) pa_nil)))))) (pss_one (ps_ret pe_str)) pss_nil)
        (pss_cons (s_if (pt_not (t_b (e_c c_is_between hr (pa_cons (e_v 1) (pa_cons pe_int (pa_cons pe_int pa_nil)))))) (pss_one (ps_ret pe_str)) pss_nil)
        (pss_cons (s_if (pt_not (t_b (e_c c_is_between hr (pa_cons (e_v 2) (pa_cons pe_int (pa_cons (e_c c_month_length hr (pa_cons (e_v 0) (pa_cons (e_v 1) pa_nil))) pa_nil)))))) (pss_one (ps_ret pe_str)) pss_nil)
        (pss_cons (s_if (pt_not (t_b (e_c c_is_between hr (pa_cons (e_v 3) (pa_cons pe_int (pa_cons pe_int pa_nil)))))) (pss_one (ps_ret pe_str)) pss_nil)
        (pss_one (ps_ret (e_if (t_b (e_c c_is_between hr (pa_cons (e_v 4) (pa_cons pe_int (pa_cons pe_int pa_nil))))) pe_non pe_str))))))), ?_⟩
      obtain ⟨⟨p1, p2, p3, p4, p5⟩, h⟩ := h
      walk_at "n"
      refine ⟨p1, ?_⟩
      walk_at "n"
      unfold wrongPart at h
      refine cond_b (fun b1 => ?_) (fun b1 => ?_)
      rotate_left
      · walk_at "n"
        rw [if_pos b1] at h
        exact h
      rw [if_neg (by rw [b1]; decide)] at h
      walk_at "n"
      refine ⟨p2, ?_⟩
      walk_at "n"
      refine cond_b (fun b2 => ?_) (fun b2 => ?_)
      rotate_left
      · walk_at "n"
        rw [if_pos b2] at h
        exact h
      rw [if_neg (by rw [b2]; decide)] at h
      obtain ⟨y, rfl, y1, y2⟩ := betw_int b1
      obtain ⟨m, rfl, m1, m2⟩ := betw_int b2
      walk_at "n"
      refine ⟨⟨m1, m2⟩, ?_⟩
      walk_at "n"
      refine ⟨p3, ?_⟩
      walk_at "n"
      refine cond_b (fun b3 => ?_) (fun b3 => ?_)
      rotate_left
      · walk_at "n"
        rw [if_pos (show betw d 1 (monthLen (toI (.int y)) (toI (.int m))) = false from b3)] at h
        exact h
      rw [if_neg (show ¬ betw d 1 (monthLen (toI (.int y)) (toI (.int m))) = false from by rw [show betw d 1 (monthLen (toI (.int y)) (toI (.int m))) = true from b3]; decide)] at h
      walk_at "n"
      refine ⟨p4, ?_⟩
      walk_at "n"
      refine cond_b (fun b4 => ?_) (fun b4 => ?_)
      rotate_left
      · walk_at "n"
        rw [if_pos b4] at h
        exact h
      rw [if_neg (by rw [b4]; decide)] at h
      walk_at "n"
      refine ⟨p5, ?_⟩
      walk_at "n"
      refine cond_b (fun b5 => ?_) (fun b5 => ?_)
      · walk_at "n"
        rw [if_neg (by rw [b5]; decide)] at h
        exact h
      · walk_at "n"
        rw [if_pos b5] at h
        exact h
theorem ok_wrong_part {P : Program} {w : World} {K : PySem.W.Frag} {mg : Str → Option Value} {base : Heap} (T : Tx K mg) : F.Fr P w K mg base 3 (He.ga K "wrong_part") (sp_wrong_part K) := (T.f_wrong_part).elim fun fd F1 => fr_of F1 (okF_wrong_part T F1) (fun _ _ _ _ _ _ us hl => match us, hl with | [_, _, _, _, _], _ => rfl)
/-- the number that a text of so many digits writes -/
def isDig (c : Nat) : Bool := decide (48 ≤ c) && decide (c ≤ 57)
def numIn (z : Str) (lo hi : Int) : Option Int := if (decide (lo ≤ z.length) && decide ((z.length : Int) ≤ hi)) && z.cps.toList.all isDig then some ((NumText.digitsVal z.cps.toList : Nat) : Int) else none
def optI : Option Int → V
  | none => .non
  | some i => .int i
theorem dig_in (c : Nat) : decide (c ∈ (Str.ofString "0123456789").cps.toList) = isDig c := by
  have e : (Str.ofString "0123456789").cps.toList = [48, 49, 50, 51, 52, 53, 54, 55, 56, 57] := by decide +kernel
  rw [e]
  unfold isDig
  by_cases h : 48 ≤ c ∧ c ≤ 57
  · rw [decide_eq_true h.1, decide_eq_true h.2]
    refine decide_eq_true ?_
    simp only [List.mem_cons, List.mem_nil_iff, or_false]
    omega
  · have e2 : (decide (48 ≤ c) && decide (c ≤ 57)) = false := by
      simp only [Bool.and_eq_false_iff, decide_eq_false_iff_not]
      omega
    rw [e2]
    refine decide_eq_false fun z => h ?_
    simp only [List.mem_cons, List.mem_nil_iff, or_false] at z
    omega
theorem numIn_int {z : Str} {lo hi : Int} (h1 : lo ≤ z.length) (h2 : (z.length : Int) ≤ hi) (h0 : 1 ≤ lo) (h6 : hi ≤ 600) (hd : z.cps.toList.all isDig = true) : intText? z = some ((NumText.digitsVal z.cps.toList : Nat) : Int) ∧ z.length ≤ 640 := by
  refine ⟨PySem.intText_digits (fun c hc => ?_) (fun e => ?_) (by omega), by omega⟩
  · have q := List.all_eq_true.mp hd c hc
    unfold isDig at q
    simpa using q
  · have q : z.length = 0 := by
      show z.cps.size = 0
      rw [← Array.length_toList, e]
      rfl
    omega
def sp_number_in (K : PySem.W.Frag) : Sp := fun vs H Q E => match vs with
  | [.str z, .int lo, .int hi] => (1 ≤ lo ∧ hi ≤ 600 ∧ z.length ≤ sizeLine) ∧ ∀ H', Same H H' → Q (optI (numIn z lo hi)) H'
  | _ => False
theorem sc_number_in : FnScope ["text", "least", "most", "sign"] ["text", "least", "most"] (defScope s_number_in) := ⟨rfl, rfl, rfl, by decide +kernel, rfl, by decide +kernel, by decide +kernel⟩
theorem okF_number_in {P : Program} {w : World} {K : PySem.W.Frag} {mg : Str → Option Value} {base : Heap} {fd : FuncData} (T : Tx K mg) (F1 : FunD K "number_in" "number_in" (defArgs s_number_in) (defBody s_number_in) (defScope s_number_in) [] [] (He.ga K "number_in") fd) : FnOk P w K mg base (L2.CX P w) 1 (He.ga K "number_in") fd ["text", "least", "most"] (sp_number_in K) := by
  refine F1.ok sc_number_in (fun vs H Q E h => ?_) (fun cdv A outer s H vs Q E hr h => ?_)
  · unfold sp_number_in at h
    split at h
    · rfl
    · exact h.elim
  · unfold sp_number_in at h
    split at h
    rotate_left
    · exact h.elim
    · rename_i z lo hi
      refine ⟨_, (pss_cons (s_if (PW.pt (w_or (pt_not (t_chain o_le o_le (e_v 1) (kk_len K T.b_len (e_v 0)) (e_v 2))) (w_or1 (pt_not (t_b (e_all rfl T.b_all (pe_lc (own := [("sign", 3)]) (g := gName 3) (tt := tYes) rfl sc_number_in.nd (pi_str (e_v 0)) (blkOk_by (own := [("sign", 3)]) (N := ["text", "least", "most", "sign"]) (sc := defScope s_number_in) (by decide +kernel)) (fun _ _ _ _ _ => (pg_name (i := 3) sc_number_in.nd rfl (Or.inl rfl))) (fun _ _ _ _ _ => pts_nil) (fun _ _ _ _ _ => (pe_cmpR o_inS (e_v 3) (e_g T.v_DIGITS) (by rfl)))))))))) (pss_one (ps_ret pe_non)) pss_nil)
        (pss_one (ps_ret (e_int T.b_int (e_v 0))))), ?_⟩
      obtain ⟨⟨h0, h6, hz⟩, h⟩ := h
      walk_at "n"
      refine ⟨hz, ?_⟩
      walk_at "n"
      have out : ∀ H', Same H H' → (decide (lo ≤ z.length) && decide ((z.length : Int) ≤ hi)) = false → Q .non H' := fun H' s e => by
        have q := h H' s
        unfold numIn at q
        rw [e] at q
        exact q
      refine cond_p (fun h1 => ?_) (fun h1 => ?_)
      rotate_left
      · walk_at "n"
        exact out _ (Same.refl _) (by simp [h1])
      walk_at "n"
      refine cond_p (fun h2 => ?_) (fun h2 => ?_)
      rotate_left
      · walk_at "n"
        exact out _ (Same.refl _) (by simp [h2])
      walk_at "n"
      refine ⟨z, rfl, fun D hD => lcW (walk_str (z := z)) (fun i v _ => ∃ c, z.cps.toList[i]? = some c ∧ v = .bl (isDig c)) (show z.length ≤ 1000000 by omega) hD (fun _ _ => trivial) (fun _ _ _ _ _ z => z) ?_ gm_name ?_⟩
      · rintro i x H1 H2 acc Nx hi s hd ⟨rfl, c, hc, rfl⟩ nx
        refine ⟨rfl, ?_⟩
        walk_at "n"
        refine ⟨c, rfl, ?_⟩
        refine nx _ _ (Same.refl _) ⟨c, by rw [Array.getElem?_toList]; exact hc, ?_⟩
        exact congrArg V.bl (dig_in c)
      · intro ys H1 hl hy s hd
        have e := ys_get (l := z.cps.toList) (f := fun c => V.bl (isDig c)) (by rw [Array.length_toList]; exact hl) hy
        walk_at "n"
        refine ⟨z.cps.toList.map isDig, ?_, ?_⟩
        · rw [List.map_map]
          rw [e] at hd
          exact SqL.of hd
        walk_at "n"
        have q := h H1 s
        unfold numIn at q
        rw [decide_eq_true h1, decide_eq_true h2] at q
        rw [show (List.map isDig z.cps.toList).all id = z.cps.toList.all isDig from by rw [List.all_map]; rfl]
        refine cond_b (fun h3 => ?_) (fun h3 => ?_)
        · walk_at "n"
          rw [h3] at q
          obtain ⟨i1, i2⟩ := numIn_int h1 h2 h0 h6 h3
          refine ⟨_, i1, i2, ?_⟩
          exact q
        · walk_at "n"
          rw [h3] at q
          exact q
theorem ok_number_in {P : Program} {w : World} {K : PySem.W.Frag} {mg : Str → Option Value} {base : Heap} (T : Tx K mg) : F.Fr P w K mg base 1 (He.ga K "number_in") (sp_number_in K) := (T.f_number_in).elim fun fd F1 => fr_of F1 (okF_number_in T F1) (fun _ _ _ _ _ _ us hl => match us, hl with | [_, _, _], _ => rfl)
end G
set_option maxHeartbeats 400000
namespace G
open PySem PySem.Spec PyProof.Rows L2 F
local macro_rules | `(tactic| walk_at "side") => `(tactic| first | rfl | decide | omega | assumption | (unfold CMul; omega) | (unfold CPow; omega) | (unfold CDiv; omega))
local macro_rules | `(tactic| walk_at "hp") => `(tactic| first | assumption | exact upd_same | (refine upd_keep (by assumption) ?_; walk_at "hp") | (refine sm (by assumption) ?_; walk_at "hp"))
local macro_rules | `(tactic| walk_at "n") => `(tactic| ((try conv => whnf); repeat ((first | with_reducible refine cond_t rfl ?_ | with_reducible refine cond_f rfl ?_ | with_reducible refine cond_n ?_); (try conv => whnf))))
local macro_rules | `(tactic| walk_at "go") => `(tactic| (walk_at "n"; repeat (refine And.intro ?side ?_; (case side => walk_at "side"); walk_at "n")))

open TL
/-- the parts of a text cut at a sign are no longer than it -/
theorem spl_le (S : List Nat) : ∀ (l : List Nat) (k : Nat) (acc : List Nat), ∀ p ∈ spl S k acc l, p.length ≤ acc.length + l.length
  | [], k, acc, p, h => by
    rw [spl_nil] at h
    simp at h
    subst h
    simp
  | c :: r, 0, acc, p, h => by
    by_cases e : pre S (c :: r) = true
    · rw [spl_hit e] at h
      rcases List.mem_cons.mp h with h | h
      · subst h
        omega
      · have := spl_le S r _ _ p h
        simp at this ⊢
        omega
    · rw [spl_miss (by simpa using e)] at h
      have := spl_le S r _ _ p h
      simp at this ⊢
      omega
  | c :: r, k + 1, acc, p, h => by
    have := spl_le S r k acc p h
    simp at this ⊢
    omega
theorem split_le {z y : Str} (hy : tl y ≠ []) (hk : y.cps.all (· < 256) = true) {p : Str} (h : p ∈ Txt.split z y) : p.length ≤ z.length := by
  have q := split_spl z y hy (kind_ok hk)
  have m : tl p ∈ (Txt.split z y).map tl := List.mem_map_of_mem h
  rw [q] at m
  have := spl_le _ _ _ _ _ m
  rw [len_tl, len_tl]
  simpa using this
/-- a year of more than four signs must not begin with 0 -/
def badYear (a : Str) : Bool := decide (4 < (a.length : Int)) && decide ((⟨#[a.cps.toList.headD 0]⟩ : Str) = "0")
def dateIn (z : Str) : Option (Int × Int × Int) := match Txt.split z "-" with
  | [a, b, c] => if badYear a = true then none else match numIn a 4 6, numIn b 2 2, numIn c 2 2 with
    | some y, some m, some d => if wrongPart (.int y) (.int m) (.int d) (.int 0) (.int 0) = .non then some (y, m, d) else none
    | _, _, _ => none
  | _ => none
/-- .. of the parts -/
def dateIn' (a b c : Str) : Option (Int × Int × Int) := if badYear a = true then none else match numIn a 4 6, numIn b 2 2, numIn c 2 2 with
    | some y, some m, some d => if wrongPart (.int y) (.int m) (.int d) (.int 0) (.int 0) = .non then some (y, m, d) else none
    | _, _, _ => none
theorem wrong_none1 (m d h i : V) : wrongPart .non m d h i ≠ .non := by
  unfold wrongPart
  rw [if_pos (show betw .non _ _ = false from rfl)]
  exact fun e => by cases e
theorem wrong_none2 (y d h i : V) : wrongPart y .non d h i ≠ .non := by
  unfold wrongPart
  split
  · exact fun e => by cases e
  · rw [if_pos (show betw .non _ _ = false from rfl)]
    exact fun e => by cases e
theorem wrong_none3 (y m h i : V) : wrongPart y m .non h i ≠ .non := by
  unfold wrongPart
  split
  · exact fun e => by cases e
  split
  · exact fun e => by cases e
  · rw [if_pos (show betw .non _ _ = false from rfl)]
    exact fun e => by cases e
theorem dateIn_key {a b c : Str} (by0 : badYear a = false) : dateIn' a b c = none ∧ wrongPart (optI (numIn a 4 6)) (optI (numIn b 2 2)) (optI (numIn c 2 2)) (.int 0) (.int 0) ≠ .non ∨
    ∃ y m d, numIn a 4 6 = some y ∧ numIn b 2 2 = some m ∧ numIn c 2 2 = some d ∧ wrongPart (.int y) (.int m) (.int d) (.int 0) (.int 0) = .non ∧ dateIn' a b c = some (y, m, d) := by
  unfold dateIn'
  rw [if_neg (by rw [by0]; decide)]
  cases numIn a 4 6 with
  | none => exact .inl ⟨rfl, wrong_none1 _ _ _ _⟩
  | some y =>
    cases numIn b 2 2 with
    | none => exact .inl ⟨rfl, wrong_none2 _ _ _ _⟩
    | some m =>
      cases numIn c 2 2 with
      | none => exact .inl ⟨rfl, wrong_none3 _ _ _ _⟩
      | some d =>
        by_cases e : wrongPart (.int y) (.int m) (.int d) (.int 0) (.int 0) = .non
        · exact .inr ⟨y, m, d, rfl, rfl, rfl, e, if_pos e⟩
        · exact .inl ⟨if_neg e, e⟩
def timeIn (z : Str) : Option (Int × Int) := match Txt.split z ":" with
  | [a, b] => match numIn a 2 2, numIn b 2 2 with
    | some h, some i => if wrongPart (.int 1) (.int 1) (.int 1) (.int h) (.int i) = .non then some (h, i) else none
    | _, _ => none
  | _ => none
theorem wrong_none4 (y m d i : V) : wrongPart y m d .non i ≠ .non := by
  unfold wrongPart
  split
  · exact fun e => by cases e
  split
  · exact fun e => by cases e
  split
  · exact fun e => by cases e
  · rw [if_pos (show betw .non _ _ = false from rfl)]
    exact fun e => by cases e
theorem wrong_none5 (y m d h : V) : wrongPart y m d h .non ≠ .non := by
  unfold wrongPart
  split
  · exact fun e => by cases e
  split
  · exact fun e => by cases e
  split
  · exact fun e => by cases e
  split
  · exact fun e => by cases e
  · rw [if_pos (show betw .non _ _ = false from rfl)]
    exact fun e => by cases e
def timeIn' (a b : Str) : Option (Int × Int) := match numIn a 2 2, numIn b 2 2 with
    | some h, some i => if wrongPart (.int 1) (.int 1) (.int 1) (.int h) (.int i) = .non then some (h, i) else none
    | _, _ => none
theorem timeIn_key {a b : Str} : timeIn' a b = none ∧ wrongPart (.int 1) (.int 1) (.int 1) (optI (numIn a 2 2)) (optI (numIn b 2 2)) ≠ .non ∨
    ∃ h i, numIn a 2 2 = some h ∧ numIn b 2 2 = some i ∧ wrongPart (.int 1) (.int 1) (.int 1) (.int h) (.int i) = .non ∧ timeIn' a b = some (h, i) := by
  unfold timeIn'
  cases numIn a 2 2 with
  | none => exact .inl ⟨rfl, wrong_none4 _ _ _ _⟩
  | some y =>
    cases numIn b 2 2 with
    | none => exact .inl ⟨rfl, wrong_none5 _ _ _ _⟩
    | some m =>
      by_cases e : wrongPart (.int 1) (.int 1) (.int 1) (.int y) (.int m) = .non
      · exact .inr ⟨y, m, rfl, rfl, e, if_pos e⟩
      · exact .inl ⟨if_neg e, e⟩
theorem wrong_non {x : V} {lo hi : Int} (h : x = .non) : betw x lo hi = false := by subst h; rfl
theorem atI_head {a : Str} (h : 4 < (a.length : Int)) : atI a.cps.toList 0 = some (a.cps.toList.headD 0) := by
  have hl : a.cps.toList.length = a.length := by rw [Array.length_toList]; rfl
  rw [atI_lt (by decide) (by omega)]
  cases e : a.cps.toList with
  | nil => rw [e] at hl; simp at hl; omega
  | cons c r => rfl
theorem plain_opt {K : PySem.W.Frag} {H : Hp} (o : Option Int) : Plain K H (optI o) := by cases o <;> trivial
def sp_date_in (K : PySem.W.Frag) : Sp := fun vs H Q E => match vs with
  | [.str z] => z.length + 2 ≤ sizeLine ∧ (dateIn z = none → ∀ H', Same H H' → Q .non H') ∧ (∀ y m d, dateIn z = some (y, m, d) → ∀ p H', Same H H' → H p = none → H' p = some (.lst [.int y, .int m, .int d]) → Q (.ref p) H')
  | _ => False
theorem sc_date_in : FnScope ["word", "parts", "found"] ["word"] (defScope s_date_in) := ⟨rfl, rfl, rfl, by decide +kernel, rfl, by decide +kernel, by decide +kernel⟩
theorem okF_date_in {P : Program} {w : World} {K : PySem.W.Frag} {mg : Str → Option Value} {base : Heap} {fd : FuncData} (T : Tx K mg) (F1 : FunD K "date_in" "date_in" (defArgs s_date_in) (defBody s_date_in) (defScope s_date_in) [] [] (He.ga K "date_in") fd) : FnOk P w K mg base (L2.CX P w) 4 (He.ga K "date_in") fd ["word"] (sp_date_in K) := by
  have c_number_in : Fc P w K mg base 1 "number_in" (sp_number_in K) := ⟨_, ok_number_in T, T.g_number_in, (T.f_number_in).elim fun _ z => z.kp⟩
  have c_wrong_part : Fc P w K mg base 3 "wrong_part" (sp_wrong_part K) := ⟨_, ok_wrong_part T, T.g_wrong_part, (T.f_wrong_part).elim fun _ z => z.kp⟩
  refine F1.ok sc_date_in (fun vs H Q E h => ?_) (fun cdv A outer s H vs Q E hr h => ?_)
  · unfold sp_date_in at h
    split at h
    · rfl
    · exact h.elim
  · unfold sp_date_in at h
    split at h
    rotate_left
    · exact h.elim
    · rename_i z
      refine ⟨_, (pss_cons (ps_set (i := 1) sc_date_in.nd rfl (Or.inl rfl) (e_split (e_v 0) pe_str))
        (pss_cons (s_if (PW.pt (w_or (t_cmp o_ne (kk_len K T.b_len (e_v 1)) pe_int (nomark _)) (w_or1 (PW.pt (w_and (t_cmp o_gt (kk_len K T.b_len (pe_ix (k_ixL K) (e_v 1) pe_int (fun _ _ => rfl))) pe_int (nomark _)) (w_and1 (t_cmp o_eq (pe_ix ixS (pe_ix (k_ixL K) (e_v 1) pe_int (fun _ _ => rfl)) pe_int (fun _ _ => rfl)) pe_str (nomark _)))))))) (pss_one (ps_ret pe_non)) pss_nil)
        (pss_cons (ps_set (i := 2) sc_date_in.nd rfl (Or.inl rfl) (pe_lst (pa_cons (e_c c_number_in hr (pa_cons (pe_ix (k_ixL K) (e_v 1) pe_int (fun _ _ => rfl)) (pa_cons pe_int (pa_cons pe_int pa_nil)))) (pa_cons (e_c c_number_in hr (pa_cons (pe_ix (k_ixL K) (e_v 1) pe_int (fun _ _ => rfl)) (pa_cons pe_int (pa_cons pe_int pa_nil)))) (pa_cons (e_c c_number_in hr (pa_cons (pe_ix (k_ixL K) (e_v 1) pe_int (fun _ _ => rfl)) (pa_cons pe_int (pa_cons pe_int pa_nil)))) pa_nil)))))
        (pss_one (ps_ret (e_if (t_cmp o_is (e_c c_wrong_part hr (pa_cons (pe_ix (k_ixL K) (e_v 2) pe_int (fun _ _ => rfl)) (pa_cons (pe_ix (k_ixL K) (e_v 2) pe_int (fun _ _ => rfl)) (pa_cons (pe_ix (k_ixL K) (e_v 2) pe_int (fun _ _ => rfl)) (pa_cons pe_int (pa_cons pe_int pa_nil)))))) pe_non (nomark _)) (e_v 2) pe_non)))))), ?_⟩
      obtain ⟨hz, hn, hs⟩ := h
      walk_at "n"
      refine ⟨⟨rfl, hz⟩, fun p hp => ?_⟩
      walk_at "n"
      have le : ∀ q, q ∈ Txt.split z "-" → q.length ≤ sizeLine := fun q hq => Nat.le_trans (split_le (y := "-") (by decide +kernel) (by decide +kernel) hq) (by omega)
      have out : dateIn z = none → Q .non (upd H p (.lst ((Txt.split z "-").map V.str))) := fun e => hn e _ (snew hp)
      unfold dateIn at hn hs out
      refine .inl ⟨_, .inl (SqL.of upd_same), ?_⟩
      rcases e : Txt.split z "-" with _ | ⟨a, _ | ⟨b, _ | ⟨c, _ | ⟨d, r⟩⟩⟩⟩ <;> rw [e] at hn hs out le
      · walk_at "n"
        exact out rfl
      · walk_at "n"
        exact out rfl
      · walk_at "n"
        exact out rfl
      rotate_left
      · walk_at "n"
        exact out rfl
      walk_at "n"
      have ha := le a (by simp)
      have hb := le b (by simp)
      have hc := le c (by simp)
      have sq : SqL K (upd H p (.lst ([a, b, c].map V.str))) p [.str a, .str b, .str c] := SqL.of upd_same
      refine ⟨_, _, sq, rfl, ?_⟩
      walk_at "n"
      refine ⟨ha, ?_⟩
      walk_at "n"
      refine cond_p (fun h4 => ?a1) (fun h4 => ?a2)
      case' a1 =>
        walk_at "n"
        refine ⟨_, _, sq, rfl, ?_⟩
        walk_at "n"
        refine ⟨_, ha, atI_head h4, ?_⟩
        walk_at "n"
        refine cond_p (fun h0 => ?a3) (fun h0 => ?a4)
        case' a3 =>
          walk_at "n"
          exact out (if_pos (by unfold badYear; rw [decide_eq_true h4, decide_eq_true h0]; rfl))
      all_goals
        have by0 : badYear a = false := by
          unfold badYear
          first | (rw [decide_eq_false h0, Bool.and_false]) | (rw [decide_eq_false h4, Bool.false_and])
        walk_at "n"
        refine ⟨_, _, sq, rfl, ?_⟩
        walk_at "n"
        refine ⟨⟨by decide, by decide, ha⟩, fun H2 s2 => ?_⟩
        walk_at "n"
        refine ⟨_, _, sl s2 sq, rfl, ?_⟩
        walk_at "n"
        refine ⟨⟨by decide, by decide, hb⟩, fun H3 s3 => ?_⟩
        walk_at "n"
        refine ⟨_, _, sl (s2.trans s3) sq, rfl, ?_⟩
        walk_at "n"
        refine ⟨⟨by decide, by decide, hc⟩, fun H4 s4 => ?_⟩
        walk_at "n"
        refine ⟨line_of (by simp), fun q hq => ?_⟩
        walk_at "n"
        have sf : SqL K (upd H4 q (.lst [optI (numIn a 4 6), optI (numIn b 2 2), optI (numIn c 2 2)])) q [optI (numIn a 4 6), optI (numIn b 2 2), optI (numIn c 2 2)] := SqL.of upd_same
        have sg : Same H (upd H4 q (.lst [optI (numIn a 4 6), optI (numIn b 2 2), optI (numIn c 2 2)])) := sto ((snew hp).trans (s2.trans (s3.trans s4))) hq
        refine ⟨_, _, sf, rfl, ?_⟩
        walk_at "n"
        refine ⟨_, _, sf, rfl, ?_⟩
        walk_at "n"
        refine ⟨_, _, sf, rfl, ?_⟩
        walk_at "n"
        refine ⟨⟨plain_opt _, plain_opt _, plain_opt _, trivial, trivial⟩, ?_⟩
        walk_at "n"
        have hq0 : H q = none := ((snew hp).trans (s2.trans (s3.trans s4))).free hq
        have key : dateIn' a b c = none ∧ wrongPart (optI (numIn a 4 6)) (optI (numIn b 2 2)) (optI (numIn c 2 2)) (.int 0) (.int 0) ≠ .non ∨ ∃ y m d, numIn a 4 6 = some y ∧ numIn b 2 2 = some m ∧ numIn c 2 2 = some d ∧ wrongPart (.int y) (.int m) (.int d) (.int 0) (.int 0) = .non ∧ dateIn' a b c = some (y, m, d) := dateIn_key by0
        rcases key with ⟨k1, k2⟩ | ⟨y, m, d, e1, e2, e3, e4, e5⟩
        · have r := hn k1 _ sg
          revert k2
          generalize wrongPart (optI (numIn a 4 6)) (optI (numIn b 2 2)) (optI (numIn c 2 2)) (.int 0) (.int 0) = u
          intro k2
          cases u with
          | non => exact absurd rfl k2
          | _ =>
            walk_at "n"
            exact r
        · have r := hs _ _ _ e5 q _ sg hq0 (by rw [e1, e2, e3]; exact upd_same)
          rw [e1, e2, e3] at r ⊢
          rw [show wrongPart (optI (some y)) (optI (some m)) (optI (some d)) (.int 0) (.int 0) = .non from e4]
          walk_at "n"
          exact r
theorem ok_date_in {P : Program} {w : World} {K : PySem.W.Frag} {mg : Str → Option Value} {base : Heap} (T : Tx K mg) : F.Fr P w K mg base 4 (He.ga K "date_in") (sp_date_in K) := (T.f_date_in).elim fun fd F1 => fr_of F1 (okF_date_in T F1) (fun _ _ _ _ _ _ us hl => match us, hl with | [_], _ => rfl)
def sp_time_in (K : PySem.W.Frag) : Sp := fun vs H Q E => match vs with
  | [.str z] => z.length + 2 ≤ sizeLine ∧ (timeIn z = none → ∀ H', Same H H' → Q .non H') ∧ (∀ h i, timeIn z = some (h, i) → ∀ p H', Same H H' → H p = none → H' p = some (.lst [.int h, .int i]) → Q (.ref p) H')
  | _ => False
theorem sc_time_in : FnScope ["word", "parts", "found"] ["word"] (defScope s_time_in) := ⟨rfl, rfl, rfl, by decide +kernel, rfl, by decide +kernel, by decide +kernel⟩
theorem okF_time_in {P : Program} {w : World} {K : PySem.W.Frag} {mg : Str → Option Value} {base : Heap} {fd : FuncData} (T : Tx K mg) (F1 : FunD K "time_in" "time_in" (defArgs s_time_in) (defBody s_time_in) (defScope s_time_in) [] [] (He.ga K "time_in") fd) : FnOk P w K mg base (L2.CX P w) 4 (He.ga K "time_in") fd ["word"] (sp_time_in K) := by
  have c_number_in : Fc P w K mg base 1 "number_in" (sp_number_in K) := ⟨_, ok_number_in T, T.g_number_in, (T.f_number_in).elim fun _ z => z.kp⟩
  have c_wrong_part : Fc P w K mg base 3 "wrong_part" (sp_wrong_part K) := ⟨_, ok_wrong_part T, T.g_wrong_part, (T.f_wrong_part).elim fun _ z => z.kp⟩
  refine F1.ok sc_time_in (fun vs H Q E h => ?_) (fun cdv A outer s H vs Q E hr h => ?_)
  · unfold sp_time_in at h
    split at h
    · rfl
    · exact h.elim
  · unfold sp_time_in at h
    split at h
    rotate_left
    · exact h.elim
    · rename_i z
      refine ⟨_, (pss_cons (ps_set (i := 1) sc_time_in.nd rfl (Or.inl rfl) (e_split (e_v 0) pe_str))
        (pss_cons (s_if (t_cmp o_ne (kk_len K T.b_len (e_v 1)) pe_int (nomark _)) (pss_one (ps_ret pe_non)) pss_nil)
        (pss_cons (ps_set (i := 2) sc_time_in.nd rfl (Or.inl rfl) (pe_lst (pa_cons (e_c c_number_in hr (pa_cons (pe_ix (k_ixL K) (e_v 1) pe_int (fun _ _ => rfl)) (pa_cons pe_int (pa_cons pe_int pa_nil)))) (pa_cons (e_c c_number_in hr (pa_cons (pe_ix (k_ixL K) (e_v 1) pe_int (fun _ _ => rfl)) (pa_cons pe_int (pa_cons pe_int pa_nil)))) pa_nil))))
        (pss_one (ps_ret (e_if (t_cmp o_is (e_c c_wrong_part hr (pa_cons pe_int (pa_cons pe_int (pa_cons pe_int (pa_cons (pe_ix (k_ixL K) (e_v 2) pe_int (fun _ _ => rfl)) (pa_cons (pe_ix (k_ixL K) (e_v 2) pe_int (fun _ _ => rfl)) pa_nil)))))) pe_non (nomark _)) (e_v 2) pe_non)))))), ?_⟩
      obtain ⟨hz, hn, hs⟩ := h
      walk_at "n"
      refine ⟨⟨rfl, hz⟩, fun p hp => ?_⟩
      walk_at "n"
      have le : ∀ q, q ∈ Txt.split z ":" → q.length ≤ sizeLine := fun q hq => Nat.le_trans (split_le (y := ":") (by decide +kernel) (by decide +kernel) hq) (by omega)
      have out : timeIn z = none → Q .non (upd H p (.lst ((Txt.split z ":").map V.str))) := fun e => hn e _ (snew hp)
      unfold timeIn at hn hs out
      refine .inl ⟨_, .inl (SqL.of upd_same), ?_⟩
      rcases e : Txt.split z ":" with _ | ⟨a, _ | ⟨b, _ | ⟨c, r⟩⟩⟩ <;> rw [e] at hn hs out le
      · walk_at "n"
        exact out rfl
      · walk_at "n"
        exact out rfl
      rotate_left
      · walk_at "n"
        exact out rfl
      walk_at "n"
      have ha := le a (by simp)
      have hb := le b (by simp)
      have sq : SqL K (upd H p (.lst ([a, b].map V.str))) p [.str a, .str b] := SqL.of upd_same
      refine ⟨_, _, sq, rfl, ?_⟩
      walk_at "n"
      refine ⟨⟨by decide, by decide, ha⟩, fun H2 s2 => ?_⟩
      walk_at "n"
      refine ⟨_, _, sl s2 sq, rfl, ?_⟩
      walk_at "n"
      refine ⟨⟨by decide, by decide, hb⟩, fun H3 s3 => ?_⟩
      walk_at "n"
      refine ⟨line_of (by simp), fun q hq => ?_⟩
      walk_at "n"
      have sf : SqL K (upd H3 q (.lst [optI (numIn a 2 2), optI (numIn b 2 2)])) q [optI (numIn a 2 2), optI (numIn b 2 2)] := SqL.of upd_same
      have sg : Same H (upd H3 q (.lst [optI (numIn a 2 2), optI (numIn b 2 2)])) := sto ((snew hp).trans (s2.trans s3)) hq
      refine ⟨_, _, sf, rfl, ?_⟩
      walk_at "n"
      refine ⟨_, _, sf, rfl, ?_⟩
      walk_at "n"
      refine ⟨⟨trivial, trivial, trivial, plain_opt _, plain_opt _⟩, ?_⟩
      walk_at "n"
      have hq0 : H q = none := ((snew hp).trans (s2.trans s3)).free hq
      rcases timeIn_key (a := a) (b := b) with ⟨k1, k2⟩ | ⟨h1, i1, e1, e2, e4, e5⟩
      · have r := hn k1 _ sg
        revert k2
        generalize wrongPart (.int 1) (.int 1) (.int 1) (optI (numIn a 2 2)) (optI (numIn b 2 2)) = u
        intro k2
        cases u with
        | non => exact absurd rfl k2
        | _ =>
          walk_at "n"
          exact r
      · have r := hs _ _ e5 q _ sg hq0 (by rw [e1, e2]; exact upd_same)
        rw [e1, e2] at r ⊢
        rw [show wrongPart (.int 1) (.int 1) (.int 1) (optI (some h1)) (optI (some i1)) = .non from e4]
        walk_at "n"
        exact r
theorem ok_time_in {P : Program} {w : World} {K : PySem.W.Frag} {mg : Str → Option Value} {base : Heap} (T : Tx K mg) : F.Fr P w K mg base 4 (He.ga K "time_in") (sp_time_in K) := (T.f_time_in).elim fun fd F1 => fr_of F1 (okF_time_in T F1) (fun _ _ _ _ _ _ us hl => match us, hl with | [_], _ => rfl)
end G
set_option maxHeartbeats 400000
namespace G
open PySem PySem.Spec PyProof.Rows L2 F
local macro_rules | `(tactic| walk_at "side") => `(tactic| first | rfl | decide | omega | assumption | (unfold CMul; omega) | (unfold CPow; omega) | (unfold CDiv; omega))
local macro_rules | `(tactic| walk_at "hp") => `(tactic| first | assumption | exact upd_same | (refine upd_keep (by assumption) ?_; walk_at "hp") | (refine sm (by assumption) ?_; walk_at "hp"))
local macro_rules | `(tactic| walk_at "n") => `(tactic| ((try conv => whnf); repeat ((first | with_reducible refine cond_t rfl ?_ | with_reducible refine cond_f rfl ?_ | with_reducible refine cond_n ?_); (try conv => whnf))))
local macro_rules | `(tactic| walk_at "go") => `(tactic| (walk_at "n"; repeat (refine And.intro ?side ?_; (case side => walk_at "side"); walk_at "n")))

open M TL
abbrev CM (K : PySem.W.Frag) : Addr := He.ga K "Moment"
/-- what a moment holds -/
def moF (q : Mo) : List (Str × V) := putF "number" (.int q.num) (putF "weekday" (.int (q.date % 7)) (putF "date" (.int q.date) (putF "minute" (.int q.i) (putF "hour" (.int q.h) (putF "day" (.int q.d) (putF "month" (.int q.m) (putF "year" (.int q.y) [])))))))
def MoAt (K : PySem.W.Frag) (H : Hp) (a : Addr) (q : Mo) : Prop := ∃ dx, H a = some (.ins (CM K) dx (moF q))
theorem MoAt.same {K : PySem.W.Frag} {H H' : Hp} {a : Addr} {q : Mo} (h : MoAt K H a q) (s : Same H H') : MoAt K H' a q := let ⟨dx, e⟩ := h; ⟨dx, s _ _ e⟩
theorem MoAt.put {K : PySem.W.Frag} {H : Hp} {a r : Addr} {q : Mo} {kvs : List (Key × V)} {o : HO} (h : MoAt K H a q) (hr : H r = some (.dK kvs)) : MoAt K (upd H r o) a q := by
  obtain ⟨dx, e⟩ := h
  refine ⟨dx, ?_⟩
  rw [upd_ne fun z => by rw [z, hr] at e; cases e]
  exact e
theorem MoAt.ins {K : PySem.W.Frag} {H : Hp} {a : Addr} {q : Mo} (h : MoAt K H a q) : IsIns H a (CM K) := let ⟨dx, e⟩ := h; ⟨dx, _, e⟩
theorem mo_number (q : Mo) : (moF q).lookup ("number" : Str) = some (.int q.num) := lk_here
theorem mo_weekday (q : Mo) : (moF q).lookup ("weekday" : Str) = some (.int (q.date % 7)) := lk_next (by decide +kernel) lk_here
theorem mo_date (q : Mo) : (moF q).lookup ("date" : Str) = some (.int q.date) := lk_next (by decide +kernel) (lk_next (by decide +kernel) lk_here)
theorem mo_minute (q : Mo) : (moF q).lookup ("minute" : Str) = some (.int q.i) := lk_next (by decide +kernel) (lk_next (by decide +kernel) (lk_next (by decide +kernel) lk_here))
theorem mo_hour (q : Mo) : (moF q).lookup ("hour" : Str) = some (.int q.h) := lk_next (by decide +kernel) (lk_next (by decide +kernel) (lk_next (by decide +kernel) (lk_next (by decide +kernel) lk_here)))
theorem mo_day (q : Mo) : (moF q).lookup ("day" : Str) = some (.int q.d) := lk_next (by decide +kernel) (lk_next (by decide +kernel) (lk_next (by decide +kernel) (lk_next (by decide +kernel) (lk_next (by decide +kernel) lk_here))))
theorem mo_month (q : Mo) : (moF q).lookup ("month" : Str) = some (.int q.m) := lk_next (by decide +kernel) (lk_next (by decide +kernel) (lk_next (by decide +kernel) (lk_next (by decide +kernel) (lk_next (by decide +kernel) (lk_next (by decide +kernel) lk_here)))))
theorem mo_year (q : Mo) : (moF q).lookup ("year" : Str) = some (.int q.y) := lk_next (by decide +kernel) (lk_next (by decide +kernel) (lk_next (by decide +kernel) (lk_next (by decide +kernel) (lk_next (by decide +kernel) (lk_next (by decide +kernel) (lk_next (by decide +kernel) lk_here))))))
section
variable {K : PySem.W.Frag} {mg : Str → Option Value} {H : Hp} {a : Addr} {q : Mo}
theorem MoAt.number (T : Tx K mg) (h : MoAt K H a q) : FieldOf K H a "number" (.int q.num) := let ⟨dx, e⟩ := h; ⟨_, dx, _, e, T.c_Moment, T.n_Moment_number, mo_number q⟩
theorem MoAt.year (T : Tx K mg) (h : MoAt K H a q) : FieldOf K H a "year" (.int q.y) := let ⟨dx, e⟩ := h; ⟨_, dx, _, e, T.c_Moment, T.n_Moment_year, mo_year q⟩
theorem MoAt.month (T : Tx K mg) (h : MoAt K H a q) : FieldOf K H a "month" (.int q.m) := let ⟨dx, e⟩ := h; ⟨_, dx, _, e, T.c_Moment, T.n_Moment_month, mo_month q⟩
theorem MoAt.day (T : Tx K mg) (h : MoAt K H a q) : FieldOf K H a "day" (.int q.d) := let ⟨dx, e⟩ := h; ⟨_, dx, _, e, T.c_Moment, T.n_Moment_day, mo_day q⟩
theorem MoAt.hour (T : Tx K mg) (h : MoAt K H a q) : FieldOf K H a "hour" (.int q.h) := let ⟨dx, e⟩ := h; ⟨_, dx, _, e, T.c_Moment, T.n_Moment_hour, mo_hour q⟩
theorem MoAt.minute (T : Tx K mg) (h : MoAt K H a q) : FieldOf K H a "minute" (.int q.i) := let ⟨dx, e⟩ := h; ⟨_, dx, _, e, T.c_Moment, T.n_Moment_minute, mo_minute q⟩
end
theorem betw_t {i lo hi : Int} (h1 : lo ≤ i) (h2 : i ≤ hi) : ¬ betw (.int i) lo hi = false := by
  simp [betw, h1, h2]
theorem wrongPart_ok {y m d h i : Int} (k : (Mo.mk y m d h i).ok) : wrongPart (.int y) (.int m) (.int d) (.int h) (.int i) = .non := by
  unfold wrongPart
  rw [if_neg (betw_t k.y1 k.y2), if_neg (betw_t k.m1 k.m2), if_neg (show ¬ betw (.int d) 1 (monthLen (toI (.int y)) (toI (.int m))) = false from betw_t k.d1 k.d2), if_neg (betw_t k.h1 k.h2), if_neg (betw_t k.i1 k.i2)]
theorem betw_f {i lo hi : Int} (h : ¬ betw (.int i) lo hi = false) : lo ≤ i ∧ i ≤ hi := by
  simpa [betw] using h
theorem ok_of_wrong {y m d h i : Int} (e : wrongPart (.int y) (.int m) (.int d) (.int h) (.int i) = .non) : (Mo.mk y m d h i).ok := by
  unfold wrongPart at e
  split at e
  · cases e
  split at e
  · cases e
  split at e
  · cases e
  split at e
  · cases e
  split at e
  · cases e
  rename_i a1 a2 a3 a4 a5
  exact ⟨(betw_f a1).1, (betw_f a1).2, (betw_f a2).1, (betw_f a2).2, (betw_f a3).1, (betw_f a3).2, (betw_f a4).1, (betw_f a4).2, (betw_f a5).1, (betw_f a5).2⟩
def sp_Moment___init__ (K : PySem.W.Frag) : Sp := fun vs H Q E => match vs with
  | [.ref a, .int y, .int m, .int d, .int h, .int i] => (∃ dx, H a = some (.ins (CM K) dx []) ∧ ∀ H', SB a H H' → H' a = some (.ins (CM K) dx (moF ⟨y, m, d, h, i⟩)) → Q .non H') ∧ (Mo.mk y m d h i).ok
  | _ => False
theorem sc_Moment___init__ : FnScope ["self", "year", "month", "day", "hour", "minute", "part"] ["self", "year", "month", "day", "hour", "minute"] (defScope s_Moment___init__) := ⟨rfl, rfl, rfl, by decide +kernel, rfl, by decide +kernel, by decide +kernel⟩
theorem okF_Moment___init__ {P : Program} {w : World} {K : PySem.W.Frag} {mg : Str → Option Value} {base : Heap} {fd : FuncData} (T : Tx K mg) (F1 : FunD K "__init__" "Moment.__init__" (defArgs s_Moment___init__) (defBody s_Moment___init__) (defScope s_Moment___init__) [(.int 0), (.int 0)] [] (He.ma K (He.ga K "Moment") "__init__") fd) : FnOk P w K mg base (L2.CX P w) 4 (He.ma K (He.ga K "Moment") "__init__") fd ["self", "year", "month", "day", "hour", "minute"] (sp_Moment___init__ K) := by
  have c_wrong_part : Fc P w K mg base 3 "wrong_part" (sp_wrong_part K) := ⟨_, ok_wrong_part T, T.g_wrong_part, (T.f_wrong_part).elim fun _ z => z.kp⟩
  have c_day_number : Fc P w K mg base 3 "day_number" (sp_day_number K) := ⟨_, ok_day_number T, T.g_day_number, (T.f_day_number).elim fun _ z => z.kp⟩
  have c_weekday_of : Fc P w K mg base 1 "weekday_of" (sp_weekday_of K) := ⟨_, ok_weekday_of T, T.g_weekday_of, (T.f_weekday_of).elim fun _ z => z.kp⟩
  refine F1.ok sc_Moment___init__ (fun vs H Q E h => ?_) (fun cdv A outer s H vs Q E hr h => ?_)
  · unfold sp_Moment___init__ at h
    split at h
    · rfl
    · exact h.elim
  · unfold sp_Moment___init__ at h
    split at h
    rotate_left
    · exact h.elim
    · rename_i a y m d h1 i
      refine ⟨_, (pss_cons (ps_set (i := 6) sc_Moment___init__.nd rfl (Or.inl rfl) (e_c c_wrong_part hr (pa_cons (e_v 1) (pa_cons (e_v 2) (pa_cons (e_v 3) (pa_cons (e_v 4) (pa_cons (e_v 5) pa_nil)))))))
        (pss_cons (s_if (t_cmp o_isnot (e_v 6) pe_non (nomark _)) (pss_one ps_never) pss_nil)
        (pss_cons (s_fld (e_v 0) (e_v 1))
        (pss_cons (s_fld (e_v 0) (e_v 2))
        (pss_cons (s_fld (e_v 0) (e_v 3))
        (pss_cons (s_fld (e_v 0) (e_v 4))
        (pss_cons (s_fld (e_v 0) (e_v 5))
        (pss_cons (s_fld (e_v 0) (e_c c_day_number hr (pa_cons (e_v 1) (pa_cons (e_v 2) (pa_cons (e_v 3) pa_nil)))))
        (pss_cons (s_fld (e_v 0) (e_c c_weekday_of hr (pa_cons (k_fld K (e_v 0)) pa_nil)))
        (pss_one (s_fld (e_v 0) (pe_op (k_add K) (pe_op (k_add K) (pe_op o_mul (k_fld K (e_v 0)) (e_g T.v_DAY_MINUTES)) (pe_op o_mul (e_v 4) pe_int)) (e_v 5))))))))))))), ?_⟩
      obtain ⟨⟨dx, ha, k⟩, ok⟩ := h
      walk_at "n"
      refine ⟨⟨trivial, trivial, trivial, trivial, trivial⟩, ?_⟩
      rw [wrongPart_ok ok]
      walk_at "n"
      refine ⟨_, _, _, ha, T.c_Moment, T.n_Moment_year, by decide, ?_⟩
      walk_at "n"
      refine ⟨_, _, _, upd_same, T.c_Moment, T.n_Moment_month, Nat.lt_of_le_of_lt (lf lf0) (by decide), ?_⟩
      walk_at "n"
      refine ⟨_, _, _, upd_same, T.c_Moment, T.n_Moment_day, Nat.lt_of_le_of_lt (lf (lf lf0)) (by decide), ?_⟩
      walk_at "n"
      refine ⟨_, _, _, upd_same, T.c_Moment, T.n_Moment_hour, Nat.lt_of_le_of_lt (lf (lf (lf lf0))) (by decide), ?_⟩
      walk_at "n"
      refine ⟨_, _, _, upd_same, T.c_Moment, T.n_Moment_minute, Nat.lt_of_le_of_lt (lf (lf (lf (lf lf0)))) (by decide), ?_⟩
      walk_at "n"
      refine ⟨⟨ok.m1, ok.m2⟩, fun H2 s2 => ?_⟩
      walk_at "n"
      have e2 := s2 _ _ upd_same
      refine ⟨_, _, _, e2, T.c_Moment, T.n_Moment_date, Nat.lt_of_le_of_lt (lf (lf (lf (lf (lf lf0))))) (by decide), ?_⟩
      walk_at "n"
      refine ⟨_, ⟨_, _, _, upd_same, T.c_Moment, T.n_Moment_date, lk_here⟩, ?_⟩
      walk_at "n"
      refine ⟨_, _, _, upd_same, T.c_Moment, T.n_Moment_weekday, Nat.lt_of_le_of_lt (lf (lf (lf (lf (lf (lf lf0)))))) (by decide), ?_⟩
      walk_at "n"
      refine ⟨_, ⟨_, _, _, upd_same, T.c_Moment, T.n_Moment_date, lk_next (by decide +kernel) lk_here⟩, ?_⟩
      walk_at "n"
      refine ⟨by unfold CMul; omega, ?_⟩
      walk_at "n"
      refine ⟨by unfold CMul; omega, ?_⟩
      walk_at "n"
      refine ⟨_, _, _, upd_same, T.c_Moment, T.n_Moment_number, Nat.lt_of_le_of_lt (lf (lf (lf (lf (lf (lf (lf lf0))))))) (by decide), ?_⟩
      walk_at "n"
      unfold moF at k
      rw [show (Mo.mk y m d h1 i).num = dayNumber y m d * 1440 + h1 * 60 + i by unfold Mo.num Mo.date; rfl, show (Mo.mk y m d h1 i).date = dayNumber y m d by unfold Mo.date; rfl] at k
      exact k _ (((((((sb_upd.upd).upd).upd).upd).same s2).upd.upd).upd) upd_same
theorem ok_Moment___init__ {P : Program} {w : World} {K : PySem.W.Frag} {mg : Str → Option Value} {base : Heap} (T : Tx K mg) : F.Fr P w K mg base 4 (He.ma K (He.ga K "Moment") "__init__") (sp_Moment___init__ K) := (T.f_Moment___init__).elim fun fd F1 => fr_full F1 (okF_Moment___init__ T F1) (by simp) (fun _ _ _ _ _ _ _ us its h1 h2 => match us, its, h1, h2 with | [_, _, _, _, _, _], [_, _], _, _ => ⟨_, rfl, rfl⟩)
/-- a moment made -/
theorem mk_mo {K : PySem.W.Frag} {H : Hp} {q : Mo} {Q : VK} (ok : q.ok) (k : ∀ x H', Same H H' → H x = none → MoAt K H' x q → Q (.ref x) H') :
    ∀ x dx, H x = none → H dx = none → dx ≠ x → sp_Moment___init__ K [.ref x, .int q.y, .int q.m, .int q.d, .int q.h, .int q.i] (upd (upd H dx (.own x)) x (.ins (CM K) dx [])) (fun v H2 => v = .non ∧ Q (.ref x) H2) E0 := by
  intro x dx hx hdx ne
  exact ⟨⟨dx, upd_same, fun H' s e => ⟨rfl, k x H' (s.made hx hdx) hx ⟨dx, e⟩⟩⟩, ok⟩

def len_two : True := trivial
def sp_Moment___sub__ (K : PySem.W.Frag) : Sp := fun vs H Q E => match vs with
  | [.ref a, .ref b] => ∃ q p, MoAt K H a q ∧ MoAt K H b p ∧ Q (.int (q.num - p.num)) H
  | _ => False
theorem sc_Moment___sub__ : FnScope ["self", "other"] ["self", "other"] (defScope s_Moment___sub__) := ⟨rfl, rfl, rfl, by decide +kernel, rfl, by decide +kernel, by decide +kernel⟩
theorem okF_Moment___sub__ {P : Program} {w : World} {K : PySem.W.Frag} {mg : Str → Option Value} {base : Heap} {fd : FuncData} (T : Tx K mg) (F1 : FunD K "__sub__" "Moment.__sub__" (defArgs s_Moment___sub__) (defBody s_Moment___sub__) (defScope s_Moment___sub__) [] [] (He.ma K (He.ga K "Moment") "__sub__") fd) : FnOk P w K mg base (L2.CX P w) 1 (He.ma K (He.ga K "Moment") "__sub__") fd ["self", "other"] (sp_Moment___sub__ K) := by
  refine F1.ok sc_Moment___sub__ (fun vs H Q E h => ?_) (fun cdv A outer s H vs Q E hr h => ?_)
  · unfold sp_Moment___sub__ at h
    split at h
    · rfl
    · exact h.elim
  · unfold sp_Moment___sub__ at h
    split at h
    rotate_left
    · exact h.elim
    · rename_i a b
      refine ⟨_, (pss_cons (s_if (t_b (e_isC T.g_Moment T.is_Moment T.b_isinstance (e_v 1))) (pss_one (ps_ret (pe_op o_sub (k_fld K (e_v 0)) (k_fld K (e_v 1))))) pss_nil)
        (pss_one ps_never)), ?_⟩
      obtain ⟨q, p, ha, hb, h⟩ := h
      walk_at "n"
      refine ⟨rfl, .inl ⟨hb.ins, ?_⟩⟩
      walk_at "n"
      refine ⟨_, ha.number T, ?_⟩
      walk_at "n"
      refine ⟨_, hb.number T, ?_⟩
      walk_at "n"
      exact h
theorem ok_Moment___sub__ {P : Program} {w : World} {K : PySem.W.Frag} {mg : Str → Option Value} {base : Heap} (T : Tx K mg) : F.Fr P w K mg base 1 (He.ma K (He.ga K "Moment") "__sub__") (sp_Moment___sub__ K) := (T.f_Moment___sub__).elim fun fd F1 => fr_of F1 (okF_Moment___sub__ T F1) (fun _ _ _ _ _ _ us hl => match us, hl with | [_, _], _ => rfl)
def sp_Moment___ge__ (K : PySem.W.Frag) : Sp := fun vs H Q E => match vs with
  | [.ref a, .ref b] => ∃ q p, MoAt K H a q ∧ MoAt K H b p ∧ Q (.bl (decide (p.num ≤ q.num))) H
  | _ => False
theorem sc_Moment___ge__ : FnScope ["self", "other"] ["self", "other"] (defScope s_Moment___ge__) := ⟨rfl, rfl, rfl, by decide +kernel, rfl, by decide +kernel, by decide +kernel⟩
theorem okF_Moment___ge__ {P : Program} {w : World} {K : PySem.W.Frag} {mg : Str → Option Value} {base : Heap} {fd : FuncData} (T : Tx K mg) (F1 : FunD K "__ge__" "Moment.__ge__" (defArgs s_Moment___ge__) (defBody s_Moment___ge__) (defScope s_Moment___ge__) [] [] (He.ma K (He.ga K "Moment") "__ge__") fd) : FnOk P w K mg base (L2.CX P w) 1 (He.ma K (He.ga K "Moment") "__ge__") fd ["self", "other"] (sp_Moment___ge__ K) := by
  refine F1.ok sc_Moment___ge__ (fun vs H Q E h => ?_) (fun cdv A outer s H vs Q E hr h => ?_)
  · unfold sp_Moment___ge__ at h
    split at h
    · rfl
    · exact h.elim
  · unfold sp_Moment___ge__ at h
    split at h
    rotate_left
    · exact h.elim
    · rename_i a b
      refine ⟨_, (pss_cons (s_if (pt_not (t_b (e_isC T.g_Moment T.is_Moment T.b_isinstance (e_v 1)))) (pss_one ps_never) pss_nil)
        (pss_one (ps_ret (pe_cmpR o_ge (k_fld K (e_v 0)) (k_fld K (e_v 1)) (nomark _))))), ?_⟩
      obtain ⟨q, p, ha, hb, h⟩ := h
      walk_at "n"
      refine ⟨rfl, .inl ⟨hb.ins, ?_⟩⟩
      walk_at "n"
      refine ⟨_, ha.number T, ?_⟩
      walk_at "n"
      refine ⟨_, hb.number T, ?_⟩
      walk_at "n"
      exact h
theorem ok_Moment___ge__ {P : Program} {w : World} {K : PySem.W.Frag} {mg : Str → Option Value} {base : Heap} (T : Tx K mg) : F.Fr P w K mg base 1 (He.ma K (He.ga K "Moment") "__ge__") (sp_Moment___ge__ K) := (T.f_Moment___ge__).elim fun fd F1 => fr_of F1 (okF_Moment___ge__ T F1) (fun _ _ _ _ _ _ us hl => match us, hl with | [_, _], _ => rfl)
def sp_Moment___eq__ (K : PySem.W.Frag) : Sp := fun vs H Q E => match vs with
  | [.ref a, .ref b] => ∃ q p, MoAt K H a q ∧ MoAt K H b p ∧ Q (.bl (decide (q.num = p.num))) H
  | _ => False
theorem sc_Moment___eq__ : FnScope ["self", "other"] ["self", "other"] (defScope s_Moment___eq__) := ⟨rfl, rfl, rfl, by decide +kernel, rfl, by decide +kernel, by decide +kernel⟩
theorem okF_Moment___eq__ {P : Program} {w : World} {K : PySem.W.Frag} {mg : Str → Option Value} {base : Heap} {fd : FuncData} (T : Tx K mg) (F1 : FunD K "__eq__" "Moment.__eq__" (defArgs s_Moment___eq__) (defBody s_Moment___eq__) (defScope s_Moment___eq__) [] [] (He.ma K (He.ga K "Moment") "__eq__") fd) : FnOk P w K mg base (L2.CX P w) 1 (He.ma K (He.ga K "Moment") "__eq__") fd ["self", "other"] (sp_Moment___eq__ K) := by
  refine F1.ok sc_Moment___eq__ (fun vs H Q E h => ?_) (fun cdv A outer s H vs Q E hr h => ?_)
  · unfold sp_Moment___eq__ at h
    split at h
    · rfl
    · exact h.elim
  · unfold sp_Moment___eq__ at h
    split at h
    rotate_left
    · exact h.elim
    · rename_i a b
      refine ⟨_, (pss_one (ps_ret (e_and (e_isC T.g_Moment T.is_Moment T.b_isinstance (e_v 1)) (pe_one (pe_cmpR o_eq (k_fld K (e_v 0)) (k_fld K (e_v 1)) (nomark _)))))), ?_⟩
      obtain ⟨q, p, ha, hb, h⟩ := h
      walk_at "n"
      refine ⟨rfl, .inl ⟨hb.ins, ?_⟩⟩
      walk_at "n"
      refine ⟨_, ha.number T, ?_⟩
      walk_at "n"
      refine ⟨_, hb.number T, ?_⟩
      walk_at "n"
      exact h
theorem ok_Moment___eq__ {P : Program} {w : World} {K : PySem.W.Frag} {mg : Str → Option Value} {base : Heap} (T : Tx K mg) : F.Fr P w K mg base 1 (He.ma K (He.ga K "Moment") "__eq__") (sp_Moment___eq__ K) := (T.f_Moment___eq__).elim fun fd F1 => fr_of F1 (okF_Moment___eq__ T F1) (fun _ _ _ _ _ _ us hl => match us, hl with | [_, _], _ => rfl)
theorem zpad_len {W : Nat} {i : Int} (h0 : 0 ≤ i) (h1 : i < 10 ^ 10) : (zpad W i).length ≤ W + 10 := by
  have d := PySem.W.KXf.digits_le h0 h1
  have e : (Str.ofString (toString i)).length = (Nat.toDigits 10 i.natAbs).length := by
    obtain ⟨n, rfl⟩ : ∃ n : Nat, i = n := ⟨i.toNat, by omega⟩
    rw [len_tl, tl_num]
    unfold numL
    simp
  unfold zpad
  rw [Str.length_append, e]
  have : (⟨(List.replicate (W - (Nat.toDigits 10 i.natAbs).length) 48).toArray⟩ : Str).length = W - (Nat.toDigits 10 i.natAbs).length := by
    rw [len_tl]
    show (List.replicate (W - (Nat.toDigits 10 i.natAbs).length) 48).length = _
    simp
  rw [this]
  omega
/-- a moment as a text -/
def moStr (q : Mo) : Str := Str.empty ++ zpad 4 q.y ++ "-" ++ zpad 2 q.m ++ "-" ++ zpad 2 q.d ++ " " ++ zpad 2 q.h ++ ":" ++ zpad 2 q.i
theorem lim_b {a b : Str} {n m : Nat} (h : a.length ≤ n) (h2 : b.length ≤ m) : (a ++ b).length ≤ n + m := by
  rw [Str.length_append]
  omega
def sp_Moment___str__ (K : PySem.W.Frag) : Sp := fun vs H Q E => match vs with
  | [.ref a] => ∃ q, MoAt K H a q ∧ q.ok ∧ Q (.str (moStr q)) H
  | _ => False
theorem sc_Moment___str__ : FnScope ["self"] ["self"] (defScope s_Moment___str__) := ⟨rfl, rfl, rfl, by decide +kernel, rfl, by decide +kernel, by decide +kernel⟩
theorem okF_Moment___str__ {P : Program} {w : World} {K : PySem.W.Frag} {mg : Str → Option Value} {base : Heap} {fd : FuncData} (T : Tx K mg) (F1 : FunD K "__str__" "Moment.__str__" (defArgs s_Moment___str__) (defBody s_Moment___str__) (defScope s_Moment___str__) [] [] (He.ma K (He.ga K "Moment") "__str__") fd) : FnOk P w K mg base (L2.CX P w) 1 (He.ma K (He.ga K "Moment") "__str__") fd ["self"] (sp_Moment___str__ K) := by
  refine F1.ok sc_Moment___str__ (fun vs H Q E h => ?_) (fun cdv A outer s H vs Q E hr h => ?_)
  · unfold sp_Moment___str__ at h
    split at h
    · rfl
    · exact h.elim
  · unfold sp_Moment___str__ at h
    split at h
    rotate_left
    · exact h.elim
    · rename_i a
      refine ⟨_, (pss_one (ps_ret (e_joined (PJ.cons (e_fmtZ (W := 4) (sp := "04d") T.lim (by decide +kernel) (by decide +kernel) (by decide +kernel) (by decide +kernel) (k_fld K (e_v 0)) (pe_joined1 pe_str)) (PJ.cons pe_str (PJ.cons (e_fmtZ (W := 2) (sp := "02d") T.lim (by decide +kernel) (by decide +kernel) (by decide +kernel) (by decide +kernel) (k_fld K (e_v 0)) (pe_joined1 pe_str)) (PJ.cons pe_str (PJ.cons (e_fmtZ (W := 2) (sp := "02d") T.lim (by decide +kernel) (by decide +kernel) (by decide +kernel) (by decide +kernel) (k_fld K (e_v 0)) (pe_joined1 pe_str)) (PJ.cons pe_str (PJ.cons (e_fmtZ (W := 2) (sp := "02d") T.lim (by decide +kernel) (by decide +kernel) (by decide +kernel) (by decide +kernel) (k_fld K (e_v 0)) (pe_joined1 pe_str)) (PJ.cons pe_str (PJ.cons (e_fmtZ (W := 2) (sp := "02d") T.lim (by decide +kernel) (by decide +kernel) (by decide +kernel) (by decide +kernel) (k_fld K (e_v 0)) (pe_joined1 pe_str)) PJ.nil)))))))))))), ?_⟩
      obtain ⟨q, ha, ok, h⟩ := h
      obtain ⟨y1, y2, m1, m2, d1, d2, h1, h2, i1, i2⟩ := ok
      have d3 := (monthLen_ge q.y q.m m1 m2).2
      have l0 : (Str.empty).length ≤ 0 := Nat.le_refl _
      have lm0 : ("-" : Str).length ≤ 1 := by decide
      have lm1 : (" " : Str).length ≤ 1 := by decide
      have lm2 : (":" : Str).length ≤ 1 := by decide
      have ly := zpad_len (W := 4) (i := q.y) (by omega) (by omega)
      have lmo := zpad_len (W := 2) (i := q.m) (by omega) (by omega)
      have ld := zpad_len (W := 2) (i := q.d) (by omega) (by omega)
      have lh := zpad_len (W := 2) (i := q.h) (by omega) (by omega)
      have li := zpad_len (W := 2) (i := q.i) (by omega) (by omega)
      have a0 := lim_b l0 ly
      have a1 := lim_b a0 lm0
      have a2 := lim_b a1 lmo
      have a3 := lim_b a2 lm0
      have a4 := lim_b a3 ld
      have a5 := lim_b a4 lm1
      have a6 := lim_b a5 lh
      have a7 := lim_b a6 lm2
      have a8 := lim_b a7 li
      walk_at "n"
      refine ⟨_, ha.year T, ?_⟩
      walk_at "n"
      refine ⟨⟨by omega, by omega⟩, ?_⟩
      walk_at "n"
      refine ⟨_, rfl, Nat.le_trans a0 (by decide), ?_⟩
      walk_at "n"
      refine ⟨_, rfl, Nat.le_trans a1 (by decide), ?_⟩
      walk_at "n"
      refine ⟨_, ha.month T, ?_⟩
      walk_at "n"
      refine ⟨⟨by omega, by omega⟩, ?_⟩
      walk_at "n"
      refine ⟨_, rfl, Nat.le_trans a2 (by decide), ?_⟩
      walk_at "n"
      refine ⟨_, rfl, Nat.le_trans a3 (by decide), ?_⟩
      walk_at "n"
      refine ⟨_, ha.day T, ?_⟩
      walk_at "n"
      refine ⟨⟨by omega, by omega⟩, ?_⟩
      walk_at "n"
      refine ⟨_, rfl, Nat.le_trans a4 (by decide), ?_⟩
      walk_at "n"
      refine ⟨_, rfl, Nat.le_trans a5 (by decide), ?_⟩
      walk_at "n"
      refine ⟨_, ha.hour T, ?_⟩
      walk_at "n"
      refine ⟨⟨by omega, by omega⟩, ?_⟩
      walk_at "n"
      refine ⟨_, rfl, Nat.le_trans a6 (by decide), ?_⟩
      walk_at "n"
      refine ⟨_, rfl, Nat.le_trans a7 (by decide), ?_⟩
      walk_at "n"
      refine ⟨_, ha.minute T, ?_⟩
      walk_at "n"
      refine ⟨⟨by omega, by omega⟩, ?_⟩
      walk_at "n"
      refine ⟨_, rfl, Nat.le_trans a8 (by decide), ?_⟩
      walk_at "n"
      exact h
theorem ok_Moment___str__ {P : Program} {w : World} {K : PySem.W.Frag} {mg : Str → Option Value} {base : Heap} (T : Tx K mg) : F.Fr P w K mg base 1 (He.ma K (He.ga K "Moment") "__str__") (sp_Moment___str__ K) := (T.f_Moment___str__).elim fun fd F1 => fr_of F1 (okF_Moment___str__ T F1) (fun _ _ _ _ _ _ us hl => match us, hl with | [_], _ => rfl)
end G
set_option maxHeartbeats 400000
namespace G
open PySem PySem.Spec PyProof.Rows L2 F
local macro_rules | `(tactic| walk_at "side") => `(tactic| first | rfl | decide | omega | assumption | (unfold CMul; omega) | (unfold CPow; omega) | (unfold CDiv; omega))
local macro_rules | `(tactic| walk_at "hp") => `(tactic| first | assumption | exact upd_same | (refine upd_keep (by assumption) ?_; walk_at "hp") | (refine sm (by assumption) ?_; walk_at "hp"))
local macro_rules | `(tactic| walk_at "n") => `(tactic| ((try conv => whnf); repeat ((first | with_reducible refine cond_t rfl ?_ | with_reducible refine cond_f rfl ?_ | with_reducible refine cond_n ?_); (try conv => whnf))))
local macro_rules | `(tactic| walk_at "go") => `(tactic| (walk_at "n"; repeat (refine And.intro ?side ?_; (case side => walk_at "side"); walk_at "n")))

open M
abbrev CB (K : PySem.W.Frag) : Addr := He.ga K "Book"
/-- a watch may stand from q to p -/
structure SpanOk (q p : Mo) : Prop where
  o1 : q.ok
  o2 : p.ok
  lt : q.num < p.num
  le : p.num - q.num ≤ 1152000
def code (z : Mo × Mo) : Int := z.1.num * 1152001 + z.2.num - z.1.num
theorem code_inj {q p q' p' : Mo} (h : SpanOk q p) (h' : SpanOk q' p') (e : code (q, p) = code (q', p')) : (q, p) = (q', p') := by
  obtain ⟨o1, o2, l1, l2⟩ := h
  obtain ⟨o3, o4, l3, l4⟩ := h'
  have e : q.num * 1152001 + p.num - q.num = q'.num * 1152001 + p'.num - q'.num := e
  have e1 : q.num = q'.num := by omega
  have e2 : p.num = p'.num := by omega
  rw [Mo.num_inj o1 o3 e1, Mo.num_inj o2 o4 e2]
def sp_need_watch (K : PySem.W.Frag) : Sp := fun vs H Q E => match vs with
  | [.ref b, .ref e] => ∃ q p, MoAt K H b q ∧ MoAt K H e p ∧ SpanOk q p ∧ ∀ H', Same H H' → Q .non H'
  | _ => False
theorem sc_need_watch : FnScope ["begin", "end", "part", "value"] ["begin", "end"] (defScope s_need_watch) := ⟨rfl, rfl, rfl, by decide +kernel, rfl, by decide +kernel, by decide +kernel⟩
theorem okF_need_watch {P : Program} {w : World} {K : PySem.W.Frag} {mg : Str → Option Value} {base : Heap} {fd : FuncData} (T : Tx K mg) (F1 : FunD K "need_watch" "need_watch" (defArgs s_need_watch) (defBody s_need_watch) (defScope s_need_watch) [] [] (He.ga K "need_watch") fd) : FnOk P w K mg base (L2.CX P w) 3 (He.ga K "need_watch") fd ["begin", "end"] (sp_need_watch K) := by
  refine F1.ok sc_need_watch (fun vs H Q E h => ?_) (fun cdv A outer s H vs Q E hr h => ?_)
  · unfold sp_need_watch at h
    split at h
    · rfl
    · exact h.elim
  · unfold sp_need_watch at h
    split at h
    rotate_left
    · exact h.elim
    · rename_i b e
      refine ⟨_, (pss_cons (ps_for (passes_of rfl) rfl (pi_tup (pe_tup (pa_cons (pe_tup (pa_cons pe_str (pa_cons (e_v 0) pa_nil))) (pa_cons (pe_tup (pa_cons pe_str (pa_cons (e_v 1) pa_nil))) pa_nil)))) (kg_tup K (n := 2) rfl (fgs_cons (pg_name (i := 2) sc_need_watch.nd rfl (Or.inl rfl)) (fgs_cons (pg_name (i := 3) sc_need_watch.nd rfl (Or.inl rfl)) fgs_nil)))
          (pss_one (s_if (pt_not (t_b (e_isC T.g_Moment T.is_Moment T.b_isinstance (e_v 3)))) (pss_one ps_never) pss_nil)))
        (pss_cons (s_if (t_cmp (o_ownCmp (fun _ _ => rfl) T.o_Moment___ge__ (ok_Moment___ge__ T) hr) (e_v 0) (e_v 1) (nomark _)) (pss_one ps_never) pss_nil)
        (pss_one (s_if (t_cmp o_gt (pe_op (o_ownBin T.sf_Moment T.o_Moment___sub__ (ok_Moment___sub__ T) hr) (e_v 1) (e_v 0)) (e_cval rfl T.g_Book T.r_Book T.cv_Book_LONGEST) (nomark _)) (pss_one ps_never) pss_nil)))), ?_⟩
      obtain ⟨q, p, hb, he, so, h⟩ := h
      walk_at "n"
      refine ⟨line_of (by simp), fun t1 h1 => ?_⟩
      walk_at "n"
      refine ⟨line_of (by simp), fun t2 h2 => ?_⟩
      walk_at "n"
      refine ⟨line_of (by simp), fun t3 h3 => ?_⟩
      walk_at "n"
      refine ⟨_, rfl, ⟨_, .inl (.inl upd_same)⟩, for_it (walk_tup (xs := [.ref t1, .ref t2])) (fun i σ H' => (Same H H' ∧ H' t1 = some (.tup [.str "begin", .ref b]) ∧ H' t2 = some (.tup [.str "end", .ref e]) ∧ H' t3 = some (.tup [.ref t1, .ref t2])) ∧ ∃ p v, σ = [some (.ref b), some (.ref e), p, v]) ⟨⟨?_, ?_, ?_, upd_same⟩, _, _, rfl⟩ (fun _ _ _ _ z => .inl (.inl z.1.2.2.2)) ?_ ?_⟩
      · exact sto (sto (snew h1) h2) h3
      · exact upd_keep h3 (upd_keep h2 upd_same)
      · exact upd_keep h3 upd_same
      · rintro i x σ H1 H2 hi ⟨⟨s1, e1, e2, e3⟩, pv, vv, rfl⟩ ⟨rfl, hx⟩
        rcases i with _ | _ | i
        · cases hx
          walk_at "n"
          refine ⟨_, .inl (.inl e1), rfl, ?_⟩
          walk_at "n"
          refine ⟨rfl, .inl ⟨(hb.same s1).ins, ?_⟩⟩
          walk_at "n"
          exact ⟨⟨s1, e1, e2, e3⟩, _, _, rfl⟩
        · cases hx
          walk_at "n"
          refine ⟨_, .inl (.inl e2), rfl, ?_⟩
          walk_at "n"
          refine ⟨rfl, .inl ⟨(he.same s1).ins, ?_⟩⟩
          walk_at "n"
          exact ⟨⟨s1, e1, e2, e3⟩, _, _, rfl⟩
        · have : i + 1 + 1 < 2 := hi
          omega
      · rintro σ H1 ⟨⟨s1, e1, e2, e3⟩, pv, vv, rfl⟩
        walk_at "n"
        refine ⟨(hb.same s1).ins, (he.same s1).ins, q, p, hb.same s1, he.same s1, ?_⟩
        walk_at "n"
        refine cond_nq (by have := so.lt; omega) ?_
        walk_at "n"
        refine ⟨(he.same s1).ins, (hb.same s1).ins, p, q, he.same s1, hb.same s1, ?_⟩
        walk_at "n"
        refine cond_nq (by have := so.le; omega) ?_
        walk_at "n"
        exact h _ s1
theorem ok_need_watch {P : Program} {w : World} {K : PySem.W.Frag} {mg : Str → Option Value} {base : Heap} (T : Tx K mg) : F.Fr P w K mg base 3 (He.ga K "need_watch") (sp_need_watch K) := (T.f_need_watch).elim fun fd F1 => fr_of F1 (okF_need_watch T F1) (fun _ _ _ _ _ _ us hl => match us, hl with | [_, _], _ => rfl)
def sp_span_code (K : PySem.W.Frag) : Sp := fun vs H Q E => match vs with
  | [.ref b, .ref e] => ∃ q p, MoAt K H b q ∧ MoAt K H e p ∧ Q (.int (code (q, p))) H
  | _ => False
theorem sc_span_code : FnScope ["begin", "end"] ["begin", "end"] (defScope s_span_code) := ⟨rfl, rfl, rfl, by decide +kernel, rfl, by decide +kernel, by decide +kernel⟩
theorem okF_span_code {P : Program} {w : World} {K : PySem.W.Frag} {mg : Str → Option Value} {base : Heap} {fd : FuncData} (T : Tx K mg) (F1 : FunD K "span_code" "span_code" (defArgs s_span_code) (defBody s_span_code) (defScope s_span_code) [] [] (He.ga K "span_code") fd) : FnOk P w K mg base (L2.CX P w) 1 (He.ga K "span_code") fd ["begin", "end"] (sp_span_code K) := by
  refine F1.ok sc_span_code (fun vs H Q E h => ?_) (fun cdv A outer s H vs Q E hr h => ?_)
  · unfold sp_span_code at h
    split at h
    · rfl
    · exact h.elim
  · unfold sp_span_code at h
    split at h
    rotate_left
    · exact h.elim
    · rename_i b e
      refine ⟨_, (pss_one (ps_ret (pe_op o_sub (pe_op (k_add K) (pe_op o_mul (k_fld K (e_v 0)) (pe_op (k_add K) (e_cval rfl T.g_Book T.r_Book T.cv_Book_LONGEST) pe_int)) (k_fld K (e_v 1))) (k_fld K (e_v 0))))), ?_⟩
      obtain ⟨q, p, hb, he, h⟩ := h
      walk_at "n"
      refine ⟨_, hb.number T, ?_⟩
      walk_at "n"
      refine ⟨by unfold CMul; omega, ?_⟩
      walk_at "n"
      refine ⟨_, he.number T, ?_⟩
      walk_at "n"
      refine ⟨_, hb.number T, ?_⟩
      walk_at "n"
      exact h
theorem ok_span_code {P : Program} {w : World} {K : PySem.W.Frag} {mg : Str → Option Value} {base : Heap} (T : Tx K mg) : F.Fr P w K mg base 1 (He.ga K "span_code") (sp_span_code K) := (T.f_span_code).elim fun fd F1 => fr_of F1 (okF_span_code T F1) (fun _ _ _ _ _ _ us hl => match us, hl with | [_, _], _ => rfl)
/-- the rings' dict -/
structure RungAt (K : PySem.W.Frag) (H : Hp) (r : Addr) (rs : List (Addr × Mo)) : Prop where
  tab : Tab Mo.num H r rs
  mo : ∀ t, t ∈ rs → MoAt K H t.1 t.2 ∧ t.2.ok
theorem RungAt.same {K : PySem.W.Frag} {H H' : Hp} {r : Addr} {rs : List (Addr × Mo)} (h : RungAt K H r rs) (s : Same H H') : RungAt K H' r rs := ⟨h.tab.same s, fun t ht => ⟨(h.mo t ht).1.same s, (h.mo t ht).2⟩⟩
theorem RungAt.inj {K : PySem.W.Frag} {H : Hp} {r : Addr} {rs : List (Addr × Mo)} {q : Mo} (h : RungAt K H r rs) (ok : q.ok) (u : Addr × Mo) (hu : u ∈ rs) (e : u.2.num = q.num) : u.2 = q := Mo.num_inj (h.mo u hu).2 ok e
def sp_with_ring (K : PySem.W.Frag) : Sp := fun vs H Q E => match vs with
  | [.ref r, .ref a] => ∃ rs q, RungAt K H r rs ∧ MoAt K H a q ∧ q.ok ∧ rs.length < 2000 ∧ ∀ r' H' rs', Same H H' → H r' = none → RungAt K H' r' rs' → (∀ x, x ∈ conT id rs' ↔ x ∈ conT id rs ∨ x = q) → rs'.length ≤ rs.length + 1 → Q (.ref r') H'
  | _ => False
theorem sc_with_ring : FnScope ["rung", "moment"] ["rung", "moment"] (defScope s_with_ring) := ⟨rfl, rfl, rfl, by decide +kernel, rfl, by decide +kernel, by decide +kernel⟩
theorem okF_with_ring {P : Program} {w : World} {K : PySem.W.Frag} {mg : Str → Option Value} {base : Heap} {fd : FuncData} (T : Tx K mg) (F1 : FunD K "with_ring" "with_ring" (defArgs s_with_ring) (defBody s_with_ring) (defScope s_with_ring) [] [] (He.ga K "with_ring") fd) : FnOk P w K mg base (L2.CX P w) 1 (He.ga K "with_ring") fd ["rung", "moment"] (sp_with_ring K) := by
  refine F1.ok sc_with_ring (fun vs H Q E h => ?_) (fun cdv A outer s H vs Q E hr h => ?_)
  · unfold sp_with_ring at h
    split at h
    · rfl
    · exact h.elim
  · unfold sp_with_ring at h
    split at h
    rotate_left
    · exact h.elim
    · rename_i r a
      refine ⟨_, (pss_cons (s_if (pt_not (t_b (e_isC T.g_Moment T.is_Moment T.b_isinstance (e_v 1)))) (pss_one ps_never) pss_nil)
        (pss_cons (s_if (PW.pt (w_and (t_cmp (o_notInK (hu_of hr)) (k_fld K (e_v 1)) (e_v 0) (by rfl)) (w_and1 (t_cmp o_ge (kk_len K T.b_len (e_v 0)) (e_cval rfl T.g_Book T.r_Book T.cv_Book_MOST_RINGS) (nomark _))))) (pss_one ps_never) pss_nil)
        (pss_one (ps_ret (e_star1 (e_v 0) (k_fld K (e_v 1)) (e_v 1)))))), ?_⟩
      obtain ⟨rs, q, hr0, ha, ok, hl, h⟩ := h
      walk_at "n"
      refine ⟨rfl, .inl ⟨ha.ins, ?_⟩⟩
      walk_at "n"
      refine ⟨_, ha.number T, ?_⟩
      walk_at "n"
      obtain ⟨o, ho, hi⟩ := hr0.tab.has q.num
      refine ⟨o, ho, ?_⟩
      walk_at "n"
      refine cond_b (fun hs => ?a1) (fun hs => ?a2)
      case' a2 =>
        walk_at "n"
        refine .inr ⟨_, hr0.tab.at_, ?_⟩
        walk_at "n"
        refine cond_nq (by rw [kvT_len]; omega) ?_
      all_goals
        walk_at "n"
        intro p hp
        walk_at "n"
        have e1 : upd H p (.dK []) r = some (.dK (kvT Mo.num rs)) := upd_keep hp hr0.tab.at_
        have np : r ≠ p := fun e => by rw [e, upd_same] at e1; have := hr0.tab.at_; rw [e, hp] at this; cases this
        refine ⟨_, e1, upd_same, np, fun q1 hq => ?_⟩
        rw [merge_nil hr0.tab.nd]
        have nq : q1 ≠ p := fun e => by rw [e, upd_same] at hq; cases hq
        have hq0 : H q1 = none := by rw [upd_ne nq] at hq; exact hq
        have s1 : SB p H (upd (upd (upd H p (.dK [])) p (.dK (kvT Mo.num rs))) q1 (.dK [])) := (sb_upd.upd).new (by rw [upd_ne nq]; exact hq)
        have ha1 : MoAt K (upd (upd (upd H p (.dK [])) p (.dK (kvT Mo.num rs))) q1 (.dK [])) a q := ha.same (s1.fresh hp)
        walk_at "n"
        refine ⟨_, ha1.number T, ?_⟩
        walk_at "n"
        refine ⟨.inl q.num, rfl, upd_same, ?_, line_lt (by rw [kvT_len]; omega), ?_⟩
        · rw [upd_ne (Ne.symm nq), upd_same]
        rw [show putK (kvT Mo.num rs) (Sum.inl q.num) (.ref a) = kvT Mo.num (putT Mo.num rs (a, q)) from kvT_put (t := (a, q))]
        have sf : Same H (upd (upd (upd (upd (upd H p (.dK [])) p (.dK (kvT Mo.num rs))) q1 (.dK [])) q1 (.dK [(.inl q.num, .ref a)])) p (.dK (kvT Mo.num (putT Mo.num rs (a, q))))) := sput (sput (s1.fresh hp) hq0) hp
        refine h p _ _ sf hp ⟨⟨upd_same, put_nd hr0.tab.nd⟩, fun t ht => ?_⟩ (con_put (t := (a, q)) fun u hu e => hr0.inj ok u hu e) put_len
        rcases mem_put ht with rfl | ht
        · exact ⟨ha.same sf, ok⟩
        · exact ⟨(hr0.mo t ht).1.same sf, (hr0.mo t ht).2⟩
theorem ok_with_ring {P : Program} {w : World} {K : PySem.W.Frag} {mg : Str → Option Value} {base : Heap} (T : Tx K mg) : F.Fr P w K mg base 1 (He.ga K "with_ring") (sp_with_ring K) := (T.f_with_ring).elim fun fd F1 => fr_of F1 (okF_with_ring T F1) (fun _ _ _ _ _ _ us hl => match us, hl with | [_, _], _ => rfl)
def sp_rings_in (K : PySem.W.Frag) : Sp := fun vs H Q E => match vs with
  | [.ref l] => ∃ ps : List (Addr × Mo), (SqL K H l (ps.map fun t => .ref t.1) ∨ SqT K H l (ps.map fun t => .ref t.1)) ∧ (∀ t, t ∈ ps → MoAt K H t.1 t.2 ∧ t.2.ok) ∧ ps.length ≤ 2000 ∧ ∀ r H' rs, Same H H' → H r = none → RungAt K H' r rs → (∀ x, x ∈ conT id rs ↔ x ∈ conT id ps) → rs.length ≤ ps.length → Q (.ref r) H'
  | _ => False
theorem sc_rings_in : FnScope ["rings", "found", "moment"] ["rings"] (defScope s_rings_in) := ⟨rfl, rfl, rfl, by decide +kernel, rfl, by decide +kernel, by decide +kernel⟩
theorem okF_rings_in {P : Program} {w : World} {K : PySem.W.Frag} {mg : Str → Option Value} {base : Heap} {fd : FuncData} (T : Tx K mg) (F1 : FunD K "rings_in" "rings_in" (defArgs s_rings_in) (defBody s_rings_in) (defScope s_rings_in) [] [] (He.ga K "rings_in") fd) : FnOk P w K mg base (L2.CX P w) 1 (He.ga K "rings_in") fd ["rings"] (sp_rings_in K) := by
  refine F1.ok sc_rings_in (fun vs H Q E h => ?_) (fun cdv A outer s H vs Q E hr h => ?_)
  · unfold sp_rings_in at h
    split at h
    · rfl
    · exact h.elim
  · unfold sp_rings_in at h
    split at h
    rotate_left
    · exact h.elim
    · rename_i l
      refine ⟨_, (pss_cons (ps_set (i := 1) sc_rings_in.nd rfl (Or.inl rfl) pe_dnewK)
        (pss_cons (ps_for (passes_of rfl) rfl (pi_seq (e_v 0)) (pg_name (i := 2) sc_rings_in.nd rfl (Or.inl rfl))
          (pss_cons (s_if (pt_not (t_b (e_isC T.g_Moment T.is_Moment T.b_isinstance (e_v 2)))) (pss_one ps_never) pss_nil)
        (pss_cons (s_if (PW.pt (w_and (t_cmp (o_notInK (hu_of hr)) (k_fld K (e_v 2)) (e_v 1) (by rfl)) (w_and1 (t_cmp o_ge (kk_len K T.b_len (e_v 1)) (e_cval rfl T.g_Book T.r_Book T.cv_Book_MOST_RINGS) (nomark _))))) (pss_one ps_never) pss_nil)
        (pss_one (ps_dput (hu_of hr) (e_v 1) (k_fld K (e_v 2)) (e_v 2) rfl)))))
        (pss_one (ps_ret (e_v 1))))), ?_⟩
      obtain ⟨ps, hl, hm, hn, h⟩ := h
      walk_at "n"
      intro r hr1
      walk_at "n"
      refine ⟨_, hl.imp (sl (snew hr1)) (st (snew hr1)), fun J G wk hG => for_it wk (fun i σ H' => (∃ rs, Same H H' ∧ RungAt K H' r rs ∧ (∀ x, x ∈ conT id rs ↔ x ∈ conT id (ps.take i)) ∧ rs.length ≤ i) ∧ ∃ v, σ = [some (.ref l), some (.ref r), v]) ⟨⟨[], snew hr1, ⟨tab_nil upd_same, fun t ht => by simp at ht⟩, fun x => by simp [conT], Nat.le_refl _⟩, _, rfl⟩ (fun i σ H' _ z => ?_) ?_ ?_⟩
      · obtain ⟨⟨_, s1, _⟩, _⟩ := z
        refine hG _ fun o ho hd => ?_
        by_cases e : l = r
        · subst e
          rw [upd_same] at ho
          exact absurd (Option.some.inj ho).symm (hd _)
        · rw [upd_ne e] at ho
          exact s1 _ _ ho
      · rintro i x σ H1 H2 hi ⟨⟨rs, s1, ra, hc, hl2⟩, v, rfl⟩ ⟨rfl, hx⟩
        rw [List.length_map] at hi
        have gi : ps[i]? = some ps[i] := List.getElem?_eq_getElem hi
        rw [List.getElem?_map, gi] at hx
        obtain rfl : x = .ref ps[i].1 := (Option.some.inj hx).symm
        have hm0 := hm _ (List.getElem_mem hi)
        generalize ps[i] = t at *
        have hm1 := hm0.1.same s1
        refine ⟨rfl, .inl ⟨hm1.ins, ?_⟩⟩
        walk_at "n"
        refine ⟨_, hm1.number T, ?_⟩
        walk_at "n"
        obtain ⟨o, ho, hi2⟩ := ra.tab.has t.2.num
        refine ⟨o, ho, ?_⟩
        walk_at "n"
        refine cond_b (fun hs => ?a1) (fun hs => ?a2)
        case' a2 =>
          walk_at "n"
          refine .inr ⟨_, ra.tab.at_, ?_⟩
          walk_at "n"
          refine cond_nq (by rw [kvT_len]; omega) ?_
        all_goals
          walk_at "n"
          refine ⟨_, hm1.number T, ?_⟩
          walk_at "n"
          obtain ⟨p1, p2⟩ := ra.tab.put (t := t) (line_lt (by omega))
          refine ⟨_, _, rfl, p1, ?_⟩
          walk_at "n"
          have s2 : Same H (upd H2 r (.dK (kvT Mo.num (putT Mo.num rs t)))) := sput s1 hr1
          refine ⟨⟨putT Mo.num rs t, s2, ⟨p2, fun u hu => ?_⟩, fun y => ?_, Nat.le_trans put_len (by omega)⟩, _, rfl⟩
          · rcases mem_put hu with rfl | hu
            · exact ⟨hm0.1.same s2, hm0.2⟩
            · exact ⟨(ra.mo u hu).1.put ra.tab.at_, (ra.mo u hu).2⟩
          · rw [con_put (fun u hu e => ra.inj hm0.2 u hu e), hc]
            exact (con_take (c := id) gi y).symm
      · rintro σ H1 ⟨⟨rs, s1, ra, hc, hl2⟩, v, rfl⟩
        walk_at "n"
        rw [List.length_map] at hl2 hc
        rw [List.take_length] at hc
        exact h r H1 rs s1 hr1 ra hc hl2
theorem ok_rings_in {P : Program} {w : World} {K : PySem.W.Frag} {mg : Str → Option Value} {base : Heap} (T : Tx K mg) : F.Fr P w K mg base 1 (He.ga K "rings_in") (sp_rings_in K) := (T.f_rings_in).elim fun fd F1 => fr_of F1 (okF_rings_in T F1) (fun _ _ _ _ _ _ us hl => match us, hl with | [_], _ => rfl)
end G
set_option maxHeartbeats 400000
namespace G
open PySem PySem.Spec PyProof.Rows L2 F
local macro_rules | `(tactic| walk_at "side") => `(tactic| first | rfl | decide | omega | assumption | (unfold CMul; omega) | (unfold CPow; omega) | (unfold CDiv; omega))
local macro_rules | `(tactic| walk_at "hp") => `(tactic| first | assumption | exact upd_same | (refine upd_keep (by assumption) ?_; walk_at "hp") | (refine sm (by assumption) ?_; walk_at "hp"))
local macro_rules | `(tactic| walk_at "n") => `(tactic| ((try conv => whnf); repeat ((first | with_reducible refine cond_t rfl ?_ | with_reducible refine cond_f rfl ?_ | with_reducible refine cond_n ?_); (try conv => whnf))))
local macro_rules | `(tactic| walk_at "go") => `(tactic| (walk_at "n"; repeat (refine And.intro ?side ?_; (case side => walk_at "side"); walk_at "n")))

open M
abbrev WT := (Addr × Mo) × (Addr × Mo)
def wc (z : WT) : Mo × Mo := (z.1.2, z.2.2)
def wk (z : WT) : Int := code (wc z)
structure WAt (K : PySem.W.Frag) (H : Hp) (t : Addr × WT) : Prop where
  tup : SqT K H t.1 [.ref t.2.1.1, .ref t.2.2.1]
  m1 : MoAt K H t.2.1.1 t.2.1.2
  m2 : MoAt K H t.2.2.1 t.2.2.2
  ok : SpanOk t.2.1.2 t.2.2.2
structure SpansAt (K : PySem.W.Frag) (H : Hp) (s : Addr) (ws : List (Addr × WT)) : Prop where
  tab : Tab wk H s ws
  at_ : ∀ t, t ∈ ws → WAt K H t
section
variable {K : PySem.W.Frag} {H H' : Hp} {a b r s : Addr} {q : Mo} {kvs : List (Key × V)} {o : HO} {C dx : Addr} {fs : List (Str × V)} {xs : List V} {t : Addr × WT} {ws : List (Addr × WT)} {rs : List (Addr × Mo)}
theorem WAt.same (h : WAt K H t) (s : Same H H') : WAt K H' t := ⟨st s h.tup, h.m1.same s, h.m2.same s, h.ok⟩
theorem SpansAt.same (h : SpansAt K H b ws) (s : Same H H') : SpansAt K H' b ws := ⟨h.tab.same s, fun t ht => (h.at_ t ht).same s⟩
theorem st_put (h : SqT K H a xs) (hr : H r = some (.dK kvs)) : SqT K (upd H r o) a xs := by
  have n : ∀ o', H a = some o' → (∀ k, o' ≠ .dK k) → upd H r o a = some o' := fun o' h1 h2 => by
    rw [upd_ne fun z => by rw [z, hr] at h1; exact h2 _ (Option.some.inj h1).symm]
    exact h1
  exact h.elim (fun z => z.elim (fun z => .inl (.inl (n _ z fun _ e => by cases e))) fun ⟨o, z⟩ => .inl (.inr ⟨o, n _ z fun _ e => by cases e⟩)) .inr
theorem WAt.put (h : WAt K H t) (hr : H r = some (.dK kvs)) : WAt K (upd H r o) t := ⟨st_put h.tup hr, h.m1.put hr, h.m2.put hr, h.ok⟩
theorem sl_sb (h : SqL K H a xs) (hb : H b = some (.ins C dx fs)) (s : SB b H H') : SqL K H' a xs :=
  h.elim (fun z => z.elim (fun z => .inl (.inl (s.at z hb fun e => by cases e))) fun ⟨o, z⟩ => .inl (.inr ⟨o, s.at z hb fun e => by cases e⟩)) .inr
theorem st_sb (h : SqT K H a xs) (hb : H b = some (.ins C dx fs)) (s : SB b H H') : SqT K H' a xs :=
  h.elim (fun z => z.elim (fun z => .inl (.inl (s.at z hb fun e => by cases e))) fun ⟨o, z⟩ => .inl (.inr ⟨o, s.at z hb fun e => by cases e⟩)) .inr
theorem MoAt.sb (h : MoAt K H a q) (hb : H b = some (.ins C dx fs)) (hn : fs.lookup ("number" : Str) = none) (s : SB b H H') : MoAt K H' a q := by
  obtain ⟨dy, e⟩ := h
  refine ⟨dy, s.at2 e fun z => ?_⟩
  rw [z, hb] at e
  have e2 : fs = moF q := by
    have := Option.some.inj e
    injection this
  rw [e2, mo_number] at hn
  cases hn
theorem WAt.sb (h : WAt K H t) (hb : H b = some (.ins C dx fs)) (hn : fs.lookup ("number" : Str) = none) (s : SB b H H') : WAt K H' t := ⟨st_sb h.tup hb s, h.m1.sb hb hn s, h.m2.sb hb hn s, h.ok⟩
theorem ne_ins (h : H r = some (.dK kvs)) (hb : H b = some (.ins C dx fs)) : r ≠ b := fun z => by rw [z, hb] at h; cases h
theorem RungAt.sb (h : RungAt K H r rs) (hb : H b = some (.ins C dx fs)) (hn : fs.lookup ("number" : Str) = none) (s : SB b H H') : RungAt K H' r rs := ⟨h.tab.sb s (ne_ins h.tab.at_ hb), fun t ht => ⟨(h.mo t ht).1.sb hb hn s, (h.mo t ht).2⟩⟩
theorem SpansAt.sb (h : SpansAt K H r ws) (hb : H b = some (.ins C dx fs)) (hn : fs.lookup ("number" : Str) = none) (s : SB b H H') : SpansAt K H' r ws := ⟨h.tab.sb s (ne_ins h.tab.at_ hb), fun t ht => (h.at_ t ht).sb hb hn s⟩
theorem SpansAt.inj (h : SpansAt K H r ws) (ok : WAt K H' t) (u : Addr × WT) (hu : u ∈ ws) (e : wk u.2 = wk t.2) : wc u.2 = wc t.2 := code_inj (h.at_ u hu).ok ok.ok e
end
def sp_spans_in (K : PySem.W.Frag) : Sp := fun vs H Q E => match vs with
  | [.ref l] => ∃ ps : List (Addr × WT), (SqL K H l (ps.map fun t => .ref t.1) ∨ SqT K H l (ps.map fun t => .ref t.1)) ∧ (∀ t, t ∈ ps → WAt K H t) ∧ ps.length ≤ 12 ∧ ∀ r H' ws, Same H H' → H r = none → SpansAt K H' r ws → (∀ x, x ∈ conT wc ws ↔ x ∈ conT wc ps) → ws.length ≤ ps.length → Q (.ref r) H'
  | _ => False
theorem sc_spans_in : FnScope ["watches", "found", "begin", "end", "code"] ["watches"] (defScope s_spans_in) := ⟨rfl, rfl, rfl, by decide +kernel, rfl, by decide +kernel, by decide +kernel⟩
theorem okF_spans_in {P : Program} {w : World} {K : PySem.W.Frag} {mg : Str → Option Value} {base : Heap} {fd : FuncData} (T : Tx K mg) (F1 : FunD K "spans_in" "spans_in" (defArgs s_spans_in) (defBody s_spans_in) (defScope s_spans_in) [] [] (He.ga K "spans_in") fd) : FnOk P w K mg base (L2.CX P w) 4 (He.ga K "spans_in") fd ["watches"] (sp_spans_in K) := by
  have c_need_watch : Fc P w K mg base 3 "need_watch" (sp_need_watch K) := ⟨_, ok_need_watch T, T.g_need_watch, (T.f_need_watch).elim fun _ z => z.kp⟩
  have c_span_code : Fc P w K mg base 1 "span_code" (sp_span_code K) := ⟨_, ok_span_code T, T.g_span_code, (T.f_span_code).elim fun _ z => z.kp⟩
  refine F1.ok sc_spans_in (fun vs H Q E h => ?_) (fun cdv A outer s H vs Q E hr h => ?_)
  · unfold sp_spans_in at h
    split at h
    · rfl
    · exact h.elim
  · unfold sp_spans_in at h
    split at h
    rotate_left
    · exact h.elim
    · rename_i l
      refine ⟨_, (pss_cons (ps_set (i := 1) sc_spans_in.nd rfl (Or.inl rfl) pe_dnewK)
        (pss_cons (ps_for (passes_of rfl) rfl (pi_seq (e_v 0)) (kg_tup K (n := 2) rfl (fgs_cons (pg_name (i := 2) sc_spans_in.nd rfl (Or.inl rfl)) (fgs_cons (pg_name (i := 3) sc_spans_in.nd rfl (Or.inl rfl)) fgs_nil)))
          (pss_cons (ps_expr (e_c c_need_watch hr (pa_cons (e_v 2) (pa_cons (e_v 3) pa_nil))))
        (pss_cons (ps_set (i := 4) sc_spans_in.nd rfl (Or.inl rfl) (e_c c_span_code hr (pa_cons (e_v 2) (pa_cons (e_v 3) pa_nil))))
        (pss_cons (s_if (PW.pt (w_and (t_cmp (o_notInK (hu_of hr)) (e_v 4) (e_v 1) (by rfl)) (w_and1 (t_cmp o_ge (kk_len K T.b_len (e_v 1)) (e_cval rfl T.g_Book T.r_Book T.cv_Book_MOST_WATCHES) (nomark _))))) (pss_one ps_never) pss_nil)
        (pss_one (ps_dput (hu_of hr) (e_v 1) (e_v 4) (pe_tup (pa_cons (e_v 2) (pa_cons (e_v 3) pa_nil))) rfl))))))
        (pss_one (ps_ret (e_v 1))))), ?_⟩
      obtain ⟨ps, hl, hm, hn, h⟩ := h
      walk_at "n"
      intro r hr1
      walk_at "n"
      refine ⟨_, hl.imp (sl (snew hr1)) (st (snew hr1)), fun J G wlk hG => for_it wlk (fun i σ H' => (∃ ws, Same H H' ∧ SpansAt K H' r ws ∧ (∀ x, x ∈ conT wc ws ↔ x ∈ conT wc (ps.take i)) ∧ ws.length ≤ i) ∧ ∃ v1 v2 v3, σ = [some (.ref l), some (.ref r), v1, v2, v3]) ⟨⟨[], snew hr1, ⟨tab_nil upd_same, fun t ht => by simp at ht⟩, fun x => by simp [conT], Nat.le_refl _⟩, _, _, _, rfl⟩ (fun i σ H' _ z => ?_) ?_ ?_⟩
      · obtain ⟨⟨_, s1, _⟩, _⟩ := z
        refine hG _ fun o ho hd => ?_
        by_cases e : l = r
        · subst e
          rw [upd_same] at ho
          exact absurd (Option.some.inj ho).symm (hd _)
        · rw [upd_ne e] at ho
          exact s1 _ _ ho
      · rintro i x σ H1 H2 hi ⟨⟨ws, s1, ra, hc, hl2⟩, v1, v2, v3, rfl⟩ ⟨rfl, hx⟩
        rw [List.length_map] at hi
        have gi : ps[i]? = some ps[i] := List.getElem?_eq_getElem hi
        rw [List.getElem?_map, gi] at hx
        obtain rfl : x = .ref ps[i].1 := (Option.some.inj hx).symm
        have hm0 := hm _ (List.getElem_mem hi)
        generalize ps[i] = t at *
        have hm1 := hm0.same s1
        walk_at "n"
        refine ⟨_, hm1.tup, rfl, ?_⟩
        walk_at "n"
        refine ⟨_, _, hm1.m1, hm1.m2, hm1.ok, fun H3 s3 => ?_⟩
        have hm2 := hm1.same s3
        walk_at "n"
        refine ⟨_, _, hm2.m1, hm2.m2, ?_⟩
        walk_at "n"
        have ra2 := ra.same s3
        obtain ⟨o, ho, hi2⟩ := ra2.tab.has (wk t.2)
        refine ⟨o, ho, ?_⟩
        walk_at "n"
        refine cond_b (fun hs => ?a1) (fun hs => ?a2)
        case' a2 =>
          walk_at "n"
          refine .inr ⟨_, ra2.tab.at_, ?_⟩
          walk_at "n"
          refine cond_nq (by rw [kvT_len]; omega) ?_
        all_goals
          walk_at "n"
          refine ⟨line_of (by simp), fun p hp => ?_⟩
          walk_at "n"
          have ra3 := ra2.same (snew (o := .tup [.ref t.2.1.1, .ref t.2.2.1]) hp)
          obtain ⟨p1, p2⟩ := ra3.tab.put (t := (p, t.2)) (line_lt (by omega))
          refine ⟨_, _, rfl, p1, ?_⟩
          walk_at "n"
          have s2 : Same H (upd (upd H3 p (.tup [.ref t.2.1.1, .ref t.2.2.1])) r (.dK (kvT wk (putT wk ws (p, t.2))))) := sput (sto (s1.trans s3) hp) hr1
          have hm3 := (hm2.same (snew (o := .tup [.ref t.2.1.1, .ref t.2.2.1]) hp)).put (o := .dK (kvT wk (putT wk ws (p, t.2)))) ra3.tab.at_
          refine ⟨⟨putT wk ws (p, t.2), s2, ⟨p2, fun u hu => ?_⟩, fun y => ?_, Nat.le_trans put_len (by omega)⟩, _, _, _, rfl⟩
          · rcases mem_put hu with rfl | hu
            · exact ⟨st_put (.inl (.inl upd_same)) ra3.tab.at_, hm3.m1, hm3.m2, hm3.ok⟩
            · exact (ra3.at_ u hu).put ra3.tab.at_
          · rw [con_put (t := (p, t.2)) (fun u hu e => ra3.inj hm3 u hu e), hc]
            exact (con_take (c := wc) gi y).symm
      · rintro σ H1 ⟨⟨rs, s1, ra, hc, hl2⟩, v1, v2, v3, rfl⟩
        walk_at "n"
        rw [List.length_map] at hl2 hc
        rw [List.take_length] at hc
        exact h r H1 rs s1 hr1 ra hc hl2
theorem ok_spans_in {P : Program} {w : World} {K : PySem.W.Frag} {mg : Str → Option Value} {base : Heap} (T : Tx K mg) : F.Fr P w K mg base 4 (He.ga K "spans_in") (sp_spans_in K) := (T.f_spans_in).elim fun fd F1 => fr_of F1 (okF_spans_in T F1) (fun _ _ _ _ _ _ us hl => match us, hl with | [_], _ => rfl)
end G
set_option maxHeartbeats 400000
namespace G
open PySem PySem.Spec PyProof.Rows L2 F
local macro_rules | `(tactic| walk_at "side") => `(tactic| first | rfl | decide | omega | assumption | (unfold CMul; omega) | (unfold CPow; omega) | (unfold CDiv; omega))
local macro_rules | `(tactic| walk_at "hp") => `(tactic| first | assumption | exact upd_same | (refine upd_keep (by assumption) ?_; walk_at "hp") | (refine sm (by assumption) ?_; walk_at "hp"))
local macro_rules | `(tactic| walk_at "n") => `(tactic| ((try conv => whnf); repeat ((first | with_reducible refine cond_t rfl ?_ | with_reducible refine cond_f rfl ?_ | with_reducible refine cond_n ?_); (try conv => whnf))))
local macro_rules | `(tactic| walk_at "go") => `(tactic| (walk_at "n"; repeat (refine And.intro ?side ?_; (case side => walk_at "side"); walk_at "n")))

open M
def bkF (r s : Addr) : List (Str × V) := putF "spans" (.ref s) (putF "rung" (.ref r) [])
theorem bk_rung (r s : Addr) : (bkF r s).lookup ("rung" : Str) = some (.ref r) := lk_next (by decide +kernel) lk_here
theorem bk_spans (r s : Addr) : (bkF r s).lookup ("spans" : Str) = some (.ref s) := lk_here
theorem bk_number (r s : Addr) : (bkF r s).lookup ("number" : Str) = none := lk_next (by decide +kernel) (lk_next (by decide +kernel) rfl)
theorem bk_put_rung (r r' s : Addr) : putF "rung" (.ref r') (bkF r s) = bkF r' s := by
  unfold bkF
  have n : ("rung" : Str) ≠ "spans" := by decide +kernel
  simp only [putF, if_neg n, if_neg (Ne.symm n), if_true]
theorem bk_put_spans (r s s' : Addr) : putF "spans" (.ref s') (bkF r s) = bkF r s' := by
  unfold bkF
  have n : ("rung" : Str) ≠ "spans" := by decide +kernel
  simp only [putF, if_neg n, if_neg (Ne.symm n), if_true]
theorem bk_len (r s : Addr) : (bkF r s).length < 1000 := Nat.lt_of_le_of_lt (lf (lf lf0)) (by decide)
/-- the parts of a book -/
structure BookP (K : PySem.W.Frag) (H : Hp) (b dx r s : Addr) (rs : List (Addr × Mo)) (ws : List (Addr × WT)) : Prop where
  at_ : H b = some (.ins (CB K) dx (bkF r s))
  r : RungAt K H r rs
  s : SpansAt K H s ws
  nr : rs.length ≤ 2000
  nw : ws.length ≤ 12
/-- a book of the rings R and the watches W -/
def BookAt (K : PySem.W.Frag) (H : Hp) (b : Addr) (R : List Mo) (W : List (Mo × Mo)) : Prop := ∃ dx r s rs ws, BookP K H b dx r s rs ws ∧ conT id rs = R ∧ conT wc ws = W
theorem BookP.same {K : PySem.W.Frag} {H H' : Hp} {b dx r s : Addr} {rs : List (Addr × Mo)} {ws : List (Addr × WT)} (h : BookP K H b dx r s rs ws) (e : Same H H') : BookP K H' b dx r s rs ws := ⟨e _ _ h.at_, h.r.same e, h.s.same e, h.nr, h.nw⟩
theorem BookAt.same {K : PySem.W.Frag} {H H' : Hp} {b : Addr} {R : List Mo} {W : List (Mo × Mo)} (h : BookAt K H b R W) (e : Same H H') : BookAt K H' b R W := let ⟨dx, r, s, rs, ws, p, a, c⟩ := h; ⟨dx, r, s, rs, ws, p.same e, a, c⟩
theorem BookAt.ins {K : PySem.W.Frag} {H : Hp} {b : Addr} {R : List Mo} {W : List (Mo × Mo)} (h : BookAt K H b R W) : IsIns H b (CB K) := let ⟨dx, r, s, rs, ws, p, a, c⟩ := h; ⟨dx, _, p.at_⟩
theorem conT_len {α β : Type} {c : α → β} {ts : List (Addr × α)} : (conT c ts).length = ts.length := List.length_map ..
theorem BookP.okR {K : PySem.W.Frag} {H : Hp} {b dx r s : Addr} {rs : List (Addr × Mo)} {ws : List (Addr × WT)} (h : BookP K H b dx r s rs ws) {q : Mo} (hq : q ∈ conT id rs) : q.ok := by
  obtain ⟨t, ht, rfl⟩ := mem_conT.mp hq
  exact (h.r.mo t ht).2
def sp_Book___init__ (K : PySem.W.Frag) : Sp := fun vs H Q E => match vs with
  | [.ref b, .ref l, .ref m] => ∃ dx ps zs, H b = some (.ins (CB K) dx []) ∧ (SqL K H l (ps.map fun t => .ref t.1) ∨ SqT K H l (ps.map fun t => .ref t.1)) ∧ (∀ t, t ∈ ps → MoAt K H t.1 t.2 ∧ t.2.ok) ∧ ps.length ≤ 2000 ∧ (SqL K H m (zs.map fun t => .ref t.1) ∨ SqT K H m (zs.map fun t => .ref t.1)) ∧ (∀ t, t ∈ zs → WAt K H t) ∧ zs.length ≤ 12 ∧ ∀ H' R W, SB b H H' → BookAt K H' b R W → (∀ x, x ∈ R ↔ x ∈ conT id ps) → (∀ x, x ∈ W ↔ x ∈ conT wc zs) → R.length ≤ ps.length → W.length ≤ zs.length → Q .non H'
  | _ => False
theorem sc_Book___init__ : FnScope ["self", "rings", "watches"] ["self", "rings", "watches"] (defScope s_Book___init__) := ⟨rfl, rfl, rfl, by decide +kernel, rfl, by decide +kernel, by decide +kernel⟩
theorem okF_Book___init__ {P : Program} {w : World} {K : PySem.W.Frag} {mg : Str → Option Value} {base : Heap} {fd : FuncData} (T : Tx K mg) (F1 : FunD K "__init__" "Book.__init__" (defArgs s_Book___init__) (defBody s_Book___init__) (defScope s_Book___init__) [(.ref (dfl0 (fun K => He.ma K (He.ga K "Book") "__init__") 0 K)), (.ref (dfl0 (fun K => He.ma K (He.ga K "Book") "__init__") 1 K))] [] (He.ma K (He.ga K "Book") "__init__") fd) : FnOk P w K mg base (L2.CX P w) 6 (He.ma K (He.ga K "Book") "__init__") fd ["self", "rings", "watches"] (sp_Book___init__ K) := by
  have c_rings_in : Fc P w K mg base 1 "rings_in" (sp_rings_in K) := ⟨_, ok_rings_in T, T.g_rings_in, (T.f_rings_in).elim fun _ z => z.kp⟩
  have c_spans_in : Fc P w K mg base 4 "spans_in" (sp_spans_in K) := ⟨_, ok_spans_in T, T.g_spans_in, (T.f_spans_in).elim fun _ z => z.kp⟩
  refine F1.ok sc_Book___init__ (fun vs H Q E h => ?_) (fun cdv A outer s H vs Q E hr h => ?_)
  · unfold sp_Book___init__ at h
    split at h
    · rfl
    · exact h.elim
  · unfold sp_Book___init__ at h
    split at h
    rotate_left
    · exact h.elim
    · rename_i b l m
      refine ⟨_, (pss_cons (s_fld (e_v 0) (e_c c_rings_in hr (pa_cons (e_v 1) pa_nil)))
        (pss_one (s_fld (e_v 0) (e_c c_spans_in hr (pa_cons (e_v 2) pa_nil))))), ?_⟩
      obtain ⟨dx, ps, zs, hb, hl, hp, hpn, hm, hz, hzn, h⟩ := h
      walk_at "n"
      refine ⟨ps, hl, hp, hpn, fun r H1 rs s1 hr1 ra rc rl => ?_⟩
      walk_at "n"
      have hb1 := s1 _ _ hb
      refine ⟨_, _, _, hb1, T.c_Book, T.n_Book_rung, by decide, ?_⟩
      have sb1 : SB b H1 (upd H1 b (.ins (CB K) dx (putF "rung" (.ref r) []))) := sb_upd
      have sb2 : SB b H (upd H1 b (.ins (CB K) dx (putF "rung" (.ref r) []))) := (sb_same s1).trans sb1
      have ra1 := ra.sb hb1 rfl sb1
      have hno : (putF "rung" (.ref r) []).lookup ("number" : Str) = none := lk_next (by decide +kernel) rfl
      walk_at "n"
      refine ⟨zs, hm.imp (fun z => sl_sb z hb sb2) (fun z => st_sb z hb sb2), fun t ht => (hz t ht).sb hb rfl sb2, hzn, fun s H2 ws s2 hs1 sa wcn wl => ?_⟩
      walk_at "n"
      have hb2 := s2 _ _ upd_same
      refine ⟨_, _, _, hb2, T.c_Book, T.n_Book_spans, Nat.lt_of_le_of_lt (lf lf0) (by decide), ?_⟩
      walk_at "n"
      have sb3 : SB b H2 (upd H2 b (.ins (CB K) dx (bkF r s))) := sb_upd
      exact h _ _ _ ((sb2.trans (sb_same s2)).trans sb3) ⟨dx, r, s, rs, ws, ⟨upd_same, (ra1.same s2).sb hb2 hno sb3, sa.sb hb2 hno sb3, by omega, by omega⟩, rfl, rfl⟩ rc wcn (by rw [conT_len]; exact rl) (by rw [conT_len]; exact wl)
theorem ok_Book___init__ {P : Program} {w : World} {K : PySem.W.Frag} {mg : Str → Option Value} {base : Heap} (T : Tx K mg) : F.Fr P w K mg base 6 (He.ma K (He.ga K "Book") "__init__") (sp_Book___init__ K) := (T.f_Book___init__).elim fun fd F1 => fr_full F1 (okF_Book___init__ T F1) (by simp) (fun _ _ _ _ _ _ _ us its h1 h2 => match us, its, h1, h2 with | [_, _, _], [_, _], _, _ => ⟨_, rfl, rfl⟩)
theorem ok0_Book___init__ {P : Program} {w : World} {K : PySem.W.Frag} {mg : Str → Option Value} {base : Heap} (T : Tx K mg) : F.Fr P w K mg base 6 (He.ma K (He.ga K "Book") "__init__") (fun vs H Q E => sp_Book___init__ K (vs ++ [(.ref (dfl0 (fun K => He.ma K (He.ga K "Book") "__init__") 0 K)), (.ref (dfl0 (fun K => He.ma K (He.ga K "Book") "__init__") 1 K))]) H Q E) := (T.f_Book___init__).elim fun fd F1 => fr_dfl F1 (okF_Book___init__ T F1) 1 0 (by simp) (by simp) (fun _ _ _ _ _ _ _ us its h1 h2 => match us, its, h1, h2 with | [_], [_, _], _, _ => ⟨_, rfl, rfl⟩)
def sp_Book_rings (K : PySem.W.Frag) : Sp := fun vs H Q E => match vs with
  | [.ref b] => ∃ dx r s rs ws, BookP K H b dx r s rs ws ∧ ∀ p H' (us : List (Addr × Mo)), Same H H' → SqT K H' p (us.map fun t => .ref t.1) → (∀ u, u ∈ us ↔ u ∈ rs) → us.Pairwise (fun x y => x.2.num < y.2.num) → us.length = rs.length → Q (.ref p) H'
  | _ => False
theorem sc_Book_rings : FnScope ["self", "one", "number"] ["self"] (defScope s_Book_rings) := ⟨rfl, rfl, rfl, by decide +kernel, rfl, by decide +kernel, by decide +kernel⟩
theorem okF_Book_rings {P : Program} {w : World} {K : PySem.W.Frag} {mg : Str → Option Value} {base : Heap} {fd : FuncData} (T : Tx K mg) (F1 : FunD K "rings" "Book.rings" (defArgs s_Book_rings) (defBody s_Book_rings) (defScope s_Book_rings) [] [] (He5.wf K (He.ga K "Book") "property" "rings") fd) : FnOk P w K mg base (L2.CX P w) 1 (He5.wf K (He.ga K "Book") "property" "rings") fd ["self"] (sp_Book_rings K) := by
  refine F1.ok sc_Book_rings (fun vs H Q E h => ?_) (fun cdv A outer s H vs Q E hr h => ?_)
  · unfold sp_Book_rings at h
    split at h
    · rfl
    · exact h.elim
  · unfold sp_Book_rings at h
    split at h
    rotate_left
    · exact h.elim
    · rename_i b
      refine ⟨_, (pss_one (ps_ret (e_tuple T.b_tuple (pe_lc (own := [("number", 2)]) (g := gName 2) (tt := tYes) rfl sc_Book_rings.nd (pi_list (e_sorted T.b_sorted (pe_lock (pe_lc (own := [("one", 1)]) (g := gName 1) (tt := tYes) rfl sc_Book_rings.nd (pi_keys (k_fld K (e_v 0))) (blkOk_by (own := [("one", 1)]) (N := ["self", "one", "number"]) (sc := defScope s_Book_rings) (by decide +kernel)) (fun _ _ _ _ _ => (pg_name (i := 1) sc_Book_rings.nd rfl (Or.inl rfl))) (fun _ _ _ _ _ => pts_nil) (fun _ _ _ _ _ => (e_int T.b_int (e_v 1))))))) (blkOk_by (own := [("number", 2)]) (N := ["self", "one", "number"]) (sc := defScope s_Book_rings) (by decide +kernel)) (fun _ _ _ _ _ => (pg_name (i := 2) sc_Book_rings.nd rfl (Or.inl rfl))) (fun _ _ _ _ _ => pts_nil) (fun _ _ _ _ _ => (e_dget hr (k_fld K (e_v 0)) (e_v 2))))))), ?_⟩
      obtain ⟨dx, r, s, rs, ws, bp, h⟩ := h
      have hnr := bp.nr
      have hnw := bp.nw
      walk_at "n"
      have nb : b ≠ r := Ne.symm (ne_ins bp.r.tab.at_ bp.at_)
      refine keysInt bp.r.tab.at_ kvT_keys (by rw [kvT_len]; omega) (by show 1 < 3; decide) (fun od R z => ?_) fun p1 H1 s1 e1 => ?_
      · walk_at "n"
        exact ⟨_, ⟨_, _, _, by rw [upd_ne nb]; exact bp.at_, T.c_Book, T.n_Book_rung, bk_rung r s⟩, z⟩
      walk_at "n"
      refine ⟨_, SqL.of e1, fun ms p2 hp hs hp2 => ?_⟩
      walk_at "n"
      obtain ⟨us, e2, hu, hlt, hul⟩ := bp.r.tab.sorted hp hs
      subst e2
      have s2 : Same H (upd H1 p2 (.lst ((us.map fun u => Mo.num u.2).map V.int))) := sto s1 hp2
      have sq : SqL K (upd H1 p2 (.lst ((us.map fun u => Mo.num u.2).map V.int))) p2 ((us.map fun u => Mo.num u.2).map V.int) := SqL.of upd_same
      refine ⟨_, rfl, ⟨_, sq⟩, fun D hD => lcW (walk_list (K := K) (a := p2) (xs := (us.map fun u => Mo.num u.2).map V.int)) (fun i v _ => ∃ t, us[i]? = some t ∧ v = V.ref t.1) ?_ hD (fun H' s => sl s sq) (fun _ _ _ _ _ z => z) ?_ gm_name ?_⟩
      · have := hp.length_eq
        rw [List.length_map] at this ⊢
        unfold keysT at this
        rw [List.length_map] at this
        rw [List.length_map]
        omega
      · rintro j x H2 H3 acc Nx hj s3 hd' ⟨rfl, hx⟩ nx
        rw [List.getElem?_map, List.getElem?_map] at hx
        cases hu2 : us[j]? with
        | none => rw [hu2] at hx; cases hx
        | some t =>
          rw [hu2] at hx
          obtain rfl : x = .int (Mo.num t.2) := (Option.some.inj hx).symm
          have bp2 := bp.same (s2.trans s3)
          refine ⟨rfl, ?_⟩
          walk_at "n"
          refine ⟨_, ⟨_, _, _, bp2.at_, T.c_Book, T.n_Book_rung, bk_rung r s⟩, ?_⟩
          walk_at "n"
          refine ⟨_, _, rfl, bp2.r.tab.get ((hu t).mp (List.mem_of_getElem? hu2)), ?_⟩
          exact nx _ _ (Same.refl _) ⟨t, hu2, rfl⟩
      · intro ys H2 hl hy s3 hd
        have e3 := ys_get (l := us) (f := fun t => V.ref t.1) (by simpa using hl) hy
        walk_at "n"
        rw [e3] at hd
        refine ⟨_, SqL.of hd, fun p hp3 => ?_⟩
        walk_at "n"
        exact h p _ us (sto (s2.trans s3) hp3) (.inl (.inl upd_same)) hu hlt hul
theorem ok_Book_rings {P : Program} {w : World} {K : PySem.W.Frag} {mg : Str → Option Value} {base : Heap} (T : Tx K mg) : F.Fr P w K mg base 1 (He5.wf K (He.ga K "Book") "property" "rings") (sp_Book_rings K) := (T.f_Book_rings).elim fun fd F1 => fr_of F1 (okF_Book_rings T F1) (fun _ _ _ _ _ _ us hl => match us, hl with | [_], _ => rfl)
def sp_Book_watches (K : PySem.W.Frag) : Sp := fun vs H Q E => match vs with
  | [.ref b] => ∃ dx r s rs ws, BookP K H b dx r s rs ws ∧ ∀ p H' (us : List (Addr × WT)), Same H H' → SqT K H' p (us.map fun t => .ref t.1) → (∀ u, u ∈ us ↔ u ∈ ws) → us.Pairwise (fun x y => wk x.2 < wk y.2) → us.length = ws.length → Q (.ref p) H'
  | _ => False
theorem sc_Book_watches : FnScope ["self", "one", "code"] ["self"] (defScope s_Book_watches) := ⟨rfl, rfl, rfl, by decide +kernel, rfl, by decide +kernel, by decide +kernel⟩
theorem okF_Book_watches {P : Program} {w : World} {K : PySem.W.Frag} {mg : Str → Option Value} {base : Heap} {fd : FuncData} (T : Tx K mg) (F1 : FunD K "watches" "Book.watches" (defArgs s_Book_watches) (defBody s_Book_watches) (defScope s_Book_watches) [] [] (He5.wf K (He.ga K "Book") "property" "watches") fd) : FnOk P w K mg base (L2.CX P w) 1 (He5.wf K (He.ga K "Book") "property" "watches") fd ["self"] (sp_Book_watches K) := by
  refine F1.ok sc_Book_watches (fun vs H Q E h => ?_) (fun cdv A outer s H vs Q E hr h => ?_)
  · unfold sp_Book_watches at h
    split at h
    · rfl
    · exact h.elim
  · unfold sp_Book_watches at h
    split at h
    rotate_left
    · exact h.elim
    · rename_i b
      refine ⟨_, (pss_one (ps_ret (e_tuple T.b_tuple (pe_lc (own := [("code", 2)]) (g := gName 2) (tt := tYes) rfl sc_Book_watches.nd (pi_list (e_sorted T.b_sorted (pe_lock (pe_lc (own := [("one", 1)]) (g := gName 1) (tt := tYes) rfl sc_Book_watches.nd (pi_keys (k_fld K (e_v 0))) (blkOk_by (own := [("one", 1)]) (N := ["self", "one", "code"]) (sc := defScope s_Book_watches) (by decide +kernel)) (fun _ _ _ _ _ => (pg_name (i := 1) sc_Book_watches.nd rfl (Or.inl rfl))) (fun _ _ _ _ _ => pts_nil) (fun _ _ _ _ _ => (e_int T.b_int (e_v 1))))))) (blkOk_by (own := [("code", 2)]) (N := ["self", "one", "code"]) (sc := defScope s_Book_watches) (by decide +kernel)) (fun _ _ _ _ _ => (pg_name (i := 2) sc_Book_watches.nd rfl (Or.inl rfl))) (fun _ _ _ _ _ => pts_nil) (fun _ _ _ _ _ => (e_dget hr (k_fld K (e_v 0)) (e_v 2))))))), ?_⟩
      obtain ⟨dx, r, s, rs, ws, bp, h⟩ := h
      have hnr := bp.nr
      have hnw := bp.nw
      walk_at "n"
      have nb : b ≠ s := Ne.symm (ne_ins bp.s.tab.at_ bp.at_)
      refine keysInt bp.s.tab.at_ kvT_keys (by rw [kvT_len]; omega) (by show 1 < 3; decide) (fun od R z => ?_) fun p1 H1 s1 e1 => ?_
      · walk_at "n"
        exact ⟨_, ⟨_, _, _, by rw [upd_ne nb]; exact bp.at_, T.c_Book, T.n_Book_spans, bk_spans r s⟩, z⟩
      walk_at "n"
      refine ⟨_, SqL.of e1, fun ms p2 hp hs hp2 => ?_⟩
      walk_at "n"
      obtain ⟨us, e2, hu, hlt, hul⟩ := bp.s.tab.sorted hp hs
      subst e2
      have s2 : Same H (upd H1 p2 (.lst ((us.map fun u => wk u.2).map V.int))) := sto s1 hp2
      have sq : SqL K (upd H1 p2 (.lst ((us.map fun u => wk u.2).map V.int))) p2 ((us.map fun u => wk u.2).map V.int) := SqL.of upd_same
      refine ⟨_, rfl, ⟨_, sq⟩, fun D hD => lcW (walk_list (K := K) (a := p2) (xs := (us.map fun u => wk u.2).map V.int)) (fun i v _ => ∃ t, us[i]? = some t ∧ v = V.ref t.1) ?_ hD (fun H' s => sl s sq) (fun _ _ _ _ _ z => z) ?_ gm_name ?_⟩
      · have := hp.length_eq
        rw [List.length_map] at this ⊢
        unfold keysT at this
        rw [List.length_map] at this
        rw [List.length_map]
        omega
      · rintro j x H2 H3 acc Nx hj s3 hd' ⟨rfl, hx⟩ nx
        rw [List.getElem?_map, List.getElem?_map] at hx
        cases hu2 : us[j]? with
        | none => rw [hu2] at hx; cases hx
        | some t =>
          rw [hu2] at hx
          obtain rfl : x = .int (wk t.2) := (Option.some.inj hx).symm
          have bp2 := bp.same (s2.trans s3)
          refine ⟨rfl, ?_⟩
          walk_at "n"
          refine ⟨_, ⟨_, _, _, bp2.at_, T.c_Book, T.n_Book_spans, bk_spans r s⟩, ?_⟩
          walk_at "n"
          refine ⟨_, _, rfl, bp2.s.tab.get ((hu t).mp (List.mem_of_getElem? hu2)), ?_⟩
          exact nx _ _ (Same.refl _) ⟨t, hu2, rfl⟩
      · intro ys H2 hl hy s3 hd
        have e3 := ys_get (l := us) (f := fun t => V.ref t.1) (by simpa using hl) hy
        walk_at "n"
        rw [e3] at hd
        refine ⟨_, SqL.of hd, fun p hp3 => ?_⟩
        walk_at "n"
        exact h p _ us (sto (s2.trans s3) hp3) (.inl (.inl upd_same)) hu hlt hul
theorem ok_Book_watches {P : Program} {w : World} {K : PySem.W.Frag} {mg : Str → Option Value} {base : Heap} (T : Tx K mg) : F.Fr P w K mg base 1 (He5.wf K (He.ga K "Book") "property" "watches") (sp_Book_watches K) := (T.f_Book_watches).elim fun fd F1 => fr_of F1 (okF_Book_watches T F1) (fun _ _ _ _ _ _ us hl => match us, hl with | [_], _ => rfl)
end G
set_option maxHeartbeats 400000
namespace G
open PySem PySem.Spec PyProof.Rows L2 F
local macro_rules | `(tactic| walk_at "side") => `(tactic| first | rfl | decide | omega | assumption | (unfold CMul; omega) | (unfold CPow; omega) | (unfold CDiv; omega))
local macro_rules | `(tactic| walk_at "hp") => `(tactic| first | assumption | exact upd_same | (refine upd_keep (by assumption) ?_; walk_at "hp") | (refine sm (by assumption) ?_; walk_at "hp"))
local macro_rules | `(tactic| walk_at "n") => `(tactic| ((try conv => whnf); repeat ((first | with_reducible refine cond_t rfl ?_ | with_reducible refine cond_f rfl ?_ | with_reducible refine cond_n ?_); (try conv => whnf))))
local macro_rules | `(tactic| walk_at "go") => `(tactic| (walk_at "n"; repeat (refine And.intro ?side ?_; (case side => walk_at "side"); walk_at "n")))

open M
def sp_Book___iadd__ (K : PySem.W.Frag) : Sp := fun vs H Q E => match vs with
  | [.ref b, .ref a] => ∃ R W q, BookAt K H b R W ∧ MoAt K H a q ∧ q.ok ∧ R.length < 2000 ∧ ∀ H' R', SB b H H' → BookAt K H' b R' W → (∀ x, x ∈ R' ↔ x ∈ R ∨ x = q) → R'.length ≤ R.length + 1 → Q (.ref b) H'
  | _ => False
theorem sc_Book___iadd__ : FnScope ["self", "moment"] ["self", "moment"] (defScope s_Book___iadd__) := ⟨rfl, rfl, rfl, by decide +kernel, rfl, by decide +kernel, by decide +kernel⟩
theorem okF_Book___iadd__ {P : Program} {w : World} {K : PySem.W.Frag} {mg : Str → Option Value} {base : Heap} {fd : FuncData} (T : Tx K mg) (F1 : FunD K "__iadd__" "Book.__iadd__" (defArgs s_Book___iadd__) (defBody s_Book___iadd__) (defScope s_Book___iadd__) [] [] (He.ma K (He.ga K "Book") "__iadd__") fd) : FnOk P w K mg base (L2.CX P w) 2 (He.ma K (He.ga K "Book") "__iadd__") fd ["self", "moment"] (sp_Book___iadd__ K) := by
  have c_with_ring : Fc P w K mg base 1 "with_ring" (sp_with_ring K) := ⟨_, ok_with_ring T, T.g_with_ring, (T.f_with_ring).elim fun _ z => z.kp⟩
  refine F1.ok sc_Book___iadd__ (fun vs H Q E h => ?_) (fun cdv A outer s H vs Q E hr h => ?_)
  · unfold sp_Book___iadd__ at h
    split at h
    · rfl
    · exact h.elim
  · unfold sp_Book___iadd__ at h
    split at h
    rotate_left
    · exact h.elim
    · rename_i b a
      refine ⟨_, (pss_cons (s_fld (e_v 0) (e_c c_with_ring hr (pa_cons (k_fld K (e_v 0)) (pa_cons (e_v 1) pa_nil))))
        (pss_one (ps_ret (e_v 0)))), ?_⟩
      obtain ⟨R, W, q, ⟨dx, r, s, rs, ws, bp, rfl, rfl⟩, ha, ok, hl, h⟩ := h
      rw [conT_len] at hl h
      walk_at "n"
      refine ⟨_, ⟨_, _, _, bp.at_, T.c_Book, T.n_Book_rung, bk_rung r s⟩, ?_⟩
      walk_at "n"
      refine ⟨rs, q, bp.r, ha, ok, hl, fun r' H1 rs' s1 hr1 ra rc rl => ?_⟩
      walk_at "n"
      have hb1 := s1 _ _ bp.at_
      refine ⟨_, _, _, hb1, T.c_Book, T.n_Book_rung, bk_len r s, ?_⟩
      rw [bk_put_rung]
      walk_at "n"
      have sb1 : SB b H1 (upd H1 b (.ins (CB K) dx (bkF r' s))) := sb_upd
      exact h _ _ ((sb_same s1).trans sb1) ⟨dx, r', s, rs', ws, ⟨upd_same, ra.sb hb1 (bk_number r s) sb1, (bp.s.same s1).sb hb1 (bk_number r s) sb1, by omega, bp.nw⟩, rfl, rfl⟩ rc (by rw [conT_len]; exact rl)
theorem ok_Book___iadd__ {P : Program} {w : World} {K : PySem.W.Frag} {mg : Str → Option Value} {base : Heap} (T : Tx K mg) : F.Fr P w K mg base 2 (He.ma K (He.ga K "Book") "__iadd__") (sp_Book___iadd__ K) := (T.f_Book___iadd__).elim fun fd F1 => fr_of F1 (okF_Book___iadd__ T F1) (fun _ _ _ _ _ _ us hl => match us, hl with | [_, _], _ => rfl)
def sp_Book_watch (K : PySem.W.Frag) : Sp := fun vs H Q E => match vs with
  | [.ref b, .ref x, .ref y] => ∃ R W q p, BookAt K H b R W ∧ MoAt K H x q ∧ MoAt K H y p ∧ SpanOk q p ∧ W.length < 12 ∧ ∀ H' W', SB b H H' → BookAt K H' b R W' → (∀ z, z ∈ W' ↔ z ∈ W ∨ z = (q, p)) → W'.length ≤ W.length + 1 → Q .non H'
  | _ => False
theorem sc_Book_watch : FnScope ["self", "begin", "end"] ["self", "begin", "end"] (defScope s_Book_watch) := ⟨rfl, rfl, rfl, by decide +kernel, rfl, by decide +kernel, by decide +kernel⟩
theorem okF_Book_watch {P : Program} {w : World} {K : PySem.W.Frag} {mg : Str → Option Value} {base : Heap} {fd : FuncData} (T : Tx K mg) (F1 : FunD K "watch" "Book.watch" (defArgs s_Book_watch) (defBody s_Book_watch) (defScope s_Book_watch) [] [] (He.ma K (He.ga K "Book") "watch") fd) : FnOk P w K mg base (L2.CX P w) 6 (He.ma K (He.ga K "Book") "watch") fd ["self", "begin", "end"] (sp_Book_watch K) := by
  have c_spans_in : Fc P w K mg base 4 "spans_in" (sp_spans_in K) := ⟨_, ok_spans_in T, T.g_spans_in, (T.f_spans_in).elim fun _ z => z.kp⟩
  have c_Book_watches : Fp P w K mg base 1 (He.ga K "Book") "watches" (sp_Book_watches K) := ⟨⟨_, _, ok_Book_watches T, T.p_Book_watches⟩, T.c_Book⟩
  refine F1.ok sc_Book_watch (fun vs H Q E h => ?_) (fun cdv A outer s H vs Q E hr h => ?_)
  · unfold sp_Book_watch at h
    split at h
    · rfl
    · exact h.elim
  · unfold sp_Book_watch at h
    split at h
    rotate_left
    · exact h.elim
    · rename_i b x y
      refine ⟨_, (pss_one (s_fld (e_v 0) (e_c c_spans_in hr (pa_cons (pe_lst (StX.pa_star (e_p c_Book_watches hr (e_v 0)) (pa_cons (pe_tup (pa_cons (e_v 1) (pa_cons (e_v 2) pa_nil))) pa_nil))) pa_nil)))), ?_⟩
      obtain ⟨R, W, q, p, ⟨dx, r, s, rs, ws, bp, rfl, rfl⟩, hx, hy, ok, hl, h⟩ := h
      rw [conT_len] at hl h
      walk_at "n"
      refine ⟨⟨_, _, bp.at_⟩, dx, r, s, rs, ws, bp, fun t H1 us s1 ht hu hlt hul => ?_⟩
      walk_at "n"
      refine ⟨_, _, rfl, .inl ht, ?_⟩
      walk_at "n"
      refine ⟨line_of (by simp), fun t2 ht2 => ?_⟩
      walk_at "n"
      have bp1 := bp.same s1
      have hnw := bp.nw
      have w1 : ∀ u, u ∈ us → WAt K H1 u := fun u z => bp1.s.at_ u ((hu u).mp z)
      refine ⟨line_of (by simp; omega), fun l hl2 => ?_⟩
      walk_at "n"
      have s2 : Same H1 (upd (upd H1 t2 (.tup [.ref x, .ref y])) l (.lst ((us.map fun t => V.ref t.1) ++ [.ref t2]))) := sto (snew ht2) hl2
      refine ⟨us ++ [(t2, ((x, q), (y, p)))], .inl ?_, fun t z => ?_, by simp; omega, fun s' H2 ws' s3 hs1 sa wcn wl => ?_⟩
      · rw [List.map_append]
        exact SqL.of upd_same
      · rcases List.mem_append.mp z with z | z
        · exact (w1 t z).same s2
        · simp at z
          subst z
          exact ⟨.inl (.inl (upd_keep hl2 upd_same)), (hx.same s1).same s2, (hy.same s1).same s2, ok⟩
      walk_at "n"
      have bp2 := (bp1.same s2).same s3
      refine ⟨_, _, _, bp2.at_, T.c_Book, T.n_Book_spans, bk_len r s, ?_⟩
      rw [bk_put_spans]
      walk_at "n"
      have sb1 : SB b H2 (upd H2 b (.ins (CB K) dx (bkF r s'))) := sb_upd
      rw [List.length_append] at wl
      simp at wl
      refine h _ _ ((sb_same (s1.trans (s2.trans s3))).trans sb1) ⟨dx, r, s', rs, ws', ⟨upd_same, bp2.r.sb bp2.at_ (bk_number r s) sb1, sa.sb bp2.at_ (bk_number r s) sb1, bp.nr, by omega⟩, rfl, rfl⟩ (fun z => ?_) (by rw [conT_len]; omega)
      rw [wcn, mem_conT, mem_conT]
      constructor
      · rintro ⟨u, hu2, rfl⟩
        rcases List.mem_append.mp hu2 with z | z
        · exact .inl ⟨u, (hu u).mp z, rfl⟩
        · simp at z
          subst z
          exact .inr rfl
      · rintro (⟨u, hu2, rfl⟩ | rfl)
        · exact ⟨u, List.mem_append_left _ ((hu u).mpr hu2), rfl⟩
        · exact ⟨_, List.mem_append_right _ List.mem_cons_self, rfl⟩
theorem ok_Book_watch {P : Program} {w : World} {K : PySem.W.Frag} {mg : Str → Option Value} {base : Heap} (T : Tx K mg) : F.Fr P w K mg base 6 (He.ma K (He.ga K "Book") "watch") (sp_Book_watch K) := (T.f_Book_watch).elim fun fd F1 => fr_of F1 (okF_Book_watch T F1) (fun _ _ _ _ _ _ us hl => match us, hl with | [_, _, _], _ => rfl)
end G
set_option maxHeartbeats 400000
namespace G
open PySem PySem.Spec PyProof.Rows L2 F
local macro_rules | `(tactic| walk_at "side") => `(tactic| first | rfl | decide | omega | assumption | (unfold CMul; omega) | (unfold CPow; omega) | (unfold CDiv; omega))
local macro_rules | `(tactic| walk_at "hp") => `(tactic| first | assumption | exact upd_same | (refine upd_keep (by assumption) ?_; walk_at "hp") | (refine sm (by assumption) ?_; walk_at "hp"))
local macro_rules | `(tactic| walk_at "n") => `(tactic| ((try conv => whnf); repeat ((first | with_reducible refine cond_t rfl ?_ | with_reducible refine cond_f rfl ?_ | with_reducible refine cond_n ?_); (try conv => whnf))))
local macro_rules | `(tactic| walk_at "go") => `(tactic| (walk_at "n"; repeat (refine And.intro ?side ?_; (case side => walk_at "side"); walk_at "n")))

open M TL
/-- two moments of one content -/
def MoEq (K : PySem.W.Frag) (a b : Addr) (H : Hp) : Prop := ∃ q, MoAt K H a q ∧ MoAt K H b q
theorem mon_mo {K : PySem.W.Frag} : Mon (DIns (CM K) (MoEq K)) := mon_ins fun a b H H' e h => let ⟨q, h1, h2⟩ := h; ⟨q, h1.same e, h2.same e⟩
theorem d_mo {K : PySem.W.Frag} {H : Hp} {a b : Addr} {q : Mo} (h1 : MoAt K H a q) (h2 : MoAt K H b q) : DIns (CM K) (MoEq K) (.ref a) (.ref b) H := by
  obtain ⟨dx, e1⟩ := id h1
  obtain ⟨dy, e2⟩ := id h2
  exact ⟨a, b, dx, dy, _, _, rfl, rfl, e1, e2, q, h1, h2⟩
theorem ok_mo_eq {P : Program} {w : World} {K : PySem.W.Frag} {mg : Str → Option Value} {base : Heap} (T : Tx K mg) : F.Fr P w K mg base 1 (He.ma K (He.ga K "Moment") "__eq__") (spEq (MoEq K)) :=
  (ok_Moment___eq__ T).imp fun vs H Q E h => by
    obtain ⟨a, b, rfl, ⟨q, h1, h2⟩, k⟩ := h
    refine ⟨q, q, h1, h2, ?_⟩
    rw [decide_eq_true rfl]
    exact k H (fun _ _ z => z)
abbrev DR (K : PySem.W.Frag) : Eqv := DTup K (DIns (CM K) (MoEq K))
abbrev DW (K : PySem.W.Frag) : Eqv := DTup K (DR K)
theorem con_sorted {α β : Type} {c : α → β} {k : α → Int} {kk : β → Int} {us : List (Addr × α)} (e : ∀ z, k z = kk (c z)) (h : us.Pairwise fun a b => k a.2 < k b.2) : (conT c us).Pairwise fun a b => kk a < kk b := by
  unfold conT
  rw [List.pairwise_map]
  exact h.imp fun {a b} z => by rw [e, e] at z; exact z
theorem mem_con_congr {α β : Type} {c : α → β} {us ts : List (Addr × α)} (h : ∀ u, u ∈ us ↔ u ∈ ts) (x : β) : x ∈ conT c us ↔ x ∈ conT c ts := by
  rw [mem_conT, mem_conT]
  exact ⟨fun ⟨t, a, b⟩ => ⟨t, (h t).mp a, b⟩, fun ⟨t, a, b⟩ => ⟨t, (h t).mpr a, b⟩⟩
theorem con_at {α β : Type} {c : α → β} {us vs : List (Addr × α)} (e : conT c us = conT c vs) {i : Nat} {u v : Addr × α} (h1 : us[i]? = some u) (h2 : vs[i]? = some v) : c u.2 = c v.2 := by
  have := congrArg (·[i]?) e
  unfold conT at this
  simp only [List.getElem?_map, h1, h2, Option.map_some] at this
  exact Option.some.inj this
theorem ref_at {α : Type} {us : List (Addr × α)} {i : Nat} {x : V} (h : (us.map fun t => V.ref t.1)[i]? = some x) : ∃ u, us[i]? = some u ∧ x = .ref u.1 := by
  rw [List.getElem?_map] at h
  cases e : us[i]? with
  | none => rw [e] at h; cases h
  | some u => rw [e] at h; exact ⟨u, rfl, (Option.some.inj h).symm⟩
def sp_Book___eq__ (K : PySem.W.Frag) : Sp := fun vs H Q E => match vs with
  | [.ref a, .ref b] => ∃ R W R' W', BookAt K H a R W ∧ BookAt K H b R' W' ∧ (∀ x, x ∈ R ↔ x ∈ R') ∧ (∀ x, x ∈ W ↔ x ∈ W') ∧ ∀ H', Same H H' → Q (.bl true) H'
  | _ => False
theorem sc_Book___eq__ : FnScope ["self", "other"] ["self", "other"] (defScope s_Book___eq__) := ⟨rfl, rfl, rfl, by decide +kernel, rfl, by decide +kernel, by decide +kernel⟩
theorem okF_Book___eq__ {P : Program} {w : World} {K : PySem.W.Frag} {mg : Str → Option Value} {base : Heap} {fd : FuncData} (T : Tx K mg) (F1 : FunD K "__eq__" "Book.__eq__" (defArgs s_Book___eq__) (defBody s_Book___eq__) (defScope s_Book___eq__) [] [] (He.ma K (He.ga K "Book") "__eq__") fd) : FnOk P w K mg base (L2.CX P w) 5 (He.ma K (He.ga K "Book") "__eq__") fd ["self", "other"] (sp_Book___eq__ K) := by
  have c_Book_rings : Fp P w K mg base 1 (He.ga K "Book") "rings" (sp_Book_rings K) := ⟨⟨_, _, ok_Book_rings T, T.p_Book_rings⟩, T.c_Book⟩
  have c_Book_watches : Fp P w K mg base 1 (He.ga K "Book") "watches" (sp_Book_watches K) := ⟨⟨_, _, ok_Book_watches T, T.p_Book_watches⟩, T.c_Book⟩
  refine F1.ok sc_Book___eq__ (fun vs H Q E h => ?_) (fun cdv A outer s H vs Q E hr h => ?_)
  · unfold sp_Book___eq__ at h
    split at h
    · rfl
    · exact h.elim
  · unfold sp_Book___eq__ at h
    split at h
    rotate_left
    · exact h.elim
    · rename_i a b
      refine ⟨_, (pss_one (ps_ret (e_and (e_isC T.g_Book T.is_Book T.b_isinstance (e_v 1)) (e_and (pe_cmpR (op_eqG (rcG_tup mon_mo (eqG_insR (ok_mo_eq T) T.o_Moment___eq__)) (hr.mono (by decide))) (e_p c_Book_rings hr (e_v 0)) (e_p c_Book_rings hr (e_v 1)) (nomark _)) (pe_one (pe_cmpR (op_eqG (rcG_tup (mon_tup mon_mo) (eqG_tup mon_mo (eqG_insR (ok_mo_eq T) T.o_Moment___eq__))) (hr.mono (by decide))) (e_p c_Book_watches hr (e_v 0)) (e_p c_Book_watches hr (e_v 1)) (nomark _))))))), ?_⟩
      obtain ⟨R, W, R', W', ⟨dx, r, s1, rs, ws, bp, rfl, rfl⟩, ⟨dx', r', s1', rs', ws', bp', rfl, rfl⟩, hR, hW, h⟩ := h
      walk_at "n"
      refine ⟨rfl, .inl ⟨⟨_, _, bp'.at_⟩, ?_⟩⟩
      walk_at "n"
      refine ⟨⟨_, _, bp.at_⟩, dx, r, s1, rs, ws, bp, fun t H1 us e1 ht hu hlt hul => ?_⟩
      walk_at "n"
      have bq := bp'.same e1
      refine ⟨⟨_, _, bq.at_⟩, dx', r', s1', rs', ws', bq, fun t' H2 us' e2 ht' hu' hlt' hul' => ?_⟩
      walk_at "n"
      have eu : conT id us = conT id us' := sorted_ext Mo.num (con_sorted (fun _ => rfl) hlt) (con_sorted (fun _ => rfl) hlt') fun x => (mem_con_congr hu x).trans ((hR x).trans (mem_con_congr hu' x).symm)
      have bp2 := (bp.same e1).same e2
      have bq2 := bq.same e2
      refine ⟨⟨_, _, _, _, rfl, rfl, st e2 ht, ht', ?_, fun i x y hx hy => ?_⟩, fun H3 e3 => ?_⟩
      · have := congrArg List.length eu
        simpa [conT] using this
      · obtain ⟨u, hu1, rfl⟩ := ref_at hx
        obtain ⟨v, hv1, rfl⟩ := ref_at hy
        have e := con_at eu hu1 hv1
        have m1 := (bp2.r.mo u ((hu u).mp (List.mem_of_getElem? hu1))).1
        have m2 := (bq2.r.mo v ((hu' v).mp (List.mem_of_getElem? hv1))).1
        rw [show u.2 = v.2 from e] at m1
        exact d_mo m1 m2
      walk_at "n"
      have e3 : Same H2 H3 := e3
      have bp3 := bp2.same e3
      refine ⟨⟨_, _, bp3.at_⟩, dx, r, s1, rs, ws, bp3, fun t H4 vs e4 ht hv hlt hvl => ?_⟩
      walk_at "n"
      have bq4 := (bq2.same e3).same e4
      refine ⟨⟨_, _, bq4.at_⟩, dx', r', s1', rs', ws', bq4, fun t' H5 vs' e5 ht' hv' hlt' hvl' => ?_⟩
      walk_at "n"
      have ev : conT wc vs = conT wc vs' := sorted_ext code (con_sorted (fun _ => rfl) hlt) (con_sorted (fun _ => rfl) hlt') fun x => (mem_con_congr hv x).trans ((hW x).trans (mem_con_congr hv' x).symm)
      have bp5 := (bp3.same e4).same e5
      have bq5 := bq4.same e5
      refine ⟨⟨_, _, _, _, rfl, rfl, st e5 ht, ht', ?_, fun i x y hx hy => ?_⟩, fun H6 e6 => h _ (e1.trans (e2.trans (e3.trans (e4.trans (e5.trans e6)))))⟩
      · have := congrArg List.length ev
        simpa [conT] using this
      · obtain ⟨u, hu1, rfl⟩ := ref_at hx
        obtain ⟨v, hv1, rfl⟩ := ref_at hy
        have e : (u.2.1.2, u.2.2.2) = (v.2.1.2, v.2.2.2) := con_at ev hu1 hv1
        have m1 := bp5.s.at_ u ((hv u).mp (List.mem_of_getElem? hu1))
        have m2 := bq5.s.at_ v ((hv' v).mp (List.mem_of_getElem? hv1))
        have ea : u.2.1.2 = v.2.1.2 := (Prod.mk.inj e).1
        have eb : u.2.2.2 = v.2.2.2 := (Prod.mk.inj e).2
        have a1 := m1.m1
        have a2 := m1.m2
        rw [ea] at a1
        rw [eb] at a2
        exact ⟨_, _, _, _, rfl, rfl, m1.tup, m2.tup, .cons (d_mo a1 m2.m1) (.cons (d_mo a2 m2.m2) .nil)⟩
theorem ok_Book___eq__ {P : Program} {w : World} {K : PySem.W.Frag} {mg : Str → Option Value} {base : Heap} (T : Tx K mg) : F.Fr P w K mg base 5 (He.ma K (He.ga K "Book") "__eq__") (sp_Book___eq__ K) := (T.f_Book___eq__).elim fun fd F1 => fr_of F1 (okF_Book___eq__ T F1) (fun _ _ _ _ _ _ us hl => match us, hl with | [_, _], _ => rfl)
end G
set_option maxHeartbeats 400000
namespace G
open PySem PySem.Spec PyProof.Rows L2 F
local macro_rules | `(tactic| walk_at "side") => `(tactic| first | rfl | decide | omega | assumption | (unfold CMul; omega) | (unfold CPow; omega) | (unfold CDiv; omega))
local macro_rules | `(tactic| walk_at "hp") => `(tactic| first | assumption | exact upd_same | (refine upd_keep (by assumption) ?_; walk_at "hp") | (refine sm (by assumption) ?_; walk_at "hp"))
local macro_rules | `(tactic| walk_at "n") => `(tactic| ((try conv => whnf); repeat ((first | with_reducible refine cond_t rfl ?_ | with_reducible refine cond_f rfl ?_ | with_reducible refine cond_n ?_); (try conv => whnf))))
local macro_rules | `(tactic| walk_at "go") => `(tactic| (walk_at "n"; repeat (refine And.intro ?side ?_; (case side => walk_at "side"); walk_at "n")))

open M TL
theorem strOk_tl (z : Str) : PyData.strOk z = (tl z).all (· < 0x110000) := by
  unfold PyData.strOk tl
  rw [← Array.all_toList]
theorem strOk_app (a b : Str) : PyData.strOk (a ++ b) = (PyData.strOk a && PyData.strOk b) := by
  rw [strOk_tl, strOk_tl, strOk_tl, tl_append, List.all_append]
theorem tl_zpad {W : Nat} {n : Nat} : tl (zpad W (n : Int)) = List.replicate (W - (numL n).length) 48 ++ numL n := by
  unfold zpad
  rw [tl_append, tl_num]
  have e : (Nat.toDigits 10 (n : Int).natAbs).length = (numL n).length := by
    unfold numL
    simp
  rw [e]
theorem zpad_dig {W : Nat} {i : Int} (h0 : 0 ≤ i) : ∀ c ∈ tl (zpad W i), 48 ≤ c ∧ c ≤ 57 := by
  obtain ⟨n, rfl⟩ : ∃ n : Nat, i = n := ⟨i.toNat, by omega⟩
  rw [tl_zpad]
  intro c hc
  rcases List.mem_append.mp hc with h | h
  · have := List.eq_of_mem_replicate h
    omega
  · exact numL_digits n c h
theorem zpad_ok {W : Nat} {i : Int} (h0 : 0 ≤ i) : PyData.strOk (zpad W i) = true := by
  rw [strOk_tl, List.all_eq_true]
  intro c hc
  have := zpad_dig h0 c hc
  exact decide_eq_true (by omega)
theorem moStr_len {q : Mo} (ok : q.ok) : (moStr q).length ≤ 66 := by
  obtain ⟨y1, y2, m1, m2, d1, d2, h1, h2, i1, i2⟩ := ok
  have d3 := (monthLen_ge q.y q.m m1 m2).2
  have l0 : (Str.empty).length ≤ 0 := Nat.le_refl _
  have lm0 : ("-" : Str).length ≤ 1 := by decide
  have lm1 : (" " : Str).length ≤ 1 := by decide
  have lm2 : (":" : Str).length ≤ 1 := by decide
  have ly := zpad_len (W := 4) (i := q.y) (by omega) (by omega)
  have lmo := zpad_len (W := 2) (i := q.m) (by omega) (by omega)
  have ld := zpad_len (W := 2) (i := q.d) (by omega) (by omega)
  have lh := zpad_len (W := 2) (i := q.h) (by omega) (by omega)
  have li := zpad_len (W := 2) (i := q.i) (by omega) (by omega)
  exact lim_b (lim_b (lim_b (lim_b (lim_b (lim_b (lim_b (lim_b (lim_b l0 ly) lm0) lmo) lm0) ld) lm1) lh) lm2) li
theorem moStr_ok {q : Mo} (ok : q.ok) : PyData.strOk (moStr q) = true := by
  obtain ⟨y1, y2, m1, m2, d1, d2, h1, h2, i1, i2⟩ := ok
  unfold moStr
  simp only [strOk_app, zpad_ok (show 0 ≤ q.y by omega), zpad_ok (show 0 ≤ q.m by omega), zpad_ok (show 0 ≤ q.d by omega), zpad_ok h1, zpad_ok i1]
  decide +kernel
/-- a ring's line, a watch's line -/
def ringLine (q : Mo) : Str := Str.empty ++ "ring " ++ moStr q
def watchLine (z : Mo × Mo) : Str := Str.empty ++ "watch " ++ moStr z.1 ++ " " ++ moStr z.2
theorem ringLine_len {q : Mo} (ok : q.ok) : (ringLine q).length ≤ 71 := lim_b (lim_b (n := 0) (m := 5) (by decide) (by decide)) (moStr_len ok)
theorem watchLine_len {q p : Mo} (o1 : q.ok) (o2 : p.ok) : (watchLine (q, p)).length ≤ 139 := lim_b (lim_b (m := 1) (lim_b (lim_b (n := 0) (m := 6) (by decide) (by decide)) (moStr_len o1)) (by decide)) (moStr_len o2)
theorem ringLine_ok {q : Mo} (ok : q.ok) : PyData.strOk (ringLine q) = true := by
  unfold ringLine
  simp only [strOk_app, moStr_ok ok]
  decide +kernel
theorem watchLine_ok {q p : Mo} (o1 : q.ok) (o2 : p.ok) : PyData.strOk (watchLine (q, p)) = true := by
  unfold watchLine
  simp only [strOk_app, moStr_ok o1, moStr_ok o2]
  decide +kernel
def linesOf (R : List Mo) (W : List (Mo × Mo)) : List Str := R.map ringLine ++ W.map watchLine
def textOf (l : List Str) : Str := if l.isEmpty = true then "none" else Txt.join "\n" l
theorem dp_strs {K : PySem.W.Frag} {H : Hp} : ∀ zs : List Str, DpAll K H (zs.map V.str) (zs.map PyData.str)
  | [] => .nil
  | z :: r => .cons (.str z) (dp_strs r)
theorem lay_strs : ∀ zs : List Str, (∀ z ∈ zs, PyData.strOk z = true) → PyData.canLayAll0 (zs.map PyData.str) = true ∧ PyData.depthAll (zs.map PyData.str) = 0
  | [], _ => ⟨rfl, rfl⟩
  | z :: r, h => by
    have ih := lay_strs r fun x hx => h x (List.mem_cons_of_mem _ hx)
    have hz := h z List.mem_cons_self
    constructor
    · simp [PyData.canLayAll0, PyData.canLay0, hz, ih.1]
    · simp [PyData.depthAll, PyData.depth, ih.2]
/-- a list of texts against an empty list -/
theorem ne_strs {K : PySem.W.Frag} {H : Hp} {a b : Addr} {zs : List Str} (h1 : SqL K H a (zs.map V.str)) (h2 : SqL K H b []) (hz : ∀ z ∈ zs, PyData.strOk z = true) : ∃ d e, Dp K H (.ref a) d ∧ Dp K H (.ref b) e ∧ SeqAt.shaped d = true ∧ SeqAt.shaped e = true ∧ PyData.eqv d e = zs.isEmpty := by
  have l := lay_strs zs hz
  refine ⟨.list (zs.map PyData.str), .list [], .lst h1 (dp_strs zs), .lst h2 .nil, ?_, by decide +kernel, ?_⟩
  · unfold SeqAt.shaped
    simp [PyData.canLay0, PyData.depth, l.1, l.2]
  · cases zs <;> simp [PyData.eqv, PyData.eqvAll]
theorem lines_sum {B : Nat} : ∀ (l : List Str), (∀ z ∈ l, z.length ≤ B) → (l.map (·.length)).sum ≤ l.length * B
  | [], _ => by simp
  | z :: r, h => by
    have ih := lines_sum r fun x hx => h x (List.mem_cons_of_mem _ hx)
    have := h z List.mem_cons_self
    rw [List.map_cons, List.sum_cons, List.length_cons, Nat.succ_mul]
    omega
def sp_book_text (K : PySem.W.Frag) : Sp := fun vs H Q E => match vs with
  | [.ref b] => ∃ R W, BookAt K H b R W ∧ ∀ R' W' H', Same H H' → R'.Pairwise (fun x y => x.num < y.num) → W'.Pairwise (fun x y => code x < code y) → (∀ x, x ∈ R' ↔ x ∈ R) → (∀ x, x ∈ W' ↔ x ∈ W) → (∀ x, x ∈ R → x.ok) → (∀ x, x ∈ W → SpanOk x.1 x.2) → R'.length ≤ 2000 → W'.length ≤ 12 → Q (.str (textOf (linesOf R' W'))) H'
  | _ => False
theorem sc_book_text : FnScope ["book", "lines", "ring", "begin", "end"] ["book"] (defScope s_book_text) := ⟨rfl, rfl, rfl, by decide +kernel, rfl, by decide +kernel, by decide +kernel⟩
theorem okF_book_text {P : Program} {w : World} {K : PySem.W.Frag} {mg : Str → Option Value} {base : Heap} {fd : FuncData} (T : Tx K mg) (F1 : FunD K "book_text" "book_text" (defArgs s_book_text) (defBody s_book_text) (defScope s_book_text) [] [] (He.ga K "book_text") fd) : FnOk P w K mg base (L2.CX P w) 3 (He.ga K "book_text") fd ["book"] (sp_book_text K) := by
  have c_Book_rings : Fp P w K mg base 1 (He.ga K "Book") "rings" (sp_Book_rings K) := ⟨⟨_, _, ok_Book_rings T, T.p_Book_rings⟩, T.c_Book⟩
  have c_Book_watches : Fp P w K mg base 1 (He.ga K "Book") "watches" (sp_Book_watches K) := ⟨⟨_, _, ok_Book_watches T, T.p_Book_watches⟩, T.c_Book⟩
  refine F1.ok sc_book_text (fun vs H Q E h => ?_) (fun cdv A outer s H vs Q E hr h => ?_)
  · unfold sp_book_text at h
    split at h
    · rfl
    · exact h.elim
  · unfold sp_book_text at h
    split at h
    rotate_left
    · exact h.elim
    · rename_i b
      refine ⟨_, (pss_cons (ps_set (i := 1) sc_book_text.nd rfl (Or.inl rfl) (pe_op (k_add K) (pe_lc (own := [("ring", 2)]) (g := gName 2) (tt := tYes) rfl sc_book_text.nd (pi_tup (e_p c_Book_rings hr (e_v 0))) (blkOk_by (own := [("ring", 2)]) (N := ["book", "lines", "ring", "begin", "end"]) (sc := defScope s_book_text) (by decide +kernel)) (fun _ _ _ _ _ => (pg_name (i := 2) sc_book_text.nd rfl (Or.inl rfl))) (fun _ _ _ _ _ => pts_nil) (fun _ _ _ _ _ => (e_joined (PJ.cons pe_str (PJ.cons (e_fmtO T.fm_Moment T.o_Moment___str__ (ok_Moment___str__ T) hr (e_v 2)) PJ.nil))))) (pe_lc (own := [("begin", 3), ("end", 4)]) (tt := tYes) rfl sc_book_text.nd (pi_tup (e_p c_Book_watches hr (e_v 0))) (blkOk_by (own := [("begin", 3), ("end", 4)]) (N := ["book", "lines", "ring", "begin", "end"]) (sc := defScope s_book_text) (by decide +kernel)) (fun _ _ _ _ _ => (kg_tup K (n := 2) rfl (fgs_cons (pg_name (i := 3) sc_book_text.nd rfl (Or.inl rfl)) (fgs_cons (pg_name (i := 4) sc_book_text.nd rfl (Or.inl rfl)) fgs_nil)))) (fun _ _ _ _ _ => pts_nil) (fun _ _ _ _ _ => (e_joined (PJ.cons pe_str (PJ.cons (e_fmtO T.fm_Moment T.o_Moment___str__ (ok_Moment___str__ T) hr (e_v 3)) (PJ.cons pe_str (PJ.cons (e_fmtO T.fm_Moment T.o_Moment___str__ (ok_Moment___str__ T) hr (e_v 4)) PJ.nil)))))))))
        (pss_one (ps_ret (e_if (t_cmp (op_neD hr.units) (e_v 1) (pe_lst pa_nil) (nomark _)) (e_join pe_str (e_v 1)) pe_str)))), ?_⟩
      obtain ⟨R, W, ⟨dx, r, s1, rs, ws, bp, rfl, rfl⟩, h⟩ := h
      walk_at "n"
      refine ⟨⟨_, _, bp.at_⟩, dx, r, s1, rs, ws, bp, fun t H1 us e1 ht hu hlt hul => ?_⟩
      walk_at "n"
      have bp1 := bp.same e1
      have hm1 : ∀ u, u ∈ us → MoAt K H1 u.1 u.2 ∧ u.2.ok := fun u z => bp1.r.mo u ((hu u).mp z)
      have hnr := bp.nr
      have hnw := bp.nw
      refine ⟨_, rfl, ⟨_, ht⟩, fun D hD => lcW (walk_tup (K := K) (a := t) (xs := us.map fun t => V.ref t.1)) (fun i v _ => ∃ u, us[i]? = some u ∧ v = V.str (ringLine u.2)) (by rw [List.length_map]; omega) hD (fun H' s => st s ht) (fun _ _ _ _ _ z => z) ?_ gm_name ?_⟩
      · rintro j x H2 H3 acc Nx hj s3 hd' ⟨rfl, hx⟩ nx
        obtain ⟨u, hu1, rfl⟩ := ref_at hx
        obtain ⟨hm, ok⟩ := hm1 u (List.mem_of_getElem? hu1)
        have hle := ringLine_len ok
        unfold ringLine at hle
        have hm := hm.same s3
        refine ⟨rfl, ?_⟩
        walk_at "n"
        refine ⟨_, rfl, by decide, ?_⟩
        walk_at "n"
        refine ⟨hm.ins, u.2, hm, ok, _, rfl, ?_⟩
        walk_at "n"
        refine ⟨_, rfl, line_of (by omega), ?_⟩
        walk_at "n"
        exact nx _ _ (Same.refl _) ⟨u, hu1, by unfold ringLine; rfl⟩
      intro ys H2 hl hy s2 hd2
      have hl' : ys.length = us.length := by rw [hl, List.length_map]
      have hy' : ∀ (i : Nat) y, ys[i]? = some y → ∃ a, us[i]? = some a ∧ y = (fun u : Addr × Mo => V.str (ringLine u.2)) a := fun i y h => hy i y h
      have ey := ys_get hl' hy'
      have ey : ys = ((conT id us).map ringLine).map V.str := by
        rw [ey]
        unfold conT
        rw [List.map_map, List.map_map]
        rfl
      rw [ey] at hd2
      walk_at "n"
      have bp2 := bp1.same s2
      refine ⟨⟨_, _, bp2.at_⟩, dx, r, s1, rs, ws, bp2, fun t2 H3 vs e3 ht2 hv hlv hvl => ?_⟩
      walk_at "n"
      have bp3 := bp2.same e3
      refine ⟨_, rfl, ⟨_, ht2⟩, fun D2 hD2 => lcW (walk_tup (K := K) (a := t2) (xs := vs.map fun t => V.ref t.1)) (fun i v _ => ∃ u, vs[i]? = some u ∧ v = V.str (watchLine (wc u.2))) (by rw [List.length_map]; omega) hD2 (fun H' s => st s ht2) (fun _ _ _ _ _ z => z) ?_ ?_ ?_⟩
      · rintro j x H4 H5 acc Nx hj s4 hd' ⟨rfl, hx⟩ nx
        obtain ⟨u, hu1, rfl⟩ := ref_at hx
        have hw := (bp3.s.at_ u ((hv u).mp (List.mem_of_getElem? hu1))).same s4
        have hle := watchLine_len hw.ok.o1 hw.ok.o2
        unfold watchLine at hle
        simp only [Str.length_append] at hle
        walk_at "n"
        refine ⟨_, hw.tup, rfl, ?_⟩
        walk_at "n"
        refine ⟨rfl, ?_⟩
        walk_at "n"
        refine ⟨_, rfl, by decide, ?_⟩
        walk_at "n"
        refine ⟨hw.m1.ins, _, hw.m1, hw.ok.o1, _, rfl, ?_⟩
        walk_at "n"
        refine ⟨_, rfl, line_of (by simp only [Str.length_append]; omega), ?_⟩
        walk_at "n"
        refine ⟨_, rfl, line_of (by simp only [Str.length_append]; omega), ?_⟩
        walk_at "n"
        refine ⟨hw.m2.ins, _, hw.m2, hw.ok.o2, _, rfl, ?_⟩
        walk_at "n"
        refine ⟨_, rfl, line_of (by simp only [Str.length_append]; omega), ?_⟩
        walk_at "n"
        exact nx _ _ (Same.refl _) ⟨u, hu1, by unfold watchLine wc; rfl⟩
      · exact gm_t2
      intro ys2 H4 hl2 hy2 s4 hd4
      have hl2' : ys2.length = vs.length := by rw [hl2, List.length_map]
      have hy2' : ∀ (i : Nat) y, ys2[i]? = some y → ∃ a, vs[i]? = some a ∧ y = (fun u : Addr × WT => V.str (watchLine (wc u.2))) a := fun i y h => hy2 i y h
      have ey2 := ys_get hl2' hy2'
      have ey2 : ys2 = ((conT wc vs).map watchLine).map V.str := by
        rw [ey2]
        unfold conT
        rw [List.map_map, List.map_map]
        rfl
      rw [ey2] at hd4
      walk_at "n"
      have hd3 : H4 D = _ := s4 _ _ (e3 _ _ hd2)
      refine .inl ⟨_, _, _, _, rfl, rfl, hd3, hd4, ?_, fun p hp => ?_⟩
      · rw [List.length_map, List.length_map, List.length_map, List.length_map, conT_len, conT_len, sizeLine_eq]
        omega
      walk_at "n"
      have hu2 : ∀ x, x ∈ conT id us → x.ok := fun x hx => by
        obtain ⟨u, hu1, rfl⟩ := mem_conT.mp hx
        exact (hm1 u hu1).2
      have hv2 : ∀ x, x ∈ conT wc vs → SpanOk x.1 x.2 := fun x hx => by
        obtain ⟨u, hu1, rfl⟩ := mem_conT.mp hx
        exact (bp3.s.at_ u ((hv u).mp hu1)).ok
      have ezs : ((conT id us).map ringLine).map V.str ++ ((conT wc vs).map watchLine).map V.str = (linesOf (conT id us) (conT wc vs)).map V.str := by
        unfold linesOf
        rw [List.map_append]
      rw [ezs]
      have hlen : (linesOf (conT id us) (conT wc vs)).length ≤ 2012 := by
        unfold linesOf
        rw [List.length_append, List.length_map, List.length_map, conT_len, conT_len]
        omega
      have hb : ∀ z ∈ linesOf (conT id us) (conT wc vs), z.length ≤ 139 ∧ PyData.strOk z = true := fun z hz => by
        rcases List.mem_append.mp hz with hz | hz
        · obtain ⟨q, hq, rfl⟩ := List.mem_map.mp hz
          have := hu2 q hq
          exact ⟨Nat.le_trans (ringLine_len this) (by decide), ringLine_ok this⟩
        · obtain ⟨⟨q, p⟩, hq, rfl⟩ := List.mem_map.mp hz
          have := hv2 _ hq
          exact ⟨watchLine_len this.o1 this.o2, watchLine_ok this.o1 this.o2⟩
      have hsum := lines_sum (B := 139) _ fun z hz => (hb z hz).1
      have fin : ∀ H', Same H4 H' → Q (.str (textOf (linesOf (conT id us) (conT wc vs)))) H' := fun H' s =>
        h _ _ _ (e1.trans (s2.trans (e3.trans (s4.trans s)))) (con_sorted (fun _ => rfl) hlt) (con_sorted (fun _ => rfl) hlv) (fun x => mem_con_congr hu x) (fun x => mem_con_congr hv x) (fun x hx => hu2 x ((mem_con_congr hu x).mpr hx)) (fun x hx => hv2 x ((mem_con_congr hv x).mpr hx)) (by rw [conT_len]; omega) (by rw [conT_len]; omega)
      generalize linesOf (conT id us) (conT wc vs) = zs at *
      refine ⟨line_of (by simp), fun p2 hp2 => ?_⟩
      walk_at "n"
      obtain ⟨d1, d2, n1, n2, n3, n4, n5⟩ := ne_strs (K := K) (SqL.of (upd_keep (u := .lst []) hp2 upd_same)) (SqL.of upd_same) (fun z hz => (hb z hz).2)
      refine ⟨d1, d2, n1, n2, n3, n4, ?_⟩
      rw [n5]
      walk_at "n"
      have s5 : Same H4 (upd (upd H4 p (.lst (zs.map V.str))) p2 (.lst [])) := sto (snew hp) hp2
      have r := fin _ s5
      unfold textOf at r
      refine cond_b (fun hz => ?_) (fun hz => ?_)
      · walk_at "n"
        rw [if_pos hz] at r
        exact r
      · walk_at "n"
        rw [if_neg (by rw [hz]; decide)] at r
        refine ⟨zs, .inl (SqL.of (upd_keep hp2 upd_same)), ?_, r⟩
        have l1 : ("\n" : Str).length = 1 := by decide
        rw [l1]
        omega
theorem ok_book_text {P : Program} {w : World} {K : PySem.W.Frag} {mg : Str → Option Value} {base : Heap} (T : Tx K mg) : F.Fr P w K mg base 3 (He.ga K "book_text") (sp_book_text K) := (T.f_book_text).elim fun fd F1 => fr_of F1 (okF_book_text T F1) (fun _ _ _ _ _ _ us hl => match us, hl with | [_], _ => rfl)
end G
set_option maxHeartbeats 400000
namespace G
open PySem PySem.Spec PyProof.Rows L2 F
local macro_rules | `(tactic| walk_at "side") => `(tactic| first | rfl | decide | omega | assumption | (unfold CMul; omega) | (unfold CPow; omega) | (unfold CDiv; omega))
local macro_rules | `(tactic| walk_at "hp") => `(tactic| first | assumption | exact upd_same | (refine upd_keep (by assumption) ?_; walk_at "hp") | (refine sm (by assumption) ?_; walk_at "hp"))
local macro_rules | `(tactic| walk_at "n") => `(tactic| ((try conv => whnf); repeat ((first | with_reducible refine cond_t rfl ?_ | with_reducible refine cond_f rfl ?_ | with_reducible refine cond_n ?_); (try conv => whnf))))
local macro_rules | `(tactic| walk_at "go") => `(tactic| (walk_at "n"; repeat (refine And.intro ?side ?_; (case side => walk_at "side"); walk_at "n")))

open M TL
/-- the words z1 z2 tell q -/
structure MoW (z1 z2 : Str) (q : Mo) : Prop where
  l1 : z1.length + 2 ≤ sizeLine
  l2 : z2.length + 2 ≤ sizeLine
  d : dateIn z1 = some (q.y, q.m, q.d)
  t : timeIn z2 = some (q.h, q.i)
  ok : q.ok
def sp_moment_in (K : PySem.W.Frag) : Sp := fun vs H Q E => match vs with
  | [.ref l, .int at0] => ∃ (zs : List Str) (k : Nat) (z1 z2 : Str) (q : Mo), at0 = k ∧ SqL K H l (zs.map V.str) ∧ zs[k]? = some z1 ∧ zs[k + 1]? = some z2 ∧ zs.length ≤ 1000000 ∧ MoW z1 z2 q ∧ ∀ t a H', Same H H' → H' t = some (.tup [.ref a, .non]) → MoAt K H' a q → Q (.ref t) H'
  | _ => False
theorem sc_moment_in : FnScope ["words", "at", "date", "time"] ["words", "at"] (defScope s_moment_in) := ⟨rfl, rfl, rfl, by decide +kernel, rfl, by decide +kernel, by decide +kernel⟩
theorem okF_moment_in {P : Program} {w : World} {K : PySem.W.Frag} {mg : Str → Option Value} {base : Heap} {fd : FuncData} (T : Tx K mg) (F1 : FunD K "moment_in" "moment_in" (defArgs s_moment_in) (defBody s_moment_in) (defScope s_moment_in) [] [] (He.ga K "moment_in") fd) : FnOk P w K mg base (L2.CX P w) 6 (He.ga K "moment_in") fd ["words", "at"] (sp_moment_in K) := by
  have c_date_in : Fc P w K mg base 4 "date_in" (sp_date_in K) := ⟨_, ok_date_in T, T.g_date_in, (T.f_date_in).elim fun _ z => z.kp⟩
  have c_time_in : Fc P w K mg base 4 "time_in" (sp_time_in K) := ⟨_, ok_time_in T, T.g_time_in, (T.f_time_in).elim fun _ z => z.kp⟩
  have c_Moment : Fk P w K mg base 4 "Moment" (He.ga K "Moment") (sp_Moment___init__ K) := ⟨⟨_, ok_Moment___init__ T, T.mk_Moment⟩, T.g_Moment⟩
  refine F1.ok sc_moment_in (fun vs H Q E h => ?_) (fun cdv A outer s H vs Q E hr h => ?_)
  · unfold sp_moment_in at h
    split at h
    · rfl
    · exact h.elim
  · unfold sp_moment_in at h
    split at h
    rotate_left
    · exact h.elim
    · rename_i l at0
      refine ⟨_, (pss_cons (ps_set (i := 2) sc_moment_in.nd rfl (Or.inl rfl) (e_if (t_cmp o_lt (e_v 1) (kk_len K T.b_len (e_v 0)) (nomark _)) (e_c c_date_in hr (pa_cons (pe_ix (k_ixL K) (e_v 0) (e_v 1) (fun _ _ => rfl)) pa_nil)) pe_non))
        (pss_cons (s_if (t_cmp o_is (e_v 2) pe_non (nomark _)) (pss_one (ps_ret (pe_tup (pa_cons pe_non (pa_cons (e_if (t_cmp o_lt (e_v 1) (kk_len K T.b_len (e_v 0)) (nomark _)) (e_v 1) (kk_len K T.b_len (e_v 0))) pa_nil))))) pss_nil)
        (pss_cons (ps_set (i := 3) sc_moment_in.nd rfl (Or.inl rfl) (e_if (t_cmp o_lt (pe_op (k_add K) (e_v 1) pe_int) (kk_len K T.b_len (e_v 0)) (nomark _)) (e_c c_time_in hr (pa_cons (pe_ix (k_ixL K) (e_v 0) (pe_op (k_add K) (e_v 1) pe_int) (fun _ _ => rfl)) pa_nil)) pe_non))
        (pss_cons (s_if (t_cmp o_is (e_v 3) pe_non (nomark _)) (pss_one (ps_ret (pe_tup (pa_cons pe_non (pa_cons (pe_op (k_add K) (e_v 1) pe_int) pa_nil))))) pss_nil)
        (pss_one (ps_ret (pe_tup (pa_cons (e_k c_Moment hr (pa_cons (pe_ix (k_ixL K) (e_v 2) pe_int (fun _ _ => rfl)) (pa_cons (pe_ix (k_ixL K) (e_v 2) pe_int (fun _ _ => rfl)) (pa_cons (pe_ix (k_ixL K) (e_v 2) pe_int (fun _ _ => rfl)) (pa_cons (pe_ix (k_ixL K) (e_v 3) pe_int (fun _ _ => rfl)) (pa_cons (pe_ix (k_ixL K) (e_v 3) pe_int (fun _ _ => rfl)) pa_nil)))))) (pa_cons pe_non pa_nil))))))))), ?_⟩
      obtain ⟨zs, k, z1, z2, q, rfl, hl, h1, h2, hz, mw, h⟩ := h
      have k1 : k + 1 < zs.length := by
        cases Nat.lt_or_ge (k + 1) zs.length with
        | inl z => exact z
        | inr z => rw [List.getElem?_eq_none z] at h2; cases h2
      have a1 : atI (zs.map V.str) (k : Int) = some (.str z1) := by
        rw [atI_lt (by omega) (by simp; omega), List.getElem?_map]
        simp [h1]
      have a2 : atI (zs.map V.str) ((k : Int) + 1) = some (.str z2) := by
        rw [atI_lt (by omega) (by simp; omega), List.getElem?_map]
        have e : ((k : Int) + 1).toNat = k + 1 := by omega
        simp [e, h2]
      walk_at "n"
      refine .inl ⟨_, .inl hl, ?_⟩
      walk_at "n"
      refine cond_q (by rw [List.length_map]; omega) ?_
      walk_at "n"
      refine ⟨_, _, hl, a1, ?_⟩
      walk_at "n"
      refine ⟨mw.l1, fun e => by rw [mw.d] at e; (cases e), fun y m d e p H1 s1 hp1 e1 => ?_⟩
      rw [mw.d] at e
      cases e
      walk_at "n"
      have hl1 := sl s1 hl
      refine .inl ⟨_, .inl hl1, ?_⟩
      walk_at "n"
      refine cond_q (by rw [List.length_map]; omega) ?_
      walk_at "n"
      refine ⟨_, _, hl1, a2, ?_⟩
      walk_at "n"
      refine ⟨mw.l2, fun e => by rw [mw.t] at e; (cases e), fun h0 i0 e p2 H2 s2 hp2 e2 => ?_⟩
      rw [mw.t] at e
      cases e
      walk_at "n"
      have d1 := SqL.of (K := K) (s2 _ _ e1)
      have d2 := SqL.of (K := K) e2
      refine ⟨_, _, d1, rfl, ?_⟩
      walk_at "n"
      refine ⟨_, _, d1, rfl, ?_⟩
      walk_at "n"
      refine ⟨_, _, d1, rfl, ?_⟩
      walk_at "n"
      refine ⟨_, _, d2, rfl, ?_⟩
      walk_at "n"
      refine ⟨_, _, d2, rfl, ?_⟩
      walk_at "n"
      intro x dx hx hdx ne
      refine ⟨⟨dx, upd_same, fun H3 s3 e3 => ⟨rfl, ?_⟩⟩, mw.ok⟩
      have s3 : Same H2 H3 := s3.made hx hdx
      have hm : MoAt K H3 x q := ⟨dx, e3⟩
      walk_at "n"
      refine ⟨line_of (by simp), fun p3 hp3 => ?_⟩
      walk_at "n"
      exact h p3 x _ (sto (s1.trans (s2.trans s3)) hp3) upd_same (hm.same (snew hp3))
theorem ok_moment_in {P : Program} {w : World} {K : PySem.W.Frag} {mg : Str → Option Value} {base : Heap} (T : Tx K mg) : F.Fr P w K mg base 6 (He.ga K "moment_in") (sp_moment_in K) := (T.f_moment_in).elim fun fd F1 => fr_of F1 (okF_moment_in T F1) (fun _ _ _ _ _ _ us hl => match us, hl with | [_, _], _ => rfl)
def sp_moment_of (K : PySem.W.Frag) : Sp := fun vs H Q E => match vs with
  | [.int _, .ref l, .int at0] => ∃ (zs : List Str) (k : Nat) (z1 z2 : Str) (q : Mo), at0 = k ∧ SqL K H l (zs.map V.str) ∧ zs[k]? = some z1 ∧ zs[k + 1]? = some z2 ∧ zs.length ≤ 1000000 ∧ MoW z1 z2 q ∧ ∀ a H', Same H H' → MoAt K H' a q → Q (.ref a) H'
  | _ => False
theorem sc_moment_of : FnScope ["line", "words", "at", "moment", "wrong"] ["line", "words", "at"] (defScope s_moment_of) := ⟨rfl, rfl, rfl, by decide +kernel, rfl, by decide +kernel, by decide +kernel⟩
theorem okF_moment_of {P : Program} {w : World} {K : PySem.W.Frag} {mg : Str → Option Value} {base : Heap} {fd : FuncData} (T : Tx K mg) (F1 : FunD K "moment_of" "moment_of" (defArgs s_moment_of) (defBody s_moment_of) (defScope s_moment_of) [] [] (He.ga K "moment_of") fd) : FnOk P w K mg base (L2.CX P w) 7 (He.ga K "moment_of") fd ["line", "words", "at"] (sp_moment_of K) := by
  have c_moment_in : Fc P w K mg base 6 "moment_in" (sp_moment_in K) := ⟨_, ok_moment_in T, T.g_moment_in, (T.f_moment_in).elim fun _ z => z.kp⟩
  refine F1.ok sc_moment_of (fun vs H Q E h => ?_) (fun cdv A outer s H vs Q E hr h => ?_)
  · unfold sp_moment_of at h
    split at h
    · rfl
    · exact h.elim
  · unfold sp_moment_of at h
    split at h
    rotate_left
    · exact h.elim
    · rename_i ln l at0
      refine ⟨_, (pss_cons (ps_asg (e_c c_moment_in hr (pa_cons (e_v 1) (pa_cons (e_v 2) pa_nil))) (kg_tup K (n := 2) rfl (fgs_cons (pg_name (i := 3) sc_moment_of.nd rfl (Or.inl rfl)) (fgs_cons (pg_name (i := 4) sc_moment_of.nd rfl (Or.inl rfl)) fgs_nil))))
        (pss_cons (s_if (t_cmp o_isnot (e_v 4) pe_non (nomark _)) (pss_one ps_never) pss_nil)
        (pss_one (ps_ret (e_v 3))))), ?_⟩
      obtain ⟨zs, k, z1, z2, q, rfl, hl, h1, h2, hz, mw, h⟩ := h
      walk_at "n"
      refine ⟨zs, k, z1, z2, q, rfl, hl, h1, h2, hz, mw, fun t a H1 s1 e1 hm => ?_⟩
      walk_at "n"
      refine ⟨_, .inl (.inl e1), rfl, ?_⟩
      walk_at "n"
      exact h a H1 s1 hm
theorem ok_moment_of {P : Program} {w : World} {K : PySem.W.Frag} {mg : Str → Option Value} {base : Heap} (T : Tx K mg) : F.Fr P w K mg base 7 (He.ga K "moment_of") (sp_moment_of K) := (T.f_moment_of).elim fun fd F1 => fr_of F1 (okF_moment_of T F1) (fun _ _ _ _ _ _ us hl => match us, hl with | [_, _, _], _ => rfl)
def sp_need_end (K : PySem.W.Frag) : Sp := fun vs H Q E => match vs with
  | [.int _, .ref l, .int many] => ∃ xs, SqL K H l xs ∧ xs.length ≤ many ∧ Q .non H
  | _ => False
theorem sc_need_end : FnScope ["line", "words", "many"] ["line", "words", "many"] (defScope s_need_end) := ⟨rfl, rfl, rfl, by decide +kernel, rfl, by decide +kernel, by decide +kernel⟩
theorem okF_need_end {P : Program} {w : World} {K : PySem.W.Frag} {mg : Str → Option Value} {base : Heap} {fd : FuncData} (T : Tx K mg) (F1 : FunD K "need_end" "need_end" (defArgs s_need_end) (defBody s_need_end) (defScope s_need_end) [] [] (He.ga K "need_end") fd) : FnOk P w K mg base (L2.CX P w) 1 (He.ga K "need_end") fd ["line", "words", "many"] (sp_need_end K) := by
  refine F1.ok sc_need_end (fun vs H Q E h => ?_) (fun cdv A outer s H vs Q E hr h => ?_)
  · unfold sp_need_end at h
    split at h
    · rfl
    · exact h.elim
  · unfold sp_need_end at h
    split at h
    rotate_left
    · exact h.elim
    · rename_i ln l many
      refine ⟨_, (pss_one (s_if (t_cmp o_gt (kk_len K T.b_len (e_v 1)) (e_v 2) (nomark _)) (pss_one ps_never) pss_nil)), ?_⟩
      obtain ⟨xs, hl, hn, h⟩ := h
      walk_at "n"
      refine .inl ⟨_, .inl hl, ?_⟩
      walk_at "n"
      refine cond_nq (by omega) ?_
      walk_at "n"
      exact h
theorem ok_need_end {P : Program} {w : World} {K : PySem.W.Frag} {mg : Str → Option Value} {base : Heap} (T : Tx K mg) : F.Fr P w K mg base 1 (He.ga K "need_end") (sp_need_end K) := (T.f_need_end).elim fun fd F1 => fr_of F1 (okF_need_end T F1) (fun _ _ _ _ _ _ us hl => match us, hl with | [_, _, _], _ => rfl)
/-- the words of an entry: one moment or two -/
structure EntW (zs : List Str) (e : List Mo) : Prop where
  n : e.length = 1 ∨ e.length = 2
  hd : zs[0]? = some (if e.length = 1 then ("ring" : Str) else "watch")
  len : zs.length = 1 + 2 * e.length
  mo : ∀ (k : Nat) q, e[k]? = some q → ∃ z1 z2, zs[1 + 2 * k]? = some z1 ∧ zs[2 + 2 * k]? = some z2 ∧ MoW z1 z2 q
def sp_read_entry (K : PySem.W.Frag) : Sp := fun vs H Q E => match vs with
  | [.int _, .ref l] => ∃ (zs : List Str) (e : List Mo), SqL K H l (zs.map V.str) ∧ EntW zs e ∧ ∀ p H' (us : List (Addr × Mo)), Same H H' → H p = none → H' p = some (.lst (us.map fun t => V.ref t.1)) → us.map (fun t => t.2) = e → (∀ u, u ∈ us → MoAt K H' u.1 u.2) → Q (.ref p) H'
  | _ => False
theorem sc_read_entry : FnScope ["line", "words", "many", "found", "place"] ["line", "words"] (defScope s_read_entry) := ⟨rfl, rfl, rfl, by decide +kernel, rfl, by decide +kernel, by decide +kernel⟩
theorem okF_read_entry {P : Program} {w : World} {K : PySem.W.Frag} {mg : Str → Option Value} {base : Heap} {fd : FuncData} (T : Tx K mg) (F1 : FunD K "read_entry" "read_entry" (defArgs s_read_entry) (defBody s_read_entry) (defScope s_read_entry) [] [] (He.ga K "read_entry") fd) : FnOk P w K mg base (L2.CX P w) 8 (He.ga K "read_entry") fd ["line", "words"] (sp_read_entry K) := by
  have c_moment_of : Fc P w K mg base 7 "moment_of" (sp_moment_of K) := ⟨_, ok_moment_of T, T.g_moment_of, (T.f_moment_of).elim fun _ z => z.kp⟩
  have c_need_end : Fc P w K mg base 1 "need_end" (sp_need_end K) := ⟨_, ok_need_end T, T.g_need_end, (T.f_need_end).elim fun _ z => z.kp⟩
  refine F1.ok sc_read_entry (fun vs H Q E h => ?_) (fun cdv A outer s H vs Q E hr h => ?_)
  · unfold sp_read_entry at h
    split at h
    · rfl
    · exact h.elim
  · unfold sp_read_entry at h
    split at h
    rotate_left
    · exact h.elim
    · rename_i ln l
      refine ⟨_, (pss_cons (ps_set (i := 2) sc_read_entry.nd rfl (Or.inl rfl) (pe_dget1 (hu_of hr) (pe_disp (pps_cons pe_str pe_int (pps_cons pe_str pe_int pps_nil)) (by rfl) (by rfl) (fun z => by cases z) (by decide)) (pe_ix (k_ixL K) (e_v 1) pe_int (fun _ _ => rfl)) ⟨rfl, rfl, rfl, rfl⟩))
        (pss_cons (s_if (t_cmp o_is (e_v 2) pe_non (nomark _)) (pss_one ps_never) pss_nil)
        (pss_cons (ps_setLc (i := 3) (own := [("place", 4)]) (g := gName 4) (tt := tYes) rfl sc_read_entry.nd rfl rfl (sw_true rfl rfl rfl (by decide +kernel)) (pi_range1 rfl T.b_range (pa_cons (e_v 2) pa_nil)) (blkOk_by (own := [("place", 4)]) (N := ["line", "words", "many", "found", "place"]) (sc := defScope s_read_entry) (by decide +kernel)) (fun _ _ _ _ _ => (pg_name (i := 4) sc_read_entry.nd rfl (Or.inl rfl))) (fun _ _ _ _ _ => pts_nil) (fun _ _ _ _ _ => (e_c c_moment_of hr (pa_cons (e_v 0) (pa_cons (e_v 1) (pa_cons (pe_op (k_add K) pe_int (pe_op o_mul pe_int (e_v 4))) pa_nil))))))
        (pss_cons (ps_expr (e_c c_need_end hr (pa_cons (e_v 0) (pa_cons (e_v 1) (pa_cons (pe_op (k_add K) pe_int (pe_op o_mul pe_int (e_v 2))) pa_nil)))))
        (pss_one (ps_ret (e_v 3))))))), ?_⟩
      obtain ⟨zs, e, hl, ew, h⟩ := h
      have hn := ew.n
      have hz := ew.len
      have hw : valV (mergeK [] [(.inr "ring", .int 1), (.inr "watch", .int 2)]) (.inr (if e.length = 1 then ("ring" : Str) else "watch")) = some (.int e.length) := by
        rcases hn with hn | hn <;> rw [hn] <;> decide +kernel
      have a0 : atI (zs.map V.str) 0 = some (.str (if e.length = 1 then ("ring" : Str) else "watch")) := by
        rw [atI_lt (by omega) (by simp; omega), List.getElem?_map]
        show Option.map V.str zs[0]? = _
        rw [ew.hd]
        rfl
      walk_at "n"
      intro p hp
      walk_at "n"
      refine ⟨upd_same, [(.inr "ring", .int 1), (.inr "watch", .int 2)], rfl, by decide, ?_⟩
      have s0 : Same H (upd (upd H p (.dK [])) p (.dK (mergeK [] [(.inr "ring", .int 1), (.inr "watch", .int 2)]))) := sput (snew hp) hp
      walk_at "n"
      refine ⟨_, rfl, .inl ⟨_, .inl upd_same⟩, ?_⟩
      walk_at "n"
      refine ⟨_, _, sl s0 hl, a0, ?_⟩
      walk_at "n"
      refine ⟨some (.int e.length), ?_, ?_⟩
      · rw [← hw]
        exact DGet.k (k := .inr _) upd_same
      generalize upd (upd H p (.dK [])) p (.dK (mergeK [] [(.inr "ring", .int 1), (.inr "watch", .int 2)])) = H0 at *
      walk_at "n"
      refine ⟨_, rfl, by omega, by omega, fun D hD => lcW (walk_range (lo := 0) (n := e.length)) (fun i v H => ∃ t : Addr × Mo, (e[i]? = some t.2 ∧ MoAt K H t.1 t.2) ∧ v = .ref t.1) (by omega) hD (fun _ _ => trivial) (fun i y H H' s z => ?_) ?_ gm_name ?_⟩
      · obtain ⟨t, ⟨h1, h2⟩, h3⟩ := z
        exact ⟨t, ⟨h1, h2.same s⟩, h3⟩
      · rintro i x H1 H2 acc Nx hi s1 hd' ⟨rfl, rfl⟩ nx
        obtain ⟨q, hq⟩ : ∃ q, e[i]? = some q := ⟨_, List.getElem?_eq_getElem hi⟩
        obtain ⟨z1, z2, g1, g2, mw⟩ := ew.mo i q hq
        refine ⟨rfl, ?_⟩
        walk_at "n"
        refine ⟨by unfold CMul; omega, ?_⟩
        walk_at "n"
        refine ⟨zs, 1 + 2 * i, z1, z2, q, by omega, sl s1 (sl s0 hl), g1, by rw [← g2]; congr 1; omega, by omega, mw, fun a H3 s3 hm => ?_⟩
        refine nx _ _ s3 ⟨(a, q), ⟨hq, ?_⟩, rfl⟩
        obtain ⟨dx, em⟩ := hm
        exact ⟨dx, hide_at em (s3 _ _ hd') fun z => by cases z⟩
      intro ys H1 hl1 hy s1 hd
      obtain ⟨us, rfl, hus⟩ := ys_ex (fun i y h => hy i y h)
      rw [List.length_map] at hl1
      walk_at "n"
      refine ⟨by unfold CMul; omega, ?_⟩
      walk_at "n"
      refine ⟨_, sl s1 (sl s0 hl), by rw [List.length_map]; omega, ?_⟩
      walk_at "n"
      refine h D H1 us (s0.trans s1) (s0.free hD) hd ?_ fun u hu => ?_
      · refine List.ext_getElem? fun i => ?_
        rw [List.getElem?_map]
        cases e1 : us[i]? with
        | none =>
          have := List.getElem?_eq_none_iff.mp e1
          rw [List.getElem?_eq_none (by omega)]
          rfl
        | some u => exact (hus i u e1).1.symm
      · obtain ⟨i, hi⟩ := List.getElem?_of_mem hu
        exact (hus i u hi).2
theorem ok_read_entry {P : Program} {w : World} {K : PySem.W.Frag} {mg : Str → Option Value} {base : Heap} (T : Tx K mg) : F.Fr P w K mg base 8 (He.ga K "read_entry") (sp_read_entry K) := (T.f_read_entry).elim fun fd F1 => fr_of F1 (okF_read_entry T F1) (fun _ _ _ _ _ _ us hl => match us, hl with | [_, _], _ => rfl)
end G
set_option maxHeartbeats 400000
namespace G
open PySem PySem.Spec PyProof.Rows L2 F
local macro_rules | `(tactic| walk_at "side") => `(tactic| first | rfl | decide | omega | assumption | (unfold CMul; omega) | (unfold CPow; omega) | (unfold CDiv; omega))
local macro_rules | `(tactic| walk_at "hp") => `(tactic| first | assumption | exact upd_same | (refine upd_keep (by assumption) ?_; walk_at "hp") | (refine sm (by assumption) ?_; walk_at "hp"))
local macro_rules | `(tactic| walk_at "n") => `(tactic| ((try conv => whnf); repeat ((first | with_reducible refine cond_t rfl ?_ | with_reducible refine cond_f rfl ?_ | with_reducible refine cond_n ?_); (try conv => whnf))))
local macro_rules | `(tactic| walk_at "go") => `(tactic| (walk_at "n"; repeat (refine And.intro ?side ?_; (case side => walk_at "side"); walk_at "n")))

open M TL
def sp_lines_in (K : PySem.W.Frag) : Sp := fun vs H Q E => match vs with
  | [.str z] => z.length + 2 ≤ sizeLine ∧ (Txt.split z "\n").length ≤ 1000000 ∧ ∀ p H' (ls : List (Addr × List Str)), Same H H' → H p = none → H' p = some (.lst (ls.map fun t => V.ref t.1)) → ls.map (fun t => t.2) = (Txt.split z "\n").map (fun l => Txt.split l " ") → (∀ u, u ∈ ls → H' u.1 = some (.lst (u.2.map V.str))) → Q (.ref p) H'
  | _ => False
theorem sc_lines_in : FnScope ["text", "line"] ["text"] (defScope s_lines_in) := ⟨rfl, rfl, rfl, by decide +kernel, rfl, by decide +kernel, by decide +kernel⟩
theorem okF_lines_in {P : Program} {w : World} {K : PySem.W.Frag} {mg : Str → Option Value} {base : Heap} {fd : FuncData} (T : Tx K mg) (F1 : FunD K "lines_in" "lines_in" (defArgs s_lines_in) (defBody s_lines_in) (defScope s_lines_in) [] [] (He.ga K "lines_in") fd) : FnOk P w K mg base (L2.CX P w) 1 (He.ga K "lines_in") fd ["text"] (sp_lines_in K) := by
  refine F1.ok sc_lines_in (fun vs H Q E h => ?_) (fun cdv A outer s H vs Q E hr h => ?_)
  · unfold sp_lines_in at h
    split at h
    · rfl
    · exact h.elim
  · unfold sp_lines_in at h
    split at h
    rotate_left
    · exact h.elim
    · rename_i z
      refine ⟨_, (pss_cons (s_if (pt_not (t_b (e_is_str T.b_str T.b_isinstance (e_v 0)))) (pss_one ps_never) pss_nil)
        (pss_one (ps_ret (pe_lc (own := [("line", 1)]) (g := gName 1) (tt := tYes) rfl sc_lines_in.nd (pi_list (e_split (e_v 0) pe_str)) (blkOk_by (own := [("line", 1)]) (N := ["text", "line"]) (sc := defScope s_lines_in) (by decide +kernel)) (fun _ _ _ _ _ => (pg_name (i := 1) sc_lines_in.nd rfl (Or.inl rfl))) (fun _ _ _ _ _ => pts_nil) (fun _ _ _ _ _ => (e_split (e_v 1) pe_str)))))), ?_⟩
      obtain ⟨hz, hn, h⟩ := h
      walk_at "n"
      refine ⟨rfl, ?_⟩
      walk_at "n"
      refine ⟨⟨rfl, hz⟩, fun p hp => ?_⟩
      walk_at "n"
      have sq : SqL K (upd H p (.lst ((Txt.split z "\n").map V.str))) p ((Txt.split z "\n").map V.str) := SqL.of upd_same
      refine ⟨_, rfl, ⟨_, sq⟩, fun D hD => lcW (walk_list (K := K) (a := p) (xs := (Txt.split z "\n").map V.str)) (fun i v H => ∃ t : Addr × List Str, ((Txt.split z "\n")[i]?.map (fun l => Txt.split l " ") = some t.2 ∧ H t.1 = some (.lst (t.2.map V.str))) ∧ v = .ref t.1) (by rw [List.length_map]; omega) hD (fun H' s => sl s sq) (fun i y H H' s z => ?_) ?_ gm_name ?_⟩
      · obtain ⟨t, ⟨h1, h2⟩, h3⟩ := z
        exact ⟨t, ⟨h1, s _ _ h2⟩, h3⟩
      · rintro i x H1 H2 acc Nx hi s1 hd' ⟨rfl, hx⟩ nx
        rw [List.getElem?_map] at hx
        cases e1 : (Txt.split z "\n")[i]? with
        | none => rw [e1] at hx; cases hx
        | some l =>
          rw [e1] at hx
          obtain rfl : x = .str l := (Option.some.inj hx).symm
          have hll : l.length ≤ z.length := split_le (y := "\n") (by decide +kernel) (by decide +kernel) (List.mem_of_getElem? e1)
          refine ⟨rfl, ?_⟩
          walk_at "n"
          refine ⟨⟨rfl, by omega⟩, fun p2 hp2 => ?_⟩
          refine nx _ _ (snew hp2) ⟨(p2, Txt.split l " "), ⟨by rw [e1]; rfl, hide_new hp2 hd' upd_same⟩, rfl⟩
      intro ys H1 hl1 hy s1 hd
      obtain ⟨us, rfl, hus⟩ := ys_ex (fun i y h => hy i y h)
      rw [List.length_map, List.length_map] at hl1
      walk_at "n"
      refine h D H1 us ((snew hp).trans s1) ((snew hp).free hD) hd ?_ fun u hu => ?_
      · refine List.ext_getElem? fun i => ?_
        rw [List.getElem?_map, List.getElem?_map]
        cases e1 : us[i]? with
        | none =>
          have := List.getElem?_eq_none_iff.mp e1
          rw [List.getElem?_eq_none (by omega)]
          rfl
        | some u => exact (hus i u e1).1.symm
      · obtain ⟨i, hi⟩ := List.getElem?_of_mem hu
        exact (hus i u hi).2
theorem ok_lines_in {P : Program} {w : World} {K : PySem.W.Frag} {mg : Str → Option Value} {base : Heap} (T : Tx K mg) : F.Fr P w K mg base 1 (He.ga K "lines_in") (sp_lines_in K) := (T.f_lines_in).elim fun fd F1 => fr_of F1 (okF_lines_in T F1) (fun _ _ _ _ _ _ us hl => match us, hl with | [_], _ => rfl)
/-- an entry's list of moments -/
structure EntAt (K : PySem.W.Frag) (H : Hp) (a : Addr) (e : List Mo) : Prop where
  ex : ∃ ms : List (Addr × Mo), H a = some (.lst (ms.map fun t => V.ref t.1)) ∧ ms.map (fun t => t.2) = e ∧ ∀ m, m ∈ ms → MoAt K H m.1 m.2
def nWatch (es : List (List Mo)) : Nat := (es.filter fun e => e.length == 2).length
/-- the text tells the entries es -/
structure ReadW (z : Str) (es : List (List Mo)) : Prop where
  ne : es ≠ []
  ln : (Txt.split z "\n").length = es.length
  at_ : ∀ (i : Nat) e, es[i]? = some e → ∃ l, (Txt.split z "\n")[i]? = some l ∧ EntW (Txt.split l " ") e
  ok : ∀ q p, [q, p] ∈ es → SpanOk q p
  n1 : es.length ≤ 2000
  n2 : nWatch es ≤ 12
theorem EntAt.same {K : PySem.W.Frag} {H H' : Hp} {a : Addr} {e : List Mo} (h : EntAt K H a e) (s : Same H H') : EntAt K H' a e := let ⟨ms, a1, a2, a3⟩ := h.ex; ⟨ms, s _ _ a1, a2, fun m hm => (a3 m hm).same s⟩
theorem EntAt.put {K : PySem.W.Frag} {H : Hp} {a E : Addr} {e : List Mo} {xs : List V} {o : HO} (h : EntAt K H a e) (n : a ≠ E) (hE : H E = some (.lst xs)) : EntAt K (upd H E o) a e := by
  obtain ⟨ms, a1, a2, a3⟩ := h.ex
  refine ⟨ms, by rw [upd_ne n]; exact a1, a2, fun m hm => ?_⟩
  obtain ⟨dx, em⟩ := a3 m hm
  exact ⟨dx, by rw [upd_ne (fun z => by rw [z, hE] at em; cases em)]; exact em⟩
theorem EntAt.sb {K : PySem.W.Frag} {H H' : Hp} {a b C dx : Addr} {e : List Mo} {fs : List (Str × V)} (h : EntAt K H a e) (hb : H b = some (.ins C dx fs)) (hn : fs.lookup ("number" : Str) = none) (s : SB b H H') : EntAt K H' a e := by
  obtain ⟨ms, a1, a2, a3⟩ := h.ex
  exact ⟨ms, s.at a1 hb (fun z => by cases z), a2, fun m hm => (a3 m hm).sb hb hn s⟩
theorem nWatch_take {es : List (List Mo)} {i : Nat} {e : List Mo} (h : es[i]? = some e) : nWatch (es.take (i + 1)) = nWatch (es.take i) + (if e.length = 2 then 1 else 0) := by
  unfold nWatch
  rw [List.take_add_one, h, List.filter_append, List.length_append]
  by_cases z : e.length = 2 <;> simp [z]
theorem nWatch_le (es : List (List Mo)) (i : Nat) : nWatch (es.take i) ≤ nWatch es := by
  unfold nWatch
  exact ((List.take_sublist i es).filter _).length_le
theorem mem_take {α : Type} {es : List α} {i : Nat} {e x : α} (h : es[i]? = some e) : x ∈ es.take (i + 1) ↔ x ∈ es.take i ∨ x = e := by
  rw [List.take_add_one, h, List.mem_append]
  simp
theorem bk_watch (r s : Addr) : (bkF r s).lookup ("watch" : Str) = none := lk_next (by decide +kernel) (lk_next (by decide +kernel) rfl)
/-- Book() -/
theorem book0 {K : PySem.W.Frag} {mg : Str → Option Value} (T : Tx K mg) {H : Hp} {Q : VK} {x dx : Addr} (hx : H x = none) (hdx : H dx = none) (k : ∀ H', Same H H' → BookAt K H' x [] [] → Q (.ref x) H') :
    sp_Book___init__ K ([.ref x] ++ [.ref (dfl0 (fun K => He.ma K (He.ga K "Book") "__init__") 0 K), .ref (dfl0 (fun K => He.ma K (He.ga K "Book") "__init__") 1 K)]) (upd (upd H dx (.own x)) x (.ins (CB K) dx [])) (fun v H2 => v = .non ∧ Q (.ref x) H2) E0 := by
  refine ⟨dx, [], [], upd_same, .inr (T.d_Book___init___0 _), fun t ht => by simp at ht, by decide, .inr (T.d_Book___init___1 _), fun t ht => by simp at ht, by decide, fun H' R W s hb _ _ rl wl => ⟨rfl, ?_⟩⟩
  have e1 : R = [] := List.length_eq_zero_iff.mp (by simpa using rl)
  have e2 : W = [] := List.length_eq_zero_iff.mp (by simpa using wl)
  subst e1 e2
  exact k H' (s.made hx hdx) hb
def sp_read_book (K : PySem.W.Frag) : Sp := fun vs H Q E => match vs with
  | [.str z] => ∃ es : List (List Mo), z.length + 2 ≤ sizeLine ∧ (z = "none" ∧ es = [] ∨ ReadW z es) ∧ ∀ b H' R W, Same H H' → H b = none → BookAt K H' b R W → (∀ x, x ∈ R ↔ [x] ∈ es) → (∀ x, x ∈ W ↔ [x.1, x.2] ∈ es) → Q (.ref b) H'
  | _ => False
theorem sc_read_book : FnScope ["text", "lines", "entries", "line", "words", "book", "entry"] ["text"] (defScope s_read_book) := ⟨rfl, rfl, rfl, by decide +kernel, rfl, by decide +kernel, by decide +kernel⟩
theorem okF_read_book {P : Program} {w : World} {K : PySem.W.Frag} {mg : Str → Option Value} {base : Heap} {fd : FuncData} (T : Tx K mg) (F1 : FunD K "read_book" "read_book" (defArgs s_read_book) (defBody s_read_book) (defScope s_read_book) [] [] (He.ga K "read_book") fd) : FnOk P w K mg base (L2.CX P w) 9 (He.ga K "read_book") fd ["text"] (sp_read_book K) := by
  have c_lines_in : Fc P w K mg base 1 "lines_in" (sp_lines_in K) := ⟨_, ok_lines_in T, T.g_lines_in, (T.f_lines_in).elim fun _ z => z.kp⟩
  have c_need_end : Fc P w K mg base 1 "need_end" (sp_need_end K) := ⟨_, ok_need_end T, T.g_need_end, (T.f_need_end).elim fun _ z => z.kp⟩
  have c_Book__0 : Fk P w K mg base 6 "Book" (He.ga K "Book") (fun vs H Q E => sp_Book___init__ K (vs ++ [(.ref (dfl0 (fun K => He.ma K (He.ga K "Book") "__init__") 0 K)), (.ref (dfl0 (fun K => He.ma K (He.ga K "Book") "__init__") 1 K))]) H Q E) := ⟨⟨_, ok0_Book___init__ T, T.mk_Book⟩, T.g_Book⟩
  have c_read_entry : Fc P w K mg base 8 "read_entry" (sp_read_entry K) := ⟨_, ok_read_entry T, T.g_read_entry, (T.f_read_entry).elim fun _ z => z.kp⟩
  have c_Book_watch : Fm P w K mg base 6 (He.ga K "Book") "watch" (sp_Book_watch K) := ⟨⟨_, ok_Book_watch T, T.m_Book_watch⟩, T.c_Book⟩
  refine F1.ok sc_read_book (fun vs H Q E h => ?_) (fun cdv A outer s H vs Q E hr h => ?_)
  · unfold sp_read_book at h
    split at h
    · rfl
    · exact h.elim
  · unfold sp_read_book at h
    split at h
    rotate_left
    · exact h.elim
    · rename_i z
      refine ⟨_, (pss_cons (ps_set (i := 1) sc_read_book.nd rfl (Or.inl rfl) (e_c c_lines_in hr (pa_cons (e_v 0) pa_nil)))
        (pss_cons (ps_set (i := 2) sc_read_book.nd rfl (Or.inl rfl) (pe_lst pa_nil))
        (pss_cons (s_if (t_cmp o_eq (pe_ix (k_ixL K) (pe_ix (k_ixL K) (e_v 1) pe_int (fun _ _ => rfl)) pe_int (fun _ _ => rfl)) pe_str (nomark _)) (pss_cons (ps_expr (e_c c_need_end hr (pa_cons pe_int (pa_cons (pe_ix (k_ixL K) (e_v 1) pe_int (fun _ _ => rfl)) (pa_cons pe_int pa_nil)))))
        (pss_cons (s_if (t_cmp o_gt (kk_len K T.b_len (e_v 1)) pe_int (nomark _)) (pss_one ps_never) pss_nil)
        (pss_one (ps_ret (e_k0 c_Book__0 hr))))) pss_nil)
        (pss_cons (ps_for (passes_of rfl) rfl (pi_enum (by rfl) T.b_enumerate (pa_cons (e_v 1) pa_nil)) (kg_tup K (n := 2) rfl (fgs_cons (pg_name (i := 3) sc_read_book.nd rfl (Or.inl rfl)) (fgs_cons (pg_name (i := 4) sc_read_book.nd rfl (Or.inl rfl)) fgs_nil)))
          (pss_one (ps_expr (pe_bm PySem.F.plainAttrs_list PySem.F.slot_list_append PySem.F.type_list_append mt_append (e_v 2) (pa_cons (e_c c_read_entry hr (pa_cons (e_v 3) (pa_cons (e_v 4) pa_nil))) pa_nil)))))
        (pss_cons (ps_set (i := 5) sc_read_book.nd rfl (Or.inl rfl) (e_k0 c_Book__0 hr))
        (pss_cons (ps_for (passes_of rfl) rfl (pi_list (e_v 2)) (pg_name (i := 6) sc_read_book.nd rfl (Or.inl rfl))
          (pss_one (s_if (t_cmp o_eq (kk_len K T.b_len (e_v 6)) pe_int (nomark _)) (pss_one (ps_aug (i := 5) sc_read_book.nd rfl (Or.inl rfl) (pe_ix (k_ixL K) (e_v 6) pe_int (fun _ _ => rfl)) (o_ownI T.sf_Book T.o_Book___iadd__ (ok_Book___iadd__ T) hr))) (pss_one (ps_expr (e_m c_Book_watch hr (e_v 5) (pa_cons (pe_ix (k_ixL K) (e_v 6) pe_int (fun _ _ => rfl)) (pa_cons (pe_ix (k_ixL K) (e_v 6) pe_int (fun _ _ => rfl)) pa_nil))))))))
        (pss_one (ps_ret (e_v 5))))))))), ?_⟩
      obtain ⟨es, hz, hw, h⟩ := h
      walk_at "n"
      have hn : (Txt.split z "\n").length ≤ 1000000 := by
        rcases hw with ⟨rfl, rfl⟩ | hw
        · decide +kernel
        · have := hw.ln
          have := hw.n1
          omega
      refine ⟨hz, hn, fun p H1 ls s1 hp1 e1 e2 e3 => ?_⟩
      walk_at "n"
      refine ⟨line_of (by simp), fun E hE => ?_⟩
      have sq0 : SqL K (upd H1 E (.lst [])) p (ls.map fun t => V.ref t.1) := SqL.of (upd_keep hE e1)
      have s2 : Same H (upd H1 E (.lst [])) := sto s1 hE
      walk_at "n"
      rcases hw with ⟨rfl, rfl⟩ | rw
      · have e2' : ls.map (fun t => t.2) = [[("none" : Str)]] := by
          rw [e2]
          decide +kernel
        obtain ⟨t, rfl⟩ : ∃ t, ls = [t] := List.length_eq_one_iff.mp (by have := congrArg List.length e2'; simpa using this)
        have et : t.2 = [("none" : Str)] := by simpa using e2'
        have e3 := upd_keep (u := .lst []) hE (e3 t List.mem_cons_self)
        rw [et] at e3
        refine ⟨_, _, sq0, rfl, ?_⟩
        walk_at "n"
        refine ⟨_, _, SqL.of e3, rfl, ?_⟩
        walk_at "n"
        refine ⟨_, _, sq0, rfl, ?_⟩
        walk_at "n"
        refine ⟨_, SqL.of e3, by simp, ?_⟩
        walk_at "n"
        refine .inl ⟨_, .inl sq0, ?_⟩
        walk_at "n"
        intro x dx hx hdx ne
        have r := book0 T (K := K) (Q := Q) hx hdx fun H' s hb => h x H' [] [] (s2.trans s) (s2.free hx) hb (by simp) (by simp)
        exact r
      · have hls : ls.length = es.length := by
          have := congrArg List.length e2
          rw [List.length_map, List.length_map, rw.ln] at this
          exact this
        -- what stands in the i-th line
        have line : ∀ i e, es[i]? = some e → ∃ t, ls[i]? = some t ∧ EntW t.2 e ∧ t ∈ ls := fun i e he => by
          obtain ⟨l, hl, ew⟩ := rw.at_ i e he
          have := congrArg (·[i]?) e2
          simp only [List.getElem?_map, hl, Option.map_some] at this
          cases ht : ls[i]? with
          | none => rw [ht] at this; cases this
          | some t =>
            rw [ht] at this
            have e4 : t.2 = Txt.split l " " := Option.some.inj this
            exact ⟨t, ht, by rw [e4]; exact ew, List.mem_of_getElem? ht⟩
        obtain ⟨e0, he0⟩ : ∃ e, es[0]? = some e := by
          cases es with
          | nil => exact absurd rfl rw.ne
          | cons a r => exact ⟨a, rfl⟩
        obtain ⟨t0, ht0, ew0, mt0⟩ := line 0 e0 he0
        have a0 : atI (ls.map fun t => V.ref t.1) 0 = some (.ref t0.1) := by
          have : 0 < ls.length := by
            cases ls with
            | nil => simp at ht0
            | cons a r => simp
          rw [atI_lt (by omega) (by simp; omega), List.getElem?_map]
          show Option.map _ ls[0]? = _
          rw [ht0]
          rfl
        have a1 : atI (t0.2.map V.str) 0 = some (.str (if e0.length = 1 then ("ring" : Str) else "watch")) := by
          have := ew0.len
          rw [atI_lt (by omega) (by simp; omega), List.getElem?_map]
          show Option.map V.str t0.2[0]? = _
          rw [ew0.hd]
          rfl
        refine ⟨_, _, sq0, a0, ?_⟩
        walk_at "n"
        refine ⟨_, _, SqL.of (upd_keep hE (e3 t0 mt0)), a1, ?_⟩
        walk_at "n"
        refine cond_nq (by split <;> decide +kernel) ?_
        walk_at "n"
        refine ⟨_, _, rfl, sq0, for_it (walk_enum (K := K) (a := p) (xs := ls.map fun t => V.ref t.1)) (fun i σ H' => (∃ us : List (Addr × List Mo), SB E (upd H1 E (.lst [])) H' ∧ H' E = some (.lst (us.map fun t => V.ref t.1)) ∧ us.map (fun t => t.2) = es.take i ∧ ∀ u, u ∈ us → EntAt K H' u.1 u.2 ∧ u.1 ≠ E) ∧ ∃ v3 v4 v5 v6, σ = [some (.str z), some (.ref p), some (.ref E), v3, v4, v5, v6]) ⟨⟨[], sb_refl, upd_same, by simp, fun u hu => by simp at hu⟩, _, _, _, _, rfl⟩ (fun i σ H' _ z => ?_) ?_ ?_⟩
        · obtain ⟨⟨us, s3, _⟩, _⟩ := z
          refine SqL.of (s3.at2 (upd_keep hE e1) fun q => ?_)
          rw [q, hE] at e1
          cases e1
        · rintro i x σ H2 H3 hi ⟨⟨us, s3, hE3, hus, hms⟩, v3, v4, v5, v6, rfl⟩ ⟨Tp, x1, y1, rfl, hT, rfl, ex1, ey1⟩
          rw [List.length_map] at hi
          obtain ⟨e, he⟩ : ∃ e, es[i]? = some e := ⟨_, List.getElem?_eq_getElem (by omega)⟩
          obtain ⟨t, ht, ew, mt⟩ := line i e he
          have ey1 : (ls.map fun t => V.ref t.1)[i]? = some y1 := ey1
          rw [List.getElem?_map, ht] at ey1
          cases ex1
          cases ey1
          have hul : us.length ≤ 2000 := by
            have := congrArg List.length hus
            rw [List.length_map, List.length_take] at this
            have := rw.n1
            omega
          have nE : Tp ≠ E := fun q => by rw [q, hE3] at hT; cases hT
          have nt : t.1 ≠ E := fun q => by
            have := e3 t mt
            rw [q, hE] at this
            cases this
          have et3 : upd H2 Tp (.tup [.int (i : Nat), .ref t.1]) t.1 = some (.lst (t.2.map V.str)) := upd_keep hT (s3.at2 (upd_keep hE (e3 t mt)) nt)
          walk_at "n"
          refine ⟨_, .inl (.inl upd_same), rfl, ?_⟩
          walk_at "n"
          refine ⟨.inl ⟨rfl, _, SqL.of (upd_keep hT hE3)⟩, ?_⟩
          walk_at "n"
          refine ⟨_, e, SqL.of et3, ew, fun p5 H5 ms s5 hp5 e5 em5 hm5 => ?_⟩
          walk_at "n"
          have hE5 := s5 _ _ (upd_keep (u := .tup [.int (i : Nat), .ref t.1]) hT hE3)
          refine ⟨_, _, _, rfl, rfl, hE5, line_lt (by rw [List.length_map]; omega), ?_⟩
          walk_at "n"
          have np5 : p5 ≠ E := fun q => by rw [q, upd_keep hT hE3] at hp5; cases hp5
          have ent5 : EntAt K H5 p5 e := ⟨ms, e5, em5, hm5⟩
          have s25 : Same H2 H5 := (snew hT).trans s5
          refine ⟨⟨us ++ [(p5, e)], (s3.same s25).upd, ?_, ?_, fun u hu => ?_⟩, _, _, _, _, rfl⟩
          · rw [upd_same, List.map_append]
            rfl
          · rw [List.map_append, hus, List.take_add_one, he]
            rfl
          · rcases List.mem_append.mp hu with hu | hu
            · exact ⟨((hms u hu).1.same s25).put (hms u hu).2 hE5, (hms u hu).2⟩
            · simp at hu
              subst hu
              exact ⟨ent5.put np5 hE5, np5⟩
        · rintro σ H2 ⟨⟨us, s3, hE3, hus, hms⟩, v3, v4, v5, v6, rfl⟩
          rw [List.length_map, hls, List.take_length] at hus
          have s3' : Same H1 H2 := fun b o hb => s3 b o (fun q => by rw [q, hE] at hb; cases hb) (upd_keep hE hb)
          walk_at "n"
          intro b dx hb hdx ne
          refine ⟨dx, [], [], upd_same, .inr (T.d_Book___init___0 _), fun t ht => by simp at ht, by decide, .inr (T.d_Book___init___1 _), fun t ht => by simp at ht, by decide, fun H3 R0 W0 s4 hb4 _ _ rl wl => ⟨rfl, ?_⟩⟩
          have er : R0 = [] := List.length_eq_zero_iff.mp (by simpa using rl)
          have ewl : W0 = [] := List.length_eq_zero_iff.mp (by simpa using wl)
          subst er ewl
          have s4 : Same H2 H3 := s4.made hb hdx
          walk_at "n"
          obtain ⟨dxb, r0, sp0, rs0, ws0, bp0, _, _⟩ := id hb4
          have hE3' := s4 _ _ hE3
          refine ⟨_, rfl, ⟨_, SqL.of hE3'⟩, for_it (walk_list (K := K) (a := E) (xs := us.map fun t => V.ref t.1)) (fun i σ H' => (∃ R W, SB b H3 H' ∧ BookAt K H' b R W ∧ (∀ x, x ∈ R ↔ [x] ∈ es.take i) ∧ (∀ x, x ∈ W ↔ [x.1, x.2] ∈ es.take i) ∧ R.length ≤ i ∧ W.length ≤ nWatch (es.take i)) ∧ ∃ v3 v4 v6, σ = [some (.str z), some (.ref p), some (.ref E), v3, v4, some (.ref b), v6]) ⟨⟨[], [], sb_refl, hb4, by simp, by simp, Nat.le_refl _, by simp [nWatch]⟩, _, _, _, rfl⟩ (fun i σ H' _ z => ?_) ?_ ?_⟩
          · obtain ⟨⟨R, W, s5, _⟩, _⟩ := z
            exact sl_sb (SqL.of hE3') bp0.at_ s5
          · rintro i x σ H4 H5 hi ⟨⟨R, W, s5, bk, hR, hW, nR, nW⟩, v3, v4, v6, rfl⟩ ⟨rfl, hx⟩
            obtain ⟨u, hu1, rfl⟩ := ref_at hx
            have hem : es[i]? = some u.2 := by
              rw [← hus, List.getElem?_map, hu1]
              rfl
            have ent := ((hms u (List.mem_of_getElem? hu1)).1.same s4).sb bp0.at_ (bk_number r0 sp0) s5
            obtain ⟨ms, m1, m2, m3⟩ := ent.ex
            have hln : u.2.length = ms.length := by rw [← m2, List.length_map]
            obtain ⟨t, ht, ew, mt⟩ := line i u.2 hem
            have hi2 : i < es.length := by
              rcases Nat.lt_or_ge i es.length with q | q
              · exact q
              · rw [List.getElem?_eq_none q] at hem
                cases hem
            have n1 := rw.n1
            have n2 := rw.n2
            have nt := nWatch_take hem
            have nl := nWatch_le es (i + 1)
            walk_at "n"
            refine .inl ⟨_, .inl (SqL.of m1), ?_⟩
            walk_at "n"
            rcases ew.n with h1 | h1
            · refine cond_q (by rw [List.length_map]; omega) ?_
              obtain ⟨m, rfl⟩ : ∃ m, ms = [m] := List.length_eq_one_iff.mp (by omega)
              have e6 : u.2 = [m.2] := m2.symm
              obtain ⟨z1, z2, _, _, mw⟩ := ew.mo 0 m.2 (by rw [e6]; rfl)
              refine ⟨_, rfl, ?_⟩
              walk_at "n"
              refine ⟨_, _, SqL.of m1, rfl, ?_⟩
              walk_at "n"
              refine ⟨bk.ins, R, W, m.2, bk, m3 m List.mem_cons_self, mw.ok, by omega, fun H6 R' s6 hb6 hc hl => ?_⟩
              walk_at "n"
              refine ⟨⟨R', W, s5.trans s6, hb6, fun x => ?_, fun x => ?_, by omega, by omega⟩, _, _, _, rfl⟩
              · rw [hc, hR, mem_take hem, e6]
                simp
              · rw [hW, mem_take hem, e6]
                simp
            · refine cond_nq (by rw [List.length_map]; omega) ?_
              obtain ⟨m, m', rfl⟩ : ∃ m m', ms = [m, m'] := by
                match ms, (show ms.length = 2 by omega) with
                | [m, m'], _ => exact ⟨m, m', rfl⟩
              have e6 : u.2 = [m.2, m'.2] := m2.symm
              obtain ⟨dxc, rc, spc, rsc, wsc, bpc, _, _⟩ := id bk
              walk_at "n"
              refine ⟨⟨_, _, bpc.at_, bk_watch _ _⟩, ?_⟩
              walk_at "n"
              refine ⟨_, _, SqL.of m1, rfl, ?_⟩
              walk_at "n"
              refine ⟨_, _, SqL.of m1, rfl, ?_⟩
              walk_at "n"
              refine ⟨R, W, m.2, m'.2, bk, m3 m (by simp), m3 m' (by simp), rw.ok _ _ (by rw [← e6]; exact List.mem_of_getElem? hem), by rw [if_pos h1] at nt; omega, fun H6 W' s6 hb6 hc hl => ?_⟩
              walk_at "n"
              refine ⟨⟨R, W', s5.trans s6, hb6, fun x => ?_, fun x => ?_, by omega, by rw [if_pos h1] at nt; omega⟩, _, _, _, rfl⟩
              · rw [hR, mem_take hem, e6]
                simp
              · rw [hc, hW, mem_take hem, e6]
                refine or_congr Iff.rfl ?_
                obtain ⟨x1, x2⟩ := x
                simp
          · rintro σ H4 ⟨⟨R, W, s5, bk, hR, hW, nR, nW⟩, v3, v4, v6, rfl⟩
            walk_at "n"
            have hl : (us.map fun t => V.ref t.1).length = es.length := by
              have := congrArg List.length hus
              simpa using this
            rw [hl, List.take_length] at hR hW
            exact h b H4 R W (s1.trans (s3'.trans fun a o ha => s5 a o (fun q => by rw [q, hb] at ha; cases ha) (s4 _ _ ha))) (s1.free (s3'.free hb)) bk hR hW
theorem ok_read_book {P : Program} {w : World} {K : PySem.W.Frag} {mg : Str → Option Value} {base : Heap} (T : Tx K mg) : F.Fr P w K mg base 9 (He.ga K "read_book") (sp_read_book K) := (T.f_read_book).elim fun fd F1 => fr_of F1 (okF_read_book T F1) (fun _ _ _ _ _ _ us hl => match us, hl with | [_], _ => rfl)
end G
set_option maxHeartbeats 400000
namespace G
open PySem PySem.Spec PyProof.Rows L2 F
local macro_rules | `(tactic| walk_at "side") => `(tactic| first | rfl | decide | omega | assumption | (unfold CMul; omega) | (unfold CPow; omega) | (unfold CDiv; omega))
local macro_rules | `(tactic| walk_at "hp") => `(tactic| first | assumption | exact upd_same | (refine upd_keep (by assumption) ?_; walk_at "hp") | (refine sm (by assumption) ?_; walk_at "hp"))
local macro_rules | `(tactic| walk_at "n") => `(tactic| ((try conv => whnf); repeat ((first | with_reducible refine cond_t rfl ?_ | with_reducible refine cond_f rfl ?_ | with_reducible refine cond_n ?_); (try conv => whnf))))
local macro_rules | `(tactic| walk_at "go") => `(tactic| (walk_at "n"; repeat (refine And.intro ?side ?_; (case side => walk_at "side"); walk_at "n")))

open M TL
def bagKv (c : Addr) (a r st : Int) : List (Key × V) := [(.inr "cells", .ref c), (.inr "at", .int a), (.inr "rest", .int r), (.inr "state", .int st)]
theorem kne1 : (Sum.inr "cells" : Key) ≠ .inr "at" := by decide +kernel
theorem kne2 : (Sum.inr "cells" : Key) ≠ .inr "rest" := by decide +kernel
theorem kne3 : (Sum.inr "cells" : Key) ≠ .inr "state" := by decide +kernel
theorem kne4 : (Sum.inr "at" : Key) ≠ .inr "rest" := by decide +kernel
theorem kne5 : (Sum.inr "at" : Key) ≠ .inr "state" := by decide +kernel
theorem kne6 : (Sum.inr "rest" : Key) ≠ .inr "state" := by decide +kernel
section
variable {c : Addr} {a r st x : Int}
theorem bag_cells : valV (bagKv c a r st) (.inr "cells") = some (.ref c) := valV_pos (p := ((Sum.inr "cells" : Key), V.ref c)) rfl
theorem bag_at : valV (bagKv c a r st) (.inr "at") = some (.int a) := by
  unfold bagKv
  rw [valV_neg kne1]
  exact valV_pos (p := ((Sum.inr "at" : Key), V.int a)) rfl
theorem bag_rest : valV (bagKv c a r st) (.inr "rest") = some (.int r) := by
  unfold bagKv
  rw [valV_neg kne2, valV_neg kne4]
  exact valV_pos (p := ((Sum.inr "rest" : Key), V.int r)) rfl
theorem bag_state : valV (bagKv c a r st) (.inr "state") = some (.int st) := by
  unfold bagKv
  rw [valV_neg kne3, valV_neg kne5, valV_neg kne6]
  exact valV_pos (p := ((Sum.inr "state" : Key), V.int st)) rfl
theorem bag_put_at : putK (bagKv c a r st) (.inr "at") (.int x) = bagKv c x r st := by
  unfold putK
  rw [valV_any, bag_at]
  simp only [Option.isSome_some, if_true, bagKv, List.map_cons, List.map_nil, if_neg kne1, if_neg (Ne.symm kne4), if_neg (Ne.symm kne5), reduceIte]
theorem bag_put_rest : putK (bagKv c a r st) (.inr "rest") (.int x) = bagKv c a x st := by
  unfold putK
  rw [valV_any, bag_rest]
  simp only [Option.isSome_some, if_true, bagKv, List.map_cons, List.map_nil, if_neg kne2, if_neg kne4, if_neg (Ne.symm kne6), reduceIte]
theorem bag_put_state : putK (bagKv c a r st) (.inr "state") (.int x) = bagKv c a r x := by
  unfold putK
  rw [valV_any, bag_state]
  simp only [Option.isSome_some, if_true, bagKv, List.map_cons, List.map_nil, if_neg kne3, if_neg kne5, if_neg kne6, reduceIte]
end
/-- the bag at g, in parts -/
structure BagP (K : PySem.W.Frag) (H : Hp) (g c : Addr) (a r st : Int) (ns : List Int) : Prop where
  at_ : H g = some (.dK (bagKv c a r st))
  cc : H c = some (.lst (ns.map V.int))
  a0 : 0 ≤ a
  r0 : 0 ≤ r
  s0 : 0 ≤ st
  s1 : st < 2147483647
  n : ns.length ≤ 63
theorem BagP.c {K : PySem.W.Frag} {H : Hp} {g c : Addr} {a r st : Int} {ns : List Int} (b : BagP K H g c a r st ns) : SqL K H c (ns.map V.int) := SqL.of b.cc
def BagAt (K : PySem.W.Frag) (H : Hp) (g c : Addr) : Prop := ∃ a r st ns, BagP K H g c a r st ns
theorem sl_sbd {K : PySem.W.Frag} {H H' : Hp} {a b : Addr} {xs : List V} {kvs : List (Key × V)} (h : SqL K H a xs) (hb : H b = some (.dK kvs)) (s : SB b H H') : SqL K H' a xs :=
  h.elim (fun z => z.elim (fun z => .inl (.inl (s.at z hb fun e => by cases e))) fun ⟨o, z⟩ => .inl (.inr ⟨o, s.at z hb fun e => by cases e⟩)) .inr
theorem st_sbd {K : PySem.W.Frag} {H H' : Hp} {a b : Addr} {xs : List V} {kvs : List (Key × V)} (h : SqT K H a xs) (hb : H b = some (.dK kvs)) (s : SB b H H') : SqT K H' a xs :=
  h.elim (fun z => z.elim (fun z => .inl (.inl (s.at z hb fun e => by cases e))) fun ⟨o, z⟩ => .inl (.inr ⟨o, s.at z hb fun e => by cases e⟩)) .inr
theorem BagP.put {K : PySem.W.Frag} {H : Hp} {g c : Addr} {a r st a' r' st' : Int} {ns : List Int} (b : BagP K H g c a r st ns) (h1 : 0 ≤ a') (h2 : 0 ≤ r') (h3 : 0 ≤ st') (h4 : st' < 2147483647) : BagP K (upd H g (.dK (bagKv c a' r' st'))) g c a' r' st' ns :=
  ⟨upd_same, sb_upd.at b.cc b.at_ (fun e => by cases e), h1, h2, h3, h4, b.n⟩
theorem BagP.same {K : PySem.W.Frag} {H H' : Hp} {g c : Addr} {a r st : Int} {ns : List Int} (b : BagP K H g c a r st ns) (s : Same H H') : BagP K H' g c a r st ns := ⟨s _ _ b.at_, s _ _ b.cc, b.a0, b.r0, b.s0, b.s1, b.n⟩
theorem BagAt.same {K : PySem.W.Frag} {H H' : Hp} {g c : Addr} (b : BagAt K H g c) (s : Same H H') : BagAt K H' g c := let ⟨a, r, k, ns, p⟩ := b; ⟨a, r, k, ns, p.same s⟩
section
variable {K : PySem.W.Frag} {H : Hp} {g c : Addr} {a r st : Int} {ns : List Int}
theorem BagP.gC (b : BagP K H g c a r st ns) : DGet H g (.str "cells") (some (.ref c)) := by
  rw [← bag_cells (c := c) (a := a) (r := r) (st := st)]
  exact DGet.k (k := .inr "cells") b.at_
theorem BagP.gA (b : BagP K H g c a r st ns) : DGet H g (.str "at") (some (.int a)) := by
  rw [← bag_at (c := c) (a := a) (r := r) (st := st)]
  exact DGet.k (k := .inr "at") b.at_
theorem BagP.gR (b : BagP K H g c a r st ns) : DGet H g (.str "rest") (some (.int r)) := by
  rw [← bag_rest (c := c) (a := a) (r := r) (st := st)]
  exact DGet.k (k := .inr "rest") b.at_
theorem BagP.gS (b : BagP K H g c a r st ns) : DGet H g (.str "state") (some (.int st)) := by
  rw [← bag_state (c := c) (a := a) (r := r) (st := st)]
  exact DGet.k (k := .inr "state") b.at_
theorem BagP.pA (b : BagP K H g c a r st ns) (x : Int) : DPut H g (.str "at") (.int x) (upd H g (.dK (bagKv c x r st))) := by
  rw [← bag_put_at (a := a)]
  exact DPut.k (k := .inr "at") b.at_ (by show 4 < sizeLine; decide)
theorem BagP.pR (b : BagP K H g c a r st ns) (x : Int) : DPut H g (.str "rest") (.int x) (upd H g (.dK (bagKv c a x st))) := by
  rw [← bag_put_rest (r := r)]
  exact DPut.k (k := .inr "rest") b.at_ (by show 4 < sizeLine; decide)
theorem BagP.pS (b : BagP K H g c a r st ns) (x : Int) : DPut H g (.str "state") (.int x) (upd H g (.dK (bagKv c a r x))) := by
  rw [← bag_put_state (st := st)]
  exact DPut.k (k := .inr "state") b.at_ (by show 4 < sizeLine; decide)
end
theorem cut_take (ns : List Int) : cutV (ns.map V.int) none (some 63) = (ns.take 63).map V.int := by
  have e : cutV (ns.map V.int) none (some 63) = (((ns.map V.int).drop 0).take (min 63 (ns.map V.int).length - 0)) := rfl
  rw [e, List.drop_zero, Nat.sub_zero, List.map_take, List.take_eq_take_iff]
  omega
def sp__law_bag (K : PySem.W.Frag) : Sp := fun vs H Q E => match vs with
  | [.ref l] => ∃ ns : List Int, SqL K H l (ns.map V.int) ∧ ∀ g c H', Same H H' → H g = none → BagAt K H' g c → Q (.ref g) H'
  | _ => False
theorem sc__law_bag : FnScope ["_law_script", "_law_state", "_law_cell"] ["_law_script"] (defScope s__law_bag) := ⟨rfl, rfl, rfl, by decide +kernel, rfl, by decide +kernel, by decide +kernel⟩
theorem okF__law_bag {P : Program} {w : World} {K : PySem.W.Frag} {mg : Str → Option Value} {base : Heap} {fd : FuncData} (T : Tx K mg) (F1 : FunD K "_law_bag" "_law_bag" (defArgs s__law_bag) (defBody s__law_bag) (defScope s__law_bag) [] [] (He.ga K "_law_bag") fd) : FnOk P w K mg base (L2.CX P w) 1 (He.ga K "_law_bag") fd ["_law_script"] (sp__law_bag K) := by
  refine F1.ok sc__law_bag (fun vs H Q E h => ?_) (fun cdv A outer s H vs Q E hr h => ?_)
  · unfold sp__law_bag at h
    split at h
    · rfl
    · exact h.elim
  · unfold sp__law_bag at h
    split at h
    rotate_left
    · exact h.elim
    · rename_i l
      refine ⟨_, (pss_cons (ps_set (i := 1) sc__law_bag.nd rfl (Or.inl rfl) pe_int)
        (pss_cons (ps_for (passes_of rfl) rfl (pi_list (pe_slice sl_list (e_v 0) po_none (po_some pe_int))) (pg_name (i := 2) sc__law_bag.nd rfl (Or.inl rfl))
          (pss_one (ps_set (i := 1) sc__law_bag.nd rfl (Or.inl rfl) (pe_op o_mod (e_int T.b_int (pe_op (k_add K) (pe_op (k_add K) (pe_op o_mul (e_v 1) pe_int) (pe_op o_mod (e_abs T.b_abs (e_v 2)) pe_int)) pe_int)) pe_int))))
        (pss_one (ps_ret (pe_disp (pps_cons pe_str (e_list T.b_list (pe_slice sl_list (e_v 0) po_none (po_some pe_int))) (pps_cons pe_str pe_int (pps_cons pe_str pe_int (pps_cons pe_str (e_v 1) pps_nil)))) (by rfl) (by rfl) (fun z => by cases z) (by decide)))))), ?_⟩
      obtain ⟨ns, hl, h⟩ := h
      walk_at "n"
      refine ⟨63, rfl, ?_⟩
      walk_at "n"
      refine ⟨_, _, rfl, hl, fun p hp => ?_⟩
      rw [cut_take]
      have hn : (ns.take 63).length ≤ 63 := by rw [List.length_take]; omega
      walk_at "n"
      refine ⟨_, rfl, ⟨_, SqL.of upd_same⟩, for_it (walk_list (K := K) (a := p) (xs := (ns.take 63).map V.int)) (fun i σ H' => H' = upd H p (.lst ((ns.take 63).map V.int)) ∧ ∃ st v, 0 ≤ st ∧ st < 2147483647 ∧ σ = [some (.ref l), some (.int st), v]) ⟨rfl, _, _, by decide, by decide, rfl⟩ (fun i σ H' _ z => ?_) ?_ ?_⟩
      · rw [z.1]
        exact SqL.of upd_same
      · rintro i x σ H1 H2 hi ⟨rfl, st0, v, b0, b1, rfl⟩ ⟨rfl, hx⟩
        rw [List.getElem?_map] at hx
        obtain ⟨a, _, rfl⟩ := Option.map_eq_some_iff.mp hx
        walk_at "n"
        refine ⟨by unfold CMul; omega, ?_⟩
        walk_at "n"
        refine ⟨by decide, ?_⟩
        walk_at "n"
        refine ⟨by decide, ?_⟩
        walk_at "n"
        exact ⟨rfl, _, _, Int.emod_nonneg _ (by decide), Int.emod_lt_of_pos _ (by decide), rfl⟩
      · rintro σ H1 ⟨rfl, st0, v, b0, b1, rfl⟩
        walk_at "n"
        intro d hd
        walk_at "n"
        refine ⟨63, rfl, ?_⟩
        walk_at "n"
        refine ⟨_, _, rfl, sl (sto (snew hp) hd) hl, fun p2 hp2 => ?_⟩
        rw [cut_take]
        walk_at "n"
        refine ⟨_, .inl (SqL.of upd_same), fun p3 hp3 => ?_⟩
        walk_at "n"
        have hd2 := upd_keep (u := .lst ((ns.take 63).map V.int)) hp3 (upd_keep (u := .lst ((ns.take 63).map V.int)) hp2 (upd_same (H := upd H p (.lst ((ns.take 63).map V.int))) (a := d) (o := .dK [])))
        refine ⟨hd2, bagKv p3 0 0 st0, rfl, by show 4 ≤ 15; decide, ?_⟩
        walk_at "n"
        have e : mergeK [] (bagKv p3 0 0 st0) = bagKv p3 0 0 st0 := by
          unfold mergeK bagKv
          simp only [List.foldl_cons, List.foldl_nil, putK, List.any_nil, List.any_cons, List.any_append, decide_eq_false kne1, decide_eq_false kne2, decide_eq_false kne3, decide_eq_false kne4, decide_eq_false kne5, decide_eq_false kne6, Bool.or_false, Bool.false_eq_true, if_false, List.nil_append, List.cons_append]
        rw [e]
        have sf : Same H (upd (upd (upd (upd (upd H p (.lst ((ns.take 63).map V.int))) d (.dK [])) p2 (.lst ((ns.take 63).map V.int))) p3 (.lst ((ns.take 63).map V.int))) d (.dK (bagKv p3 0 0 st0))) := sput (sto (sto (sto (snew hp) hd) hp2) hp3) ((snew hp).free hd)
        refine h d p3 _ sf ((snew hp).free hd) ⟨0, 0, st0, ns.take 63, upd_same, ?_, by decide, by decide, b0, b1, hn⟩
        exact sb_upd.at upd_same hd2 fun e => by cases e
theorem ok__law_bag {P : Program} {w : World} {K : PySem.W.Frag} {mg : Str → Option Value} {base : Heap} (T : Tx K mg) : F.Fr P w K mg base 1 (He.ga K "_law_bag") (sp__law_bag K) := (T.f__law_bag).elim fun fd F1 => fr_of F1 (okF__law_bag T F1) (fun _ _ _ _ _ _ us hl => match us, hl with | [_], _ => rfl)
def sp__law_draw (K : PySem.W.Frag) : Sp := fun vs H Q E => match vs with
  | [.ref g, .int lim] => ∃ c, BagAt K H g c ∧ 0 < lim ∧ lim ≤ 100000 ∧ ∀ r H', SB g H H' → BagAt K H' g c → 0 ≤ r → r < lim → Q (.int r) H'
  | _ => False
theorem sc__law_draw : FnScope ["_law_bag_here", "_law_limit", "_law_cell", "_law_mixed", "_law_found"] ["_law_bag_here", "_law_limit"] (defScope s__law_draw) := ⟨rfl, rfl, rfl, by decide +kernel, rfl, by decide +kernel, by decide +kernel⟩
theorem okF__law_draw {P : Program} {w : World} {K : PySem.W.Frag} {mg : Str → Option Value} {base : Heap} {fd : FuncData} (T : Tx K mg) (F1 : FunD K "_law_draw" "_law_draw" (defArgs s__law_draw) (defBody s__law_draw) (defScope s__law_draw) [] [] (He.ga K "_law_draw") fd) : FnOk P w K mg base (L2.CX P w) 1 (He.ga K "_law_draw") fd ["_law_bag_here", "_law_limit"] (sp__law_draw K) := by
  refine F1.ok sc__law_draw (fun vs H Q E h => ?_) (fun cdv A outer s H vs Q E hr h => ?_)
  · unfold sp__law_draw at h
    split at h
    · rfl
    · exact h.elim
  · unfold sp__law_draw at h
    split at h
    rotate_left
    · exact h.elim
    · rename_i g lim
      refine ⟨_, (pss_cons (ps_while (passes_of rfl) (PW.pt (w_and (t_cmp o_lt (e_dget hr (e_v 0) pe_str) pe_int (nomark _)) (w_and1 (t_cmp o_lt (e_dget hr (e_v 0) pe_str) (kk_len K T.b_len (e_dget hr (e_v 0) pe_str)) (nomark _))))) (pss_cons (ps_set (i := 2) sc__law_draw.nd rfl (Or.inl rfl) (e_abs T.b_abs (pe_ix (k_ixL K) (e_dget hr (e_v 0) pe_str) (e_dget hr (e_v 0) pe_str) (fun _ _ => rfl))))
        (pss_cons (ps_dput (hu_of hr) (e_v 0) pe_str (pe_op (k_add K) (e_dget hr (e_v 0) pe_str) pe_int) rfl)
        (pss_cons (s_if (t_cmp o_lt (e_v 2) (pe_op o_pow pe_int pe_int) (nomark _)) (pss_cons (ps_set (i := 3) sc__law_draw.nd rfl (Or.inl rfl) (pe_op o_mod (e_int T.b_int (pe_op (k_add K) (pe_op o_pow (pe_op (k_add K) (e_v 2) pe_int) pe_int) (pe_op o_mul (e_dget hr (e_v 0) pe_str) (pe_op (k_add K) (e_dget hr (e_v 0) pe_str) pe_int)))) pe_int))
        (pss_one (ps_ret (pe_op o_mod (e_v 3) (e_v 1))))) pss_nil)
        (pss_one (ps_dput (hu_of hr) (e_v 0) pe_str (e_v 2) rfl))))))
        (pss_cons (s_if (t_cmp o_ge (e_dget hr (e_v 0) pe_str) pe_int (nomark _)) (pss_cons (ps_set (i := 4) sc__law_draw.nd rfl (Or.inl rfl) (pe_op o_mod (e_int T.b_int (e_dget hr (e_v 0) pe_str)) (e_v 1)))
        (pss_cons (ps_dput (hu_of hr) (e_v 0) pe_str (pe_op o_div (e_dget hr (e_v 0) pe_str) (e_v 1)) rfl)
        (pss_one (ps_ret (e_v 4))))) pss_nil)
        (pss_cons (ps_dput (hu_of hr) (e_v 0) pe_str (pe_op o_mod (e_int T.b_int (pe_op (k_add K) (pe_op o_mul (e_dget hr (e_v 0) pe_str) pe_int) pe_int)) pe_int) rfl)
        (pss_one (ps_ret (pe_op o_mod (pe_op o_mod (e_int T.b_int (pe_op o_pow (e_dget hr (e_v 0) pe_str) pe_int)) pe_int) (e_v 1))))))), ?_⟩
      obtain ⟨c, bag, l0, l1, h⟩ := h
      walk_at "n"
      obtain ⟨a, r, k0, ns, bp⟩ := bag
      refine ⟨fun m σ H' => (∃ a r k ns, SB g H H' ∧ BagP K H' g c a r k ns ∧ m = (64 - a).toNat) ∧ ∃ v2 v3 v4, σ = [some (.ref g), some (.int lim), v2, v3, v4], ⟨_, ⟨a, r, k0, ns, sb_refl, bp, rfl⟩, _, _, _, rfl⟩, ?_⟩
      clear bp
      rintro m σ H1 ⟨⟨a, r, k0, ns, s1, bp, rfl⟩, v2, v3, v4, rfl⟩
      have b0 := bp.a0
      have b1 := bp.r0
      have b2 := bp.s0
      have b3 := bp.s1
      have b4 := bp.n
      walk_at "n"
      refine ⟨_, _, rfl, bp.gR, ?_⟩
      walk_at "n"
      refine cond_p (fun h1 => ?a1) (fun h1 => ?a2)
      case' a1 =>
        walk_at "n"
        refine ⟨_, _, rfl, bp.gA, ?_⟩
        walk_at "n"
        refine ⟨_, _, rfl, bp.gC, ?_⟩
        walk_at "n"
        refine .inl ⟨_, .inl bp.c, ?_⟩
        walk_at "n"
        refine ite_p (fun h2 => ?a3) (fun h2 => ?a4)
        case' a3 =>
          rw [List.length_map] at h2
          walk_at "n"
          refine ⟨fun σ' H' => (∃ a' r k ns, SB g H H' ∧ BagP K H' g c a' r k ns ∧ a' = a + 1) ∧ ∃ v2 v3 v4, σ' = [some (.ref g), some (.int lim), v2, v3, v4], fun σ' H' ⟨⟨a', r', k', ns', s', b', e⟩, z⟩ => ⟨(64 - a').toNat, by omega, ⟨a', r', k', ns', s', b', rfl⟩, z⟩, ?_⟩
          walk_at "n"
          refine ⟨_, _, rfl, bp.gC, ?_⟩
          walk_at "n"
          refine ⟨_, _, rfl, bp.gA, ?_⟩
          walk_at "n"
          obtain ⟨x, hx⟩ : ∃ x, ns[a.toNat]? = some x := ⟨_, List.getElem?_eq_getElem (by omega)⟩
          refine ⟨_, .int x, bp.c, by rw [atI_lt b0 (by rw [List.length_map]; omega), List.getElem?_map, hx]; rfl, ?_⟩
          walk_at "n"
          have ax0 : 0 ≤ absI x := absI_nn x
          generalize absI x = ax at *
          refine ⟨_, _, rfl, bp.gA, ?_⟩
          walk_at "n"
          refine ⟨_, _, rfl, bp.pA (a + 1), ?_⟩
          have bp2 := bp.put (a' := a + 1) (r' := r) (st' := k0) (by omega) b1 b2 b3
          walk_at "n"
          refine ⟨by unfold CPow; decide, ?_⟩
          walk_at "n"
          refine cond_p (fun h3 => ?_) (fun h3 => ?_)
          · have h3 : ax < 1000000000000000000 := by simpa using h3
            walk_at "n"
            refine ⟨by unfold CPow; omega, ?_⟩
            walk_at "n"
            refine ⟨_, _, rfl, bp2.gS, ?_⟩
            walk_at "n"
            refine ⟨_, _, rfl, bp2.gA, ?_⟩
            walk_at "n"
            refine ⟨by unfold CMul; omega, ?_⟩
            walk_at "n"
            refine ⟨by decide, ?_⟩
            walk_at "n"
            refine ⟨l0, ?_⟩
            walk_at "n"
            exact h _ _ s1.upd ⟨_, _, _, _, bp2⟩ (Int.emod_nonneg _ (by omega)) (Int.emod_lt_of_pos _ l0)
          · walk_at "n"
            refine ⟨_, _, rfl, bp2.pR ax, ?_⟩
            walk_at "n"
            exact ⟨⟨_, _, _, _, s1.upd.upd, bp2.put (by omega) ax0 b2 b3, rfl⟩, _, _, _, rfl⟩
      all_goals
        walk_at "n"
        refine ⟨_, _, rfl, bp.gR, ?_⟩
        walk_at "n"
        refine cond_p (fun h5 => ?_) (fun h5 => ?_)
        · walk_at "n"
          refine ⟨_, _, rfl, bp.gR, ?_⟩
          walk_at "n"
          refine ⟨l0, ?_⟩
          walk_at "n"
          refine ⟨_, _, rfl, bp.gR, ?_⟩
          walk_at "n"
          refine ⟨⟨l0, by omega⟩, ?_⟩
          walk_at "n"
          refine ⟨_, _, rfl, bp.pR _, ?_⟩
          walk_at "n"
          exact h _ _ s1.upd ⟨_, _, _, _, bp.put b0 (Int.ediv_nonneg b1 (by omega)) b2 b3⟩ (Int.emod_nonneg _ (by omega)) (Int.emod_lt_of_pos _ l0)
        · walk_at "n"
          refine ⟨_, _, rfl, bp.gS, ?_⟩
          walk_at "n"
          refine ⟨by unfold CMul; omega, ?_⟩
          walk_at "n"
          refine ⟨by decide, ?_⟩
          walk_at "n"
          refine ⟨_, _, rfl, bp.pS _, ?_⟩
          have bp2 := bp.put (a' := a) (r' := r) (st' := (k0 * 48271 + 13) % 2147483647) b0 b1 (Int.emod_nonneg _ (by decide)) (Int.emod_lt_of_pos _ (by decide))
          have b5 := bp2.s0
          have b6 := bp2.s1
          walk_at "n"
          refine ⟨_, _, rfl, bp2.gS, ?_⟩
          walk_at "n"
          refine ⟨by unfold CPow; omega, ?_⟩
          walk_at "n"
          refine ⟨by decide, ?_⟩
          walk_at "n"
          refine ⟨l0, ?_⟩
          walk_at "n"
          exact h _ _ s1.upd ⟨_, _, _, _, bp2⟩ (Int.emod_nonneg _ (by omega)) (Int.emod_lt_of_pos _ l0)
theorem ok__law_draw {P : Program} {w : World} {K : PySem.W.Frag} {mg : Str → Option Value} {base : Heap} (T : Tx K mg) : F.Fr P w K mg base 1 (He.ga K "_law_draw") (sp__law_draw K) := (T.f__law_draw).elim fun fd F1 => fr_of F1 (okF__law_draw T F1) (fun _ _ _ _ _ _ us hl => match us, hl with | [_, _], _ => rfl)
end G
set_option maxHeartbeats 400000
namespace G
open PySem PySem.Spec PyProof.Rows L2 F
local macro_rules | `(tactic| walk_at "side") => `(tactic| first | rfl | decide | omega | assumption | (unfold CMul; omega) | (unfold CPow; omega) | (unfold CDiv; omega))
local macro_rules | `(tactic| walk_at "hp") => `(tactic| first | assumption | exact upd_same | (refine upd_keep (by assumption) ?_; walk_at "hp") | (refine sm (by assumption) ?_; walk_at "hp"))
local macro_rules | `(tactic| walk_at "n") => `(tactic| ((try conv => whnf); repeat ((first | with_reducible refine cond_t rfl ?_ | with_reducible refine cond_f rfl ?_ | with_reducible refine cond_n ?_); (try conv => whnf))))
local macro_rules | `(tactic| walk_at "go") => `(tactic| (walk_at "n"; repeat (refine And.intro ?side ?_; (case side => walk_at "side"); walk_at "n")))

open M TL
theorem mlen_law (y m : Int) (h1 : 1 ≤ m) (h2 : m ≤ 12) : monthLen y m = if m = 2 then 28 + leapN y else 30 + (if ([1, 3, 5, 7, 8, 10, 12] : List Int).any (· == m) = true then 1 else 0) := by
  obtain ⟨l1, l2, l3, l4, l5, l6, l7, l8, l9, l10, l11, l12⟩ := monthLen_cases y
  have hc : m = 1 ∨ m = 2 ∨ m = 3 ∨ m = 4 ∨ m = 5 ∨ m = 6 ∨ m = 7 ∨ m = 8 ∨ m = 9 ∨ m = 10 ∨ m = 11 ∨ m = 12 := by omega
  rcases hc with rfl | rfl | rfl | rfl | rfl | rfl | rfl | rfl | rfl | rfl | rfl | rfl <;> simp [*]
theorem hu65 {A : Around} {k : Nat} (hr : Room k A) : A.units + 65 < cLine := by
  have := hr.un
  omega
theorem any_eqv (l : List Int) (m : Int) : (l.map PyData.int).any (fun z => PyData.eqv z (.int m)) = l.any (· == m) := by
  induction l with
  | nil => rfl
  | cons a r ih =>
    rw [List.map_cons, List.any_cons, List.any_cons, ih]
    simp [PyData.eqv]
theorem dp_ints {K : PySem.W.Frag} {H : Hp} : ∀ l : List Int, DpAll K H (l.map V.int) (l.map PyData.int)
  | [] => .nil
  | a :: r => .cons (.int a) (dp_ints r)
def sp__law_length (K : PySem.W.Frag) : Sp := fun vs H Q E => match vs with
  | [.int y, .int m] => (1 ≤ m ∧ m ≤ 12) ∧ ∀ H', Same H H' → Q (.int (monthLen y m)) H'
  | _ => False
theorem sc__law_length : FnScope ["_law_year", "_law_month", "_law_leap"] ["_law_year", "_law_month"] (defScope s__law_length) := ⟨rfl, rfl, rfl, by decide +kernel, rfl, by decide +kernel, by decide +kernel⟩
theorem okF__law_length {P : Program} {w : World} {K : PySem.W.Frag} {mg : Str → Option Value} {base : Heap} {fd : FuncData} (T : Tx K mg) (F1 : FunD K "_law_length" "_law_length" (defArgs s__law_length) (defBody s__law_length) (defScope s__law_length) [] [] (He.ga K "_law_length") fd) : FnOk P w K mg base (L2.CX P w) 1 (He.ga K "_law_length") fd ["_law_year", "_law_month"] (sp__law_length K) := by
  refine F1.ok sc__law_length (fun vs H Q E h => ?_) (fun cdv A outer s H vs Q E hr h => ?_)
  · unfold sp__law_length at h
    split at h
    · rfl
    · exact h.elim
  · unfold sp__law_length at h
    split at h
    rotate_left
    · exact h.elim
    · rename_i y m
      refine ⟨_, (pss_cons (ps_set (i := 2) sc__law_length.nd rfl (Or.inl rfl) (e_and (pe_cmpR o_eq (pe_op o_mod (e_int T.b_int (e_v 0)) pe_int) pe_int (nomark _)) (pe_one (e_or (pe_cmpR o_ne (pe_op o_mod (e_int T.b_int (e_v 0)) pe_int) pe_int (nomark _)) (pe_one (pe_cmpR o_eq (pe_op o_mod (e_int T.b_int (e_v 0)) pe_int) pe_int (nomark _)))))))
        (pss_one (ps_ret (e_if (t_cmp o_eq (e_v 1) pe_int (nomark _)) (pe_op (k_add K) pe_int (e_int T.b_int (e_v 2))) (pe_op (k_add K) pe_int (e_int T.b_int (pe_cmpR (op_inD (hu65 hr)) (e_v 1) (pe_lst (pa_cons pe_int (pa_cons pe_int (pa_cons pe_int (pa_cons pe_int (pa_cons pe_int (pa_cons pe_int (pa_cons pe_int pa_nil)))))))) (by rfl)))))))), ?_⟩
      obtain ⟨⟨h1, h2⟩, h⟩ := h
      rw [mlen_law y m h1 h2] at h
      walk_at "n"
      have rest : ∀ b : Bool, b = isLeap y → Q (.int (if m = 2 then 28 + (if b = true then 1 else 0) else 30 + (if ([1, 3, 5, 7, 8, 10, 12] : List Int).any (· == m) = true then 1 else 0))) = Q (.int (if m = 2 then 28 + leapN y else 30 + (if ([1, 3, 5, 7, 8, 10, 12] : List Int).any (· == m) = true then 1 else 0))) := fun b e => by
        subst e
        rfl
      have fin : ∀ b : Bool, b = isLeap y → (m = 2 → ∀ H', Same H H' → Q (.int (28 + (if b = true then 1 else 0))) H') ∧ (¬ m = 2 → ∀ H', Same H H' → Q (.int (30 + (if ([1, 3, 5, 7, 8, 10, 12] : List Int).any (· == m) = true then 1 else 0))) H') := fun b e => by
        refine ⟨fun z H' s => ?_, fun z H' s => ?_⟩
        · have q := h H' s
          rw [← rest b e, if_pos z] at q
          exact q
        · have q := h H' s
          rw [if_neg z] at q
          exact q
      clear rest
      refine ⟨by decide, ?_⟩
      walk_at "n"
      have e1 : y % 4 = 0 → y % 100 ≠ 0 → true = isLeap y := fun p q => by unfold isLeap; simp [p, q]
      have e2 : y % 4 = 0 → y % 100 = 0 → decide (y % 400 = 0) = isLeap y := fun p q => by unfold isLeap; simp [p, q]
      have e3 : ¬ y % 4 = 0 → false = isLeap y := fun p => by unfold isLeap; simp [p]
      refine cond_p (fun a1 => ?b1) (fun a1 => ?b2)
      case' b1 =>
        walk_at "n"
        refine ⟨by decide, ?_⟩
        walk_at "n"
        refine cond_p (fun a2 => ?b3) (fun a2 => ?b4)
        case' b3 =>
          walk_at "n"
          refine ⟨by decide, ?_⟩
      case' b2 => have e := e3 a1
      case' b3 => have e := e2 a1 a2
      case' b4 => have e := e1 a1 a2
      all_goals
        walk_at "n"
        refine cond_p (fun a3 => ?_) (fun a3 => ?_)
        · walk_at "n"
          exact (fin _ e).1 a3 _ (Same.refl _)
        · walk_at "n"
          refine ⟨line_of (by simp), fun p hp => ?_⟩
          walk_at "n"
          refine ⟨.int m, [1, 3, 5, 7, 8, 10, 12].map PyData.int, .int m, .lst (SqL.of upd_same) (dp_ints [1, 3, 5, 7, 8, 10, 12]), rfl, by decide +kernel, ?_⟩
          rw [any_eqv]
          walk_at "n"
          exact (fin _ e).2 a3 _ (snew hp)
theorem ok__law_length {P : Program} {w : World} {K : PySem.W.Frag} {mg : Str → Option Value} {base : Heap} (T : Tx K mg) : F.Fr P w K mg base 1 (He.ga K "_law_length") (sp__law_length K) := (T.f__law_length).elim fun fd F1 => fr_of F1 (okF__law_length T F1) (fun _ _ _ _ _ _ us hl => match us, hl with | [_, _], _ => rfl)
def moL (q : Mo) : List V := [.int q.y, .int q.m, .int q.d, .int q.h, .int q.i]
theorem date_eq (q : Mo) : q.date = 365 * (q.y - 1) + (q.y - 1) / 4 - (q.y - 1) / 100 + (q.y - 1) / 400 + monthsSum q.y (q.m - 1).toNat + q.d - 1 := by
  unfold Mo.date dayNumber daysAhead
  rfl
theorem num_eq (q : Mo) : q.num = 1440 * q.date + 60 * q.h + q.i := by
  unfold Mo.num
  omega
def sp__law_date (K : PySem.W.Frag) : Sp := fun vs H Q E => match vs with
  | [.ref t] => ∃ q, SqT K H t (moL q) ∧ 1 ≤ q.m ∧ q.m ≤ 12 ∧ ∀ H', Same H H' → Q (.int q.date) H'
  | _ => False
theorem sc__law_date : FnScope ["_law_told", "_law_past", "_law_ahead", "_law_month"] ["_law_told"] (defScope s__law_date) := ⟨rfl, rfl, rfl, by decide +kernel, rfl, by decide +kernel, by decide +kernel⟩
theorem okF__law_date {P : Program} {w : World} {K : PySem.W.Frag} {mg : Str → Option Value} {base : Heap} {fd : FuncData} (T : Tx K mg) (F1 : FunD K "_law_date" "_law_date" (defArgs s__law_date) (defBody s__law_date) (defScope s__law_date) [] [] (He.ga K "_law_date") fd) : FnOk P w K mg base (L2.CX P w) 2 (He.ga K "_law_date") fd ["_law_told"] (sp__law_date K) := by
  have c__law_length : Fc P w K mg base 1 "_law_length" (sp__law_length K) := ⟨_, ok__law_length T, T.g__law_length, (T.f__law_length).elim fun _ z => z.kp⟩
  refine F1.ok sc__law_date (fun vs H Q E h => ?_) (fun cdv A outer s H vs Q E hr h => ?_)
  · unfold sp__law_date at h
    split at h
    · rfl
    · exact h.elim
  · unfold sp__law_date at h
    split at h
    rotate_left
    · exact h.elim
    · rename_i t
      refine ⟨_, (pss_cons (ps_set (i := 1) sc__law_date.nd rfl (Or.inl rfl) (pe_op o_sub (pe_ix (k_ixT K) (e_v 0) pe_int (fun _ _ => rfl)) pe_int))
        (pss_cons (ps_set (i := 2) sc__law_date.nd rfl (Or.inl rfl) (pe_op (k_add K) (pe_op o_sub (pe_op (k_add K) (pe_op o_mul pe_int (e_v 1)) (pe_op o_div (e_v 1) pe_int)) (pe_op o_div (e_v 1) pe_int)) (pe_op o_div (e_v 1) pe_int)))
        (pss_one (ps_ret (pe_op o_sub (pe_op (k_add K) (pe_op (k_add K) (e_v 2) (e_sum rfl T.b_sum (pe_lc (own := [("_law_month", 3)]) (g := gName 3) (tt := tYes) rfl sc__law_date.nd (pi_range2 rfl T.b_range (pa_cons pe_int (pa_cons (pe_ix (k_ixT K) (e_v 0) pe_int (fun _ _ => rfl)) pa_nil))) (blkOk_by (own := [("_law_month", 3)]) (N := ["_law_told", "_law_past", "_law_ahead", "_law_month"]) (sc := defScope s__law_date) (by decide +kernel)) (fun _ _ _ _ _ => (pg_name (i := 3) sc__law_date.nd rfl (Or.inl rfl))) (fun _ _ _ _ _ => pts_nil) (fun _ _ _ _ _ => (e_c c__law_length hr (pa_cons (pe_ix (k_ixT K) (e_v 0) pe_int (fun _ _ => rfl)) (pa_cons (e_v 3) pa_nil))))))) (pe_ix (k_ixT K) (e_v 0) pe_int (fun _ _ => rfl))) pe_int))))), ?_⟩
      obtain ⟨q, ht, m1, m2, h⟩ := h
      have ht : SqT K H t [.int q.y, .int q.m, .int q.d, .int q.h, .int q.i] := ht
      walk_at "n"
      refine ⟨_, _, ht, rfl, ?_⟩
      walk_at "n"
      refine ⟨by unfold CMul; omega, ?_⟩
      walk_at "n"
      refine ⟨⟨by decide, by decide⟩, ?_⟩
      walk_at "n"
      refine ⟨⟨by decide, by decide⟩, ?_⟩
      walk_at "n"
      refine ⟨⟨by decide, by decide⟩, ?_⟩
      walk_at "n"
      refine ⟨_, _, ht, rfl, ?_⟩
      walk_at "n"
      refine ⟨1, q.m, rfl, by omega, fun D hD => lcW (walk_range (lo := 1) (n := (q.m - 1).toNat)) (fun i v _ => v = .int (monthLen q.y (1 + (i : Int)))) (by omega) hD (fun _ _ => trivial) (fun _ _ _ _ _ z => z) ?_ gm_name ?_⟩
      · rintro i x H1 H2 acc Nx hi s1 hd ⟨rfl, rfl⟩ nx
        refine ⟨rfl, ?_⟩
        walk_at "n"
        refine ⟨_, _, st s1 ht, rfl, ?_⟩
        walk_at "n"
        exact ⟨⟨by omega, by omega⟩, fun H' s2 => nx _ _ s2 rfl⟩
      · intro ys H1 hl hy s1 hd
        have e := ys_fn hl hy
        walk_at "n"
        refine ⟨(List.range (q.m - 1).toNat).map fun (i : Nat) => monthLen q.y (1 + (i : Int)), ?_, ?_⟩
        · rw [List.map_map]
          rw [e] at hd
          exact SqL.of hd
        walk_at "n"
        refine ⟨_, _, st s1 ht, rfl, ?_⟩
        walk_at "n"
        have r := h _ s1
        rw [date_eq] at r
        exact r
theorem ok__law_date {P : Program} {w : World} {K : PySem.W.Frag} {mg : Str → Option Value} {base : Heap} (T : Tx K mg) : F.Fr P w K mg base 2 (He.ga K "_law_date") (sp__law_date K) := (T.f__law_date).elim fun fd F1 => fr_of F1 (okF__law_date T F1) (fun _ _ _ _ _ _ us hl => match us, hl with | [_], _ => rfl)
def sp__law_number (K : PySem.W.Frag) : Sp := fun vs H Q E => match vs with
  | [.ref t] => ∃ q, SqT K H t (moL q) ∧ 1 ≤ q.m ∧ q.m ≤ 12 ∧ ∀ H', Same H H' → Q (.int q.num) H'
  | _ => False
theorem sc__law_number : FnScope ["_law_told"] ["_law_told"] (defScope s__law_number) := ⟨rfl, rfl, rfl, by decide +kernel, rfl, by decide +kernel, by decide +kernel⟩
theorem okF__law_number {P : Program} {w : World} {K : PySem.W.Frag} {mg : Str → Option Value} {base : Heap} {fd : FuncData} (T : Tx K mg) (F1 : FunD K "_law_number" "_law_number" (defArgs s__law_number) (defBody s__law_number) (defScope s__law_number) [] [] (He.ga K "_law_number") fd) : FnOk P w K mg base (L2.CX P w) 3 (He.ga K "_law_number") fd ["_law_told"] (sp__law_number K) := by
  have c__law_date : Fc P w K mg base 2 "_law_date" (sp__law_date K) := ⟨_, ok__law_date T, T.g__law_date, (T.f__law_date).elim fun _ z => z.kp⟩
  refine F1.ok sc__law_number (fun vs H Q E h => ?_) (fun cdv A outer s H vs Q E hr h => ?_)
  · unfold sp__law_number at h
    split at h
    · rfl
    · exact h.elim
  · unfold sp__law_number at h
    split at h
    rotate_left
    · exact h.elim
    · rename_i t
      refine ⟨_, (pss_one (ps_ret (pe_op (k_add K) (pe_op (k_add K) (pe_op o_mul pe_int (e_c c__law_date hr (pa_cons (e_v 0) pa_nil))) (pe_op o_mul pe_int (pe_ix (k_ixT K) (e_v 0) pe_int (fun _ _ => rfl)))) (pe_ix (k_ixT K) (e_v 0) pe_int (fun _ _ => rfl))))), ?_⟩
      obtain ⟨q, ht, m1, m2, h⟩ := h
      walk_at "n"
      refine ⟨q, ht, m1, m2, fun H1 s1 => ?_⟩
      have ht : SqT K H1 t [.int q.y, .int q.m, .int q.d, .int q.h, .int q.i] := st s1 ht
      walk_at "n"
      refine ⟨by unfold CMul; omega, ?_⟩
      walk_at "n"
      refine ⟨_, _, ht, rfl, ?_⟩
      walk_at "n"
      refine ⟨by unfold CMul; omega, ?_⟩
      walk_at "n"
      refine ⟨_, _, ht, rfl, ?_⟩
      walk_at "n"
      have r := h _ s1
      rw [num_eq] at r
      exact r
theorem ok__law_number {P : Program} {w : World} {K : PySem.W.Frag} {mg : Str → Option Value} {base : Heap} (T : Tx K mg) : F.Fr P w K mg base 3 (He.ga K "_law_number") (sp__law_number K) := (T.f__law_number).elim fun fd F1 => fr_of F1 (okF__law_number T F1) (fun _ _ _ _ _ _ us hl => match us, hl with | [_], _ => rfl)
/-- the next day's midnight -/
def nextDay (q : Mo) : Mo := if q.d + 1 > monthLen q.y q.m then (if q.m + 1 > 12 then ⟨q.y + 1, 1, 1, 0, 0⟩ else ⟨q.y, q.m + 1, 1, 0, 0⟩) else ⟨q.y, q.m, q.d + 1, 0, 0⟩
def sp__law_morrow (K : PySem.W.Frag) : Sp := fun vs H Q E => match vs with
  | [.ref t] => ∃ q, SqT K H t (moL q) ∧ 1 ≤ q.m ∧ q.m ≤ 12 ∧ ∀ p H', Same H H' → H' p = some (.tup (moL (nextDay q))) → Q (.ref p) H'
  | _ => False
theorem sc__law_morrow : FnScope ["_law_told", "_law_year", "_law_month", "_law_day"] ["_law_told"] (defScope s__law_morrow) := ⟨rfl, rfl, rfl, by decide +kernel, rfl, by decide +kernel, by decide +kernel⟩
theorem okF__law_morrow {P : Program} {w : World} {K : PySem.W.Frag} {mg : Str → Option Value} {base : Heap} {fd : FuncData} (T : Tx K mg) (F1 : FunD K "_law_morrow" "_law_morrow" (defArgs s__law_morrow) (defBody s__law_morrow) (defScope s__law_morrow) [] [] (He.ga K "_law_morrow") fd) : FnOk P w K mg base (L2.CX P w) 2 (He.ga K "_law_morrow") fd ["_law_told"] (sp__law_morrow K) := by
  have c__law_length : Fc P w K mg base 1 "_law_length" (sp__law_length K) := ⟨_, ok__law_length T, T.g__law_length, (T.f__law_length).elim fun _ z => z.kp⟩
  refine F1.ok sc__law_morrow (fun vs H Q E h => ?_) (fun cdv A outer s H vs Q E hr h => ?_)
  · unfold sp__law_morrow at h
    split at h
    · rfl
    · exact h.elim
  · unfold sp__law_morrow at h
    split at h
    rotate_left
    · exact h.elim
    · rename_i t
      refine ⟨_, (pss_cons (ps_par3 (i := 1) (j := 2) (l := 3) (by rfl) sc__law_morrow.nd rfl rfl rfl (by decide) (by decide) (by decide) rfl rfl rfl (pa_cons (pe_ix (k_ixT K) (e_v 0) pe_int (fun _ _ => rfl)) (pa_cons (pe_ix (k_ixT K) (e_v 0) pe_int (fun _ _ => rfl)) (pa_cons (pe_op (k_add K) (pe_ix (k_ixT K) (e_v 0) pe_int (fun _ _ => rfl)) pe_int) pa_nil))) (by rfl))
        (pss_cons (s_if (t_cmp o_gt (e_v 3) (e_c c__law_length hr (pa_cons (e_v 1) (pa_cons (e_v 2) pa_nil))) (nomark _)) (pss_one (ps_par (i := 2) (j := 3) (by rfl) sc__law_morrow.nd rfl rfl (by decide) rfl rfl (pa_cons (pe_op (k_add K) (e_v 2) pe_int) (pa_cons pe_int pa_nil)) (by rfl))) pss_nil)
        (pss_cons (s_if (t_cmp o_gt (e_v 2) pe_int (nomark _)) (pss_one (ps_par (i := 1) (j := 2) (by rfl) sc__law_morrow.nd rfl rfl (by decide) rfl rfl (pa_cons (pe_op (k_add K) (e_v 1) pe_int) (pa_cons pe_int pa_nil)) (by rfl))) pss_nil)
        (pss_one (ps_ret (pe_tup (pa_cons (e_v 1) (pa_cons (e_v 2) (pa_cons (e_v 3) (pa_cons pe_int (pa_cons pe_int pa_nil))))))))))), ?_⟩
      obtain ⟨q, ht, m1, m2, h⟩ := h
      have ht : SqT K H t [.int q.y, .int q.m, .int q.d, .int q.h, .int q.i] := ht
      walk_at "n"
      refine ⟨_, _, ht, rfl, ?_⟩
      walk_at "n"
      refine ⟨_, _, ht, rfl, ?_⟩
      walk_at "n"
      refine ⟨_, _, ht, rfl, ?_⟩
      walk_at "n"
      refine ⟨_, _, _, rfl, ?_⟩
      walk_at "n"
      refine ⟨⟨m1, m2⟩, fun H1 s1 => ?_⟩
      walk_at "n"
      unfold nextDay at h
      refine cond_p (fun h1 => ?_) (fun h1 => ?_)
      · rw [if_pos h1] at h
        walk_at "n"
        refine ⟨_, _, rfl, ?_⟩
        walk_at "n"
        refine cond_p (fun h2 => ?_) (fun h2 => ?_)
        · rw [if_pos h2] at h
          walk_at "n"
          refine ⟨_, _, rfl, ?_⟩
          walk_at "n"
          refine ⟨line_of (by simp), fun p hp => ?_⟩
          exact h p _ (sto s1 hp) upd_same
        · rw [if_neg h2] at h
          walk_at "n"
          refine ⟨line_of (by simp), fun p hp => ?_⟩
          exact h p _ (sto s1 hp) upd_same
      · rw [if_neg h1] at h
        walk_at "n"
        refine cond_nq (by omega) ?_
        walk_at "n"
        refine ⟨line_of (by simp), fun p hp => ?_⟩
        exact h p _ (sto s1 hp) upd_same
theorem ok__law_morrow {P : Program} {w : World} {K : PySem.W.Frag} {mg : Str → Option Value} {base : Heap} (T : Tx K mg) : F.Fr P w K mg base 2 (He.ga K "_law_morrow") (sp__law_morrow K) := (T.f__law_morrow).elim fun fd F1 => fr_of F1 (okF__law_morrow T F1) (fun _ _ _ _ _ _ us hl => match us, hl with | [_], _ => rfl)
def sp__law_moment (K : PySem.W.Frag) : Sp := fun vs H Q E => match vs with
  | [.ref t] => ∃ q, SqT K H t (moL q) ∧ q.ok ∧ ∀ x H', Same H H' → H x = none → MoAt K H' x q → Q (.ref x) H'
  | _ => False
theorem sc__law_moment : FnScope ["_law_told"] ["_law_told"] (defScope s__law_moment) := ⟨rfl, rfl, rfl, by decide +kernel, rfl, by decide +kernel, by decide +kernel⟩
theorem okF__law_moment {P : Program} {w : World} {K : PySem.W.Frag} {mg : Str → Option Value} {base : Heap} {fd : FuncData} (T : Tx K mg) (F1 : FunD K "_law_moment" "_law_moment" (defArgs s__law_moment) (defBody s__law_moment) (defScope s__law_moment) [] [] (He.ga K "_law_moment") fd) : FnOk P w K mg base (L2.CX P w) 6 (He.ga K "_law_moment") fd ["_law_told"] (sp__law_moment K) := by
  have c_Moment : Fk P w K mg base 4 "Moment" (He.ga K "Moment") (sp_Moment___init__ K) := ⟨⟨_, ok_Moment___init__ T, T.mk_Moment⟩, T.g_Moment⟩
  refine F1.ok sc__law_moment (fun vs H Q E h => ?_) (fun cdv A outer s H vs Q E hr h => ?_)
  · unfold sp__law_moment at h
    split at h
    · rfl
    · exact h.elim
  · unfold sp__law_moment at h
    split at h
    rotate_left
    · exact h.elim
    · rename_i t
      refine ⟨_, (pss_one (ps_ret (e_k c_Moment hr (pa_cons (pe_ix (k_ixT K) (e_v 0) pe_int (fun _ _ => rfl)) (pa_cons (pe_ix (k_ixT K) (e_v 0) pe_int (fun _ _ => rfl)) (pa_cons (pe_ix (k_ixT K) (e_v 0) pe_int (fun _ _ => rfl)) (pa_cons (pe_ix (k_ixT K) (e_v 0) pe_int (fun _ _ => rfl)) (pa_cons (pe_ix (k_ixT K) (e_v 0) pe_int (fun _ _ => rfl)) pa_nil)))))))), ?_⟩
      obtain ⟨q, ht, ok, h⟩ := h
      have ht : SqT K H t [.int q.y, .int q.m, .int q.d, .int q.h, .int q.i] := ht
      walk_at "n"
      refine ⟨_, _, ht, rfl, ?_⟩
      walk_at "n"
      refine ⟨_, _, ht, rfl, ?_⟩
      walk_at "n"
      refine ⟨_, _, ht, rfl, ?_⟩
      walk_at "n"
      refine ⟨_, _, ht, rfl, ?_⟩
      walk_at "n"
      refine ⟨_, _, ht, rfl, ?_⟩
      walk_at "n"
      intro x dx hx hdx ne
      exact ⟨⟨dx, upd_same, fun H3 s3 e3 => ⟨rfl, h x H3 (s3.made hx hdx) hx ⟨dx, e3⟩⟩⟩, ok⟩
theorem ok__law_moment {P : Program} {w : World} {K : PySem.W.Frag} {mg : Str → Option Value} {base : Heap} (T : Tx K mg) : F.Fr P w K mg base 6 (He.ga K "_law_moment") (sp__law_moment K) := (T.f__law_moment).elim fun fd F1 => fr_of F1 (okF__law_moment T F1) (fun _ _ _ _ _ _ us hl => match us, hl with | [_], _ => rfl)
end G
set_option maxHeartbeats 400000
namespace G
open PySem PySem.Spec PyProof.Rows L2 F
local macro_rules | `(tactic| walk_at "side") => `(tactic| first | rfl | decide | omega | assumption | (unfold CMul; omega) | (unfold CPow; omega) | (unfold CDiv; omega))
local macro_rules | `(tactic| walk_at "hp") => `(tactic| first | assumption | exact upd_same | (refine upd_keep (by assumption) ?_; walk_at "hp") | (refine sm (by assumption) ?_; walk_at "hp"))
local macro_rules | `(tactic| walk_at "n") => `(tactic| ((try conv => whnf); repeat ((first | with_reducible refine cond_t rfl ?_ | with_reducible refine cond_f rfl ?_ | with_reducible refine cond_n ?_); (try conv => whnf))))
local macro_rules | `(tactic| walk_at "go") => `(tactic| (walk_at "n"; repeat (refine And.intro ?side ?_; (case side => walk_at "side"); walk_at "n")))

open M TL
section
variable {K : PySem.W.Frag} {H H' : Hp} {g c a : Addr} {xs : List V}
theorem BagAt.dk (b : BagAt K H g c) : ∃ kvs, H g = some (.dK kvs) := let ⟨_, _, _, _, p⟩ := b; ⟨_, p.at_⟩
theorem BagAt.sl (b : BagAt K H g c) (h : SqL K H a xs) (s : SB g H H') : SqL K H' a xs := let ⟨_, e⟩ := b.dk; sl_sbd h e s
theorem BagAt.st (b : BagAt K H g c) (h : SqT K H a xs) (s : SB g H H') : SqT K H' a xs := let ⟨_, e⟩ := b.dk; st_sbd h e s
end
theorem pick {l : List Int} {r : Int} (h0 : 0 ≤ r) (h1 : r < l.length) : ∃ y, atI (l.map V.int) r = some (.int y) ∧ y ∈ l := by
  have hl : r.toNat < l.length := by omega
  refine ⟨l[r.toNat], ?_, List.getElem_mem hl⟩
  rw [atI_lt h0 (by rw [List.length_map]; omega), List.getElem?_map, List.getElem?_eq_getElem hl]
  rfl
structure DayOk (y m d : Int) : Prop where
  y1 : 1 ≤ y
  y2 : y ≤ 999998
  m1 : 1 ≤ m
  m2 : m ≤ 12
  d1 : 1 ≤ d
  d2 : d ≤ monthLen y m
def sp__law_drawn_date (K : PySem.W.Frag) : Sp := fun vs H Q E => match vs with
  | [.ref g, .ref ml] => ∃ c, BagAt K H g c ∧ ∃ ms : List Int, SqL K H ml (ms.map V.int) ∧ ms ≠ [] ∧ ms.length ≤ 1000 ∧ (∀ m, m ∈ ms → 1 ≤ m ∧ m ≤ 12) ∧ ∀ p H' y m d, SB g H H' → BagAt K H' g c → H' p = some (.tup [.int y, .int m, .int d]) → DayOk y m d → Q (.ref p) H'
  | _ => False
theorem sc__law_drawn_date : FnScope ["_law_bag_here", "_law_months", "_law_year", "_law_month", "_law_some"] ["_law_bag_here", "_law_months"] (defScope s__law_drawn_date) := ⟨rfl, rfl, rfl, by decide +kernel, rfl, by decide +kernel, by decide +kernel⟩
theorem okF__law_drawn_date {P : Program} {w : World} {K : PySem.W.Frag} {mg : Str → Option Value} {base : Heap} {fd : FuncData} (T : Tx K mg) (F1 : FunD K "_law_drawn_date" "_law_drawn_date" (defArgs s__law_drawn_date) (defBody s__law_drawn_date) (defScope s__law_drawn_date) [] [] (He.ga K "_law_drawn_date") fd) : FnOk P w K mg base (L2.CX P w) 2 (He.ga K "_law_drawn_date") fd ["_law_bag_here", "_law_months"] (sp__law_drawn_date K) := by
  have c__law_draw : Fc P w K mg base 1 "_law_draw" (sp__law_draw K) := ⟨_, ok__law_draw T, T.g__law_draw, (T.f__law_draw).elim fun _ z => z.kp⟩
  have c__law_length : Fc P w K mg base 1 "_law_length" (sp__law_length K) := ⟨_, ok__law_length T, T.g__law_length, (T.f__law_length).elim fun _ z => z.kp⟩
  refine F1.ok sc__law_drawn_date (fun vs H Q E h => ?_) (fun cdv A outer s H vs Q E hr h => ?_)
  · unfold sp__law_drawn_date at h
    split at h
    · rfl
    · exact h.elim
  · unfold sp__law_drawn_date at h
    split at h
    rotate_left
    · exact h.elim
    · rename_i g ml
      refine ⟨_, (pss_cons (ps_set (i := 2) sc__law_drawn_date.nd rfl (Or.inl rfl) (pe_ix (k_ixL K) (pe_lst (pa_cons pe_int (pa_cons pe_int (pa_cons pe_int (pa_cons pe_int (pa_cons pe_int (pa_cons pe_int (pa_cons pe_int (pa_cons pe_int (pa_cons pe_int (pa_cons pe_int pa_nil))))))))))) (e_c c__law_draw hr (pa_cons (e_v 0) (pa_cons pe_int pa_nil))) (fun _ _ => rfl)))
        (pss_cons (ps_set (i := 3) sc__law_drawn_date.nd rfl (Or.inl rfl) (pe_ix (k_ixL K) (e_v 1) (e_c c__law_draw hr (pa_cons (e_v 0) (pa_cons (kk_len K T.b_len (e_v 1)) pa_nil))) (fun _ _ => rfl)))
        (pss_cons (ps_set (i := 4) sc__law_drawn_date.nd rfl (Or.inl rfl) (pe_lst (pa_cons (pe_op (k_add K) pe_int (e_c c__law_draw hr (pa_cons (e_v 0) (pa_cons pe_int pa_nil)))) (pa_cons (pe_op (k_add K) pe_int (e_c c__law_draw hr (pa_cons (e_v 0) (pa_cons (e_c c__law_length hr (pa_cons (e_v 2) (pa_cons (e_v 3) pa_nil))) pa_nil)))) pa_nil))))
        (pss_one (ps_ret (pe_tup (pa_cons (e_v 2) (pa_cons (e_v 3) (pa_cons (pe_ix (k_ixL K) (e_v 4) (pe_op o_div (e_c c__law_draw hr (pa_cons (e_v 0) (pa_cons pe_int pa_nil))) pe_int) (fun _ _ => rfl)) pa_nil))))))))), ?_⟩
      obtain ⟨c0, b0, ms, hm, hne, hml, hms, h⟩ := h
      walk_at "n"
      refine ⟨line_of (by simp), fun p hp => ?_⟩
      walk_at "n"
      have b1 := b0.same (snew (o := .lst [.int 2019, .int 2020, .int 2021, .int 2024, .int 2015, .int 2000, .int 1900, .int 2096, .int 1, .int 999998]) hp)
      refine ⟨_, b1, by decide, by decide, fun r H2 s2 b2 r0 r1 => ?_⟩
      walk_at "n"
      obtain ⟨y, hy, my⟩ := pick (l := [2019, 2020, 2021, 2024, 2015, 2000, 1900, 2096, 1, 999998]) r0 (by simpa using r1)
      have yb : 1 ≤ y ∧ y ≤ 999998 := by
        simp at my
        omega
      refine ⟨_, _, b1.sl (SqL.of upd_same) s2, hy, ?_⟩
      walk_at "n"
      have hm2 := b1.sl (sl (snew (o := .lst [.int 2019, .int 2020, .int 2021, .int 2024, .int 2015, .int 2000, .int 1900, .int 2096, .int 1, .int 999998]) hp) hm) s2
      refine .inl ⟨_, .inl hm2, ?_⟩
      walk_at "n"
      have hpos : 0 < ms.length := List.length_pos_iff.mpr hne
      refine ⟨_, b2, by rw [List.length_map]; omega, by rw [List.length_map]; omega, fun r' H3 s3 b3 q0 q1 => ?_⟩
      walk_at "n"
      rw [List.length_map] at q1
      obtain ⟨m, hm1, mm⟩ := pick (l := ms) q0 q1
      obtain ⟨m1, m2⟩ := hms m mm
      refine ⟨_, _, b2.sl hm2 s3, hm1, ?_⟩
      walk_at "n"
      refine ⟨_, b3, by decide, by decide, fun r4 H4 s4 b4 u0 u1 => ?_⟩
      walk_at "n"
      refine ⟨⟨m1, m2⟩, fun H5 s5 => ?_⟩
      have b5 := b4.same s5
      have ml := monthLen_ge y m m1 m2
      walk_at "n"
      refine ⟨_, b5, by omega, by omega, fun r6 H6 s6 b6 w0 w1 => ?_⟩
      walk_at "n"
      refine ⟨line_of (by simp), fun p2 hp2 => ?_⟩
      walk_at "n"
      have b7 := b6.same (snew (o := .lst [.int (1 + r4), .int (1 + r6)]) hp2)
      refine ⟨_, b7, by decide, by decide, fun r8 H8 s8 b8 x0 x1 => ?_⟩
      walk_at "n"
      refine ⟨⟨by decide, by decide⟩, ?_⟩
      walk_at "n"
      obtain ⟨d, hd, dd⟩ := pick (l := [1 + r4, 1 + r6]) (r := r8 / 2) (by omega) (by show r8 / 2 < 2; omega)
      refine ⟨_, _, b7.sl (SqL.of upd_same) s8, hd, ?_⟩
      walk_at "n"
      refine ⟨line_of (by simp), fun p3 hp3 => ?_⟩
      have hdb : 1 ≤ d ∧ d ≤ monthLen y m := by
        simp at dd
        omega
      exact h p3 _ y m d (((((((sb_same (snew hp)).trans s2).trans s3).trans s4).same s5).trans s6).new hp2 |>.trans s8 |>.new hp3) (b8.same (snew hp3)) upd_same ⟨yb.1, yb.2, m1, m2, hdb.1, hdb.2⟩
theorem ok__law_drawn_date {P : Program} {w : World} {K : PySem.W.Frag} {mg : Str → Option Value} {base : Heap} (T : Tx K mg) : F.Fr P w K mg base 2 (He.ga K "_law_drawn_date") (sp__law_drawn_date K) := (T.f__law_drawn_date).elim fun fd F1 => fr_of F1 (okF__law_drawn_date T F1) (fun _ _ _ _ _ _ us hl => match us, hl with | [_, _], _ => rfl)
end G
set_option maxHeartbeats 400000
namespace G
open PySem PySem.Spec PyProof.Rows L2 F
local macro_rules | `(tactic| walk_at "side") => `(tactic| first | rfl | decide | omega | assumption | (unfold CMul; omega) | (unfold CPow; omega) | (unfold CDiv; omega))
local macro_rules | `(tactic| walk_at "hp") => `(tactic| first | assumption | exact upd_same | (refine upd_keep (by assumption) ?_; walk_at "hp") | (refine sm (by assumption) ?_; walk_at "hp"))
local macro_rules | `(tactic| walk_at "n") => `(tactic| ((try conv => whnf); repeat ((first | with_reducible refine cond_t rfl ?_ | with_reducible refine cond_f rfl ?_ | with_reducible refine cond_n ?_); (try conv => whnf))))
local macro_rules | `(tactic| walk_at "go") => `(tactic| (walk_at "n"; repeat (refine And.intro ?side ?_; (case side => walk_at "side"); walk_at "n")))

open M TL
theorem nextDay_ok {q : Mo} (k : q.ok) (hb : q.date + 1 < daysAhead 1000000) : (nextDay q).ok ∧ (nextDay q).date = q.date + 1 ∧ (nextDay q).h = 0 ∧ (nextDay q).i = 0 := by
  have e0 := date_eq q
  obtain ⟨y1, y2, m1, m2, d1, d2, h1, h2, i1, i2⟩ := k
  have st := monthsSum_step q.y (q.m - 1).toNat
  have em : (1 + (((q.m - 1).toNat : Nat) : Int)) = q.m := by omega
  rw [em] at st
  have ml := monthLen_ge q.y q.m m1 m2
  unfold nextDay
  by_cases c1 : q.d + 1 > monthLen q.y q.m
  · rw [if_pos c1]
    by_cases c2 : q.m + 1 > 12
    · rw [if_pos c2]
      have em12 : q.m = 12 := by omega
      have ds := daysAhead_step q.y
      have m12 := monthsSum_12 q.y
      have e11 : (q.m - 1).toNat = 11 := by omega
      rw [e11] at st e0
      have st : monthsSum q.y 12 = monthsSum q.y 11 + monthLen q.y q.m := st
      have e1 : (Mo.mk (q.y + 1) 1 1 0 0).date = daysAhead (q.y + 1) := by
        rw [date_eq]
        show 365 * (q.y + 1 - 1) + (q.y + 1 - 1) / 4 - (q.y + 1 - 1) / 100 + (q.y + 1 - 1) / 400 + monthsSum (q.y + 1) 0 + 1 - 1 = _
        have s0 : monthsSum (q.y + 1) 0 = 0 := rfl
        rw [s0]
        unfold daysAhead
        omega
      have ed : daysAhead (q.y + 1) = q.date + 1 := by
        have : daysAhead q.y = 365 * (q.y - 1) + (q.y - 1) / 4 - (q.y - 1) / 100 + (q.y - 1) / 400 := rfl
        omega
      have yb : q.y + 1 ≤ 999999 := by
        rcases Int.lt_or_le 999999 (q.y + 1) with z | z
        · have := daysAhead_mono (show (1000000 : Int) ≤ q.y + 1 by omega)
          omega
        · exact z
      have := monthLen_ge (q.y + 1) 1 (by decide) (by decide)
      exact ⟨⟨by show 1 ≤ q.y + 1; omega, yb, (show (1 : Int) ≤ 1 by decide), (show (1 : Int) ≤ 12 by decide), (show (1 : Int) ≤ 1 by decide), by show 1 ≤ monthLen (q.y + 1) 1; omega, (show (0 : Int) ≤ 0 by decide), (show (0 : Int) ≤ 23 by decide), (show (0 : Int) ≤ 0 by decide), (show (0 : Int) ≤ 59 by decide)⟩, by rw [e1, ed], rfl, rfl⟩
    · rw [if_neg c2]
      have ml2 := monthLen_ge q.y (q.m + 1) (by omega) (by omega)
      have e2 : (q.m + 1 - 1).toNat = (q.m - 1).toNat + 1 := by omega
      refine ⟨⟨y1, y2, by show 1 ≤ q.m + 1; omega, by show q.m + 1 ≤ 12; omega, (show (1 : Int) ≤ 1 by decide), by show 1 ≤ monthLen q.y (q.m + 1); omega, (show (0 : Int) ≤ 0 by decide), (show (0 : Int) ≤ 23 by decide), (show (0 : Int) ≤ 0 by decide), (show (0 : Int) ≤ 59 by decide)⟩, ?_, rfl, rfl⟩
      rw [date_eq, e0]
      show 365 * (q.y - 1) + (q.y - 1) / 4 - (q.y - 1) / 100 + (q.y - 1) / 400 + monthsSum q.y (q.m + 1 - 1).toNat + 1 - 1 = _
      rw [e2]
      omega
  · rw [if_neg c1]
    refine ⟨⟨y1, y2, m1, m2, by show 1 ≤ q.d + 1; omega, by show q.d + 1 ≤ monthLen q.y q.m; omega, (show (0 : Int) ≤ 0 by decide), (show (0 : Int) ≤ 23 by decide), (show (0 : Int) ≤ 0 by decide), (show (0 : Int) ≤ 59 by decide)⟩, ?_, rfl, rfl⟩
    rw [date_eq, e0]
    show 365 * (q.y - 1) + (q.y - 1) / 4 - (q.y - 1) / 100 + (q.y - 1) / 400 + monthsSum q.y (q.m - 1).toNat + (q.d + 1) - 1 = _
    omega
/-- a day's time -/
theorem DayOk.mo {y m d h i : Int} (k : DayOk y m d) (h1 : 0 ≤ h) (h2 : h ≤ 23) (i1 : 0 ≤ i) (i2 : i ≤ 59) : (Mo.mk y m d h i).ok := ⟨k.y1, by have := k.y2; show y ≤ 999999; omega, k.m1, k.m2, k.d1, k.d2, h1, h2, i1, i2⟩
theorem DayOk.date {y m d h i : Int} (k : DayOk y m d) : (Mo.mk y m d h i).date + 365 < daysAhead 1000000 + 1 := by
  have ok : (Mo.mk y m d 0 0).ok := k.mo (by decide) (by decide) (by decide) (by decide)
  have e : (Mo.mk y m d h i).date = (Mo.mk y m d 0 0).date := by unfold Mo.date; rfl
  have b := ok.date_b.2
  have y2 := k.y2
  have mo := daysAhead_mono (show y + 1 ≤ 999999 by omega)
  have e2 := daysAhead_step 999999
  have e3 : (999999 : Int) + 1 = 1000000 := by decide
  rw [e3] at e2
  have lb := leapN_b 999999
  have b : (Mo.mk y m d 0 0).date < daysAhead (y + 1) := b
  omega
theorem span_day {y m d h i h' i' : Int} (k : DayOk y m d) (a1 : 0 ≤ h) (a2 : h ≤ 23) (a3 : 0 ≤ i) (a4 : i ≤ 59) (b1 : 0 ≤ h') (b2 : h' ≤ 23) (b3 : 0 ≤ i') (b4 : i' ≤ 59) (lt : 60 * h + i < 60 * h' + i') : SpanOk ⟨y, m, d, h, i⟩ ⟨y, m, d, h', i'⟩ := by
  have e : (Mo.mk y m d h i).date = (Mo.mk y m d h' i').date := by unfold Mo.date; rfl
  have n1 := num_eq (Mo.mk y m d h i)
  have n2 := num_eq (Mo.mk y m d h' i')
  have n1 : (Mo.mk y m d h i).num = 1440 * (Mo.mk y m d h i).date + 60 * h + i := n1
  have n2 : (Mo.mk y m d h' i').num = 1440 * (Mo.mk y m d h' i').date + 60 * h' + i' := n2
  exact ⟨k.mo a1 a2 a3 a4, k.mo b1 b2 b3 b4, by omega, by omega⟩
theorem span_days {q p : Mo} (k : q.ok) (l : p.ok) (q0 : q.h = 0) (q1 : q.i = 0) (p0 : p.h = 0) (p1 : p.i = 0) (d1 : q.date < p.date) (d2 : p.date ≤ q.date + 4) : SpanOk q p := by
  have n1 := num_eq q
  have n2 := num_eq p
  exact ⟨k, l, by omega, by omega⟩
/-- tuples of ints as deep data -/
def moD (q : Mo) : PyData := .tuple [.int q.y, .int q.m, .int q.d, .int q.h, .int q.i]
structure TupAt (K : PySem.W.Frag) (H : Hp) (t : Addr × Mo) : Prop where
  at_ : SqT K H t.1 (moL t.2)
theorem dp_mo {K : PySem.W.Frag} {H : Hp} {a : Addr} {q : Mo} (h : SqT K H a (moL q)) : Dp K H (.ref a) (moD q) := .tup h (.cons (.int _) (.cons (.int _) (.cons (.int _) (.cons (.int _) (.cons (.int _) .nil)))))
theorem dp_mos {K : PySem.W.Frag} {H : Hp} : ∀ bs : List (Addr × Mo), (∀ t, t ∈ bs → SqT K H t.1 (moL t.2)) → DpAll K H (bs.map fun t => V.ref t.1) (bs.map fun t => moD t.2)
  | [], _ => .nil
  | t :: r, h => .cons (dp_mo (h t List.mem_cons_self)) (dp_mos r fun u hu => h u (List.mem_cons_of_mem _ hu))
theorem lay_mos : ∀ bs : List (Addr × Mo), PyData.canLayAll0 (bs.map fun t => moD t.2) = true ∧ PyData.depthAll (bs.map fun t => moD t.2) ≤ 1
  | [] => ⟨rfl, by decide⟩
  | t :: r => by
    have ih := lay_mos r
    constructor
    · rw [List.map_cons, PyData.canLayAll0, ih.1]
      rfl
    · rw [List.map_cons, PyData.depthAll]
      have e : (moD t.2).depth = 1 := rfl
      rw [e]
      omega
theorem ne_mos {K : PySem.W.Frag} {H : Hp} {a b : Addr} {bs : List (Addr × Mo)} (h1 : SqL K H a (bs.map fun t => V.ref t.1)) (h2 : SqL K H b []) (hz : ∀ t, t ∈ bs → SqT K H t.1 (moL t.2)) : ∃ d e, Dp K H (.ref a) d ∧ Dp K H (.ref b) e ∧ SeqAt.shaped d = true ∧ SeqAt.shaped e = true ∧ PyData.eqv d e = bs.isEmpty := by
  have l := lay_mos bs
  refine ⟨.list (bs.map fun t => moD t.2), .list [], .lst h1 (dp_mos bs hz), .lst h2 .nil, ?_, by decide +kernel, ?_⟩
  · unfold SeqAt.shaped
    have : PyData.depth (.list (bs.map fun t => moD t.2)) ≤ 64 := by
      rw [PyData.depth]
      omega
    rw [decide_eq_true this]
    simp [PyData.canLay0, l.1]
  · cases bs <;> simp [PyData.eqv, PyData.eqvAll]

end G
set_option maxHeartbeats 400000
namespace G
open PySem PySem.Spec PyProof.Rows L2 F
local macro_rules | `(tactic| walk_at "side") => `(tactic| first | rfl | decide | omega | assumption | (unfold CMul; omega) | (unfold CPow; omega) | (unfold CDiv; omega))
local macro_rules | `(tactic| walk_at "hp") => `(tactic| first | assumption | exact upd_same | (refine upd_keep (by assumption) ?_; walk_at "hp") | (refine sm (by assumption) ?_; walk_at "hp"))
local macro_rules | `(tactic| walk_at "n") => `(tactic| ((try conv => whnf); repeat ((first | with_reducible refine cond_t rfl ?_ | with_reducible refine cond_f rfl ?_ | with_reducible refine cond_n ?_); (try conv => whnf))))
local macro_rules | `(tactic| walk_at "go") => `(tactic| (walk_at "n"; repeat (refine And.intro ?side ?_; (case side => walk_at "side"); walk_at "n")))

open M TL
structure TimeOk (z : Int × Int) : Prop where
  h1 : 1 ≤ z.1
  h2 : z.1 ≤ 22
  i1 : 0 ≤ z.2
  i2 : z.2 ≤ 58
theorem pickR {α : Type} {l : List (Addr × α)} {r : Int} (h0 : 0 ≤ r) (h1 : r < l.length) : ∃ t, atI (l.map fun t => V.ref t.1) r = some (.ref t.1) ∧ t ∈ l := by
  have hl : r.toNat < l.length := by omega
  refine ⟨l[r.toNat], ?_, List.getElem_mem hl⟩
  rw [atI_lt h0 (by rw [List.length_map]; omega), List.getElem?_map, List.getElem?_eq_getElem hl]
  rfl
def sp__law_drawn_watch (K : PySem.W.Frag) : Sp := fun vs H Q E => match vs with
  | [.ref g, .ref bl, .ref tl0, .ref ml] => ∃ c, BagAt K H g c ∧ ∃ (bs : List (Addr × Mo)) (ts : List (Addr × (Int × Int))) (ms : List Int), SqL K H bl (bs.map fun t => V.ref t.1) ∧ bs.length ≤ 1000 ∧ (∀ t, t ∈ bs → SqT K H t.1 (moL t.2) ∧ DayOk t.2.y t.2.m t.2.d) ∧ SqL K H tl0 (ts.map fun t => V.ref t.1) ∧ ts ≠ [] ∧ ts.length ≤ 1000 ∧ (∀ t, t ∈ ts → SqT K H t.1 [.int t.2.1, .int t.2.2] ∧ TimeOk t.2) ∧ SqL K H ml (ms.map V.int) ∧ ms ≠ [] ∧ ms.length ≤ 1000 ∧ (∀ m, m ∈ ms → 1 ≤ m ∧ m ≤ 12) ∧ ∀ p b e H' q z, SB g H H' → BagAt K H' g c → H' p = some (.tup [.ref b, .ref e]) → SqT K H' b (moL q) → SqT K H' e (moL z) → SpanOk q z → Q (.ref p) H'
  | _ => False
theorem sc__law_drawn_watch : FnScope ["_law_bag_here", "_law_bells", "_law_times", "_law_months", "_law_kind", "_law_told", "_law_time", "_law_begin", "_law_end", "_law_k"] ["_law_bag_here", "_law_bells", "_law_times", "_law_months"] (defScope s__law_drawn_watch) := ⟨rfl, rfl, rfl, by decide +kernel, rfl, by decide +kernel, by decide +kernel⟩
theorem okF__law_drawn_watch {P : Program} {w : World} {K : PySem.W.Frag} {mg : Str → Option Value} {base : Heap} {fd : FuncData} (T : Tx K mg) (F1 : FunD K "_law_drawn_watch" "_law_drawn_watch" (defArgs s__law_drawn_watch) (defBody s__law_drawn_watch) (defScope s__law_drawn_watch) [] [] (He.ga K "_law_drawn_watch") fd) : FnOk P w K mg base (L2.CX P w) 3 (He.ga K "_law_drawn_watch") fd ["_law_bag_here", "_law_bells", "_law_times", "_law_months"] (sp__law_drawn_watch K) := by
  have c__law_draw : Fc P w K mg base 1 "_law_draw" (sp__law_draw K) := ⟨_, ok__law_draw T, T.g__law_draw, (T.f__law_draw).elim fun _ z => z.kp⟩
  have c__law_drawn_date : Fc P w K mg base 2 "_law_drawn_date" (sp__law_drawn_date K) := ⟨_, ok__law_drawn_date T, T.g__law_drawn_date, (T.f__law_drawn_date).elim fun _ z => z.kp⟩
  have c__law_morrow : Fc P w K mg base 2 "_law_morrow" (sp__law_morrow K) := ⟨_, ok__law_morrow T, T.g__law_morrow, (T.f__law_morrow).elim fun _ z => z.kp⟩
  refine F1.ok sc__law_drawn_watch (fun vs H Q E h => ?_) (fun cdv A outer s H vs Q E hr h => ?_)
  · unfold sp__law_drawn_watch at h
    split at h
    · rfl
    · exact h.elim
  · unfold sp__law_drawn_watch at h
    split at h
    rotate_left
    · exact h.elim
    · rename_i g bl tl0 ml
      refine ⟨_, (pss_cons (ps_par (i := 4) (j := 5) (by rfl) sc__law_drawn_watch.nd rfl rfl (by decide) rfl rfl (pa_cons (e_c c__law_draw hr (pa_cons (e_v 0) (pa_cons pe_int pa_nil))) (pa_cons (e_c c__law_drawn_date hr (pa_cons (e_v 0) (pa_cons (e_v 3) pa_nil))) pa_nil)) (by rfl))
        (pss_cons (s_if (PW.pt (w_and (t_cmp o_eq (e_v 4) pe_int (nomark _)) (w_and1 (t_cmp (op_neD hr.units) (e_v 1) (pe_lst pa_nil) (nomark _))))) (pss_one (ps_set (i := 5) sc__law_drawn_watch.nd rfl (Or.inl rfl) (pe_slice sl_tup (pe_ix (k_ixL K) (e_v 1) (e_c c__law_draw hr (pa_cons (e_v 0) (pa_cons (kk_len K T.b_len (e_v 1)) pa_nil))) (fun _ _ => rfl)) po_none (po_some pe_int)))) pss_nil)
        (pss_cons (ps_set (i := 6) sc__law_drawn_watch.nd rfl (Or.inl rfl) (pe_ix (k_ixL K) (e_v 2) (e_c c__law_draw hr (pa_cons (e_v 0) (pa_cons (kk_len K T.b_len (e_v 2)) pa_nil))) (fun _ _ => rfl)))
        (pss_cons (s_if (t_cmp o_eq (e_v 4) pe_int (nomark _)) (pss_one (ps_ret (pe_tup (pa_cons (pe_op (k_catT K) (e_v 5) (e_v 6)) (pa_cons (pe_op (k_catT K) (e_v 5) (pe_tup (pa_cons (pe_ix (k_ixT K) (e_v 6) pe_int (fun _ _ => rfl)) (pa_cons (pe_op (k_add K) (pe_ix (k_ixT K) (e_v 6) pe_int (fun _ _ => rfl)) pe_int) pa_nil)))) pa_nil))))) pss_nil)
        (pss_cons (s_if (t_cmp o_eq (e_v 4) pe_int (nomark _)) (pss_one (ps_ret (pe_tup (pa_cons (pe_op (k_catT K) (e_v 5) (pe_tup (pa_cons pe_int (pa_cons pe_int pa_nil)))) (pa_cons (pe_op (k_catT K) (e_v 5) (e_v 6)) pa_nil))))) pss_nil)
        (pss_cons (ps_set (i := 7) sc__law_drawn_watch.nd rfl (Or.inl rfl) (pe_op (k_catT K) (e_v 5) (pe_tup (pa_cons pe_int (pa_cons pe_int pa_nil)))))
        (pss_cons (ps_set (i := 8) sc__law_drawn_watch.nd rfl (Or.inl rfl) (e_c c__law_morrow hr (pa_cons (e_v 7) pa_nil)))
        (pss_cons (ps_for (passes_of rfl) rfl (pi_range1 rfl T.b_range (pa_cons (e_c c__law_draw hr (pa_cons (e_v 0) (pa_cons pe_int pa_nil))) pa_nil)) (pg_name (i := 9) sc__law_drawn_watch.nd rfl (Or.inl rfl))
          (pss_one (ps_set (i := 8) sc__law_drawn_watch.nd rfl (Or.inl rfl) (e_c c__law_morrow hr (pa_cons (e_v 8) pa_nil)))))
        (pss_one (ps_ret (pe_tup (pa_cons (e_v 7) (pa_cons (e_v 8) pa_nil))))))))))))), ?_⟩
      obtain ⟨c0, b0, bs, ts, ms, hbl, hbn, hbs, htl, htne, htn, hts, hml, hmne, hmn, hms, h⟩ := h
      walk_at "n"
      refine ⟨_, b0, by decide, by decide, fun r H2 s2 b2 r0 r1 => ?_⟩
      walk_at "n"
      refine ⟨_, b2, ms, b0.sl hml s2, hmne, hmn, hms, fun p3 H3 y m d s3 b3 e3 hd => ?_⟩
      walk_at "n"
      refine ⟨_, _, rfl, ?_⟩
      have hs := s2.trans s3
      walk_at "n"
      refine cond_p (fun c1 => ?a1) (fun c1 => ?a2)
      case' a1 =>
        walk_at "n"
        refine ⟨line_of (by simp), fun p4 hp4 => ?_⟩
        walk_at "n"
        obtain ⟨d1, d2, n1, n2, n3, n4, n5⟩ := ne_mos (K := K) (sl (snew (o := .lst []) hp4) (b0.sl hbl hs)) (SqL.of upd_same) (fun t ht => st (snew (o := .lst []) hp4) (b0.st (hbs t ht).1 hs))
        refine ⟨d1, d2, n1, n2, n3, n4, ?_⟩
        rw [n5]
        walk_at "n"
        have b4 := b3.same (snew (o := .lst []) hp4)
        have hs4 := hs.new (o := .lst []) hp4
        refine cond_b (fun c2 => ?a3) (fun c2 => ?a4)
        case' a3 =>
          have ht : SqT K (upd H3 p4 (.lst [])) p3 [.int y, .int m, .int d] := .inl (.inl (upd_keep hp4 e3))
          clear hs b3
          have hs := hs4
          have hb := b4
          generalize upd H3 p4 (.lst []) = Hc at *
        case' a4 =>
          walk_at "n"
          have hbl4 := b0.sl hbl hs4
          have bpos : 0 < bs.length := by
            cases bs with
            | nil => cases c2
            | cons a r => simp
          refine .inl ⟨_, .inl hbl4, ?_⟩
          walk_at "n"
          refine ⟨_, b4, by rw [List.length_map]; omega, by rw [List.length_map]; omega, fun r5 H5 s5 b5 q0 q1 => ?_⟩
          rw [List.length_map] at q1
          walk_at "n"
          obtain ⟨t, hat, mt⟩ := pickR q0 q1
          refine ⟨_, _, b4.sl hbl4 s5, hat, ?_⟩
          walk_at "n"
          refine ⟨3, rfl, ?_⟩
          walk_at "n"
          refine ⟨_, _, rfl, b0.st (hbs t mt).1 (hs4.trans s5), by show ¬ (0 = 0 ∧ 3 = 5); decide, fun p6 hp6 => ?_⟩
          walk_at "n"
          clear hd e3 hs
          have hd := (hbs t mt).2
          have hs := (hs4.trans s5).new (o := .tup (cutV (moL t.2) none (some 3))) hp6
          have hb := b5.same (snew (o := .tup (cutV (moL t.2) none (some 3))) hp6)
          have ht : SqT K (upd H5 p6 (.tup (cutV (moL t.2) none (some 3)))) p6 [.int t.2.y, .int t.2.m, .int t.2.d] := .inl (.inl upd_same)
          generalize upd H5 p6 (.tup (cutV (moL t.2) none (some 3))) = Hc at *
      case' a2 =>
        have ht : SqT K H3 p3 [.int y, .int m, .int d] := .inl (.inl e3)
        have hb := b3
        generalize hHc : H3 = Hc at *
      all_goals
        clear hbl hbs
        walk_at "n"
        have htl2 := b0.sl htl hs
        have tpos : 0 < ts.length := List.length_pos_iff.mpr htne
        refine .inl ⟨_, .inl htl2, ?_⟩
        walk_at "n"
        refine ⟨_, hb, by rw [List.length_map]; omega, by rw [List.length_map]; omega, fun rr H6 s6 b6 w0 w1 => ?_⟩
        rw [List.length_map] at w1
        walk_at "n"
        obtain ⟨tm, hatm, mtm⟩ := pickR w0 w1
        obtain ⟨htm, tok⟩ := hts tm mtm
        obtain ⟨th1, th2, ti1, ti2⟩ := tok
        refine ⟨_, _, hb.sl htl2 s6, hatm, ?_⟩
        have ht6 := hb.st ht s6
        have htm6 := b0.st htm (hs.trans s6)
        have hs6 := hs.trans s6
        walk_at "n"
        refine cond_p (fun k3 => ?_) (fun k3 => ?_)
        · walk_at "n"
          refine ⟨_, _, ht6, htm6, ⟨rfl, rfl, by simp⟩, fun p7 hp7 => ?_⟩
          walk_at "n"
          refine ⟨_, _, st (snew hp7) htm6, rfl, ?_⟩
          walk_at "n"
          refine ⟨_, _, st (snew hp7) htm6, rfl, ?_⟩
          walk_at "n"
          refine ⟨line_of (by simp), fun p8 hp8 => ?_⟩
          walk_at "n"
          refine ⟨_, _, st (sto (snew hp7) hp8) ht6, .inl (.inl upd_same), ⟨rfl, rfl, by simp⟩, fun p9 hp9 => ?_⟩
          walk_at "n"
          refine ⟨line_of (by simp), fun p10 hp10 => ?_⟩
          exact h p10 p7 p9 _ ⟨_, _, _, tm.2.1, tm.2.2⟩ ⟨_, _, _, tm.2.1, tm.2.2 + 1⟩ ((((hs6.new hp7).new hp8).new hp9).new hp10) (b6.same (sto (sto (sto (snew hp7) hp8) hp9) hp10)) upd_same (.inl (.inl (upd_keep hp10 (upd_keep hp9 (upd_keep hp8 upd_same))))) (.inl (.inl (upd_keep hp10 upd_same))) (span_day hd (by omega) (by omega) ti1 (by omega) (by omega) (by omega) (by omega) (by omega) (by omega))
        walk_at "n"
        refine cond_p (fun k4 => ?_) (fun k4 => ?_)
        · walk_at "n"
          refine ⟨line_of (by simp), fun p7 hp7 => ?_⟩
          walk_at "n"
          refine ⟨_, _, st (snew hp7) ht6, .inl (.inl upd_same), ⟨rfl, rfl, by simp⟩, fun p8 hp8 => ?_⟩
          walk_at "n"
          refine ⟨_, _, st (sto (snew hp7) hp8) ht6, st (sto (snew hp7) hp8) htm6, ⟨rfl, rfl, by simp⟩, fun p9 hp9 => ?_⟩
          walk_at "n"
          refine ⟨line_of (by simp), fun p10 hp10 => ?_⟩
          exact h p10 p8 p9 _ ⟨_, _, _, 0, 0⟩ ⟨_, _, _, tm.2.1, tm.2.2⟩ ((((hs6.new hp7).new hp8).new hp9).new hp10) (b6.same (sto (sto (sto (snew hp7) hp8) hp9) hp10)) upd_same (.inl (.inl (upd_keep hp10 (upd_keep hp9 upd_same)))) (.inl (.inl (upd_keep hp10 upd_same))) (span_day hd (by omega) (by omega) (by omega) (by omega) (by omega) (by omega) (by omega) (by omega) (by omega))
        walk_at "n"
        refine ⟨line_of (by simp), fun p7 hp7 => ?_⟩
        walk_at "n"
        refine ⟨_, _, st (snew hp7) ht6, .inl (.inl upd_same), ⟨rfl, rfl, by simp⟩, fun p8 hp8 => ?_⟩
        walk_at "n"
        have kd := hd.mo (h := 0) (i := 0) (by decide) (by decide) (by decide) (by decide)
        have dd := hd.date (h := 0) (i := 0)
        generalize hq : Mo.mk _ _ _ 0 0 = q0 at kd dd
        have q0h : q0.h = 0 := by rw [← hq]
        have q0i : q0.i = 0 := by rw [← hq]
        have e8 := upd_same (H := upd H6 p7 (.tup [.int 0, .int 0])) (a := p8) (o := .tup (moL q0))
        have s8 := (hs6.new (o := .tup [.int 0, .int 0]) hp7).new (o := .tup (moL q0)) hp8
        have b8 := b6.same (sto (snew (o := .tup [.int 0, .int 0]) hp7) (o := .tup (moL q0)) hp8)
        refine ⟨q0, ?_, kd.m1, kd.m2, fun p9 H9 s9 e9 => ?_⟩
        · rw [← hq]
          exact .inl (.inl upd_same)
        have nd := nextDay_ok kd (by omega)
        have s9 : Same (upd (upd H6 p7 (.tup [.int 0, .int 0])) p8 (.tup (moL q0))) H9 := by
          rw [← hq]
          exact s9
        generalize nextDay q0 = z0 at nd e9
        have e8 := s9 _ _ e8
        have b9 := b8.same s9
        have s9' := s8.same s9
        walk_at "n"
        refine ⟨_, b9, by decide, by decide, fun n10 H10 s10 b10 v0 v1 => ?_⟩
        walk_at "n"
        have t8 : SqT K H10 p8 (moL q0) := b9.st (.inl (.inl e8)) s10
        have t9 : SqT K H10 p9 (moL z0) := b9.st (.inl (.inl e9)) s10
        refine ⟨_, rfl, by omega, by omega, for_it (walk_range (lo := 0) (n := n10.toNat)) (fun i σ H' => ∃ p z, (Same H10 H' ∧ SqT K H' p (moL z) ∧ z.ok ∧ z.h = 0 ∧ z.i = 0 ∧ z.date = q0.date + 1 + i) ∧ ∃ v4 v5 v6 v9, σ = [some (.ref g), some (.ref bl), some (.ref tl0), some (.ref ml), v4, v5, v6, some (.ref p8), some (.ref p), v9]) ⟨p9, z0, ⟨Same.refl _, t9, nd.1, nd.2.2.1, nd.2.2.2, by omega⟩, _, _, _, _, rfl⟩ (fun _ _ _ _ _ => trivial) ?_ ?_⟩
        · rintro i x σ H1 H2 hi ⟨p, z, ⟨s11, tz, zok, zh, zi, zd⟩, v4, v5, v6, v9, rfl⟩ ⟨rfl, rfl⟩
          have nz := nextDay_ok zok (by omega)
          walk_at "n"
          refine ⟨z, tz, zok.m1, zok.m2, fun p12 H12 s12 e12 => ?_⟩
          walk_at "n"
          exact ⟨p12, nextDay z, ⟨s11.trans s12, .inl (.inl e12), nz.1, nz.2.2.1, nz.2.2.2, by omega⟩, _, _, _, _, rfl⟩
        · rintro σ H1 ⟨p, z, ⟨s11, tz, zok, zh, zi, zd⟩, v4, v5, v6, v9, rfl⟩
          walk_at "n"
          refine ⟨line_of (by simp), fun p13 hp13 => ?_⟩
          exact h p13 p8 p _ q0 z (((s9'.trans s10).same s11).new hp13) (b10.same (sto s11 hp13)) upd_same (st (sto s11 hp13) t8) (st (snew hp13) tz) (span_days kd zok q0h q0i zh zi (by omega) (by omega))
theorem ok__law_drawn_watch {P : Program} {w : World} {K : PySem.W.Frag} {mg : Str → Option Value} {base : Heap} (T : Tx K mg) : F.Fr P w K mg base 3 (He.ga K "_law_drawn_watch") (sp__law_drawn_watch K) := (T.f__law_drawn_watch).elim fun fd F1 => fr_of F1 (okF__law_drawn_watch T F1) (fun _ _ _ _ _ _ us hl => match us, hl with | [_, _, _, _], _ => rfl)
end G
set_option maxHeartbeats 400000
namespace G
open PySem PySem.Spec PyProof.Rows L2 F
local macro_rules | `(tactic| walk_at "side") => `(tactic| first | rfl | decide | omega | assumption | (unfold CMul; omega) | (unfold CPow; omega) | (unfold CDiv; omega))
local macro_rules | `(tactic| walk_at "hp") => `(tactic| first | assumption | exact upd_same | (refine upd_keep (by assumption) ?_; walk_at "hp") | (refine sm (by assumption) ?_; walk_at "hp"))
local macro_rules | `(tactic| walk_at "n") => `(tactic| ((try conv => whnf); repeat ((first | with_reducible refine cond_t rfl ?_ | with_reducible refine cond_f rfl ?_ | with_reducible refine cond_n ?_); (try conv => whnf))))
local macro_rules | `(tactic| walk_at "go") => `(tactic| (walk_at "n"; repeat (refine And.intro ?side ?_; (case side => walk_at "side"); walk_at "n")))

open M TL
/-- '0' * n -/
def zeros (n : Int) : Str := if n < 1 then Str.empty else if (n == 1 || ("0" : Str).length == 0) = true then "0" else ⟨(List.replicate n.toNat ("0" : Str).cps).foldl (· ++ ·) #[]⟩
theorem fold_zeros : ∀ (n : Nat) (acc : Array Nat), ((List.replicate n ("0" : Str).cps).foldl (· ++ ·) acc).toList = acc.toList ++ List.replicate n 48
  | 0, acc => by simp
  | n + 1, acc => by
    rw [List.replicate_succ, List.foldl_cons, fold_zeros n, Array.toList_append]
    have e : ("0" : Str).cps.toList = [48] := by decide +kernel
    rw [e, List.append_assoc, List.replicate_succ]
    rfl
theorem tl_zeros (n : Int) : tl (zeros n) = List.replicate n.toNat 48 := by
  unfold zeros
  split
  · have : n.toNat = 0 := by omega
    rw [this]
    rfl
  · split
    · rename_i h
      have e : (("0" : Str).length == 0) = false := by decide +kernel
      rw [e, Bool.or_false] at h
      have : n = 1 := by simpa using h
      rw [this]
      decide +kernel
    · show ((List.replicate n.toNat ("0" : Str).cps).foldl (· ++ ·) #[]).toList = _
      rw [fold_zeros]
      rfl
def rMulZ : R2 := fun x y H Q => match x, y with
  | .str a, .int n => a = "0" ∧ (-1000 ≤ n ∧ n ≤ 1000) ∧ Q (.str (zeros n)) H
  | _, _ => False
theorem o_mulZ {X : Cx} : OpR X (binaryOp .Mult) rMulZ := by
  intro pins s σ H x y v u Q I rx ry h
  unfold rMulZ at h
  split at h
  · obtain ⟨rfl, ⟨h1, h2⟩, q⟩ := h
    obtain ⟨t, rfl⟩ := rx
    obtain ⟨t', rfl⟩ := ry
    rename_i n
    refine PySem.P.mul_str ?_ ?_ ?_ ?_
    · rw [decide_eq_false (show ¬ n < -(2 ^ 63 : Int) by omega), decide_eq_false (show ¬ n ≥ 2 ^ 63 by omega)]
      rfl
    · intro h3 _
      have e : (("0" : Str).length : Int) = 1 := by decide +kernel
      rw [e]
      have : (1 : Int) ≤ (2 ^ 63 - 1) / n := by
        rw [Int.le_ediv_iff_mul_le (by omega)]
        omega
      omega
    · intro h3 _
      have e : ("0" : Str).length = 1 := by decide +kernel
      rw [e]
      unfold Builtin.Str.tooLong
      have : 1 * n.toNat ≤ 1000 := by omega
      have e1 := sizeLine_eq
      simp
      omega
    · unfold zeros at q
      split
      · rw [if_pos (by assumption)] at q
        exact ⟨by decide, .str _, H, I.tok _, ⟨_, rfl⟩, q⟩
      · rw [if_neg (by assumption)] at q
        split
        · rw [if_pos (by assumption)] at q
          exact ⟨.str _, H, I, ⟨_, rfl⟩, q⟩
        · rw [if_neg (by assumption)] at q
          refine ⟨?_, .str _, H, I.tok _, ⟨_, rfl⟩, q⟩
          show ((List.replicate n.toNat ("0" : Str).cps).foldl (· ++ ·) #[]).size ≤ _
          rw [← Array.length_toList, fold_zeros]
          have e1 := sizeLine_eq
          simp
          omega
  · exact h.elim
theorem tl_moStr (q : Mo) : tl (moStr q) = tl (zpad 4 q.y) ++ [45] ++ tl (zpad 2 q.m) ++ [45] ++ tl (zpad 2 q.d) ++ [32] ++ tl (zpad 2 q.h) ++ [58] ++ tl (zpad 2 q.i) := by
  unfold moStr
  simp only [tl_append]
  have e0 : tl Str.empty = [] := rfl
  have e1 : tl ("-" : Str) = [45] := by decide +kernel
  have e2 : tl (" " : Str) = [32] := by decide +kernel
  have e3 : tl (":" : Str) = [58] := by decide +kernel
  rw [e0, e1, e2, e3, List.nil_append]
/-- str(100 + n)[1:] is n in two digits -/
def two (n : Int) : Str := cutS (Str.ofString (toString (100 + n))) (some 1) none
theorem two_eq {n : Int} (h0 : 0 ≤ n) (h1 : n ≤ 99) : two n = zpad 2 n := by
  obtain ⟨k, rfl⟩ : ∃ k : Nat, n = k := ⟨n.toNat, by omega⟩
  have hk : k < 100 := by omega
  have all : ∀ k < 100, two (k : Nat) = zpad 2 (k : Nat) := by decide +kernel
  exact all k hk
theorem year_eq {y : Int} (h0 : 0 ≤ y) : zeros (4 - ((Str.ofString (toString y)).length : Int)) ++ Str.ofString (toString y) = Str.empty ++ zpad 4 y := by
  obtain ⟨k, rfl⟩ : ∃ k : Nat, y = k := ⟨y.toNat, by omega⟩
  refine ext_tl ?_
  rw [tl_append, tl_append, tl_zeros, tl_zpad, len_tl, tl_num]
  have e0 : tl Str.empty = [] := rfl
  rw [e0, List.nil_append]
  congr 2
  omega
theorem ystr_len {y : Int} (h0 : 0 ≤ y) (h1 : y ≤ 999999) : (Str.ofString (toString y)).length ≤ 6 := by
  obtain ⟨k, rfl⟩ : ∃ k : Nat, y = k := ⟨y.toNat, by omega⟩
  rw [len_tl, tl_num]
  exact numL_len (by decide) (by omega)
theorem log_small {i : Int} (h0 : 0 ≤ i) (h : i < 1000000000) : i.natAbs.log2 < 1920 := by
  by_cases e : i.natAbs = 0
  · rw [e]
    decide
  · refine (Nat.log2_lt e).mpr ?_
    have h1 : i.natAbs < 2 ^ 30 := by omega
    exact Nat.lt_of_lt_of_le h1 (Nat.pow_le_pow_right (by decide) (by decide))
def sp__law_word (K : PySem.W.Frag) : Sp := fun vs H Q E => match vs with
  | [.ref t] => ∃ q, SqT K H t (moL q) ∧ q.ok ∧ ∀ H', Same H H' → Q (.str (moStr q)) H'
  | _ => False
theorem sc__law_word : FnScope ["_law_told", "_law_year", "_law_signs", "_law_date_here", "_law_one"] ["_law_told"] (defScope s__law_word) := ⟨rfl, rfl, rfl, by decide +kernel, rfl, by decide +kernel, by decide +kernel⟩
theorem okF__law_word {P : Program} {w : World} {K : PySem.W.Frag} {mg : Str → Option Value} {base : Heap} {fd : FuncData} (T : Tx K mg) (F1 : FunD K "_law_word" "_law_word" (defArgs s__law_word) (defBody s__law_word) (defScope s__law_word) [] [] (He.ga K "_law_word") fd) : FnOk P w K mg base (L2.CX P w) 1 (He.ga K "_law_word") fd ["_law_told"] (sp__law_word K) := by
  refine F1.ok sc__law_word (fun vs H Q E h => ?_) (fun cdv A outer s H vs Q E hr h => ?_)
  · unfold sp__law_word at h
    split at h
    · rfl
    · exact h.elim
  · unfold sp__law_word at h
    split at h
    rotate_left
    · exact h.elim
    · rename_i t
      refine ⟨_, (pss_cons (ps_set (i := 1) sc__law_word.nd rfl (Or.inl rfl) (e_str T.b_str (pe_ix (k_ixT K) (e_v 0) pe_int (fun _ _ => rfl))))
        (pss_cons (ps_setLc (i := 2) (own := [("_law_one", 4)]) (g := gName 4) (tt := tYes) rfl sc__law_word.nd rfl rfl (sw_true rfl rfl rfl (by decide +kernel)) (pi_tup (pe_slice sl_tup (e_v 0) (po_some pe_int) po_none)) (blkOk_by (own := [("_law_one", 4)]) (N := ["_law_told", "_law_year", "_law_signs", "_law_date_here", "_law_one"]) (sc := defScope s__law_word) (by decide +kernel)) (fun _ _ _ _ _ => (pg_name (i := 4) sc__law_word.nd rfl (Or.inl rfl))) (fun _ _ _ _ _ => pts_nil) (fun _ _ _ _ _ => (pe_slice sl_str (e_str T.b_str (pe_op (k_add K) pe_int (e_v 4))) (po_some pe_int) po_none)))
        (pss_cons (ps_set (i := 3) sc__law_word.nd rfl (Or.inl rfl) (pe_op (k_add K) (pe_op (k_add K) (pe_op (k_add K) (pe_op (k_add K) (pe_op (k_add K) (pe_op o_mulZ pe_str (pe_op o_sub pe_int (kk_len K T.b_len (e_v 1)))) (e_v 1)) pe_str) (pe_ix (k_ixL K) (e_v 2) pe_int (fun _ _ => rfl))) pe_str) (pe_ix (k_ixL K) (e_v 2) pe_int (fun _ _ => rfl))))
        (pss_one (ps_ret (pe_op (k_add K) (pe_op (k_add K) (pe_op (k_add K) (pe_op (k_add K) (e_v 3) pe_str) (pe_ix (k_ixL K) (e_v 2) pe_int (fun _ _ => rfl))) pe_str) (pe_ix (k_ixL K) (e_v 2) pe_int (fun _ _ => rfl)))))))), ?_⟩
      obtain ⟨q, ht, ok, h⟩ := h
      have ht : SqT K H t [.int q.y, .int q.m, .int q.d, .int q.h, .int q.i] := ht
      obtain ⟨y1, y2, m1, m2, d1, d2, h1, h2, i1, i2⟩ := ok
      have d3 := (monthLen_ge q.y q.m m1 m2).2
      have m1' : 0 ≤ q.m := by omega
      have m2' : q.m ≤ 99 := by omega
      have d1' : 0 ≤ q.d := by omega
      have d2' : q.d ≤ 99 := by omega
      have h2' : q.h ≤ 99 := by omega
      have i2' : q.i ≤ 99 := by omega
      walk_at "n"
      refine ⟨_, _, ht, rfl, ?_⟩
      walk_at "n"
      refine ⟨log_small (by omega) (by omega), ?_⟩
      walk_at "n"
      refine ⟨1, rfl, ?_⟩
      walk_at "n"
      refine ⟨_, _, rfl, ht, by show ¬ (1 = 0 ∧ 5 = 5); decide, fun p hp => ?_⟩
      have sq : SqT K (upd H p (.tup (cutV [.int q.y, .int q.m, .int q.d, .int q.h, .int q.i] (some 1) none))) p ([q.m, q.d, q.h, q.i].map V.int) := .inl (.inl upd_same)
      walk_at "n"
      refine ⟨_, rfl, ⟨_, sq⟩, fun D hD => lcW (walk_tup (K := K) (a := p) (xs := [q.m, q.d, q.h, q.i].map V.int)) (fun i v _ => ∃ a, [q.m, q.d, q.h, q.i][i]? = some a ∧ v = .str (two a)) (by simp) hD (fun H' s => st s sq) (fun _ _ _ _ _ z => z) ?_ gm_name ?_⟩
      · rintro i x H1 H2 acc Nx hi s1 hd' ⟨rfl, hx⟩ nx
        rw [List.getElem?_map] at hx
        obtain ⟨a, ha, rfl⟩ := Option.map_eq_some_iff.mp hx
        have ab : 0 ≤ a ∧ a ≤ 99 := by
          have := List.mem_of_getElem? ha
          simp at this
          omega
        refine ⟨rfl, ?_⟩
        walk_at "n"
        refine ⟨log_small (by omega) (by omega), ?_⟩
        walk_at "n"
        refine ⟨1, rfl, ?_⟩
        walk_at "n"
        refine ⟨_, rfl, line_of (Nat.le_trans (ystr_len (by omega) (by omega)) (by decide)), ?_⟩
        exact nx _ _ (Same.refl _) ⟨a, ha, rfl⟩
      intro ys H1 hl hy s1 hd
      have hy' : ∀ (i : Nat) y, ys[i]? = some y → ∃ a, [q.m, q.d, q.h, q.i][i]? = some a ∧ y = (fun a => V.str (two a)) a := fun i y h => hy i y h
      have hl' : ys.length = [q.m, q.d, q.h, q.i].length := hl
      have ey := ys_get hl' hy'
      rw [ey] at hd
      have sl4 : SqL K H1 D [.str (two q.m), .str (two q.d), .str (two q.h), .str (two q.i)] := SqL.of hd
      rw [two_eq m1' m2', two_eq d1' d2', two_eq h1 h2', two_eq i1 i2'] at sl4
      have ylen := ystr_len (y := q.y) (by omega) y2
      have zl : (zeros (4 - ((Str.ofString (toString q.y)).length : Int))).length ≤ 4 := by
        rw [len_tl, tl_zeros, List.length_replicate]
        omega
      have lm := zpad_len (W := 2) (i := q.m) (by omega) (by omega)
      have ld := zpad_len (W := 2) (i := q.d) (by omega) (by omega)
      have lh := zpad_len (W := 2) (i := q.h) (by omega) (by omega)
      have li := zpad_len (W := 2) (i := q.i) (by omega) (by omega)
      have ye := year_eq (y := q.y) (by omega)
      have g0 : ("-" : Str).length = 1 := by decide
      have g1 : (" " : Str).length = 1 := by decide
      have g2 : (":" : Str).length = 1 := by decide
      walk_at "n"
      refine ⟨line_of (by omega), ?_⟩
      walk_at "n"
      refine ⟨rfl, ⟨by omega, by omega⟩, ?_⟩
      have ly := zpad_len (W := 4) (i := q.y) (by omega) (by omega)
      have ge : (Str.empty).length = 0 := rfl
      walk_at "n"
      refine ⟨line_of (by omega), ?_⟩
      rw [ye]
      walk_at "n"
      refine ⟨line_of (by simp only [Str.length_append]; omega), ?_⟩
      walk_at "n"
      refine ⟨_, _, sl4, rfl, ?_⟩
      walk_at "n"
      refine ⟨line_of (by simp only [Str.length_append]; omega), ?_⟩
      walk_at "n"
      refine ⟨line_of (by simp only [Str.length_append]; omega), ?_⟩
      walk_at "n"
      refine ⟨_, _, sl4, rfl, ?_⟩
      walk_at "n"
      refine ⟨line_of (by simp only [Str.length_append]; omega), ?_⟩
      walk_at "n"
      refine ⟨line_of (by simp only [Str.length_append]; omega), ?_⟩
      walk_at "n"
      refine ⟨_, _, sl4, rfl, ?_⟩
      walk_at "n"
      refine ⟨line_of (by simp only [Str.length_append]; omega), ?_⟩
      walk_at "n"
      refine ⟨line_of (by simp only [Str.length_append]; omega), ?_⟩
      walk_at "n"
      refine ⟨_, _, sl4, rfl, ?_⟩
      walk_at "n"
      refine ⟨line_of (by simp only [Str.length_append]; omega), ?_⟩
      exact h H1 ((snew hp).trans s1)
theorem ok__law_word {P : Program} {w : World} {K : PySem.W.Frag} {mg : Str → Option Value} {base : Heap} (T : Tx K mg) : F.Fr P w K mg base 1 (He.ga K "_law_word") (sp__law_word K) := (T.f__law_word).elim fun fd F1 => fr_of F1 (okF__law_word T F1) (fun _ _ _ _ _ _ us hl => match us, hl with | [_], _ => rfl)
end G
set_option maxHeartbeats 400000
namespace G
open PySem PySem.Spec PyProof.Rows L2 F
local macro_rules | `(tactic| walk_at "side") => `(tactic| first | rfl | decide | omega | assumption | (unfold CMul; omega) | (unfold CPow; omega) | (unfold CDiv; omega))
local macro_rules | `(tactic| walk_at "hp") => `(tactic| first | assumption | exact upd_same | (refine upd_keep (by assumption) ?_; walk_at "hp") | (refine sm (by assumption) ?_; walk_at "hp"))
local macro_rules | `(tactic| walk_at "n") => `(tactic| ((try conv => whnf); repeat ((first | with_reducible refine cond_t rfl ?_ | with_reducible refine cond_f rfl ?_ | with_reducible refine cond_n ?_); (try conv => whnf))))
local macro_rules | `(tactic| walk_at "go") => `(tactic| (walk_at "n"; repeat (refine And.intro ?side ?_; (case side => walk_at "side"); walk_at "n")))

open M TL
def specKv (r w : Addr) : List (Key × V) := [(.inr "rings", .ref r), (.inr "watches", .ref w)]
theorem kne7 : (Sum.inr "rings" : Key) ≠ .inr "watches" := by decide +kernel
/-- a watch as a pair of tuples of ints -/
structure TwAt (K : PySem.W.Frag) (H : Hp) (t : Addr × WT) : Prop where
  tup : SqT K H t.1 [.ref t.2.1.1, .ref t.2.2.1]
  m1 : SqT K H t.2.1.1 (moL t.2.1.2)
  m2 : SqT K H t.2.2.1 (moL t.2.2.2)
  ok : SpanOk t.2.1.2 t.2.2.2
/-- what _law_spec gives -/
structure SpecP (K : PySem.W.Frag) (H : Hp) (s rl wl : Addr) (rs : List (Addr × Mo)) (ws : List (Addr × WT)) : Prop where
  at_ : H s = some (.dK (specKv rl wl))
  rr : H rl = some (.lst (rs.map fun t => V.ref t.1))
  w : SqL K H wl (ws.map fun t => V.ref t.1)
  rt : ∀ t, t ∈ rs → SqT K H t.1 (moL t.2) ∧ t.2.ok
  wt : ∀ t, t ∈ ws → TwAt K H t
  rn : rs.length ≤ 20
  wn : ws.length ≤ 6
  rs_ : rs.Pairwise fun x y => x.2.num < y.2.num
  wd : (conT wc ws).Nodup
section
variable {K : PySem.W.Frag} {H H' : Hp} {s rl wl : Addr} {rs : List (Addr × Mo)} {ws : List (Addr × WT)}
theorem SpecP.r (p : SpecP K H s rl wl rs ws) : SqL K H rl (rs.map fun t => V.ref t.1) := SqL.of p.rr
theorem TwAt.same {t : Addr × WT} (h : TwAt K H t) (e : Same H H') : TwAt K H' t := ⟨st e h.tup, st e h.m1, st e h.m2, h.ok⟩
theorem SpecP.same (p : SpecP K H s rl wl rs ws) (e : Same H H') : SpecP K H' s rl wl rs ws := ⟨e _ _ p.at_, e _ _ p.rr, sl e p.w, fun t ht => ⟨st e (p.rt t ht).1, (p.rt t ht).2⟩, fun t ht => (p.wt t ht).same e, p.rn, p.wn, p.rs_, p.wd⟩
theorem SpecP.gR (p : SpecP K H s rl wl rs ws) : DGet H s (.str "rings") (some (.ref rl)) := by
  have e : valV (specKv rl wl) (.inr "rings") = some (.ref rl) := valV_pos (p := ((Sum.inr "rings" : Key), V.ref rl)) rfl
  rw [← e]
  exact DGet.k (k := .inr "rings") p.at_
theorem SpecP.gW (p : SpecP K H s rl wl rs ws) : DGet H s (.str "watches") (some (.ref wl)) := by
  have e : valV (specKv rl wl) (.inr "watches") = some (.ref wl) := by
    unfold specKv
    rw [valV_neg kne7]
    exact valV_pos (p := ((Sum.inr "watches" : Key), V.ref wl)) rfl
  rw [← e]
  exact DGet.k (k := .inr "watches") p.at_
end
def sp__law_book (K : PySem.W.Frag) : Sp := fun vs H Q E => match vs with
  | [.ref s0] => ∃ rl wl rs ws, SpecP K H s0 rl wl rs ws ∧ ∀ b H' R W, Same H H' → BookAt K H' b R W → (∀ x, x ∈ R ↔ x ∈ conT id rs) → (∀ x, x ∈ W ↔ x ∈ conT wc ws) → Q (.ref b) H'
  | _ => False
theorem sc__law_book : FnScope ["_law_spec_here", "_law_bells", "_law_ring", "_law_begin", "_law_end"] ["_law_spec_here"] (defScope s__law_book) := ⟨rfl, rfl, rfl, by decide +kernel, rfl, by decide +kernel, by decide +kernel⟩
theorem okF__law_book {P : Program} {w : World} {K : PySem.W.Frag} {mg : Str → Option Value} {base : Heap} {fd : FuncData} (T : Tx K mg) (F1 : FunD K "_law_book" "_law_book" (defArgs s__law_book) (defBody s__law_book) (defScope s__law_book) [] [] (He.ga K "_law_book") fd) : FnOk P w K mg base (L2.CX P w) 8 (He.ga K "_law_book") fd ["_law_spec_here"] (sp__law_book K) := by
  have c__law_moment : Fc P w K mg base 6 "_law_moment" (sp__law_moment K) := ⟨_, ok__law_moment T, T.g__law_moment, (T.f__law_moment).elim fun _ z => z.kp⟩
  have c_Book : Fk P w K mg base 6 "Book" (He.ga K "Book") (sp_Book___init__ K) := ⟨⟨_, ok_Book___init__ T, T.mk_Book⟩, T.g_Book⟩
  refine F1.ok sc__law_book (fun vs H Q E h => ?_) (fun cdv A outer s H vs Q E hr h => ?_)
  · unfold sp__law_book at h
    split at h
    · rfl
    · exact h.elim
  · unfold sp__law_book at h
    split at h
    rotate_left
    · exact h.elim
    · rename_i s0
      refine ⟨_, (pss_cons (ps_setLc (i := 1) (own := [("_law_ring", 2)]) (g := gName 2) (tt := tYes) rfl sc__law_book.nd rfl rfl (sw_true rfl rfl rfl (by decide +kernel)) (pi_list (e_dget hr (e_v 0) pe_str)) (blkOk_by (own := [("_law_ring", 2)]) (N := ["_law_spec_here", "_law_bells", "_law_ring", "_law_begin", "_law_end"]) (sc := defScope s__law_book) (by decide +kernel)) (fun _ _ _ _ _ => (pg_name (i := 2) sc__law_book.nd rfl (Or.inl rfl))) (fun _ _ _ _ _ => pts_nil) (fun _ _ _ _ _ => (e_c c__law_moment hr (pa_cons (e_v 2) pa_nil))))
        (pss_one (ps_ret (e_k c_Book hr (pa_cons (e_v 1) (pa_cons (pe_lc (own := [("_law_begin", 3), ("_law_end", 4)]) (tt := tYes) rfl sc__law_book.nd (pi_list (e_dget hr (e_v 0) pe_str)) (blkOk_by (own := [("_law_begin", 3), ("_law_end", 4)]) (N := ["_law_spec_here", "_law_bells", "_law_ring", "_law_begin", "_law_end"]) (sc := defScope s__law_book) (by decide +kernel)) (fun _ _ _ _ _ => (kg_tup K (n := 2) rfl (fgs_cons (pg_name (i := 3) sc__law_book.nd rfl (Or.inl rfl)) (fgs_cons (pg_name (i := 4) sc__law_book.nd rfl (Or.inl rfl)) fgs_nil)))) (fun _ _ _ _ _ => pts_nil) (fun _ _ _ _ _ => (pe_tup (pa_cons (e_c c__law_moment hr (pa_cons (e_v 3) pa_nil)) (pa_cons (e_c c__law_moment hr (pa_cons (e_v 4) pa_nil)) pa_nil))))) pa_nil)))))), ?_⟩
      obtain ⟨rl, wl, rs, ws, sp, h⟩ := h
      have hrn := sp.rn
      have hwn := sp.wn
      walk_at "n"
      refine ⟨_, _, rfl, sp.gR, ?_⟩
      walk_at "n"
      refine ⟨_, rfl, ⟨_, sp.r⟩, fun D hD => lcW (walk_list (K := K) (a := rl) (xs := rs.map fun t => V.ref t.1)) (fun i v H => ∃ t : Addr × Mo, (rs[i]?.map (fun t => t.2) = some t.2 ∧ MoAt K H t.1 t.2) ∧ v = .ref t.1) (by rw [List.length_map]; omega) hD (fun H' s => sl s sp.r) (fun i y H H' s z => ?_) ?_ gm_name ?_⟩
      · obtain ⟨t, ⟨h1, h2⟩, h3⟩ := z
        exact ⟨t, ⟨h1, h2.same s⟩, h3⟩
      · rintro i x H1 H2 acc Nx hi s1 hd' ⟨rfl, hx⟩ nx
        obtain ⟨t, ht, rfl⟩ := ref_at hx
        have m := sp.rt t (List.mem_of_getElem? ht)
        refine ⟨rfl, ?_⟩
        walk_at "n"
        refine ⟨t.2, st s1 m.1, m.2, fun y H3 s3 hy3 hm => ?_⟩
        refine nx _ _ s3 ⟨(y, t.2), ⟨by rw [ht]; rfl, ?_⟩, rfl⟩
        obtain ⟨dx, em⟩ := hm
        exact ⟨dx, hide_at em (s3 _ _ hd') fun z => by cases z⟩
      intro ys H1 hl1 hy s1 hd
      obtain ⟨us, rfl, hus⟩ := ys_ex (fun i y h => hy i y h)
      rw [List.length_map, List.length_map] at hl1
      have sp1 := sp.same s1
      walk_at "n"
      refine ⟨_, _, rfl, sp1.gW, ?_⟩
      walk_at "n"
      refine ⟨_, rfl, ⟨_, sp1.w⟩, fun D2 hD2 => lcW (walk_list (K := K) (a := wl) (xs := ws.map fun t => V.ref t.1)) (fun i v H => ∃ t : Addr × WT, (ws[i]?.map (fun t => wc t.2) = some (wc t.2) ∧ WAt K H t) ∧ v = .ref t.1) (by rw [List.length_map]; omega) hD2 (fun H' s => sl s sp1.w) (fun i y H H' s z => ?_) ?_ ?_ ?_⟩
      · obtain ⟨t, ⟨h1, h2⟩, h3⟩ := z
        exact ⟨t, ⟨h1, h2.same s⟩, h3⟩
      · rintro i x H2 H3 acc Nx hi s2 hd' ⟨rfl, hx⟩ nx
        obtain ⟨t, ht, rfl⟩ := ref_at hx
        have tw := (sp1.wt t (List.mem_of_getElem? ht)).same s2
        walk_at "n"
        refine ⟨_, tw.tup, rfl, ?_⟩
        walk_at "n"
        refine ⟨rfl, ?_⟩
        walk_at "n"
        refine ⟨_, tw.m1, tw.ok.o1, fun y H4 s4 hy4 hm => ?_⟩
        walk_at "n"
        refine ⟨_, st s4 tw.m2, tw.ok.o2, fun y2 H5 s5 hy5 hm2 => ?_⟩
        walk_at "n"
        refine ⟨line_of (by simp), fun p hp => ?_⟩
        have hdD := s5 _ _ (s4 _ _ hd')
        have nD : p ≠ D2 := fun e => by rw [e, hdD] at hp; cases hp
        refine nx _ _ ((s4.trans s5).trans (snew hp)) ⟨(p, ((y, t.2.1.2), (y2, t.2.2.2))), ⟨by rw [ht]; rfl, ?_⟩, rfl⟩
        have hid : ∀ a q, MoAt K H5 a q → MoAt K (hide D2 (upd H5 p (.tup [.ref y, .ref y2]))) a q := fun a q ⟨dx, em⟩ => ⟨dx, hide_at (upd_keep hp em) (upd_keep hp hdD) fun z => by cases z⟩
        refine ⟨.inl (.inl ?_), hid _ _ (hm.same s5), hid _ _ hm2, tw.ok⟩
        rw [hide_ne nD]
        exact upd_same
      · exact gm_t2
      intro ys2 H2 hl2 hy2 s2 hd2
      obtain ⟨vs, rfl, hvs⟩ := ys_ex (fun i y h => hy2 i y h)
      rw [List.length_map, List.length_map] at hl2
      walk_at "n"
      intro x dx hx hdx ne
      have cu : conT id us = conT id rs := by
        refine List.ext_getElem? fun i => ?_
        unfold conT
        rw [List.getElem?_map, List.getElem?_map]
        cases e1 : us[i]? with
        | none =>
          have := List.getElem?_eq_none_iff.mp e1
          rw [List.getElem?_eq_none (by omega)]
        | some u => exact (hus i u e1).1.symm
      have cv : conT wc vs = conT wc ws := by
        refine List.ext_getElem? fun i => ?_
        unfold conT
        rw [List.getElem?_map, List.getElem?_map]
        cases e1 : vs[i]? with
        | none =>
          have := List.getElem?_eq_none_iff.mp e1
          rw [List.getElem?_eq_none (by omega)]
        | some u => exact (hvs i u e1).1.symm
      have sB : Same H2 (upd (upd H2 dx (.own x)) x (.ins (CB K) dx [])) := sto (snew hdx) (by rw [upd_ne ne.symm]; exact hx)
      refine ⟨dx, us, vs, upd_same, .inl (sl sB (SqL.of (s2 _ _ hd))), fun t ht => ?_, by omega, .inl (sl sB (SqL.of hd2)), fun t ht => ?_, by omega, fun H3 R W s3 hb rc wcn _ _ => ⟨rfl, ?_⟩⟩
      · obtain ⟨i, hi⟩ := List.getElem?_of_mem ht
        have z := hus i t hi
        refine ⟨(z.2.same s2).same sB, ?_⟩
        have : t.2 ∈ conT id rs := by
          rw [← cu]
          exact mem_conT.mpr ⟨t, ht, rfl⟩
        obtain ⟨u, hu, e⟩ := mem_conT.mp this
        rw [← show u.2 = t.2 from e]
        exact (sp.rt u hu).2
      · obtain ⟨i, hi⟩ := List.getElem?_of_mem ht
        exact (hvs i t hi).2.same sB
      · exact h x H3 R W ((s1.trans s2).trans (s3.made hx hdx)) hb (fun y => by rw [rc, cu]) (fun y => by rw [wcn, cv])
theorem ok__law_book {P : Program} {w : World} {K : PySem.W.Frag} {mg : Str → Option Value} {base : Heap} (T : Tx K mg) : F.Fr P w K mg base 8 (He.ga K "_law_book") (sp__law_book K) := (T.f__law_book).elim fun fd F1 => fr_of F1 (okF__law_book T F1) (fun _ _ _ _ _ _ us hl => match us, hl with | [_], _ => rfl)
end G
set_option maxHeartbeats 400000
namespace G
open PySem PySem.Spec PyProof.Rows L2 F
local macro_rules | `(tactic| walk_at "side") => `(tactic| first | rfl | decide | omega | assumption | (unfold CMul; omega) | (unfold CPow; omega) | (unfold CDiv; omega))
local macro_rules | `(tactic| walk_at "hp") => `(tactic| first | assumption | exact upd_same | (refine upd_keep (by assumption) ?_; walk_at "hp") | (refine sm (by assumption) ?_; walk_at "hp"))
local macro_rules | `(tactic| walk_at "n") => `(tactic| ((try conv => whnf); repeat ((first | with_reducible refine cond_t rfl ?_ | with_reducible refine cond_f rfl ?_ | with_reducible refine cond_n ?_); (try conv => whnf))))
local macro_rules | `(tactic| walk_at "go") => `(tactic| (walk_at "n"; repeat (refine And.intro ?side ?_; (case side => walk_at "side"); walk_at "n")))

open M TL
def lkey (z : Mo × Mo) : Int := z.1.num * 10 ^ Int.toNat 10 + z.2.num - z.1.num
abbrev lk (z : WT) : Int := lkey (wc z)
theorem lkey_code {a b : Mo × Mo} (ha : SpanOk a.1 a.2) (hb : SpanOk b.1 b.2) (h : lkey a < lkey b) : code a < code b := by
  have e : (10 : Int) ^ Int.toNat 10 = 10000000000 := by decide +kernel
  unfold lkey at h
  rw [e] at h
  have := ha.lt
  have := ha.le
  have := hb.lt
  have := hb.le
  unfold code
  omega
theorem lkey_inj {a b : Mo × Mo} (ha : SpanOk a.1 a.2) (hb : SpanOk b.1 b.2) (h : lkey a = lkey b) : a = b := by
  have e : (10 : Int) ^ Int.toNat 10 = 10000000000 := by decide +kernel
  unfold lkey at h
  rw [e] at h
  have := ha.lt
  have := ha.le
  have := hb.lt
  have := hb.le
  exact code_inj ha hb (by unfold code; show a.1.num * 1152001 + a.2.num - a.1.num = b.1.num * 1152001 + b.2.num - b.1.num; omega)
theorem empty_app (z : Str) : Str.empty ++ z = z := ext_tl (by rw [tl_append]; rfl)
theorem st_sbl {K : PySem.W.Frag} {H H' : Hp} {a b : Addr} {xs ys : List V} (h : SqT K H a xs) (hb : H b = some (.lst ys)) (s : SB b H H') : SqT K H' a xs :=
  h.elim (fun z => z.elim (fun z => .inl (.inl (s.at z hb fun e => by cases e))) fun ⟨o, z⟩ => .inl (.inr ⟨o, s.at z hb fun e => by cases e⟩)) .inr
theorem TwAt.sbl {K : PySem.W.Frag} {H H' : Hp} {b : Addr} {ys : List V} {t : Addr × WT} (h : TwAt K H t) (hb : H b = some (.lst ys)) (s : SB b H H') : TwAt K H' t := ⟨st_sbl h.tup hb s, st_sbl h.m1 hb s, st_sbl h.m2 hb s, h.ok⟩
def sp__law_lines (K : PySem.W.Frag) : Sp := fun vs H Q E => match vs with
  | [.ref s0] => ∃ rl wl rs ws, SpecP K H s0 rl wl rs ws ∧ ∀ p H' W', Same H H' → H p = none → H' p = some (.lst ((linesOf (conT id rs) W').map V.str)) → W'.Pairwise (fun x y => code x < code y) → (∀ x, x ∈ W' ↔ x ∈ conT wc ws) → Q (.ref p) H'
  | _ => False
theorem sc__law_lines : FnScope ["_law_spec_here", "_law_found", "_law_some", "_law_begin", "_law_end", "_law_low", "_law_high", "_law_key", "_law_ring", "_law_one"] ["_law_spec_here"] (defScope s__law_lines) := ⟨rfl, rfl, rfl, by decide +kernel, rfl, by decide +kernel, by decide +kernel⟩
theorem okF__law_lines {P : Program} {w : World} {K : PySem.W.Frag} {mg : Str → Option Value} {base : Heap} {fd : FuncData} (T : Tx K mg) (F1 : FunD K "_law_lines" "_law_lines" (defArgs s__law_lines) (defBody s__law_lines) (defScope s__law_lines) [] [] (He.ga K "_law_lines") fd) : FnOk P w K mg base (L2.CX P w) 4 (He.ga K "_law_lines") fd ["_law_spec_here"] (sp__law_lines K) := by
  have c__law_word : Fc P w K mg base 1 "_law_word" (sp__law_word K) := ⟨_, ok__law_word T, T.g__law_word, (T.f__law_word).elim fun _ z => z.kp⟩
  have c__law_number : Fc P w K mg base 3 "_law_number" (sp__law_number K) := ⟨_, ok__law_number T, T.g__law_number, (T.f__law_number).elim fun _ z => z.kp⟩
  refine F1.ok sc__law_lines (fun vs H Q E h => ?_) (fun cdv A outer s H vs Q E hr h => ?_)
  · unfold sp__law_lines at h
    split at h
    · rfl
    · exact h.elim
  · unfold sp__law_lines at h
    split at h
    rotate_left
    · exact h.elim
    · rename_i s0
      refine ⟨_, (pss_cons (ps_setLc (i := 1) (own := [("_law_ring", 8)]) (g := gName 8) (tt := tYes) rfl sc__law_lines.nd rfl rfl (sw_true rfl rfl rfl (by decide +kernel)) (pi_list (e_dget hr (e_v 0) pe_str)) (blkOk_by (own := [("_law_ring", 8)]) (N := ["_law_spec_here", "_law_found", "_law_some", "_law_begin", "_law_end", "_law_low", "_law_high", "_law_key", "_law_ring", "_law_one"]) (sc := defScope s__law_lines) (by decide +kernel)) (fun _ _ _ _ _ => (pg_name (i := 8) sc__law_lines.nd rfl (Or.inl rfl))) (fun _ _ _ _ _ => pts_nil) (fun _ _ _ _ _ => (pe_op (k_add K) pe_str (e_c c__law_word hr (pa_cons (e_v 8) pa_nil)))))
        (pss_cons (ps_set (i := 2) sc__law_lines.nd rfl (Or.inl rfl) pe_dnewK)
        (pss_cons (ps_for (passes_of rfl) rfl (pi_list (e_dget hr (e_v 0) pe_str)) (kg_tup K (n := 2) rfl (fgs_cons (pg_name (i := 3) sc__law_lines.nd rfl (Or.inl rfl)) (fgs_cons (pg_name (i := 4) sc__law_lines.nd rfl (Or.inl rfl)) fgs_nil)))
          (pss_cons (ps_par (i := 5) (j := 6) (by rfl) sc__law_lines.nd rfl rfl (by decide) rfl rfl (pa_cons (e_c c__law_number hr (pa_cons (e_v 3) pa_nil)) (pa_cons (e_c c__law_number hr (pa_cons (e_v 4) pa_nil)) pa_nil)) (by rfl))
        (pss_one (ps_dput (hu_of hr) (e_v 2) (pe_op o_sub (pe_op (k_add K) (pe_op o_mul (e_v 5) (pe_op o_pow pe_int pe_int)) (e_v 6)) (e_v 5)) (pe_tup (pa_cons (e_v 3) (pa_cons (e_v 4) pa_nil))) rfl))))
        (pss_cons (ps_for (passes_of rfl) rfl (pi_list (e_sorted T.b_sorted (pe_lock (pe_lc (own := [("_law_one", 9)]) (g := gName 9) (tt := tYes) rfl sc__law_lines.nd (pi_keys (e_v 2)) (blkOk_by (own := [("_law_one", 9)]) (N := ["_law_spec_here", "_law_found", "_law_some", "_law_begin", "_law_end", "_law_low", "_law_high", "_law_key", "_law_ring", "_law_one"]) (sc := defScope s__law_lines) (by decide +kernel)) (fun _ _ _ _ _ => (pg_name (i := 9) sc__law_lines.nd rfl (Or.inl rfl))) (fun _ _ _ _ _ => pts_nil) (fun _ _ _ _ _ => (e_int T.b_int (e_v 9))))))) (pg_name (i := 7) sc__law_lines.nd rfl (Or.inl rfl))
          (pss_one (ps_expr (pe_bm PySem.F.plainAttrs_list PySem.F.slot_list_append PySem.F.type_list_append mt_append (e_v 1) (pa_cons (pe_op (k_add K) (pe_op (k_add K) (pe_op (k_add K) pe_str (e_c c__law_word hr (pa_cons (pe_ix (k_ixT K) (e_dget hr (e_v 2) (e_v 7)) pe_int (fun _ _ => rfl)) pa_nil))) pe_str) (e_c c__law_word hr (pa_cons (pe_ix (k_ixT K) (e_dget hr (e_v 2) (e_v 7)) pe_int (fun _ _ => rfl)) pa_nil))) pa_nil)))))
        (pss_one (ps_ret (e_v 1))))))), ?_⟩
      obtain ⟨rl, wl, rs, ws, sp, h⟩ := h
      have hrn := sp.rn
      have hwn := sp.wn
      walk_at "n"
      refine ⟨_, _, rfl, sp.gR, ?_⟩
      walk_at "n"
      refine ⟨_, rfl, ⟨_, sp.r⟩, fun D hD => lcW (walk_list (K := K) (a := rl) (xs := rs.map fun t => V.ref t.1)) (fun i v _ => ∃ t, rs[i]? = some t ∧ v = .str (ringLine t.2)) (by rw [List.length_map]; omega) hD (fun H' s => sl s sp.r) (fun _ _ _ _ _ z => z) ?_ gm_name ?_⟩
      · rintro i x H1 H2 acc Nx hi s1 hd' ⟨rfl, hx⟩ nx
        obtain ⟨t, ht, rfl⟩ := ref_at hx
        have m := sp.rt t (List.mem_of_getElem? ht)
        have hle := ringLine_len m.2
        unfold ringLine at hle
        simp only [Str.length_append] at hle
        refine ⟨rfl, ?_⟩
        walk_at "n"
        refine ⟨t.2, st s1 m.1, m.2, fun H3 s3 => ?_⟩
        walk_at "n"
        refine ⟨line_of (by omega), ?_⟩
        refine nx _ _ s3 ⟨t, ht, ?_⟩
        unfold ringLine
        rw [empty_app]
      intro ys H1 hl hy s1 hd
      have hl' : ys.length = rs.length := by rw [hl, List.length_map]
      have hy' : ∀ (i : Nat) y, ys[i]? = some y → ∃ a, rs[i]? = some a ∧ y = (fun u : Addr × Mo => V.str (ringLine u.2)) a := fun i y h => hy i y h
      have ey := ys_get hl' hy'
      have ey : ys = ((conT id rs).map ringLine).map V.str := by
        rw [ey]
        unfold conT
        rw [List.map_map, List.map_map]
        rfl
      rw [ey] at hd
      clear ey hy' hl' hy
      walk_at "n"
      intro E hE
      have s2 := s1.trans (snew (o := .dK []) hE)
      have sp2 := sp.same s2
      walk_at "n"
      refine ⟨_, _, rfl, sp2.gW, ?_⟩
      walk_at "n"
      refine ⟨_, rfl, ⟨_, sp2.w⟩, for_it (walk_list (K := K) (a := wl) (xs := ws.map fun t => V.ref t.1)) (fun i σ H' => (∃ us : List (Addr × WT), Same H1 H' ∧ Tab lk H' E us ∧ (∀ t, t ∈ us → TwAt K H' t) ∧ (∀ x, x ∈ conT wc us ↔ x ∈ conT wc (ws.take i)) ∧ us.length ≤ i) ∧ ∃ v3 v4 v5 v6 v7, σ = [some (.ref s0), some (.ref D), some (.ref E), v3, v4, v5, v6, v7, none, none]) ⟨⟨[], snew hE, tab_nil upd_same, fun t ht => by simp at ht, fun x => by simp [conT], Nat.le_refl _⟩, _, _, _, _, _, rfl⟩ (fun i σ H' _ z => ?_) ?_ ?_⟩
      · obtain ⟨⟨us, s3, _⟩, _⟩ := z
        exact sl s3 (sp.same s1).w
      · rintro i x σ H2 H3 hi ⟨⟨us, s3, tab, hus, huc, hul⟩, v3, v4, v5, v6, v7, rfl⟩ ⟨rfl, hx⟩
        obtain ⟨t, ht, rfl⟩ := ref_at hx
        have hi2 : i < ws.length := by rw [List.length_map] at hi; exact hi
        have tw := ((sp.same s1).wt t (List.mem_of_getElem? ht)).same s3
        have ok := tw.ok
        have n1 := ok.o1.num_b
        walk_at "n"
        refine ⟨_, tw.tup, rfl, ?_⟩
        walk_at "n"
        refine ⟨_, tw.m1, ok.o1.m1, ok.o1.m2, fun H4 s4 => ?_⟩
        walk_at "n"
        refine ⟨_, st s4 tw.m2, ok.o2.m1, ok.o2.m2, fun H5 s5 => ?_⟩
        walk_at "n"
        refine ⟨_, _, rfl, ?_⟩
        walk_at "n"
        refine ⟨line_of (by simp), fun p hp => ?_⟩
        walk_at "n"
        refine ⟨by unfold CPow; decide, ?_⟩
        walk_at "n"
        refine ⟨by unfold CMul; omega, ?_⟩
        walk_at "n"
        have s35 := (s4.trans s5).trans (snew (o := .tup [.ref t.2.1.1, .ref t.2.2.1]) hp)
        have tab5 := tab.same s35
        obtain ⟨p1, p2⟩ := tab5.put (t := (p, t.2)) (line_lt (by omega))
        refine ⟨_, _, rfl, p1, ?_⟩
        have tw5 := tw.same s35
        have e5 := tab5.at_
        have put : ∀ u, TwAt K (upd H5 p (.tup [.ref t.2.1.1, .ref t.2.2.1])) u → TwAt K (upd (upd H5 p (.tup [.ref t.2.1.1, .ref t.2.2.1])) E (.dK (kvT lk (putT lk us (p, t.2))))) u := fun u z => ⟨st_put z.tup e5, st_put z.m1 e5, st_put z.m2 e5, z.ok⟩
        refine ⟨⟨putT lk us (p, t.2), sput (s3.trans s35) hE, p2, fun u hu => ?_, fun y => ?_, Nat.le_trans put_len (by omega)⟩, _, _, _, _, _, rfl⟩
        · rcases mem_put hu with rfl | hu
          · exact put _ ⟨.inl (.inl upd_same), tw5.m1, tw5.m2, ok⟩
          · exact put _ ((hus u hu).same s35)
        · rw [con_put (t := (p, t.2)) (c := wc) (fun u hu e => lkey_inj (hus u hu).ok ok e), huc]
          exact (con_take (c := wc) ht y).symm
      · rintro σ H2 ⟨⟨us, s3, tab, hus, huc, hul⟩, v3, v4, v5, v6, v7, rfl⟩
        rw [List.length_map] at hul huc
        rw [List.take_length] at huc
        walk_at "n"
        refine keysInt tab.at_ kvT_keys (by rw [kvT_len]; omega) (by show 9 < 10; decide) (fun od R z => ?_) fun p3 H3 s4 e3 => ?_
        · walk_at "n"
          exact z
        walk_at "n"
        refine ⟨_, SqL.of e3, fun ms p4 hp hs hp4 => ?_⟩
        walk_at "n"
        obtain ⟨vs, ev, hv, hlt, hvl⟩ := tab.sorted hp hs
        subst ev
        have s14 : Same H1 (upd H3 p4 (.lst ((vs.map fun u => lk u.2).map V.int))) := (s3.trans s4).trans (snew hp4)
        have hd4 := s14 _ _ hd
        have tab4 := tab.same (s4.trans (snew (o := .lst ((vs.map fun u => lk u.2).map V.int)) hp4))
        have hus4 : ∀ t, t ∈ us → TwAt K (upd H3 p4 (.lst ((vs.map fun u => lk u.2).map V.int))) t := fun t ht => (hus t ht).same (s4.trans (snew hp4))
        have e4 := upd_same (H := H3) (a := p4) (o := .lst ((vs.map fun u => lk u.2).map V.int))
        have nD : p4 ≠ D := fun e => by
          rw [e] at hp4
          rw [s4 _ _ (s3 _ _ hd)] at hp4
          cases hp4
        generalize upd H3 p4 (.lst ((vs.map fun u => lk u.2).map V.int)) = H4 at *
        have nE : E ≠ D := fun e => by
          have := tab4.at_
          rw [e, hd4] at this
          cases this
        have hsort : (conT wc vs).Pairwise fun x y => code x < code y := by
          unfold conT
          rw [List.pairwise_map]
          exact hlt.imp_of_mem fun {a b} ha hb z => lkey_code (hus4 a ((hv a).mp ha)).ok (hus4 b ((hv b).mp hb)).ok z
        refine ⟨_, rfl, ⟨_, SqL.of e4⟩, for_it (walk_list (K := K) (a := p4) (xs := (vs.map fun u => lk u.2).map V.int)) (fun i σ H' => (SB D H4 H' ∧ H' D = some (.lst ((linesOf (conT id rs) ((conT wc vs).take i)).map V.str))) ∧ ∃ v3 v4 v5 v6 v7, σ = [some (.ref s0), some (.ref D), some (.ref E), v3, v4, v5, v6, v7, none, none]) ⟨⟨sb_refl, ?_⟩, _, _, _, _, _, rfl⟩ (fun i σ H' _ z => SqL.of (z.1.1.at2 e4 nD)) ?_ ?_⟩
        · rw [hd4]
          unfold linesOf
          simp
        · rintro i x σ H5 H6 hi ⟨⟨s5, hD5⟩, v3, v4, v5, v6, v7, rfl⟩ ⟨rfl, hx⟩
          rw [List.getElem?_map, List.getElem?_map] at hx
          cases hvi : vs[i]? with
          | none => rw [hvi] at hx; cases hx
          | some t =>
            rw [hvi] at hx
            obtain rfl : x = .int (lk t.2) := (Option.some.inj hx).symm
            have mt := (hv t).mp (List.mem_of_getElem? hvi)
            have tw := (hus4 t mt).sbl hd4 s5
            have tab5 := tab4.sb s5 nE
            have ok := tw.ok
            have hle := watchLine_len ok.o1 ok.o2
            unfold watchLine at hle
            simp only [Str.length_append] at hle
            walk_at "n"
            refine ⟨.inl ⟨rfl, _, SqL.of hD5⟩, ?_⟩
            walk_at "n"
            refine ⟨_, _, rfl, tab5.get mt, ?_⟩
            walk_at "n"
            refine ⟨_, _, tw.tup, rfl, ?_⟩
            walk_at "n"
            refine ⟨_, tw.m1, ok.o1, fun H7 s7 => ?_⟩
            walk_at "n"
            refine ⟨line_of (by omega), ?_⟩
            walk_at "n"
            refine ⟨line_of (by simp only [Str.length_append]; omega), ?_⟩
            walk_at "n"
            refine ⟨_, _, rfl, (tab5.same s7).get mt, ?_⟩
            walk_at "n"
            refine ⟨_, _, st s7 tw.tup, rfl, ?_⟩
            walk_at "n"
            refine ⟨_, st s7 tw.m2, ok.o2, fun H8 s8 => ?_⟩
            walk_at "n"
            refine ⟨line_of (by simp only [Str.length_append]; omega), ?_⟩
            walk_at "n"
            have hD8 := s8 _ _ (s7 _ _ hD5)
            refine ⟨_, _, _, rfl, rfl, hD8, ?_, ?_⟩
            · refine line_lt ?_
              unfold linesOf
              simp only [List.length_map, List.length_append, conT_len, List.length_take]
              omega
            walk_at "n"
            refine ⟨⟨(s5.same (s7.trans s8)).upd, ?_⟩, _, _, _, _, _, rfl⟩
            rw [upd_same]
            have ec : (conT wc vs)[i]? = some (wc t.2) := by
              unfold conT
              rw [List.getElem?_map, hvi]
              rfl
            have el : linesOf (conT id rs) ((conT wc vs).take (i + 1)) = linesOf (conT id rs) ((conT wc vs).take i) ++ [watchLine (wc t.2)] := by
              unfold linesOf
              rw [List.take_add_one, ec, List.map_append, List.append_assoc]
              rfl
            rw [el, List.map_append]
            unfold watchLine wc
            rw [empty_app]
            rfl
        · rintro σ H5 ⟨⟨s5, hD5⟩, v3, v4, v5, v6, v7, rfl⟩
          have e5 : ((vs.map fun u => lk u.2).map V.int).length = (conT wc vs).length := by
            rw [List.length_map, List.length_map, conT_len]
          rw [e5, List.take_length] at hD5
          walk_at "n"
          exact h D H5 (conT wc vs) (fun b o hb => s5 b o (fun e => by rw [e, hD] at hb; cases hb) (s14 _ _ (s1 _ _ hb))) hD hD5 hsort fun x => (mem_con_congr hv x).trans (huc x)
theorem ok__law_lines {P : Program} {w : World} {K : PySem.W.Frag} {mg : Str → Option Value} {base : Heap} (T : Tx K mg) : F.Fr P w K mg base 4 (He.ga K "_law_lines") (sp__law_lines K) := (T.f__law_lines).elim fun fd F1 => fr_of F1 (okF__law_lines T F1) (fun _ _ _ _ _ _ us hl => match us, hl with | [_], _ => rfl)
end G
set_option maxHeartbeats 400000
namespace G
open PySem PySem.Spec PyProof.Rows L2 F
local macro_rules | `(tactic| walk_at "side") => `(tactic| first | rfl | decide | omega | assumption | (unfold CMul; omega) | (unfold CPow; omega) | (unfold CDiv; omega))
local macro_rules | `(tactic| walk_at "hp") => `(tactic| first | assumption | exact upd_same | (refine upd_keep (by assumption) ?_; walk_at "hp") | (refine sm (by assumption) ?_; walk_at "hp"))
local macro_rules | `(tactic| walk_at "n") => `(tactic| ((try conv => whnf); repeat ((first | with_reducible refine cond_t rfl ?_ | with_reducible refine cond_f rfl ?_ | with_reducible refine cond_n ?_); (try conv => whnf))))
local macro_rules | `(tactic| walk_at "go") => `(tactic| (walk_at "n"; repeat (refine And.intro ?side ?_; (case side => walk_at "side"); walk_at "n")))

open M TL
theorem merge_put {α : Type} {k : α → Int} : ∀ (l acc : List (Addr × α)), mergeK (kvT k acc) (kvT k l) = kvT k (l.foldl (putT k) acc)
  | [], _ => rfl
  | t :: r, acc => by
    show mergeK (putK (kvT k acc) (Sum.inl (k t.2)) (.ref t.1)) (kvT k r) = _
    rw [kvT_put, merge_put r]
    rfl
theorem fold_nd {α : Type} {k : α → Int} : ∀ (l acc : List (Addr × α)), (keysT k acc).Nodup → (keysT k (l.foldl (putT k) acc)).Nodup
  | [], _, h => h
  | _ :: r, _, h => fold_nd r _ (put_nd h)
theorem fold_mem {α : Type} {k : α → Int} : ∀ (l acc : List (Addr × α)) (u : Addr × α), u ∈ l.foldl (putT k) acc → u ∈ acc ∨ u ∈ l
  | [], _, _, h => .inl h
  | t :: r, acc, u, h => by
    rcases fold_mem r _ u h with h | h
    · rcases mem_put h with h | h
      · exact .inr (by rw [h]; exact List.mem_cons_self)
      · exact .inl h
    · exact .inr (List.mem_cons_of_mem _ h)
theorem fold_len {α : Type} {k : α → Int} : ∀ (l acc : List (Addr × α)), (l.foldl (putT k) acc).length ≤ acc.length + l.length
  | [], _ => by simp
  | t :: r, acc => by
    have := fold_len (k := k) r (putT k acc t)
    have := put_len (k := k) (ts := acc) (t := t)
    rw [List.foldl_cons, List.length_cons]
    omega
theorem fold_con {α β : Type} {k : α → Int} {c : α → β} : ∀ (l acc : List (Addr × α)), (∀ u v, u ∈ acc ++ l → v ∈ acc ++ l → k u.2 = k v.2 → c u.2 = c v.2) → ∀ y, y ∈ conT c (l.foldl (putT k) acc) ↔ y ∈ conT c acc ∨ y ∈ conT c l
  | [], acc, _, y => by simp [conT]
  | t :: r, acc, inj, y => by
    have e := con_put (k := k) (c := c) (ts := acc) (t := t) (fun u hu z => inj u t (List.mem_append_left _ hu) (List.mem_append_right _ List.mem_cons_self) z) y
    have ih := fold_con (k := k) (c := c) r (putT k acc t) (fun u v hu hv z => by
      have sub : ∀ w, w ∈ putT k acc t ++ r → w ∈ acc ++ t :: r := fun w hw => by
        rcases List.mem_append.mp hw with hw | hw
        · rcases mem_put hw with rfl | hw
          · exact List.mem_append_right _ List.mem_cons_self
          · exact List.mem_append_left _ hw
        · exact List.mem_append_right _ (List.mem_cons_of_mem _ hw)
      exact inj u v (sub u hu) (sub v hv) z) y
    rw [List.foldl_cons, ih, e]
    unfold conT
    rw [List.map_cons, List.mem_cons]
    constructor
    · rintro ((h | h) | h)
      · exact .inl h
      · exact .inr (.inl h)
      · exact .inr (.inr h)
    · rintro (h | h | h)
      · exact .inl (.inl h)
      · exact .inl (.inr h)
      · exact .inr h
theorem pairs_of {K : PySem.W.Frag} {H : Hp} : ∀ zs : List (Addr × (Addr × Mo)), (∀ z, z ∈ zs → H z.1 = some (.tup [.int z.2.2.num, .ref z.2.1])) → Paired (fun p (kv : Key × V) => SqT K H p [kV kv.1, kv.2]) (zs.map fun z => z.1) (kvT Mo.num (zs.map fun z => z.2))
  | [], _ => .nil
  | z :: r, h => .cons (.inl (.inl (h z List.mem_cons_self))) (pairs_of r fun y hy => h y (List.mem_cons_of_mem _ hy))
def sp__law_ordered (K : PySem.W.Frag) : Sp := fun vs H Q E => match vs with
  | [.ref bl] => ∃ bs : List (Addr × Mo), SqL K H bl (bs.map fun t => V.ref t.1) ∧ bs.length ≤ 1000 ∧ (∀ t, t ∈ bs → SqT K H t.1 (moL t.2) ∧ t.2.ok) ∧ ∀ p H' (us : List (Addr × Mo)), Same H H' → H p = none → H' p = some (.lst (us.map fun t => V.ref t.1)) → (∀ t, t ∈ us → t ∈ bs) → (∀ x, x ∈ conT id us ↔ x ∈ conT id bs) → us.Pairwise (fun x y => x.2.num < y.2.num) → us.length ≤ bs.length → Q (.ref p) H'
  | _ => False
theorem sc__law_ordered : FnScope ["_law_bells", "_law_found", "_law_ring", "_law_one", "_law_number_here"] ["_law_bells"] (defScope s__law_ordered) := ⟨rfl, rfl, rfl, by decide +kernel, rfl, by decide +kernel, by decide +kernel⟩
theorem okF__law_ordered {P : Program} {w : World} {K : PySem.W.Frag} {mg : Str → Option Value} {base : Heap} {fd : FuncData} (T : Tx K mg) (F1 : FunD K "_law_ordered" "_law_ordered" (defArgs s__law_ordered) (defBody s__law_ordered) (defScope s__law_ordered) [] [] (He.ga K "_law_ordered") fd) : FnOk P w K mg base (L2.CX P w) 4 (He.ga K "_law_ordered") fd ["_law_bells"] (sp__law_ordered K) := by
  have c__law_number : Fc P w K mg base 3 "_law_number" (sp__law_number K) := ⟨_, ok__law_number T, T.g__law_number, (T.f__law_number).elim fun _ z => z.kp⟩
  refine F1.ok sc__law_ordered (fun vs H Q E h => ?_) (fun cdv A outer s H vs Q E hr h => ?_)
  · unfold sp__law_ordered at h
    split at h
    · rfl
    · exact h.elim
  · unfold sp__law_ordered at h
    split at h
    rotate_left
    · exact h.elim
    · rename_i bl
      refine ⟨_, (pss_cons (ps_set (i := 1) sc__law_ordered.nd rfl (Or.inr rfl) (pe_callTy (call_dictP rfl) (by rfl) T.b_dict (by decide +kernel) (pa_cons (pe_lc (own := [("_law_ring", 2)]) (g := gName 2) (tt := tYes) rfl sc__law_ordered.nd (pi_list (e_v 0)) (blkOk_by (own := [("_law_ring", 2)]) (N := ["_law_bells", "_law_found", "_law_ring", "_law_one", "_law_number_here"]) (sc := defScope s__law_ordered) (by decide +kernel)) (fun _ _ _ _ _ => (pg_name (i := 2) sc__law_ordered.nd rfl (Or.inl rfl))) (fun _ _ _ _ _ => pts_nil) (fun _ _ _ _ _ => (pe_tup (pa_cons (e_c c__law_number hr (pa_cons (e_v 2) pa_nil)) (pa_cons (e_v 2) pa_nil))))) pa_nil)))
        (pss_one (ps_ret (pe_lc (own := [("_law_number_here", 4)]) (g := gName 4) (tt := tYes) rfl sc__law_ordered.nd (pi_list (e_sorted T.b_sorted (pe_lock (pe_lc (own := [("_law_one", 3)]) (g := gName 3) (tt := tYes) rfl sc__law_ordered.nd (pi_keys (e_v 1)) (blkOk_by (own := [("_law_one", 3)]) (N := ["_law_bells", "_law_found", "_law_ring", "_law_one", "_law_number_here"]) (sc := defScope s__law_ordered) (by decide +kernel)) (fun _ _ _ _ _ => (pg_name (i := 3) sc__law_ordered.nd rfl (Or.inl rfl))) (fun _ _ _ _ _ => pts_nil) (fun _ _ _ _ _ => (e_int T.b_int (e_v 3))))))) (blkOk_by (own := [("_law_number_here", 4)]) (N := ["_law_bells", "_law_found", "_law_ring", "_law_one", "_law_number_here"]) (sc := defScope s__law_ordered) (by decide +kernel)) (fun _ _ _ _ _ => (pg_name (i := 4) sc__law_ordered.nd rfl (Or.inl rfl))) (fun _ _ _ _ _ => pts_nil) (fun _ _ _ _ _ => (e_dget hr (e_v 1) (e_v 4))))))), ?_⟩
      obtain ⟨bs, hbl, hbn, hbs, h⟩ := h
      walk_at "n"
      refine ⟨_, rfl, ⟨_, hbl⟩, fun D hD => lcW (walk_list (K := K) (a := bl) (xs := bs.map fun t => V.ref t.1)) (fun i v H => ∃ z : Addr × (Addr × Mo), (bs[i]? = some z.2 ∧ H z.1 = some (.tup [.int z.2.2.num, .ref z.2.1])) ∧ v = .ref z.1) (by rw [List.length_map]; omega) hD (fun H' s => sl s hbl) (fun i y H H' s z => ?_) ?_ gm_name ?_⟩
      · obtain ⟨t, ⟨h1, h2⟩, h3⟩ := z
        exact ⟨t, ⟨h1, s _ _ h2⟩, h3⟩
      · rintro i x H1 H2 acc Nx hi s1 hd' ⟨rfl, hx⟩ nx
        obtain ⟨t, ht, rfl⟩ := ref_at hx
        obtain ⟨m1, m2⟩ := hbs t (List.mem_of_getElem? ht)
        refine ⟨rfl, ?_⟩
        walk_at "n"
        refine ⟨t.2, st s1 m1, m2.m1, m2.m2, fun H3 s3 => ?_⟩
        walk_at "n"
        refine ⟨line_of (by simp), fun p hp => ?_⟩
        refine nx _ _ (s3.trans (snew hp)) ⟨(p, t), ⟨ht, ?_⟩, rfl⟩
        have nD : p ≠ D := fun e => by rw [e, s3 _ _ hd'] at hp; cases hp
        show hide D _ p = _
        rw [hide_ne nD]
        exact upd_same
      intro ys H1 hl1 hy s1 hd
      obtain ⟨zs, rfl, hzs⟩ := ys_ex (fun i y h => hy i y h)
      rw [List.length_map, List.length_map] at hl1
      have ez : (zs.map fun z => z.2) = bs := by
        refine List.ext_getElem? fun i => ?_
        rw [List.getElem?_map]
        cases e1 : zs[i]? with
        | none =>
          have := List.getElem?_eq_none_iff.mp e1
          rw [List.getElem?_eq_none (by omega)]
          rfl
        | some u => exact (hzs i u e1).1.symm
      have pr := pairs_of (K := K) (H := H1) zs fun z hz => by
        obtain ⟨i, hi⟩ := List.getElem?_of_mem hz
        exact (hzs i z hi).2
      rw [ez] at pr
      have sq : SqL K H1 D ((zs.map fun z => z.1).map V.ref) := by
        rw [List.map_map]
        exact SqL.of hd
      walk_at "n"
      refine ⟨_, _, _, rfl, sq, pr, fun E hE => ?_⟩
      have em := merge_put (k := Mo.num) bs []
      rw [show kvT Mo.num ([] : List (Addr × Mo)) = [] from rfl] at em
      rw [em]
      have nd := fold_nd (k := Mo.num) bs [] List.nodup_nil
      have fl := fold_len (k := Mo.num) bs []
      have fm := fold_mem (k := Mo.num) bs []
      have fc := fold_con (k := Mo.num) (c := (id : Mo → Mo)) bs [] (fun u v hu hv z => Mo.num_inj (hbs u (by simpa using hu)).2 (hbs v (by simpa using hv)).2 z)
      generalize bs.foldl (putT Mo.num) [] = ts at *
      have tab : Tab Mo.num (upd H1 E (.dK (kvT Mo.num ts))) E ts := ⟨upd_same, nd⟩
      have s2 : Same H (upd H1 E (.dK (kvT Mo.num ts))) := sto s1 hE
      simp at fl fm
      walk_at "n"
      refine keysInt tab.at_ kvT_keys (by rw [kvT_len]; omega) (by show 3 < 5; decide) (fun od R z => ?_) fun p3 H3 s4 e3 => ?_
      · walk_at "n"
        exact z
      walk_at "n"
      refine ⟨_, SqL.of e3, fun ms p4 hp hs hp4 => ?_⟩
      walk_at "n"
      obtain ⟨us, ev, hv, hlt, hvl⟩ := tab.sorted hp hs
      subst ev
      have tab4 := tab.same (s4.trans (snew (o := .lst ((us.map fun u => u.2.num).map V.int)) hp4))
      have s5 : Same H (upd H3 p4 (.lst ((us.map fun u => u.2.num).map V.int))) := (s2.trans s4).trans (snew hp4)
      have sq4 : SqL K (upd H3 p4 (.lst ((us.map fun u => u.2.num).map V.int))) p4 ((us.map fun u => u.2.num).map V.int) := SqL.of upd_same
      refine ⟨_, rfl, ⟨_, sq4⟩, fun D2 hD2 => lcW (walk_list (K := K) (a := p4) (xs := (us.map fun u => u.2.num).map V.int)) (fun i v _ => ∃ t, us[i]? = some t ∧ v = V.ref t.1) (by rw [List.length_map, List.length_map]; omega) hD2 (fun H' s => sl s sq4) (fun _ _ _ _ _ z => z) ?_ gm_name ?_⟩
      · rintro j x H5 H6 acc Nx hj s6 hd' ⟨rfl, hx⟩ nx
        rw [List.getElem?_map, List.getElem?_map] at hx
        cases hu2 : us[j]? with
        | none => rw [hu2] at hx; cases hx
        | some t =>
          rw [hu2] at hx
          obtain rfl : x = .int t.2.num := (Option.some.inj hx).symm
          refine ⟨rfl, ?_⟩
          walk_at "n"
          refine ⟨_, _, rfl, (tab4.same s6).get ((hv t).mp (List.mem_of_getElem? hu2)), ?_⟩
          exact nx _ _ (Same.refl _) ⟨t, hu2, rfl⟩
      · intro ys2 H5 hl5 hy5 s6 hd5
        have hl5' : ys2.length = us.length := by rw [hl5, List.length_map, List.length_map]
        have hy5' : ∀ (i : Nat) y, ys2[i]? = some y → ∃ a, us[i]? = some a ∧ y = (fun t : Addr × Mo => V.ref t.1) a := fun i y h => hy5 i y h
        have e5 := ys_get hl5' hy5'
        walk_at "n"
        rw [e5] at hd5
        refine h D2 H5 us (s5.trans s6) (s5.free hD2) hd5 (fun t ht => fm _ _ ((hv t).mp ht)) (fun x => ?_) hlt (by omega)
        rw [mem_con_congr hv x, fc x]
        simp [conT]
theorem ok__law_ordered {P : Program} {w : World} {K : PySem.W.Frag} {mg : Str → Option Value} {base : Heap} (T : Tx K mg) : F.Fr P w K mg base 4 (He.ga K "_law_ordered") (sp__law_ordered K) := (T.f__law_ordered).elim fun fd F1 => fr_of F1 (okF__law_ordered T F1) (fun _ _ _ _ _ _ us hl => match us, hl with | [_], _ => rfl)
end G
set_option maxHeartbeats 400000
namespace G
open PySem PySem.Spec PyProof.Rows L2 F
local macro_rules | `(tactic| walk_at "side") => `(tactic| first | rfl | decide | omega | assumption | (unfold CMul; omega) | (unfold CPow; omega) | (unfold CDiv; omega))
local macro_rules | `(tactic| walk_at "hp") => `(tactic| first | assumption | exact upd_same | (refine upd_keep (by assumption) ?_; walk_at "hp") | (refine sm (by assumption) ?_; walk_at "hp"))
local macro_rules | `(tactic| walk_at "n") => `(tactic| ((try conv => whnf); repeat ((first | with_reducible refine cond_t rfl ?_ | with_reducible refine cond_f rfl ?_ | with_reducible refine cond_n ?_); (try conv => whnf))))
local macro_rules | `(tactic| walk_at "go") => `(tactic| (walk_at "n"; repeat (refine And.intro ?side ?_; (case side => walk_at "side"); walk_at "n")))

open M TL
theorem sbput {H1 H : Hp} {g D : Addr} {o : HO} (s : SB g H1 H) (hD : H1 D = none) : SB g H1 (upd H D o) := fun b u n h => by
  rw [upd_ne (fun e => by rw [e, hD] at h; cases h)]
  exact s b u n h
theorem BagAt.put {K : PySem.W.Frag} {H : Hp} {g c D : Addr} {o : HO} {ys : List V} (b : BagAt K H g c) (hD : H D = some (.lst ys)) (nc : D ≠ c) : BagAt K (upd H D o) g c := by
  obtain ⟨a, r, k, ns, p⟩ := b
  refine ⟨a, r, k, ns, ?_, ?_, p.a0, p.r0, p.s0, p.s1, p.n⟩
  · rw [upd_ne fun e => by have := p.at_; rw [e, hD] at this; cases this]
    exact p.at_
  · rw [upd_ne (Ne.symm nc)]
    exact p.cc
theorem BagAt.ne {K : PySem.W.Frag} {H : Hp} {g c D : Addr} (b : BagAt K H g c) (hD : H D = none) : D ≠ c := fun e => by
  obtain ⟨a, r, k, ns, p⟩ := b
  have := p.cc
  rw [← e, hD] at this
  cases this
section
variable {K : PySem.W.Frag} {J : It} {n : Nat} {G : Hp → Prop} {Y : Nat → Hp → V → Hp → Prop} {gt : TG} {te : TE} {vs : List Nat} {σ : L2.St} {H1 : Hp} {D g c : Addr} {Qd : Hp → Prop}
/-- a comprehension whose turns draw from the bag -/
theorem lcB (w : Walk J n G Y) (R : Nat → V → Hp → Prop) (hn : n ≤ 1000000) (hD : H1 D = none) (bag : BagAt K H1 g c) (hG : ∀ H, SB g H1 H → G H)
    (mono : ∀ i y H H', BagAt K H g c → SB g H H' → R i y H → R i y H') (put : ∀ i y H acc o, H D = some (.lst acc) → R i y H → R i y (upd H D o))
    (turn : ∀ i x H H' acc (Nx : V → Hp → Prop), i < n → SB g H1 H → BagAt K H g c → H D = some (.lst acc) → Y i H x H' → (∀ y H4, SB g H H4 → BagAt K H4 g c → R i y H4 → Nx y H4) → gt x (wipe σ vs) H' fun σ2 H2 => wipe σ2 vs = wipe σ vs ∧ te σ2 H2 Nx)
    (gm : ∀ x σ H (P P' : L2.St → Hp → Prop), (∀ σ2 H2, P σ2 H2 → P' σ2 H2) → gt x σ H P → gt x σ H P')
    (done : ∀ ys H, ys.length = n → (∀ i y, ys[i]? = some y → R i y H) → SB g H1 H → BagAt K H g c → H D = some (.lst ys) → Qd H) : LcW J gt tYes te vs σ H1 D Qd := by
  have nc := bag.ne hD
  have nDg : D ≠ g := fun e => by
    obtain ⟨kvs, hk⟩ := bag.dk
    rw [e, hk] at hD
    cases hD
  refine lc_it w (fun i H => ∃ acc : List V, acc.length = i ∧ H D = some (.lst acc) ∧ SB g H1 H ∧ BagAt K H g c ∧ ∀ j y, acc[j]? = some y → R j y H) ⟨[], rfl, upd_same, sb_same (snew hD), bag.same (snew hD), fun j y h => by simp at h⟩ (fun i H _ ⟨_, _, _, s, _⟩ => hG H s) ?_ ?_
  · rintro i x H H' hi ⟨acc, hl, hd, s, bg, hR⟩ y
    let Nx : V → Hp → Prop := fun y H4 => ∃ acc, H4 D = some (.lst acc) ∧ acc.length < sizeLine ∧ ∃ acc' : List V, acc'.length = i + 1 ∧ upd H4 D (.lst (acc ++ [y])) D = some (.lst acc') ∧ SB g H1 (upd H4 D (.lst (acc ++ [y]))) ∧ BagAt K (upd H4 D (.lst (acc ++ [y]))) g c ∧ ∀ j z, acc'[j]? = some z → R j z (upd H4 D (.lst (acc ++ [y])))
    have t := turn i x H H' acc Nx hi s bg hd y ?_
    · refine gm _ _ _ _ _ (fun σ2 H2 z => ⟨z.1, ?_⟩) t
      simp only [tYes, ↓reduceIte]
      exact z.2
    refine fun y H4 s4 b4 r4 => ?_
    have hd4 := s4.at2 hd nDg
    refine ⟨acc, hd4, line_lt (by omega), acc ++ [y], by rw [List.length_append, hl] <;> rfl, upd_same, sbput (s.trans s4) hD, b4.put hd4 nc, fun j z hz => ?_⟩
    refine put _ _ _ _ _ hd4 ?_
    by_cases hj : j < acc.length
    · rw [List.getElem?_append_left hj] at hz
      exact mono _ _ _ _ bg s4 (hR j z hz)
    · rw [List.getElem?_append_right (Nat.le_of_not_lt hj)] at hz
      have e0 : j - acc.length = 0 := by
        cases e : j - acc.length with
        | zero => rfl
        | succ m => rw [e] at hz; simp at hz
      rw [e0] at hz
      have ez : y = z := by simpa using hz
      have ej : j = i := by omega
      subst ez ej
      exact r4
  · rintro H ⟨acc, hl, hd, s, bg, hR⟩
    exact done acc H hl hR s bg hd
end
def pwD (z : Mo × Mo) : PyData := .tuple [moD z.1, moD z.2]
theorem moD_eqv (a b : Mo) : PyData.eqv (moD a) (moD b) = decide (a = b) := by
  obtain ⟨a1, a2, a3, a4, a5⟩ := a
  obtain ⟨b1, b2, b3, b4, b5⟩ := b
  unfold moD
  simp only [PyData.eqv, PyData.eqvAll, Bool.and_true, Mo.mk.injEq]
  by_cases c1 : a1 = b1 <;> by_cases c2 : a2 = b2 <;> by_cases c3 : a3 = b3 <;> by_cases c4 : a4 = b4 <;> by_cases c5 : a5 = b5 <;> simp [c1, c2, c3, c4, c5]
theorem pwD_eqv (a b : Mo × Mo) : PyData.eqv (pwD a) (pwD b) = decide (a = b) := by
  obtain ⟨a1, a2⟩ := a
  obtain ⟨b1, b2⟩ := b
  unfold pwD
  simp only [PyData.eqv, PyData.eqvAll, Bool.and_true, moD_eqv, Prod.mk.injEq]
  by_cases h1 : a1 = b1 <;> by_cases h2 : a2 = b2 <;> simp [h1, h2]
theorem pw_any (l : List (Mo × Mo)) (z : Mo × Mo) : ((l.map pwD).any fun y => PyData.eqv y (pwD z)) = decide (z ∈ l) := by
  induction l with
  | nil => simp
  | cons a r ih =>
    rw [List.map_cons, List.any_cons, ih, pwD_eqv]
    by_cases h : a = z
    · subst h
      simp
    · have h' : ¬ z = a := fun e => h e.symm
      simp [h, h']
theorem dp_tw {K : PySem.W.Frag} {H : Hp} {t : Addr × WT} (h : TwAt K H t) : Dp K H (.ref t.1) (pwD (wc t.2)) := .tup h.tup (.cons (dp_mo h.m1) (.cons (dp_mo h.m2) .nil))
theorem dp_tws {K : PySem.W.Frag} {H : Hp} : ∀ ws : List (Addr × WT), (∀ t, t ∈ ws → TwAt K H t) → DpAll K H (ws.map fun t => V.ref t.1) ((conT wc ws).map pwD)
  | [], _ => .nil
  | t :: r, h => .cons (dp_tw (h t List.mem_cons_self)) (dp_tws r fun u hu => h u (List.mem_cons_of_mem _ hu))
theorem lay_tws : ∀ l : List (Mo × Mo), PyData.canLayAll0 (l.map pwD) = true ∧ PyData.depthAll (l.map pwD) ≤ 2
  | [] => ⟨rfl, by decide⟩
  | t :: r => by
    have ih := lay_tws r
    constructor
    · rw [List.map_cons, PyData.canLayAll0, ih.1]
      rfl
    · rw [List.map_cons, PyData.depthAll]
      have e : (pwD t).depth = 2 := rfl
      rw [e]
      omega
theorem notin_tws {K : PySem.W.Frag} {H : Hp} {a b : Addr} {ws : List (Addr × WT)} {z : WT} (h1 : SqL K H b (ws.map fun t => V.ref t.1)) (hz : ∀ t, t ∈ ws → TwAt K H t) (h2 : TwAt K H (a, z)) :
    ∃ d ds, Dp K H (.ref a) d ∧ Dp K H (.ref b) (.list ds) ∧ SeqAt.shaped d = true ∧ SeqAt.shaped (.list ds) = true ∧ (ds.any fun y => PyData.eqv y d) = decide (wc z ∈ conT wc ws) := by
  have l := lay_tws (conT wc ws)
  refine ⟨pwD (wc z), (conT wc ws).map pwD, dp_tw h2, .lst h1 (dp_tws ws hz), ?_, ?_, pw_any _ _⟩
  · unfold SeqAt.shaped
    have e : (pwD (wc z)).depth = 2 := rfl
    have e2 : (pwD (wc z)).canLay0 = true := rfl
    rw [e, e2]
    rfl
  · unfold SeqAt.shaped
    have : PyData.depth (.list ((conT wc ws).map pwD)) ≤ 64 := by
      rw [PyData.depth]
      omega
    rw [decide_eq_true this]
    simp [PyData.canLay0, l.1]
def sp__law_spec (K : PySem.W.Frag) : Sp := fun vs H Q E => match vs with
  | [.ref g, .int most] => ∃ c, BagAt K H g c ∧ 0 ≤ most ∧ most ≤ 9 ∧ ∀ s H' rl wl rs ws, SB g H H' → BagAt K H' g c → H s = none → SpecP K H' s rl wl rs ws → rs.length ≤ 9 → Q (.ref s) H'
  | _ => False
theorem sc__law_spec : FnScope ["_law_bag_here", "_law_most", "_law_months", "_law_times", "_law_bells", "_law_k", "_law_watches", "_law_watch"] ["_law_bag_here", "_law_most"] (defScope s__law_spec) := ⟨rfl, rfl, rfl, by decide +kernel, rfl, by decide +kernel, by decide +kernel⟩
theorem okF__law_spec {P : Program} {w : World} {K : PySem.W.Frag} {mg : Str → Option Value} {base : Heap} {fd : FuncData} (T : Tx K mg) (F1 : FunD K "_law_spec" "_law_spec" (defArgs s__law_spec) (defBody s__law_spec) (defScope s__law_spec) [] [] (He.ga K "_law_spec") fd) : FnOk P w K mg base (L2.CX P w) 6 (He.ga K "_law_spec") fd ["_law_bag_here", "_law_most"] (sp__law_spec K) := by
  have c__law_draw : Fc P w K mg base 1 "_law_draw" (sp__law_draw K) := ⟨_, ok__law_draw T, T.g__law_draw, (T.f__law_draw).elim fun _ z => z.kp⟩
  have c__law_drawn_date : Fc P w K mg base 2 "_law_drawn_date" (sp__law_drawn_date K) := ⟨_, ok__law_drawn_date T, T.g__law_drawn_date, (T.f__law_drawn_date).elim fun _ z => z.kp⟩
  have c__law_drawn_watch : Fc P w K mg base 3 "_law_drawn_watch" (sp__law_drawn_watch K) := ⟨_, ok__law_drawn_watch T, T.g__law_drawn_watch, (T.f__law_drawn_watch).elim fun _ z => z.kp⟩
  have c__law_ordered : Fc P w K mg base 4 "_law_ordered" (sp__law_ordered K) := ⟨_, ok__law_ordered T, T.g__law_ordered, (T.f__law_ordered).elim fun _ z => z.kp⟩
  refine F1.ok sc__law_spec (fun vs H Q E h => ?_) (fun cdv A outer s H vs Q E hr h => ?_)
  · unfold sp__law_spec at h
    split at h
    · rfl
    · exact h.elim
  · unfold sp__law_spec at h
    split at h
    rotate_left
    · exact h.elim
    · rename_i g most
      refine ⟨_, (pss_cons (ps_setLc (i := 2) (own := [("_law_k", 5)]) (g := gName 5) (tt := tYes) rfl sc__law_spec.nd rfl rfl (sw_true rfl rfl rfl (by decide +kernel)) (pi_range1 rfl T.b_range (pa_cons (pe_op (k_add K) pe_int (e_c c__law_draw hr (pa_cons (e_v 0) (pa_cons pe_int pa_nil)))) pa_nil)) (blkOk_by (own := [("_law_k", 5)]) (N := ["_law_bag_here", "_law_most", "_law_months", "_law_times", "_law_bells", "_law_k", "_law_watches", "_law_watch"]) (sc := defScope s__law_spec) (by decide +kernel)) (fun _ _ _ _ _ => (pg_name (i := 5) sc__law_spec.nd rfl (Or.inl rfl))) (fun _ _ _ _ _ => pts_nil) (fun _ _ _ _ _ => (pe_op (k_add K) pe_int (e_c c__law_draw hr (pa_cons (e_v 0) (pa_cons pe_int pa_nil))))))
        (pss_cons (ps_setLc (i := 3) (own := [("_law_k", 5)]) (g := gName 5) (tt := tYes) rfl sc__law_spec.nd rfl rfl (sw_true rfl rfl rfl (by decide +kernel)) (pi_range1 rfl T.b_range (pa_cons (pe_op (k_add K) pe_int (e_c c__law_draw hr (pa_cons (e_v 0) (pa_cons pe_int pa_nil)))) pa_nil)) (blkOk_by (own := [("_law_k", 5)]) (N := ["_law_bag_here", "_law_most", "_law_months", "_law_times", "_law_bells", "_law_k", "_law_watches", "_law_watch"]) (sc := defScope s__law_spec) (by decide +kernel)) (fun _ _ _ _ _ => (pg_name (i := 5) sc__law_spec.nd rfl (Or.inl rfl))) (fun _ _ _ _ _ => pts_nil) (fun _ _ _ _ _ => (pe_tup (pa_cons (pe_op (k_add K) pe_int (e_c c__law_draw hr (pa_cons (e_v 0) (pa_cons pe_int pa_nil)))) (pa_cons (e_c c__law_draw hr (pa_cons (e_v 0) (pa_cons pe_int pa_nil))) pa_nil)))))
        (pss_cons (ps_set (i := 4) sc__law_spec.nd rfl (Or.inl rfl) (pe_lst pa_nil))
        (pss_cons (ps_for (passes_of rfl) rfl (pi_range1 rfl T.b_range (pa_cons (e_c c__law_draw hr (pa_cons (e_v 0) (pa_cons (pe_op (k_add K) (e_v 1) pe_int) pa_nil))) pa_nil)) (pg_name (i := 5) sc__law_spec.nd rfl (Or.inl rfl))
          (pss_one (ps_expr (pe_bm PySem.F.plainAttrs_list PySem.F.slot_list_append PySem.F.type_list_append mt_append (e_v 4) (pa_cons (pe_op (k_catT K) (e_c c__law_drawn_date hr (pa_cons (e_v 0) (pa_cons (e_v 2) pa_nil))) (pe_ix (k_ixL K) (e_v 3) (e_c c__law_draw hr (pa_cons (e_v 0) (pa_cons (kk_len K T.b_len (e_v 3)) pa_nil))) (fun _ _ => rfl))) pa_nil)))))
        (pss_cons (ps_set (i := 6) sc__law_spec.nd rfl (Or.inl rfl) (pe_lst pa_nil))
        (pss_cons (ps_for (passes_of rfl) rfl (pi_range1 rfl T.b_range (pa_cons (e_c c__law_draw hr (pa_cons (e_v 0) (pa_cons pe_int pa_nil))) pa_nil)) (pg_name (i := 5) sc__law_spec.nd rfl (Or.inl rfl))
          (pss_cons (ps_set (i := 7) sc__law_spec.nd rfl (Or.inl rfl) (e_c c__law_drawn_watch hr (pa_cons (e_v 0) (pa_cons (e_v 4) (pa_cons (e_v 3) (pa_cons (e_v 2) pa_nil))))))
        (pss_one (s_if (t_cmp (op_notInD (hu65 hr)) (e_v 7) (e_v 6) (by rfl)) (pss_one (ps_expr (pe_bm PySem.F.plainAttrs_list PySem.F.slot_list_append PySem.F.type_list_append mt_append (e_v 6) (pa_cons (e_v 7) pa_nil)))) pss_nil))))
        (pss_one (ps_ret (pe_disp (pps_cons pe_str (e_c c__law_ordered hr (pa_cons (e_v 4) pa_nil)) (pps_cons pe_str (e_v 6) pps_nil)) (by rfl) (by rfl) (fun z => by cases z) (by decide)))))))))), ?_⟩
      obtain ⟨c, b0, hm0, hm1, h⟩ := h
      walk_at "n"
      refine ⟨c, b0, by decide, by decide, fun r1 H1 s1 b1 r10 r11 => ?_⟩
      walk_at "n"
      refine ⟨_, rfl, by omega, by omega, fun D1 hD1 => lcB (walk_range (lo := 0) (n := (1 + r1).toNat)) (fun i v _ => ∃ m, v = V.int m ∧ 1 ≤ m ∧ m ≤ 12) (by omega) hD1 b1 (fun _ _ => trivial) (fun _ _ _ _ _ _ z => z) (fun _ _ _ _ _ _ z => z) ?_ gm_name ?_⟩
      · rintro i x H2 H3 acc Nx hi s2 b2 hd ⟨rfl, rfl⟩ nx
        refine ⟨rfl, ?_⟩
        walk_at "n"
        refine ⟨c, b2, by decide, by decide, fun r2 H4 s4 b4 q0 q1 => ?_⟩
        exact nx _ _ s4 b4 ⟨_, rfl, by omega, by omega⟩
      intro ys1 H2 hl1 hy1 s2 b2 hd2
      obtain ⟨ms, rfl, hms⟩ := ys_ex (f := V.int) (P := fun _ m => 1 ≤ m ∧ m ≤ 12) fun i y hh => by
        obtain ⟨m, e, h1, h2⟩ := hy1 i y hh
        exact ⟨m, ⟨h1, h2⟩, e⟩
      rw [List.length_map] at hl1
      walk_at "n"
      refine ⟨c, b2, by decide, by decide, fun r3 H3 s3 b3 r30 r31 => ?_⟩
      walk_at "n"
      refine ⟨_, rfl, by omega, by omega, fun D2 hD2 => lcB (walk_range (lo := 0) (n := (1 + r3).toNat)) (fun i v H => ∃ t : Addr × (Int × Int), (SqT K H t.1 [.int t.2.1, .int t.2.2] ∧ TimeOk t.2) ∧ v = V.ref t.1) (by omega) hD2 b3 (fun _ _ => trivial) (fun i y H H' bg s z => ?_) (fun i y H acc o hd z => ?_) ?_ gm_name ?_⟩
      · obtain ⟨t, ⟨z1, z2⟩, z3⟩ := z
        exact ⟨t, ⟨bg.st z1 s, z2⟩, z3⟩
      · obtain ⟨t, ⟨z1, z2⟩, z3⟩ := z
        exact ⟨t, ⟨st_sbl z1 hd sb_upd, z2⟩, z3⟩
      · rintro i x H4 H5 acc Nx hi s4 b4 hd ⟨rfl, rfl⟩ nx
        refine ⟨rfl, ?_⟩
        walk_at "n"
        refine ⟨c, b4, by decide, by decide, fun r5 H6 s6 b6 q0 q1 => ?_⟩
        walk_at "n"
        refine ⟨c, b6, by decide, by decide, fun r7 H7 s7 b7 u0 u1 => ?_⟩
        walk_at "n"
        refine ⟨line_of (by simp), fun p hp => ?_⟩
        exact nx _ _ ((s6.trans s7).new hp) (b7.same (snew hp)) ⟨(p, (1 + r5, r7)), ⟨.inl (.inl upd_same), ⟨by show 1 ≤ 1 + r5; omega, by show 1 + r5 ≤ 22; omega, u0, by show r7 ≤ 58; omega⟩⟩, rfl⟩
      intro ys2 H4 hl2 hy2 s4 b4 hd4
      obtain ⟨ts, rfl, hts⟩ := ys_ex (fun i y hh => hy2 i y hh)
      rw [List.length_map] at hl2
      walk_at "n"
      have hml : SqL K H4 D1 (ms.map V.int) := b3.sl (b2.sl (SqL.of hd2) s3) s4
      have htl : SqL K H4 D2 (ts.map fun t => V.ref t.1) := SqL.of hd4
      have htt : ∀ t, t ∈ ts → SqT K H4 t.1 [.int t.2.1, .int t.2.2] ∧ TimeOk t.2 := fun t ht => by
        obtain ⟨i, hi⟩ := List.getElem?_of_mem ht
        exact hts i t hi
      have hmm : ∀ m, m ∈ ms → 1 ≤ m ∧ m ≤ 12 := fun m hm => by
        obtain ⟨i, hi⟩ := List.getElem?_of_mem hm
        exact hms i m hi
      have mne : ms ≠ [] := fun e => by
        rw [e] at hl1
        simp at hl1
        omega
      have tne : ts ≠ [] := fun e => by
        rw [e] at hl2
        simp at hl2
        omega
      have s04 := ((s1.trans s2).trans s3).trans s4
      refine ⟨line_of (by simp), fun B hB => ?_⟩
      have sB : SB g H4 (upd H4 B (.lst [])) := sb_same (snew hB)
      have bB := b4.same (snew (o := .lst []) hB)
      walk_at "n"
      refine ⟨c, bB, by omega, by omega, fun r5 H5 s5 b5 r50 r51 => ?_⟩
      have nBg : B ≠ g := fun e => by
        obtain ⟨kvs, hk⟩ := b4.dk
        rw [e, hk] at hB
        cases hB
      walk_at "n"
      refine ⟨_, rfl, by omega, by omega, for_it (walk_range (lo := 0) (n := r5.toNat)) (fun i σ H' => (∃ bs : List (Addr × Mo), SB g H4 H' ∧ BagAt K H' g c ∧ H' B = some (.lst (bs.map fun t => V.ref t.1)) ∧ bs.length ≤ i ∧ ∀ t, t ∈ bs → SqT K H' t.1 (moL t.2) ∧ DayOk t.2.y t.2.m t.2.d ∧ t.2.ok) ∧ ∃ v5, σ = [some (.ref g), some (.int most), some (.ref D1), some (.ref D2), some (.ref B), v5, none, none]) ⟨⟨[], sB.trans s5, b5, s5.at2 upd_same nBg, Nat.le_refl _, fun t ht => by simp at ht⟩, _, rfl⟩ (fun _ _ _ _ _ => trivial) ?_ ?_⟩
      · rintro i x σ H6 H7 hi ⟨⟨bs, s6, b6, hB6, hbl, hbs⟩, v5, rfl⟩ ⟨rfl, rfl⟩
        walk_at "n"
        refine ⟨.inl ⟨rfl, _, SqL.of hB6⟩, ?_⟩
        walk_at "n"
        refine ⟨c, b6, ms, b4.sl hml s6, mne, by omega, hmm, fun p7 H7 y m d s7 b7 e7 dok => ?_⟩
        walk_at "n"
        have s67 := s6.trans s7
        refine .inl ⟨_, .inl (b4.sl htl s67), ?_⟩
        walk_at "n"
        have tpos : 0 < ts.length := List.length_pos_iff.mpr tne
        refine ⟨c, b7, by rw [List.length_map]; omega, by rw [List.length_map]; omega, fun r8 H8 s8 b8 w0 w1 => ?_⟩
        rw [List.length_map] at w1
        walk_at "n"
        obtain ⟨tm, hatm, mtm⟩ := pickR w0 w1
        obtain ⟨ttup, tok⟩ := htt tm mtm
        obtain ⟨th1, th2, ti1, ti2⟩ := tok
        have s68 := s67.trans s8
        refine ⟨_, _, b4.sl htl s68, hatm, ?_⟩
        walk_at "n"
        refine ⟨_, _, b7.st (.inl (.inl e7)) s8, b4.st ttup s68, ⟨rfl, rfl, by simp⟩, fun p9 hp9 => ?_⟩
        walk_at "n"
        have hB9 := upd_keep (u := .tup ([V.int y, V.int m, V.int d] ++ [V.int tm.2.1, V.int tm.2.2])) hp9 ((s7.trans s8).at2 hB6 nBg)
        refine ⟨_, _, _, rfl, rfl, hB9, line_lt (by rw [List.length_map]; omega), ?_⟩
        walk_at "n"
        have b9 := b8.same (snew (o := .tup ([V.int y, V.int m, V.int d] ++ [V.int tm.2.1, V.int tm.2.2])) hp9)
        refine ⟨⟨bs ++ [(p9, ⟨y, m, d, tm.2.1, tm.2.2⟩)], sbput (s68.new hp9) hB, b9.put hB9 (b4.ne hB), ?_, by simp; omega, fun t ht => ?_⟩, _, rfl⟩
        · rw [upd_same, List.map_append]
          rfl
        · rcases List.mem_append.mp ht with ht | ht
          · obtain ⟨q1, q2, q3⟩ := hbs t ht
            exact ⟨st_sbl (st (snew hp9) (b6.st q1 (s7.trans s8))) hB9 sb_upd, q2, q3⟩
          · simp at ht
            subst ht
            exact ⟨st_sbl (.inl (.inl upd_same)) hB9 sb_upd, dok, dok.mo (by omega) (by omega) ti1 (by omega)⟩
      rintro σ H6 ⟨⟨bs, s6, b6, hB6, hbl, hbs⟩, v5, rfl⟩
      walk_at "n"
      refine ⟨line_of (by simp), fun W0 hW0 => ?_⟩
      walk_at "n"
      have b6' := b6.same (snew (o := .lst []) hW0)
      refine ⟨c, b6', by decide, by decide, fun r9 H9 s9 b9 r90 r91 => ?_⟩
      have s46 := s6
      have hbl6 : SqL K H6 B (bs.map fun t => V.ref t.1) := SqL.of hB6
      have htl6 := b4.sl htl s6
      have hml6 := b4.sl hml s6
      have htt6 : ∀ t, t ∈ ts → SqT K H6 t.1 [.int t.2.1, .int t.2.2] ∧ TimeOk t.2 := fun t ht => ⟨b4.st (htt t ht).1 s6, (htt t ht).2⟩
      have nWg : W0 ≠ g := fun e => by
        obtain ⟨kvs, hk⟩ := b6.dk
        rw [e, hk] at hW0
        cases hW0
      have sW : SB g H6 (upd H6 W0 (.lst [])) := sb_same (snew hW0)
      walk_at "n"
      refine ⟨_, rfl, by omega, by omega, for_it (walk_range (lo := 0) (n := r9.toNat)) (fun i σ H' => (∃ ws : List (Addr × WT), SB g H6 H' ∧ BagAt K H' g c ∧ H' W0 = some (.lst (ws.map fun t => V.ref t.1)) ∧ ws.length ≤ i ∧ (∀ t, t ∈ ws → TwAt K H' t) ∧ (conT wc ws).Nodup) ∧ ∃ v5 v7, σ = [some (.ref g), some (.int most), some (.ref D1), some (.ref D2), some (.ref B), v5, some (.ref W0), v7]) ⟨⟨[], sW.trans s9, b9, s9.at2 upd_same nWg, Nat.le_refl _, fun t ht => by simp at ht, by simp [conT]⟩, _, _, rfl⟩ (fun _ _ _ _ _ => trivial) ?_ ?_⟩
      · rintro i x σ H10 H11 hi ⟨⟨ws, s10, b10, hW10, hwl, hws, hwd⟩, v5, v7, rfl⟩ ⟨rfl, rfl⟩
        walk_at "n"
        refine ⟨c, b10, bs, ts, ms, b6.sl hbl6 s10, by omega, fun t ht => ⟨b6.st (hbs t ht).1 s10, (hbs t ht).2.1⟩, b6.sl htl6 s10, tne, by omega, fun t ht => ⟨b6.st (htt6 t ht).1 s10, (htt6 t ht).2⟩, b6.sl hml6 s10, mne, by omega, hmm, fun p b e H12 q z s12 b12 e12 tb te so => ?_⟩
        walk_at "n"
        have hW12 := s12.at2 hW10 nWg
        have hws12 : ∀ t, t ∈ ws → TwAt K H12 t := fun t ht => ⟨b10.st (hws t ht).tup s12, b10.st (hws t ht).m1 s12, b10.st (hws t ht).m2 s12, (hws t ht).ok⟩
        have tw : TwAt K H12 (p, ((b, q), (e, z))) := ⟨.inl (.inl e12), tb, te, so⟩
        obtain ⟨d1, ds, n1, n2, n3, n4, n5⟩ := notin_tws (K := K) (SqL.of hW12) hws12 tw
        refine ⟨d1, ds, n1, n2, n3, n4, ?_⟩
        rw [n5]
        walk_at "n"
        refine cond_p (fun k1 => ?_) (fun k1 => ?_)
        · walk_at "n"
          exact ⟨⟨ws, s10.trans s12, b12, hW12, by omega, hws12, hwd⟩, _, _, rfl⟩
        · walk_at "n"
          refine ⟨.inl ⟨rfl, _, SqL.of hW12⟩, ?_⟩
          walk_at "n"
          refine ⟨_, _, _, rfl, rfl, hW12, line_lt (by rw [List.length_map]; omega), ?_⟩
          walk_at "n"
          refine ⟨⟨ws ++ [(p, ((b, q), (e, z)))], sbput (s10.trans s12) hW0, b12.put hW12 (b6.ne hW0), ?_, by simp; omega, fun t ht => ?_, ?_⟩, _, _, rfl⟩
          · rw [upd_same, List.map_append]
            rfl
          · rcases List.mem_append.mp ht with ht | ht
            · exact (hws12 t ht).sbl hW12 sb_upd
            · simp at ht
              subst ht
              exact tw.sbl hW12 sb_upd
          · unfold conT at hwd k1 ⊢
            rw [List.map_append, List.nodup_append]
            refine ⟨hwd, by simp, fun a ha b hb => ?_⟩
            simp at hb
            subst hb
            exact fun e => k1 (e ▸ ha)
      rintro σ H10 ⟨⟨ws, s10, b10, hW10, hwl, hws, hwd⟩, v5, v7, rfl⟩
      walk_at "n"
      intro p hp
      walk_at "n"
      have sp := snew (o := .dK []) hp
      refine ⟨bs, sl sp (b6.sl hbl6 s10), by omega, fun t ht => ⟨st sp (b6.st (hbs t ht).1 s10), (hbs t ht).2.2⟩, fun pl H11 us s11 hpl e11 hmem hcon hsrt hul => ?_⟩
      walk_at "n"
      have hp11 := s11 _ _ (upd_same (H := H10) (a := p) (o := .dK []))
      refine ⟨hp11, specKv pl W0, rfl, by show 2 ≤ 15; decide, ?_⟩
      have em : mergeK [] (specKv pl W0) = specKv pl W0 := by
        unfold mergeK specKv
        simp only [List.foldl_cons, List.foldl_nil, putK, List.any_nil, List.any_cons, decide_eq_false kne7, Bool.or_false, Bool.false_eq_true, if_false, List.nil_append, List.cons_append]
      rw [em]
      walk_at "n"
      have s10f := sp.trans s11
      have nlp : pl ≠ p := fun e => by rw [e, upd_same] at hpl; cases hpl
      have sF : SB p H11 (upd H11 p (.dK (specKv pl W0))) := sb_upd
      have b11 := b10.same s10f
      have sl1 : SB g H (upd H11 p (.dK (specKv pl W0))) := by
        have a1 : SB g H H10 := (s04.trans s6).trans s10
        exact fun b o nb hb => by
          have q := s10f _ _ (a1 b o nb hb)
          rw [upd_ne fun e => by have := a1 b o nb hb; rw [e, hp] at this; cases this]
          exact q
      refine h p _ pl W0 us ws sl1 ?_ ?_ ⟨upd_same, ?_, ?_, fun t ht => ?_, fun t ht => ?_, by omega, by omega, hsrt, hwd⟩ (by omega)
      · obtain ⟨a, r, k, ns, bp⟩ := b11
        refine ⟨a, r, k, ns, ?_, ?_, bp.a0, bp.r0, bp.s0, bp.s1, bp.n⟩
        · rw [upd_ne fun e => by
            obtain ⟨kvs, hk⟩ := b10.dk
            rw [e, hp] at hk
            cases hk]
          exact bp.at_
        · exact sF.at bp.cc hp11 fun e => by cases e
      · refine ((s04.trans s6).trans s10).free (fun e => ?_) hp
        obtain ⟨kvs, hk⟩ := b10.dk
        rw [← e, hp] at hk
        cases hk
      · exact sF.at e11 hp11 fun e => by cases e
      · exact SqL.of (sF.at (s10f _ _ hW10) hp11 fun e => by cases e)
      · obtain ⟨q1, q2, q3⟩ := hbs t (hmem t ht)
        exact ⟨st_sbd (st s10f (b6.st q1 s10)) hp11 sF, q3⟩
      · have z := (hws t ht).same s10f
        exact ⟨st_sbd z.tup hp11 sF, st_sbd z.m1 hp11 sF, st_sbd z.m2 hp11 sF, z.ok⟩
theorem ok__law_spec {P : Program} {w : World} {K : PySem.W.Frag} {mg : Str → Option Value} {base : Heap} (T : Tx K mg) : F.Fr P w K mg base 6 (He.ga K "_law_spec") (sp__law_spec K) := (T.f__law_spec).elim fun fd F1 => fr_of F1 (okF__law_spec T F1) (fun _ _ _ _ _ _ us hl => match us, hl with | [_, _], _ => rfl)
end G
set_option maxHeartbeats 400000
namespace G
open PySem PySem.Spec PyProof.Rows L2 F
local macro_rules | `(tactic| walk_at "side") => `(tactic| first | rfl | decide | omega | assumption | (unfold CMul; omega) | (unfold CPow; omega) | (unfold CDiv; omega))
local macro_rules | `(tactic| walk_at "hp") => `(tactic| first | assumption | exact upd_same | (refine upd_keep (by assumption) ?_; walk_at "hp") | (refine sm (by assumption) ?_; walk_at "hp"))
local macro_rules | `(tactic| walk_at "n") => `(tactic| ((try conv => whnf); repeat ((first | with_reducible refine cond_t rfl ?_ | with_reducible refine cond_f rfl ?_ | with_reducible refine cond_n ?_); (try conv => whnf))))
local macro_rules | `(tactic| walk_at "go") => `(tactic| (walk_at "n"; repeat (refine And.intro ?side ?_; (case side => walk_at "side"); walk_at "n")))

open M TL
theorem erase_perm {α : Type} : ∀ {l : List α} {i : Nat} (h : i < l.length), (l[i] :: l.eraseIdx i).Perm l
  | [], _, h => by simp at h
  | a :: r, 0, _ => List.Perm.refl _
  | a :: r, i + 1, h => by
    have ih := erase_perm (l := r) (i := i) (by simpa using h)
    exact (List.Perm.swap _ _ _).trans (List.Perm.cons a ih)
theorem map_erase {α β : Type} (f : α → β) : ∀ (l : List α) (i : Nat), (l.map f).eraseIdx i = (l.eraseIdx i).map f
  | [], _ => rfl
  | _ :: _, 0 => rfl
  | a :: r, i + 1 => by
    show f a :: (r.map f).eraseIdx i = f a :: (r.eraseIdx i).map f
    rw [map_erase f r i]
theorem pickS {l : List Str} {r : Int} (h0 : 0 ≤ r) (h1 : r < l.length) : ∃ y, atI (l.map V.str) r = some (.str y) ∧ y ∈ l := by
  have hl : r.toNat < l.length := by omega
  refine ⟨l[r.toNat], ?_, List.getElem_mem hl⟩
  rw [atI_lt h0 (by rw [List.length_map]; omega), List.getElem?_map, List.getElem?_eq_getElem hl]
  rfl
def sp__law_shuffled (K : PySem.W.Frag) : Sp := fun vs H Q E => match vs with
  | [.ref g, .ref l] => ∃ c, ∃ zs : List Str, BagAt K H g c ∧ SqL K H l (zs.map V.str) ∧ zs ≠ [] ∧ zs.length ≤ 100 ∧ (∀ z, z ∈ zs → PyData.strOk z = true) ∧ ∀ p H' (ys : List Str), SB g H H' → BagAt K H' g c → H p = none → H' p = some (.lst (ys.map V.str)) → (∀ y, y ∈ ys ↔ y ∈ zs) → ys.length ≤ zs.length + 2 → (∀ f : Str → Bool, (ys.filter f).length ≤ (zs.filter f).length + 2) → Q (.ref p) H'
  | _ => False
theorem sc__law_shuffled : FnScope ["_law_bag_here", "_law_lines_here", "_law_left", "_law_found", "_law_k"] ["_law_bag_here", "_law_lines_here"] (defScope s__law_shuffled) := ⟨rfl, rfl, rfl, by decide +kernel, rfl, by decide +kernel, by decide +kernel⟩
theorem okF__law_shuffled {P : Program} {w : World} {K : PySem.W.Frag} {mg : Str → Option Value} {base : Heap} {fd : FuncData} (T : Tx K mg) (F1 : FunD K "_law_shuffled" "_law_shuffled" (defArgs s__law_shuffled) (defBody s__law_shuffled) (defScope s__law_shuffled) [] [] (He.ga K "_law_shuffled") fd) : FnOk P w K mg base (L2.CX P w) 2 (He.ga K "_law_shuffled") fd ["_law_bag_here", "_law_lines_here"] (sp__law_shuffled K) := by
  have c__law_draw : Fc P w K mg base 1 "_law_draw" (sp__law_draw K) := ⟨_, ok__law_draw T, T.g__law_draw, (T.f__law_draw).elim fun _ z => z.kp⟩
  refine F1.ok sc__law_shuffled (fun vs H Q E h => ?_) (fun cdv A outer s H vs Q E hr h => ?_)
  · unfold sp__law_shuffled at h
    split at h
    · rfl
    · exact h.elim
  · unfold sp__law_shuffled at h
    split at h
    rotate_left
    · exact h.elim
    · rename_i g l
      refine ⟨_, (pss_cons (ps_par (i := 2) (j := 3) (by rfl) sc__law_shuffled.nd rfl rfl (by decide) rfl rfl (pa_cons (e_list T.b_list (e_v 1)) (pa_cons (pe_lst pa_nil) pa_nil)) (by rfl))
        (pss_cons (ps_while (passes_of rfl) (t_cmp (op_neD hr.units) (e_v 2) (pe_lst pa_nil) (nomark _)) (pss_one (ps_expr (pe_bm PySem.F.plainAttrs_list PySem.F.slot_list_append PySem.F.type_list_append mt_append (e_v 3) (pa_cons (pe_bm PySem.F.plainAttrs_list PySem.F.slot_list_pop PySem.F.type_list_pop mt_popAt (e_v 2) (pa_cons (e_c c__law_draw hr (pa_cons (e_v 0) (pa_cons (kk_len K T.b_len (e_v 2)) pa_nil))) pa_nil)) pa_nil)))))
        (pss_one (ps_ret (pe_op (k_add K) (e_v 3) (pe_lc (own := [("_law_k", 4)]) (g := gName 4) (tt := tYes) rfl sc__law_shuffled.nd (pi_range1 rfl T.b_range (pa_cons (e_c c__law_draw hr (pa_cons (e_v 0) (pa_cons pe_int pa_nil))) pa_nil)) (blkOk_by (own := [("_law_k", 4)]) (N := ["_law_bag_here", "_law_lines_here", "_law_left", "_law_found", "_law_k"]) (sc := defScope s__law_shuffled) (by decide +kernel)) (fun _ _ _ _ _ => (pg_name (i := 4) sc__law_shuffled.nd rfl (Or.inl rfl))) (fun _ _ _ _ _ => pts_nil) (fun _ _ _ _ _ => (pe_ix (k_ixL K) (e_v 1) (e_c c__law_draw hr (pa_cons (e_v 0) (pa_cons (kk_len K T.b_len (e_v 1)) pa_nil))) (fun _ _ => rfl))))))))), ?_⟩
      obtain ⟨c, zs, b0, hl, hne, hn, hok, h⟩ := h
      walk_at "n"
      refine ⟨_, .inl hl, fun p1 hp1 => ?_⟩
      walk_at "n"
      refine ⟨line_of (by simp), fun p2 hp2 => ?_⟩
      walk_at "n"
      refine ⟨_, _, rfl, ?_⟩
      have b2 := b0.same (sto (snew (o := .lst (zs.map V.str)) hp1) (o := .lst []) hp2)
      have s2 : SB g H (upd (upd H p1 (.lst (zs.map V.str))) p2 (.lst [])) := sb_same (sto (snew hp1) hp2)
      have n12 : p2 ≠ p1 := fun e => by rw [e, upd_same] at hp2; cases hp2
      have hp2' : H p2 = none := (snew hp1).free hp2
      walk_at "n"
      refine ⟨fun m σ H' => (∃ ls fs : List Str, m = ls.length ∧ SB g H H' ∧ BagAt K H' g c ∧ H' p1 = some (.lst (ls.map V.str)) ∧ H' p2 = some (.lst (fs.map V.str)) ∧ (fs ++ ls).Perm zs) ∧ σ = [some (.ref g), some (.ref l), some (.ref p1), some (.ref p2), none], ⟨_, ⟨zs, [], rfl, s2, b2, ?_, upd_same, List.Perm.refl _⟩, rfl⟩, ?_⟩
      · rw [upd_ne n12.symm]
        exact upd_same
      rintro m σ H1 ⟨⟨ls, fs, rfl, s1, b1, e1, e2, hperm⟩, rfl⟩
      have hlen := hperm.length_eq
      rw [List.length_append] at hlen
      have hls : ∀ z, z ∈ ls → PyData.strOk z = true := fun z hz => hok z (hperm.mem_iff.mp (List.mem_append_right _ hz))
      walk_at "n"
      refine ⟨line_of (by simp), fun p3 hp3 => ?_⟩
      walk_at "n"
      obtain ⟨d1, d2, n1, n2, n3, n4, n5⟩ := ne_strs (K := K) (SqL.of (upd_keep (u := .lst []) hp3 e1)) (SqL.of upd_same) hls
      refine ⟨d1, d2, n1, n2, n3, n4, ?_⟩
      rw [n5]
      have s13 := s1.trans (sb_same (snew (o := .lst []) hp3))
      have b3 := b1.same (snew (o := .lst []) hp3)
      have f1 := upd_keep (u := .lst []) hp3 e1
      have f2 := upd_keep (u := .lst []) hp3 e2
      generalize upd H1 p3 (.lst []) = H3 at *
      have np1 : p1 ≠ g := fun e => by
        obtain ⟨kvs, hk⟩ := b3.dk
        rw [← e, f1] at hk
        cases hk
      have np2 : p2 ≠ g := fun e => by
        obtain ⟨kvs, hk⟩ := b3.dk
        rw [← e, f2] at hk
        cases hk
      cases ls with
      | cons z0 r =>
        walk_at "n"
        refine ⟨fun σ' H' => (∃ ls fs : List Str, ls.length = r.length ∧ SB g H H' ∧ BagAt K H' g c ∧ H' p1 = some (.lst (ls.map V.str)) ∧ H' p2 = some (.lst (fs.map V.str)) ∧ (fs ++ ls).Perm zs) ∧ σ' = [some (.ref g), some (.ref l), some (.ref p1), some (.ref p2), none], fun σ' H' ⟨⟨ls, fs, q1, q2⟩, q3⟩ => ⟨ls.length, by rw [q1]; simp, ⟨ls, fs, rfl, q2⟩, q3⟩, ?_⟩
        walk_at "n"
        refine ⟨.inl ⟨rfl, _, SqL.of f2⟩, ?_⟩
        walk_at "n"
        refine ⟨.inl ⟨rfl, _, SqL.of f1⟩, ?_⟩
        walk_at "n"
        refine .inl ⟨_, .inl (SqL.of f1), ?_⟩
        walk_at "n"
        refine ⟨c, b3, by rw [List.length_map, List.length_cons]; omega, by rw [List.length_map]; omega, fun k H4 s4 b4 k0 k1 => ?_⟩
        rw [List.length_map] at k1
        have g1 := s4.at2 f1 np1
        have g2 := s4.at2 f2 np2
        have kl : k.toNat < (z0 :: r).length := by omega
        walk_at "n"
        have sx : seqIndex? k ((z0 :: r).map V.str).length = some k.toNat := by
          unfold seqIndex?
          rw [List.length_map]
          have e1 : (if k < 0 then k + ((z0 :: r).length : Int) else k) = k := if_neg (by omega)
          rw [e1]
          rw [if_pos]
          simp only [Bool.and_eq_true, decide_eq_true_eq]
          exact ⟨k0, k1⟩
        obtain ⟨y, hy⟩ : ∃ y, (z0 :: r)[k.toNat]? = some y := ⟨_, List.getElem?_eq_getElem kl⟩
        refine ⟨_, _, _, k.toNat, .str y, rfl, rfl, g1, by omega, by omega, sx, by rw [List.getElem?_map, hy]; rfl, ?_⟩
        walk_at "n"
        have g2' : upd H4 p1 (.lst (((z0 :: r).map V.str).eraseIdx k.toNat)) p2 = some (.lst (fs.map V.str)) := by
          rw [upd_ne n12]
          exact g2
        have g1' := upd_same (H := H4) (a := p1) (o := .lst (((z0 :: r).map V.str).eraseIdx k.toNat))
        have b5 := b4.put (o := .lst (((z0 :: r).map V.str).eraseIdx k.toNat)) g1 (b0.ne hp1)
        have s5 : SB g H (upd H4 p1 (.lst (((z0 :: r).map V.str).eraseIdx k.toNat))) := sbput (s13.trans s4) hp1
        generalize upd H4 p1 (.lst (((z0 :: r).map V.str).eraseIdx k.toNat)) = H5 at *
        refine ⟨_, _, _, rfl, rfl, g2', line_lt (by rw [List.length_map]; omega), ?_⟩
        walk_at "n"
        have hpe : (y :: (z0 :: r).eraseIdx k.toNat).Perm (z0 :: r) := by
          rw [List.getElem?_eq_getElem kl] at hy
          cases hy
          exact erase_perm kl
        refine ⟨⟨(z0 :: r).eraseIdx k.toNat, fs ++ [y], ?_, sbput s5 hp2', b5.put g2' (b0.ne hp2'), ?_, ?_, ?_⟩, rfl⟩
        · rw [List.length_eraseIdx_of_lt kl]
          simp
        · rw [upd_ne n12.symm, g1', map_erase]
        · rw [upd_same, List.map_append]
          rfl
        · rw [List.append_assoc]
          exact (List.Perm.append_left fs hpe).trans hperm
      | nil =>
        rw [List.append_nil] at hperm
        walk_at "n"
        refine ⟨c, b3, by decide, by decide, fun r4 H4 s4 b4 q0 q1 => ?_⟩
        walk_at "n"
        have s04 := s13.trans s4
        refine ⟨_, rfl, by omega, by omega, fun D hD => lcB (walk_range (lo := 0) (n := r4.toNat)) (fun i v _ => ∃ z, z ∈ zs ∧ v = V.str z) (by omega) hD b4 (fun _ _ => trivial) (fun _ _ _ _ _ _ z => z) (fun _ _ _ _ _ _ z => z) ?_ gm_name ?_⟩
        · rintro i x H5 H6 acc Nx hi s5 b5 hd ⟨rfl, rfl⟩ nx
          have zpos : 0 < zs.length := List.length_pos_iff.mpr hne
          refine ⟨rfl, ?_⟩
          walk_at "n"
          refine .inl ⟨_, .inl (b0.sl hl (s04.trans s5)), ?_⟩
          walk_at "n"
          refine ⟨c, b5, by rw [List.length_map]; omega, by rw [List.length_map]; omega, fun k H7 s7 b7 k0 k1 => ?_⟩
          rw [List.length_map] at k1
          obtain ⟨y, hy, my⟩ := pickS k0 k1
          refine ⟨_, _, b0.sl hl ((s04.trans s5).trans s7), hy, ?_⟩
          exact nx _ _ s7 b7 ⟨y, my, rfl⟩
        intro ys H5 hl5 hy5 s5 b5 hd5
        obtain ⟨es, rfl, hes⟩ := ys_ex (f := V.str) (P := fun _ z => z ∈ zs) fun i y hh => hy5 i y hh
        rw [List.length_map] at hl5
        walk_at "n"
        have fl : fs.length = zs.length := hperm.length_eq
        have g2 := (s4.trans s5).at2 f2 np2
        refine .inl ⟨_, _, _, _, rfl, rfl, g2, hd5, by rw [List.length_map, List.length_map]; exact line_of (by omega), fun p hp => ?_⟩
        have hesm : ∀ y, y ∈ es → y ∈ zs := fun y hy => by
          obtain ⟨i, hi⟩ := List.getElem?_of_mem hy
          exact hes i y hi
        have sf := s04.trans s5
        refine h p _ (fs ++ es) (sf.new hp) (b5.same (snew hp)) (sf.free (fun e => ?_) hp) (by rw [upd_same, List.map_append]) (fun y => ?_) (by rw [List.length_append]; omega) fun f => ?_
        · obtain ⟨kvs, hk⟩ := b5.dk
          rw [← e, hp] at hk
          cases hk
        · rw [List.mem_append, hperm.mem_iff]
          exact ⟨fun z => z.elim _root_.id (hesm y), .inl⟩
        · rw [List.filter_append, List.length_append, (hperm.filter f).length_eq]
          have := List.length_filter_le f es
          omega
theorem ok__law_shuffled {P : Program} {w : World} {K : PySem.W.Frag} {mg : Str → Option Value} {base : Heap} (T : Tx K mg) : F.Fr P w K mg base 2 (He.ga K "_law_shuffled") (sp__law_shuffled K) := (T.f__law_shuffled).elim fun fd F1 => fr_of F1 (okF__law_shuffled T F1) (fun _ _ _ _ _ _ us hl => match us, hl with | [_, _], _ => rfl)
end G
set_option maxHeartbeats 400000
namespace G
open PySem PySem.Spec PyProof.Rows L2 F
local macro_rules | `(tactic| walk_at "side") => `(tactic| first | rfl | decide | omega | assumption | (unfold CMul; omega) | (unfold CPow; omega) | (unfold CDiv; omega))
local macro_rules | `(tactic| walk_at "hp") => `(tactic| first | assumption | exact upd_same | (refine upd_keep (by assumption) ?_; walk_at "hp") | (refine sm (by assumption) ?_; walk_at "hp"))
local macro_rules | `(tactic| walk_at "n") => `(tactic| ((try conv => whnf); repeat ((first | with_reducible refine cond_t rfl ?_ | with_reducible refine cond_f rfl ?_ | with_reducible refine cond_n ?_); (try conv => whnf))))
local macro_rules | `(tactic| walk_at "go") => `(tactic| (walk_at "n"; repeat (refine And.intro ?side ?_; (case side => walk_at "side"); walk_at "n")))

open M TL
theorem zeros_val : ∀ (k : Nat) (l : List Nat), NumText.digitsVal (List.replicate k 48 ++ l) = NumText.digitsVal l := by
  intro k l
  have e : ∀ k : Nat, (List.replicate k 48).foldl (fun acc c => acc * 10 + (c - 48)) 0 = 0 := by
    intro k
    induction k with
    | zero => rfl
    | succ k ih =>
      rw [List.replicate_succ, List.foldl_cons]
      exact ih
  unfold NumText.digitsVal
  rw [List.foldl_append, e]
theorem numIn_zpad {W n : Nat} {lo hi : Int} (h1 : lo ≤ (zpad W (n : Int)).length) (h2 : ((zpad W (n : Int)).length : Int) ≤ hi) : numIn (zpad W (n : Int)) lo hi = some (n : Int) := by
  unfold numIn
  have hd : (zpad W (n : Int)).cps.toList.all isDig = true := by
    rw [List.all_eq_true]
    intro c hc
    have := zpad_dig (W := W) (i := n) (by omega) c hc
    unfold isDig
    simp [this.1, this.2]
  rw [decide_eq_true h1, decide_eq_true h2, hd]
  show some ((NumText.digitsVal (tl (zpad W (n : Int))) : Nat) : Int) = _
  rw [tl_zpad, zeros_val, numL_val]
theorem zpad_length {W n : Nat} : (zpad W (n : Int)).length = max W (numL n).length := by
  rw [len_tl, tl_zpad, List.length_append, List.length_replicate]
  omega
theorem two_in {n : Int} (h0 : 0 ≤ n) (h1 : n ≤ 99) : numIn (zpad 2 n) 2 2 = some n := by
  obtain ⟨k, rfl⟩ : ∃ k : Nat, n = k := ⟨n.toNat, by omega⟩
  have hl := numL_len (n := k) (k := 2) (by decide) (by omega)
  exact numIn_zpad (by rw [zpad_length]; omega) (by rw [zpad_length]; omega)
theorem year_in {n : Int} (h0 : 0 ≤ n) (h1 : n ≤ 999999) : numIn (zpad 4 n) 4 6 = some n := by
  obtain ⟨k, rfl⟩ : ∃ k : Nat, n = k := ⟨n.toNat, by omega⟩
  have hl := numL_len (n := k) (k := 6) (by decide) (by omega)
  exact numIn_zpad (by rw [zpad_length]; omega) (by rw [zpad_length]; omega)
theorem dv_lt : ∀ (l : List Nat) (a : Nat), (∀ c ∈ l, 48 ≤ c ∧ c ≤ 57) → l.foldl (fun acc c => acc * 10 + (c - 48)) a < (a + 1) * 10 ^ l.length
  | [], a, _ => by simp
  | c :: r, a, h => by
    have hc := h c List.mem_cons_self
    have ih := dv_lt r (a * 10 + (c - 48)) fun x hx => h x (List.mem_cons_of_mem _ hx)
    rw [List.foldl_cons, List.length_cons, Nat.pow_succ]
    refine Nat.lt_of_lt_of_le ih ?_
    rw [Nat.mul_comm (10 ^ r.length) 10, ← Nat.mul_assoc]
    exact Nat.mul_le_mul_right _ (by omega)
theorem numL_head {n : Nat} (h : 0 < n) : ∀ r, numL n ≠ 48 :: r := fun r e => by
  have hv := numL_val n
  have hd := numL_digits n
  rw [e] at hv
  have hr : ∀ c ∈ r, 48 ≤ c ∧ c ≤ 57 := fun c hc => hd c (by rw [e]; exact List.mem_cons_of_mem _ hc)
  have lt := dv_lt r 0 hr
  have e2 : NumText.digitsVal (48 :: r) = r.foldl (fun acc c => acc * 10 + (c - 48)) 0 := rfl
  rw [e2] at hv
  rw [hv, Nat.zero_add, Nat.one_mul] at lt
  have hpos : 0 < r.length := by
    cases r with
    | nil =>
      have lt : n < 1 := lt
      omega
    | cons a b => simp
  have := numL_len hpos lt
  rw [e, List.length_cons] at this
  omega
theorem badYear_no {n : Int} (h0 : 1 ≤ n) : badYear (zpad 4 n) = false := by
  obtain ⟨k, rfl⟩ : ∃ k : Nat, n = k := ⟨n.toNat, by omega⟩
  unfold badYear
  by_cases h : 4 < ((zpad 4 (k : Int)).length : Int)
  · have hl : 4 < (numL k).length := by
      rw [zpad_length] at h
      omega
    have et : (zpad 4 (k : Int)).cps.toList = numL k := by
      have := tl_zpad (W := 4) (n := k)
      rw [show 4 - (numL k).length = 0 by omega] at this
      exact this
    rw [et]
    cases e : numL k with
    | nil => exact absurd e (numL_ne k)
    | cons a r =>
      have ha : a ≠ 48 := fun z => numL_head (n := k) (by omega) r (by rw [e, z])
      rw [Bool.and_eq_false_iff]
      refine .inr (decide_eq_false fun z => ?_)
      have := congrArg tl z
      have e1 : tl ("0" : Str) = [48] := by decide +kernel
      rw [e1] at this
      have : [a] = [48] := this
      simp at this
      exact ha this
  · rw [decide_eq_false h]
    rfl
/-- the two words of a moment -/
def dateW (q : Mo) : Str := zpad 4 q.y ++ "-" ++ zpad 2 q.m ++ "-" ++ zpad 2 q.d
def timeW (q : Mo) : Str := zpad 2 q.h ++ ":" ++ zpad 2 q.i
theorem zpad_free {W : Nat} {i : Int} {s : Nat} (h0 : 0 ≤ i) (hs : s < 48 ∨ 57 < s) : s ∉ tl (zpad W i) := fun h => by
  have := zpad_dig h0 s h
  omega
theorem dateW_split {q : Mo} (k : q.ok) : Txt.split (dateW q) "-" = [zpad 4 q.y, zpad 2 q.m, zpad 2 q.d] := by
  have e : dateW q = Txt.join "-" [zpad 4 q.y, zpad 2 q.m, zpad 2 q.d] := by
    rw [join_eq]
    refine ext_tl ?_
    rw [tl_join]
    unfold dateW
    simp only [tl_append, List.append_assoc]
    rfl
  rw [e]
  have m0 : 0 ≤ q.m := by have := k.m1; omega
  have d0 : 0 ≤ q.d := by have := k.d1; omega
  have y0 : 0 ≤ q.y := by have := k.y1; omega
  refine split_join (s := 45) (S := []) (by decide +kernel) (by decide +kernel) (by simp) fun p hp => ?_
  simp at hp
  rcases hp with rfl | rfl | rfl
  · exact zpad_free y0 (by decide)
  · exact zpad_free m0 (by decide)
  · exact zpad_free d0 (by decide)
theorem timeW_split {q : Mo} (k : q.ok) : Txt.split (timeW q) ":" = [zpad 2 q.h, zpad 2 q.i] := by
  have e : timeW q = Txt.join ":" [zpad 2 q.h, zpad 2 q.i] := by
    rw [join_eq]
    refine ext_tl ?_
    rw [tl_join]
    unfold timeW
    simp only [tl_append, List.append_assoc]
    rfl
  rw [e]
  refine split_join (s := 58) (S := []) (by decide +kernel) (by decide +kernel) (by simp) fun p hp => ?_
  simp at hp
  rcases hp with rfl | rfl
  · exact zpad_free k.h1 (by decide)
  · exact zpad_free k.i1 (by decide)
theorem date_back {q : Mo} (k : q.ok) : dateIn (dateW q) = some (q.y, q.m, q.d) := by
  unfold dateIn
  rw [dateW_split k]
  have ml := monthLen_ge q.y q.m k.m1 k.m2
  have := k.d2
  have := k.d1
  have := k.m1
  have := k.m2
  have := k.y1
  have := k.y2
  show (if badYear (zpad 4 q.y) = true then none else _) = _
  rw [if_neg (by rw [badYear_no k.y1]; decide), year_in (by omega) (by omega), two_in (by omega) (by omega), two_in (by omega) (by omega)]
  have k0 : (Mo.mk q.y q.m q.d 0 0).ok := ⟨k.y1, k.y2, k.m1, k.m2, k.d1, k.d2, (show (0 : Int) ≤ 0 by decide), (show (0 : Int) ≤ 23 by decide), (show (0 : Int) ≤ 0 by decide), (show (0 : Int) ≤ 59 by decide)⟩
  exact if_pos (wrongPart_ok k0)
theorem time_back {q : Mo} (k : q.ok) : timeIn (timeW q) = some (q.h, q.i) := by
  unfold timeIn
  rw [timeW_split k]
  have := k.h1
  have := k.h2
  have := k.i1
  have := k.i2
  show (match numIn (zpad 2 q.h) 2 2, numIn (zpad 2 q.i) 2 2 with | some h, some i => _ | _, _ => _) = _
  rw [two_in (by omega) (by omega), two_in (by omega) (by omega)]
  have k0 : (Mo.mk 1 1 1 q.h q.i).ok := ⟨(show (1 : Int) ≤ 1 by decide), (show (1 : Int) ≤ 999999 by decide), (show (1 : Int) ≤ 1 by decide), (show (1 : Int) ≤ 12 by decide), (show (1 : Int) ≤ 1 by decide), by show 1 ≤ monthLen 1 1; decide, k.h1, k.h2, k.i1, k.i2⟩
  exact if_pos (wrongPart_ok k0)
theorem word_free {q : Mo} (k : q.ok) {s : Nat} (hs : s = 32 ∨ s = 10) : s ∉ tl (dateW q) ∧ s ∉ tl (timeW q) := by
  have e1 : tl ("-" : Str) = [45] := by decide +kernel
  have e2 : tl (":" : Str) = [58] := by decide +kernel
  have := k.m1
  have := k.d1
  have := k.y1
  have f1 := zpad_free (W := 4) (i := q.y) (s := s) (by omega) (by omega)
  have f2 := zpad_free (W := 2) (i := q.m) (s := s) (by omega) (by omega)
  have f3 := zpad_free (W := 2) (i := q.d) (s := s) (by omega) (by omega)
  have f4 := zpad_free (W := 2) (i := q.h) (s := s) k.h1 (by omega)
  have f5 := zpad_free (W := 2) (i := q.i) (s := s) k.i1 (by omega)
  constructor
  · unfold dateW
    simp only [tl_append, e1, List.mem_append, List.mem_singleton, not_or]
    refine ⟨⟨⟨⟨f1, ?_⟩, f2⟩, ?_⟩, f3⟩ <;> omega
  · unfold timeW
    simp only [tl_append, e2, List.mem_append, List.mem_singleton, not_or]
    refine ⟨⟨f4, ?_⟩, f5⟩
    omega
theorem moStr_words (q : Mo) : moStr q = dateW q ++ " " ++ timeW q := by
  refine ext_tl ?_
  unfold moStr dateW timeW
  simp only [tl_append, List.append_assoc]
  rfl
theorem word_len {q : Mo} (k : q.ok) : (dateW q).length + 2 ≤ sizeLine ∧ (timeW q).length + 2 ≤ sizeLine := by
  have l := moStr_len k
  rw [moStr_words, Str.length_append, Str.length_append] at l
  have e1 := sizeLine_eq
  constructor <;> omega
theorem moW {q : Mo} (k : q.ok) : MoW (dateW q) (timeW q) q := ⟨(word_len k).1, (word_len k).2, date_back k, time_back k, k⟩
theorem ring_split {q : Mo} (k : q.ok) : Txt.split (ringLine q) " " = [("ring" : Str), dateW q, timeW q] := by
  have e : ringLine q = Txt.join " " [("ring" : Str), dateW q, timeW q] := by
    rw [join_eq]
    refine ext_tl ?_
    rw [tl_join]
    unfold ringLine
    rw [moStr_words]
    simp only [tl_append, List.append_assoc]
    rfl
  rw [e]
  refine split_join (s := 32) (S := []) (by decide +kernel) (by decide +kernel) (by simp) fun p hp => ?_
  simp at hp
  rcases hp with rfl | rfl | rfl
  · decide +kernel
  · exact (word_free k (.inl rfl)).1
  · exact (word_free k (.inl rfl)).2
theorem watch_split {q p : Mo} (k : q.ok) (l : p.ok) : Txt.split (watchLine (q, p)) " " = [("watch" : Str), dateW q, timeW q, dateW p, timeW p] := by
  have e : watchLine (q, p) = Txt.join " " [("watch" : Str), dateW q, timeW q, dateW p, timeW p] := by
    rw [join_eq]
    refine ext_tl ?_
    rw [tl_join]
    unfold watchLine
    rw [moStr_words, moStr_words]
    simp only [tl_append, List.append_assoc]
    rfl
  rw [e]
  refine split_join (s := 32) (S := []) (by decide +kernel) (by decide +kernel) (by simp) fun p hp => ?_
  simp at hp
  rcases hp with rfl | rfl | rfl | rfl | rfl
  · decide +kernel
  · exact (word_free k (.inl rfl)).1
  · exact (word_free k (.inl rfl)).2
  · exact (word_free l (.inl rfl)).1
  · exact (word_free l (.inl rfl)).2

end G
set_option maxHeartbeats 400000
namespace G
open PySem PySem.Spec PyProof.Rows L2 F
local macro_rules | `(tactic| walk_at "side") => `(tactic| first | rfl | decide | omega | assumption | (unfold CMul; omega) | (unfold CPow; omega) | (unfold CDiv; omega))
local macro_rules | `(tactic| walk_at "hp") => `(tactic| first | assumption | exact upd_same | (refine upd_keep (by assumption) ?_; walk_at "hp") | (refine sm (by assumption) ?_; walk_at "hp"))
local macro_rules | `(tactic| walk_at "n") => `(tactic| ((try conv => whnf); repeat ((first | with_reducible refine cond_t rfl ?_ | with_reducible refine cond_f rfl ?_ | with_reducible refine cond_n ?_); (try conv => whnf))))
local macro_rules | `(tactic| walk_at "go") => `(tactic| (walk_at "n"; repeat (refine And.intro ?side ?_; (case side => walk_at "side"); walk_at "n")))

open M TL
theorem joinL_len (S : List Nat) : ∀ parts : List (List Nat), (joinL S parts).length ≤ (parts.map (·.length)).sum + parts.length * S.length
  | [] => by simp [joinL]
  | [p] => by
    simp [joinL]
  | p :: q :: r => by
    have ih := joinL_len S (q :: r)
    have e : joinL S (p :: q :: r) = p ++ (S ++ joinL S (q :: r)) := rfl
    rw [e, List.length_append, List.length_append, List.map_cons, List.sum_cons, List.length_cons, Nat.succ_mul]
    omega
theorem join_len (l : List Str) : (Txt.join "\n" l).length ≤ (l.map (·.length)).sum + l.length := by
  have e1 : tl ("\n" : Str) = [10] := by decide +kernel
  rw [join_eq, len_tl, tl_join, e1]
  have := joinL_len [10] (l.map tl)
  rw [List.map_map, List.length_map] at this
  have e2 : (l.map ((·.length) ∘ tl)) = l.map (·.length) := List.map_congr_left fun z _ => (len_tl z).symm
  rw [e2] at this
  simpa using this
/-- an entry's line -/
def entLine : List Mo → Str
  | [q] => ringLine q
  | [q, p] => watchLine (q, p)
  | _ => "none"
def entsOf (R : List Mo) (W : List (Mo × Mo)) : List (List Mo) := R.map (fun q => [q]) ++ W.map (fun z => [z.1, z.2])
theorem ents_lines (R : List Mo) (W : List (Mo × Mo)) : (entsOf R W).map entLine = linesOf R W := by
  unfold entsOf linesOf
  rw [List.map_append, List.map_map, List.map_map]
  rfl
def EntOk (e : List Mo) : Prop := (∃ q, e = [q] ∧ q.ok) ∨ ∃ q p, e = [q, p] ∧ SpanOk q p
theorem ents_ok {R : List Mo} {W : List (Mo × Mo)} (hr : ∀ x, x ∈ R → x.ok) (hw : ∀ x, x ∈ W → SpanOk x.1 x.2) : ∀ e, e ∈ entsOf R W → EntOk e := fun e he => by
  rcases List.mem_append.mp he with h | h
  · obtain ⟨q, hq, rfl⟩ := List.mem_map.mp h
    exact .inl ⟨q, rfl, hr q hq⟩
  · obtain ⟨z, hz, rfl⟩ := List.mem_map.mp h
    exact .inr ⟨_, _, rfl, hw z hz⟩
theorem entW {e : List Mo} (k : EntOk e) : EntW (Txt.split (entLine e) " ") e := by
  rcases k with ⟨q, rfl, k⟩ | ⟨q, p, rfl, k⟩
  · show EntW (Txt.split (ringLine q) " ") [q]
    rw [ring_split k]
    refine ⟨.inl rfl, rfl, rfl, fun i x h => ?_⟩
    cases i with
    | zero =>
      cases h
      exact ⟨_, _, rfl, rfl, moW k⟩
    | succ i => simp at h
  · show EntW (Txt.split (watchLine (q, p)) " ") [q, p]
    rw [watch_split k.o1 k.o2]
    refine ⟨.inr rfl, rfl, rfl, fun i x h => ?_⟩
    match i, h with
    | 0, h =>
      cases h
      exact ⟨_, _, rfl, rfl, moW k.o1⟩
    | 1, h =>
      cases h
      exact ⟨_, _, rfl, rfl, moW k.o2⟩
    | i + 2, h => simp at h
theorem EntW.uniq {zs : List Str} {e e' : List Mo} (a : EntW zs e) (b : EntW zs e') : e = e' := by
  have l := a.len
  have l' := b.len
  refine List.ext_getElem? fun k => ?_
  cases h : e[k]? with
  | none =>
    have := List.getElem?_eq_none_iff.mp h
    rw [List.getElem?_eq_none (by omega)]
  | some q =>
    have hk : k < e.length := by
      rcases Nat.lt_or_ge k e.length with z | z
      · exact z
      · rw [List.getElem?_eq_none z] at h
        cases h
    obtain ⟨q', hq'⟩ : ∃ q', e'[k]? = some q' := ⟨_, List.getElem?_eq_getElem (by omega)⟩
    obtain ⟨z1, z2, g1, g2, m⟩ := a.mo k q h
    obtain ⟨z1', z2', g1', g2', m'⟩ := b.mo k q' hq'
    rw [g1] at g1'
    rw [g2] at g2'
    cases g1'
    cases g2'
    have d := m.d.symm.trans m'.d
    have t := m.t.symm.trans m'.t
    rw [hq']
    obtain ⟨y1, m1, d1, h1, i1⟩ := q
    obtain ⟨y2, m2, d2, h2, i2⟩ := q'
    simp only [Option.some.injEq, Prod.mk.injEq] at d t
    obtain ⟨rfl, rfl, rfl⟩ := d
    obtain ⟨rfl, rfl⟩ := t
    rfl
theorem entLine_inj {e e' : List Mo} (a : EntOk e) (b : EntOk e') (h : entLine e = entLine e') : e = e' := by
  have w := entW a
  rw [h] at w
  exact w.uniq (entW b)
theorem moStr_free {q : Mo} (k : q.ok) : 10 ∉ tl (moStr q) := by
  have e1 : tl (" " : Str) = [32] := by decide +kernel
  rw [moStr_words]
  simp only [tl_append, e1, List.mem_append, List.mem_singleton, not_or]
  exact ⟨⟨(word_free k (.inr rfl)).1, by decide⟩, (word_free k (.inr rfl)).2⟩
theorem entLine_free {e : List Mo} (k : EntOk e) : 10 ∉ tl (entLine e) := by
  have e0 : 10 ∉ tl Str.empty := by decide +kernel
  have e1 : 10 ∉ tl ("ring " : Str) := by decide +kernel
  have e2 : 10 ∉ tl ("watch " : Str) := by decide +kernel
  have e3 : 10 ∉ tl (" " : Str) := by decide +kernel
  rcases k with ⟨q, rfl, k⟩ | ⟨q, p, rfl, k⟩
  · show 10 ∉ tl (ringLine q)
    unfold ringLine
    simp only [tl_append, List.mem_append, not_or]
    exact ⟨⟨e0, e1⟩, moStr_free k⟩
  · show 10 ∉ tl (watchLine (q, p))
    unfold watchLine
    simp only [tl_append, List.mem_append, not_or]
    exact ⟨⟨⟨⟨e0, e2⟩, moStr_free k.o1⟩, e3⟩, moStr_free k.o2⟩
theorem entLine_len {e : List Mo} (k : EntOk e) : (entLine e).length ≤ 139 := by
  rcases k with ⟨q, rfl, k⟩ | ⟨q, p, rfl, k⟩
  · exact Nat.le_trans (ringLine_len k) (by decide)
  · exact watchLine_len k.o1 k.o2
theorem entLine_str {e : List Mo} (k : EntOk e) : PyData.strOk (entLine e) = true := by
  rcases k with ⟨q, rfl, k⟩ | ⟨q, p, rfl, k⟩
  · exact ringLine_ok k
  · exact watchLine_ok k.o1 k.o2
theorem text_len {es : List (List Mo)} (ok : ∀ e, e ∈ es → EntOk e) (n1 : es.length ≤ 2000) : (Txt.join "\n" (es.map entLine)).length + 2 ≤ sizeLine := by
  have h1 := join_len (es.map entLine)
  have h2 := lines_sum (B := 139) (es.map entLine) fun z hz => by
    obtain ⟨e, he, rfl⟩ := List.mem_map.mp hz
    exact entLine_len (ok e he)
  rw [List.length_map] at h1 h2
  have e1 := sizeLine_eq
  omega
theorem readW {es : List (List Mo)} (ne : es ≠ []) (ok : ∀ e, e ∈ es → EntOk e) (n1 : es.length ≤ 2000) (n2 : nWatch es ≤ 12) : ReadW (Txt.join "\n" (es.map entLine)) es := by
  have sp : Txt.split (Txt.join "\n" (es.map entLine)) "\n" = es.map entLine := by
    refine split_join (s := 10) (S := []) (by decide +kernel) (by decide +kernel) (by simpa using ne) fun p hp => ?_
    obtain ⟨e, he, rfl⟩ := List.mem_map.mp hp
    exact entLine_free (ok e he)
  refine ⟨ne, by rw [sp, List.length_map], fun i e he => ?_, fun q p h => ?_, n1, n2⟩
  · rw [sp]
    exact ⟨entLine e, by rw [List.getElem?_map, he]; rfl, entW (ok e (List.mem_of_getElem? he))⟩
  · rcases ok _ h with ⟨x, e, _⟩ | ⟨x, y, e, k⟩
    · simp at e
    · simp only [List.cons.injEq, and_true] at e
      obtain ⟨rfl, rfl⟩ := e
      exact k
theorem map_pre {α β : Type} {f : α → β} {l : List α} : ∀ ys : List β, (∀ y, y ∈ ys → y ∈ l.map f) → ∃ es : List α, es.map f = ys ∧ ∀ e, e ∈ es → e ∈ l
  | [], _ => ⟨[], rfl, fun e h => by simp at h⟩
  | y :: r, h => by
    obtain ⟨e, he, rfl⟩ := List.mem_map.mp (h y List.mem_cons_self)
    obtain ⟨es, h1, h2⟩ := map_pre r fun z hz => h z (List.mem_cons_of_mem _ hz)
    refine ⟨e :: es, by rw [List.map_cons, h1], fun x hx => ?_⟩
    rcases List.mem_cons.mp hx with rfl | hx
    · exact he
    · exact h2 x hx
def isWatch (z : Str) : Bool := decide ((Txt.split z " ")[0]? = some ("watch" : Str))
theorem isWatch_ent {e : List Mo} (k : EntOk e) : isWatch (entLine e) = (e.length == 2) := by
  unfold isWatch
  have w := entW k
  rw [w.hd]
  have ne : ("ring" : Str) ≠ "watch" := by decide +kernel
  rcases w.n with h | h
  · rw [if_pos h, h]
    simp [ne]
  · rw [if_neg (by omega), h]
    simp
theorem nWatch_lines : ∀ {es : List (List Mo)}, (∀ e, e ∈ es → EntOk e) → nWatch es = ((es.map entLine).filter isWatch).length
  | [], _ => rfl
  | e :: r, ok => by
    have ih := nWatch_lines (es := r) fun x hx => ok x (List.mem_cons_of_mem _ hx)
    have w := isWatch_ent (ok e List.mem_cons_self)
    unfold nWatch at ih ⊢
    rw [List.map_cons, List.filter_cons, List.filter_cons, w]
    by_cases h : (e.length == 2) = true
    · rw [if_pos h, if_pos h, List.length_cons, List.length_cons, ih]
    · rw [if_neg h, if_neg h, ih]
theorem nWatch_ents (R : List Mo) (W : List (Mo × Mo)) : nWatch (entsOf R W) = W.length := by
  unfold nWatch entsOf
  rw [List.filter_append, List.filter_eq_nil_iff.mpr, List.filter_eq_self.mpr]
  · simp
  · intro e he
    obtain ⟨z, _, rfl⟩ := List.mem_map.mp he
    rfl
  · intro e he
    obtain ⟨z, _, rfl⟩ := List.mem_map.mp he
    simp
theorem mem_ents1 {R : List Mo} {W : List (Mo × Mo)} {x : Mo} : [x] ∈ entsOf R W ↔ x ∈ R := by
  unfold entsOf
  simp
theorem mem_ents2 {R : List Mo} {W : List (Mo × Mo)} {x : Mo × Mo} : [x.1, x.2] ∈ entsOf R W ↔ x ∈ W := by
  unfold entsOf
  simp
/-- the lines in any order, some twice -/
theorem shuffled {R : List Mo} {W : List (Mo × Mo)} {ys : List Str} (hr : ∀ x, x ∈ R → x.ok) (hw : ∀ x, x ∈ W → SpanOk x.1 x.2) (hR : R.length ≤ 100) (hW : W.length ≤ 6) (ne : linesOf R W ≠ []) (hm : ∀ y, y ∈ ys ↔ y ∈ linesOf R W)
    (hl : ys.length ≤ (linesOf R W).length + 2) (hf : ∀ f : Str → Bool, (ys.filter f).length ≤ ((linesOf R W).filter f).length + 2) :
    ∃ es : List (List Mo), (Txt.join "\n" ys).length + 2 ≤ sizeLine ∧ ReadW (Txt.join "\n" ys) es ∧ (∀ x, [x] ∈ es ↔ x ∈ R) ∧ ∀ x : Mo × Mo, [x.1, x.2] ∈ es ↔ x ∈ W := by
  have ok := ents_ok hr hw
  have el := ents_lines R W
  obtain ⟨es, h1, h2⟩ := map_pre (f := entLine) (l := entsOf R W) ys fun y hy => by
    rw [el]
    exact (hm y).mp hy
  have ok2 : ∀ e, e ∈ es → EntOk e := fun e he => ok e (h2 e he)
  have mem : ∀ e, e ∈ es ↔ e ∈ entsOf R W := fun e => ⟨h2 e, fun he => by
    have : entLine e ∈ ys := by
      rw [hm, ← el]
      exact List.mem_map.mpr ⟨e, he, rfl⟩
    rw [← h1] at this
    obtain ⟨e', he', q⟩ := List.mem_map.mp this
    rw [← entLine_inj (ok2 e' he') (ok e he) q]
    exact he'⟩
  have len : es.length = ys.length := by rw [← h1, List.length_map]
  have ll : (linesOf R W).length = R.length + W.length := by
    unfold linesOf
    rw [List.length_append, List.length_map, List.length_map]
  have nw : nWatch es ≤ 8 := by
    rw [nWatch_lines ok2, h1]
    have := hf isWatch
    rw [← el, ← nWatch_lines ok, nWatch_ents] at this
    omega
  have yn : ys ≠ [] := fun z => by
    obtain ⟨a, ha⟩ := List.exists_mem_of_ne_nil _ ne
    have := (hm a).mpr ha
    rw [z] at this
    simp at this
  have en : es ≠ [] := fun z => by
    rw [z] at h1
    exact yn h1.symm
  refine ⟨es, ?_, ?_, fun x => by rw [mem, mem_ents1], fun x => by rw [mem, mem_ents2]⟩
  · rw [← h1]
    exact text_len ok2 (by omega)
  · rw [← h1]
    exact readW en ok2 (by omega) (by omega)
/-- the text itself -/
theorem own_text {R : List Mo} {W : List (Mo × Mo)} (hr : ∀ x, x ∈ R → x.ok) (hw : ∀ x, x ∈ W → SpanOk x.1 x.2) (hR : R.length ≤ 100) (hW : W.length ≤ 6) :
    ∃ es : List (List Mo), (textOf (linesOf R W)).length + 2 ≤ sizeLine ∧ (textOf (linesOf R W) = "none" ∧ es = [] ∨ ReadW (textOf (linesOf R W)) es) ∧ (∀ x, [x] ∈ es ↔ x ∈ R) ∧ ∀ x : Mo × Mo, [x.1, x.2] ∈ es ↔ x ∈ W := by
  have ok := ents_ok hr hw
  have el := ents_lines R W
  refine ⟨entsOf R W, ?_, ?_, fun x => mem_ents1, fun x => mem_ents2⟩
  · unfold textOf
    split
    · have e1 := sizeLine_eq
      have e2 : ("none" : Str).length = 4 := by decide
      omega
    · rw [← el]
      refine text_len ok ?_
      unfold entsOf
      rw [List.length_append, List.length_map, List.length_map]
      omega
  · unfold textOf
    by_cases h : (linesOf R W).isEmpty = true
    · rw [if_pos h]
      refine .inl ⟨rfl, ?_⟩
      rw [← el, List.isEmpty_iff, List.map_eq_nil_iff] at h
      exact h
    · rw [if_neg h]
      refine .inr ?_
      rw [← el] at h ⊢
      refine readW (fun z => h (by rw [z]; rfl)) ok ?_ ?_
      · unfold entsOf
        rw [List.length_append, List.length_map, List.length_map]
        omega
      · rw [nWatch_ents]
        omega

end G
set_option maxHeartbeats 400000
namespace G
open PySem PySem.Spec PyProof.Rows L2 F
local macro_rules | `(tactic| walk_at "side") => `(tactic| first | rfl | decide | omega | assumption | (unfold CMul; omega) | (unfold CPow; omega) | (unfold CDiv; omega))
local macro_rules | `(tactic| walk_at "hp") => `(tactic| first | assumption | exact upd_same | (refine upd_keep (by assumption) ?_; walk_at "hp") | (refine sm (by assumption) ?_; walk_at "hp"))
local macro_rules | `(tactic| walk_at "n") => `(tactic| ((try conv => whnf); repeat ((first | with_reducible refine cond_t rfl ?_ | with_reducible refine cond_f rfl ?_ | with_reducible refine cond_n ?_); (try conv => whnf))))
local macro_rules | `(tactic| walk_at "go") => `(tactic| (walk_at "n"; repeat (refine And.intro ?side ?_; (case side => walk_at "side"); walk_at "n")))

open M TL
theorem spec_put (r r' w : Addr) : putK (specKv r w) (.inr "rings") (.ref r') = specKv r' w := by
  have e : valV (specKv r w) (.inr "rings") = some (.ref r) := valV_pos (p := ((Sum.inr "rings" : Key), V.ref r)) rfl
  unfold putK
  rw [valV_any, e]
  simp only [Option.isSome_some, if_true, specKv, List.map_cons, List.map_nil, if_neg (Ne.symm kne7), reduceIte]
section
variable {K : PySem.W.Frag} {H H' : Hp} {s g c rl wl : Addr} {rs us : List (Addr × Mo)} {ws : List (Addr × WT)} {kvs : List (Key × V)} {o : HO}
theorem BagAt.putD (b : BagAt K H g c) (hs : H s = some (.dK kvs)) (n : s ≠ g) : BagAt K (upd H s o) g c := by
  obtain ⟨a, r, k, ns, p⟩ := b
  refine ⟨a, r, k, ns, ?_, ?_, p.a0, p.r0, p.s0, p.s1, p.n⟩
  · rw [upd_ne (Ne.symm n)]
    exact p.at_
  · rw [upd_ne fun e => by have := p.cc; rw [e, hs] at this; cases this]
    exact p.cc
theorem SpecP.sb (p : SpecP K H s rl wl rs ws) (b : BagAt K H g c) (n : s ≠ g) (e : SB g H H') : SpecP K H' s rl wl rs ws := by
  obtain ⟨kv, hg⟩ := b.dk
  refine ⟨e _ _ n p.at_, e.at p.rr hg (fun z => by cases z), b.sl p.w e, fun t ht => ⟨b.st (p.rt t ht).1 e, (p.rt t ht).2⟩, fun t ht => ?_, p.rn, p.wn, p.rs_, p.wd⟩
  have z := p.wt t ht
  exact ⟨b.st z.tup e, b.st z.m1 e, b.st z.m2 e, z.ok⟩
theorem SpecP.putR {q : Addr} (p : SpecP K H s rl wl rs ws) (hq : H q = some (.lst (us.map fun t => V.ref t.1))) (hu : ∀ t, t ∈ us → SqT K H t.1 (moL t.2) ∧ t.2.ok) (un : us.length ≤ 20) (srt : us.Pairwise fun x y => x.2.num < y.2.num) : SpecP K (upd H s (.dK (specKv q wl))) s q wl us ws := by
  have e : SB s H (upd H s (.dK (specKv q wl))) := sb_upd
  refine ⟨upd_same, e.at hq p.at_ (fun z => by cases z), sl_sbd p.w p.at_ e, fun t ht => ⟨st_sbd (hu t ht).1 p.at_ e, (hu t ht).2⟩, fun t ht => ?_, un, p.wn, srt, p.wd⟩
  have z := p.wt t ht
  exact ⟨st_sbd z.tup p.at_ e, st_sbd z.m1 p.at_ e, st_sbd z.m2 p.at_ e, z.ok⟩
theorem SpecP.okR (p : SpecP K H s rl wl rs ws) : ∀ x, x ∈ conT id rs → x.ok := fun x hx => by
  obtain ⟨t, ht, rfl⟩ := mem_conT.mp hx
  exact (p.rt t ht).2
theorem SpecP.okW (p : SpecP K H s rl wl rs ws) : ∀ x, x ∈ conT wc ws → SpanOk x.1 x.2 := fun x hx => by
  obtain ⟨t, ht, rfl⟩ := mem_conT.mp hx
  exact (p.wt t ht).ok
theorem SpecP.sort (p : SpecP K H s rl wl rs ws) : (conT id rs).Pairwise fun x y => x.num < y.num := con_sorted (fun _ => rfl) p.rs_
end
theorem nodup_len {α : Type} : ∀ {l m : List α}, l.Nodup → (∀ x, x ∈ l → x ∈ m) → l.length ≤ m.length
  | [], _, _, _ => Nat.zero_le _
  | a :: r, m, hl, h => by
    obtain ⟨i, hi⟩ := List.getElem?_of_mem (h a List.mem_cons_self)
    have hlt : i < m.length := by
      rcases Nat.lt_or_ge i m.length with z | z
      · exact z
      · rw [List.getElem?_eq_none z] at hi
        cases hi
    have pm := erase_perm hlt
    rw [List.getElem?_eq_getElem hlt] at hi
    rw [Option.some.inj hi] at pm
    have nd := List.nodup_cons.mp hl
    have ih := nodup_len (l := r) (m := m.eraseIdx i) nd.2 fun x hx => by
      rcases List.mem_cons.mp (pm.mem_iff.mpr (h x (List.mem_cons_of_mem _ hx))) with z | z
      · subst z
        exact absurd hx nd.1
      · exact z
    have := pm.length_eq
    rw [List.length_cons] at this ⊢
    omega
theorem code_nodup {W : List (Mo × Mo)} (h : W.Pairwise fun x y => code x < code y) : W.Nodup := h.imp fun {a b} z e => by
  rw [e] at z
  omega
/-- an if whose two ways meet again -/
theorem cond_ifS {b : Bool} {t u : TS} {D : Ends} {σ : L2.St} {H : Hp} (P : L2.St → Hp → Prop) (all : ∀ σ' H', P σ' H' → D.nx σ' H') (h1 : b = true → (∀ σ' H', P σ' H' → D.nx σ' H') → t D σ H) (h2 : b = false → (∀ σ' H', P σ' H' → D.nx σ' H') → u D σ H) : Cond b (t D σ H) (u D σ H) :=
  cond_b (fun z => h1 z all) fun z => h2 z all
theorem cond_ifE {b : Bool} {t u : TE} {σ : L2.St} {H : Hp} {Q : VK} (P : V → Hp → Prop) (all : ∀ v H', P v H' → Q v H') (h1 : b = true → (∀ v H', P v H' → Q v H') → t σ H Q) (h2 : b = false → (∀ v H', P v H' → Q v H') → u σ H Q) : Cond b (t σ H Q) (u σ H Q) :=
  cond_b (fun z => h1 z all) fun z => h2 z all
theorem mo_first : (Mo.mk 1 1 1 0 0).ok := ⟨by decide, by decide, by decide, by decide, by decide, by decide, by decide, by decide, by decide, by decide⟩
theorem mo_last : (Mo.mk 999999 12 31 23 59).ok := ⟨by decide, by decide, by decide, by decide, by decide, by decide, by decide, by decide, by decide, by decide⟩
theorem kvT_bag {α : Type} {k : α → Int} {ts : List (Addr × α)} {c : Addr} {a r st : Int} : kvT k ts ≠ bagKv c a r st := fun e => by
  cases ts with
  | nil => cases e
  | cons t q =>
    have := congrArg (fun l => (l.map (·.1)).head?) e
    simp [kvT, bagKv] at this
theorem MoAt.sbd {K : PySem.W.Frag} {H H' : Hp} {a g : Addr} {q : Mo} {kvs : List (Key × V)} (h : MoAt K H a q) (hg : H g = some (.dK kvs)) (s : SB g H H') : MoAt K H' a q := let ⟨dx, e⟩ := h; ⟨dx, s.at e hg fun z => by cases z⟩
theorem BookAt.bag {K : PySem.W.Frag} {H H' : Hp} {b g c : Addr} {R : List Mo} {W : List (Mo × Mo)} (h : BookAt K H b R W) (bg : BagAt K H g c) (s : SB g H H') : BookAt K H' b R W := by
  obtain ⟨dx, r, s1, rs, ws, p, e1, e2⟩ := h
  obtain ⟨a0, r0, k0, ns0, bp⟩ := bg
  have n1 : r ≠ g := fun e => by
    have := p.r.tab.at_
    rw [e, bp.at_] at this
    injection this with this
    injection this with this
    exact kvT_bag this.symm
  have n2 : s1 ≠ g := fun e => by
    have := p.s.tab.at_
    rw [e, bp.at_] at this
    injection this with this
    injection this with this
    exact kvT_bag this.symm
  refine ⟨dx, r, s1, rs, ws, ⟨s.at p.at_ bp.at_ (fun z => by cases z), ⟨p.r.tab.sb s n1, fun t ht => ⟨(p.r.mo t ht).1.sbd bp.at_ s, (p.r.mo t ht).2⟩⟩, ⟨p.s.tab.sb s n2, fun t ht => ?_⟩, p.nr, p.nw⟩, e1, e2⟩
  have z := p.s.at_ t ht
  exact ⟨st_sbd z.tup bp.at_ s, z.m1.sbd bp.at_ s, z.m2.sbd bp.at_ s, z.ok⟩
theorem lines_str {R : List Mo} {W : List (Mo × Mo)} (hr : ∀ x, x ∈ R → x.ok) (hw : ∀ x, x ∈ W → SpanOk x.1 x.2) : ∀ z, z ∈ linesOf R W → z.length ≤ 139 ∧ PyData.strOk z = true := fun z hz => by
  rw [← ents_lines] at hz
  obtain ⟨e, he, rfl⟩ := List.mem_map.mp hz
  exact ⟨entLine_len (ents_ok hr hw e he), entLine_str (ents_ok hr hw e he)⟩
theorem lines_fit {ls : List Str} (h : ∀ z, z ∈ ls → z.length ≤ 139) (n : ls.length ≤ 2000) : (ls.map (·.length)).sum + ls.length * ("\n" : Str).length ≤ sizeLine := by
  have h2 := lines_sum (B := 139) ls h
  have e1 := sizeLine_eq
  have l1 : ("\n" : Str).length = 1 := by decide
  rw [l1]
  omega
theorem lines_n (R : List Mo) (W : List (Mo × Mo)) : (linesOf R W).length = R.length + W.length := by
  unfold linesOf
  rw [List.length_append, List.length_map, List.length_map]
def sp_law (K : PySem.W.Frag) : Sp := fun vs H Q E => match vs with
  | [.ref a] => ∃ ns : List Int, SqL K H a (ns.map V.int) ∧ ∀ H', Q (.bl true) H'
  | _ => False
theorem sc_law : FnScope ["_law_script", "_law_bag_here", "_law_turn", "_law_spec_here", "_law_made", "_law_lines_here", "_law_signs", "_law_found", "_law_other"] ["_law_script"] (defScope s_law) := ⟨rfl, rfl, rfl, by decide +kernel, rfl, by decide +kernel, by decide +kernel⟩
theorem okF_law {P : Program} {w : World} {K : PySem.W.Frag} {mg : Str → Option Value} {base : Heap} {fd : FuncData} (T : Tx K mg) (F1 : FunD K "law" "law" (defArgs s_law) (defBody s_law) (defScope s_law) [] [] (He.ga K "law") fd) : FnOk P w K mg base (L2.CX P w) 11 (He.ga K "law") fd ["_law_script"] (sp_law K) := by
  have c__law_bag : Fc P w K mg base 1 "_law_bag" (sp__law_bag K) := ⟨_, ok__law_bag T, T.g__law_bag, (T.f__law_bag).elim fun _ z => z.kp⟩
  have c__law_spec : Fc P w K mg base 6 "_law_spec" (sp__law_spec K) := ⟨_, ok__law_spec T, T.g__law_spec, (T.f__law_spec).elim fun _ z => z.kp⟩
  have c__law_draw : Fc P w K mg base 1 "_law_draw" (sp__law_draw K) := ⟨_, ok__law_draw T, T.g__law_draw, (T.f__law_draw).elim fun _ z => z.kp⟩
  have c__law_ordered : Fc P w K mg base 4 "_law_ordered" (sp__law_ordered K) := ⟨_, ok__law_ordered T, T.g__law_ordered, (T.f__law_ordered).elim fun _ z => z.kp⟩
  have c__law_book : Fc P w K mg base 8 "_law_book" (sp__law_book K) := ⟨_, ok__law_book T, T.g__law_book, (T.f__law_book).elim fun _ z => z.kp⟩
  have c__law_lines : Fc P w K mg base 4 "_law_lines" (sp__law_lines K) := ⟨_, ok__law_lines T, T.g__law_lines, (T.f__law_lines).elim fun _ z => z.kp⟩
  have c_read_book : Fc P w K mg base 9 "read_book" (sp_read_book K) := ⟨_, ok_read_book T, T.g_read_book, (T.f_read_book).elim fun _ z => z.kp⟩
  have c__law_shuffled : Fc P w K mg base 2 "_law_shuffled" (sp__law_shuffled K) := ⟨_, ok__law_shuffled T, T.g__law_shuffled, (T.f__law_shuffled).elim fun _ z => z.kp⟩
  have c_book_text : Fc P w K mg base 3 "book_text" (sp_book_text K) := ⟨_, ok_book_text T, T.g_book_text, (T.f_book_text).elim fun _ z => z.kp⟩
  have c_Book__0 : Fk P w K mg base 6 "Book" (He.ga K "Book") (fun vs H Q E => sp_Book___init__ K (vs ++ [(.ref (dfl0 (fun K => He.ma K (He.ga K "Book") "__init__") 0 K)), (.ref (dfl0 (fun K => He.ma K (He.ga K "Book") "__init__") 1 K))]) H Q E) := ⟨⟨_, ok0_Book___init__ T, T.mk_Book⟩, T.g_Book⟩
  have ck_book_text : Fck P w K mg base 3 "book_text" ["book"] (sp_book_text K) := (T.f_book_text).elim fun fd F1 => ⟨⟨_, fd, okF_book_text T F1, F1.kb rfl (fun _ _ _ _ _ _ us ws hl => match us, ws, hl with | [], [_], _ => rfl | [_], [], _ => rfl), T.g_book_text, F1.kp⟩⟩
  have ck_read_book : Fck P w K mg base 9 "read_book" ["text"] (sp_read_book K) := (T.f_read_book).elim fun fd F1 => ⟨⟨_, fd, okF_read_book T F1, F1.kb rfl (fun _ _ _ _ _ _ us ws hl => match us, ws, hl with | [], [_], _ => rfl | [_], [], _ => rfl), T.g_read_book, F1.kp⟩⟩
  refine F1.ok sc_law (fun vs H Q E h => ?_) (fun cdv A outer s H vs Q E hr h => ?_)
  · unfold sp_law at h
    split at h
    · rfl
    · exact h.elim
  · unfold sp_law at h
    split at h
    rotate_left
    · exact h.elim
    · rename_i a
      refine ⟨_, (pss_cons (ps_set (i := 1) sc_law.nd rfl (Or.inl rfl) (e_c c__law_bag hr (pa_cons (e_v 0) pa_nil)))
        (pss_cons (ps_for (passes_of rfl) rfl (pi_range1 rfl T.b_range (pa_cons pe_int pa_nil)) (pg_name (i := 2) sc_law.nd rfl (Or.inl rfl))
          (pss_cons (ps_set (i := 3) sc_law.nd rfl (Or.inl rfl) (e_c c__law_spec hr (pa_cons (e_v 1) (pa_cons pe_int pa_nil))))
        (pss_cons (s_if (t_cmp o_eq (e_c c__law_draw hr (pa_cons (e_v 1) (pa_cons pe_int pa_nil))) pe_int (nomark _)) (pss_one (ps_dput (hu_of hr) (e_v 3) pe_str (e_c c__law_ordered hr (pa_cons (pe_op (k_add K) (e_dget hr (e_v 3) pe_str) (pe_lst (pa_cons (pe_tup (pa_cons pe_int (pa_cons pe_int (pa_cons pe_int (pa_cons pe_int (pa_cons pe_int pa_nil)))))) (pa_cons (pe_tup (pa_cons pe_int (pa_cons pe_int (pa_cons pe_int (pa_cons pe_int (pa_cons pe_int pa_nil)))))) pa_nil)))) pa_nil)) rfl)) pss_nil)
        (pss_cons (ps_par (i := 4) (j := 5) (by rfl) sc_law.nd rfl rfl (by decide) rfl rfl (pa_cons (e_c c__law_book hr (pa_cons (e_v 3) pa_nil)) (pa_cons (e_c c__law_lines hr (pa_cons (e_v 3) pa_nil)) pa_nil)) (by rfl))
        (pss_cons (ps_set (i := 6) sc_law.nd rfl (Or.inl rfl) (e_if (t_cmp (op_neD hr.units) (e_v 5) (pe_lst pa_nil) (nomark _)) (e_join pe_str (e_v 5)) pe_str))
        (pss_cons (ps_set (i := 7) sc_law.nd rfl (Or.inl rfl) (e_ck0 ck_book_text hr (pk_cons (e_v 4) pk_nil)))
        (pss_cons (s_if (PW.pt (w_or (pt_not (t_b (e_is_str T.b_str T.b_isinstance (e_v 7)))) (w_or (t_cmp o_ne (e_v 7) (e_v 6) (nomark _)) (w_or1 (t_cmp (o_ownNe T.ne_Book T.o_Book___eq__ (ok_Book___eq__ T) hr) (e_ck0 ck_read_book hr (pk_cons (e_v 7) pk_nil)) (e_v 4) (nomark _)))))) (pss_one (ps_ret pe_bl)) pss_nil)
        (pss_cons (s_if (t_cmp (op_neD hr.units) (e_v 5) (pe_lst pa_nil) (nomark _)) (pss_cons (ps_set (i := 8) sc_law.nd rfl (Or.inl rfl) (e_c c_read_book hr (pa_cons (e_join pe_str (e_c c__law_shuffled hr (pa_cons (e_v 1) (pa_cons (e_v 5) pa_nil)))) pa_nil)))
        (pss_one (s_if (PW.pt (w_or (t_cmp (o_ownNe T.ne_Book T.o_Book___eq__ (ok_Book___eq__ T) hr) (e_v 8) (e_v 4) (nomark _)) (w_or1 (t_cmp o_ne (e_c c_book_text hr (pa_cons (e_v 8) pa_nil)) (e_v 6) (nomark _))))) (pss_one (ps_ret pe_bl)) pss_nil))) pss_nil)
        (pss_one (s_if (t_cmp (o_ownNe T.ne_Book T.o_Book___eq__ (ok_Book___eq__ T) hr) (e_v 4) (e_c c__law_book hr (pa_cons (e_v 3) pa_nil)) (nomark _)) (pss_one (ps_ret pe_bl)) pss_nil))))))))))
        (pss_one (ps_ret (e_and (pe_cmpR o_eq (e_c c_book_text hr (pa_cons (e_k0 c_Book__0 hr) pa_nil)) pe_str (nomark _)) (pe_one (pe_cmpR (o_ownCmp (fun _ _ => rfl) T.o_Book___eq__ (ok_Book___eq__ T) hr) (e_c c_read_book hr (pa_cons pe_str pa_nil)) (e_k0 c_Book__0 hr) (nomark _)))))))), ?_⟩
      obtain ⟨ns, hl, h⟩ := h
      walk_at "n"
      refine ⟨ns, hl, fun g c H1 s1 hg b1 => ?_⟩
      walk_at "n"
      refine ⟨_, rfl, by decide, by decide, for_it (walk_range (lo := 0) (n := 4)) (fun i σ H' => BagAt K H' g c ∧ ∃ v2 v3 v4 v5 v6 v7 v8, σ = [some (.ref a), some (.ref g), v2, v3, v4, v5, v6, v7, v8]) ⟨b1, _, _, _, _, _, _, _, rfl⟩ (fun _ _ _ _ _ => trivial) ?_ ?_⟩
      · rintro i x σ H2 H3 hi ⟨b2, v2, v3, v4, v5, v6, v7, v8, rfl⟩ ⟨rfl, rfl⟩
        walk_at "n"
        refine ⟨c, b2, by decide, by decide, fun s H4 rl wl rs ws s4 b4 hs sp4 hn4 => ?_⟩
        have nsg : s ≠ g := fun e => by
          obtain ⟨kvs, hk⟩ := b2.dk
          rw [← e, hs] at hk
          cases hk
        walk_at "n"
        refine ⟨c, b4, by decide, by decide, fun r H5 s5 b5 r0 r1 => ?_⟩
        have sp5 := sp4.sb b4 nsg s5
        walk_at "n"
        refine cond_ifS (fun σ' H' => (∃ u2, σ' = [some (.ref a), some (.ref g), u2, some (.ref s), v4, v5, v6, v7, v8]) ∧ ∃ rl rs, BagAt K H' g c ∧ SpecP K H' s rl wl rs ws) ?_ ?_ ?_
        rotate_left
        · intro hz all
          walk_at "n"
          refine ⟨_, _, rfl, sp5.gR, ?_⟩
          walk_at "n"
          refine ⟨line_of (by simp), fun p1 hp1 => ?_⟩
          walk_at "n"
          refine ⟨line_of (by simp), fun p2 hp2 => ?_⟩
          walk_at "n"
          refine ⟨line_of (by simp), fun p3 hp3 => ?_⟩
          walk_at "n"
          have t12 : Same H5 (upd (upd (upd H5 p1 (.tup [.int 1, .int 1, .int 1, .int 0, .int 0])) p2 (.tup [.int 999999, .int 12, .int 31, .int 23, .int 59])) p3 (.lst [.ref p1, .ref p2])) := sto (sto (snew hp1) hp2) hp3
          have f1 : SqT K (upd (upd (upd H5 p1 (.tup [.int 1, .int 1, .int 1, .int 0, .int 0])) p2 (.tup [.int 999999, .int 12, .int 31, .int 23, .int 59])) p3 (.lst [.ref p1, .ref p2])) p1 (moL ⟨1, 1, 1, 0, 0⟩) := .inl (.inl (upd_keep hp3 (upd_keep hp2 upd_same)))
          have f2 : SqT K (upd (upd (upd H5 p1 (.tup [.int 1, .int 1, .int 1, .int 0, .int 0])) p2 (.tup [.int 999999, .int 12, .int 31, .int 23, .int 59])) p3 (.lst [.ref p1, .ref p2])) p2 (moL ⟨999999, 12, 31, 23, 59⟩) := .inl (.inl (upd_keep hp3 upd_same))
          have f3 : upd (upd (upd H5 p1 (.tup [.int 1, .int 1, .int 1, .int 0, .int 0])) p2 (.tup [.int 999999, .int 12, .int 31, .int 23, .int 59])) p3 (.lst [.ref p1, .ref p2]) p3 = some (.lst [.ref p1, .ref p2]) := upd_same
          generalize upd (upd (upd H5 p1 (.tup [.int 1, .int 1, .int 1, .int 0, .int 0])) p2 (.tup [.int 999999, .int 12, .int 31, .int 23, .int 59])) p3 (.lst [.ref p1, .ref p2]) = H6 at *
          have sp6 := sp5.same t12
          refine .inl ⟨_, _, _, _, rfl, rfl, sp6.rr, f3, by rw [List.length_map]; exact line_of (by simp; omega), fun p4 hp4 => ?_⟩
          walk_at "n"
          have s4' := snew (o := .lst ((rs.map fun t => V.ref t.1) ++ [.ref p1, .ref p2])) hp4
          have sp7 := sp6.same s4'
          refine ⟨rs ++ [(p1, ⟨1, 1, 1, 0, 0⟩), (p2, ⟨999999, 12, 31, 23, 59⟩)], SqL.of (by rw [upd_same, List.map_append]; rfl), by simp; omega, fun t ht => ?_, fun p5 H8 us s8 hp5 e8 hsub hcon hsrt hle => ?_⟩
          · rcases List.mem_append.mp ht with ht | ht
            · exact sp7.rt t ht
            · simp at ht
              rcases ht with rfl | rfl
              · exact ⟨st s4' f1, mo_first⟩
              · exact ⟨st s4' f2, mo_last⟩
          walk_at "n"
          have sp8 := sp7.same s8
          have b8 := b5.same (t12.trans (s4'.trans s8))
          refine ⟨_, _, rfl, DPut.k (k := .inr "rings") sp8.at_ (by show 2 < sizeLine; decide), ?_⟩
          rw [spec_put]
          refine all _ _ ⟨⟨_, rfl⟩, p5, us, b8.putD sp8.at_ nsg, sp8.putR e8 (fun t ht => ?_) (by simp at hle; omega) hsrt⟩
          have s48 := s4'.trans s8
          rcases List.mem_append.mp (hsub t ht) with hq | hq
          · exact sp8.rt t hq
          · simp at hq
            rcases hq with rfl | rfl
            · exact ⟨st s48 f1, mo_first⟩
            · exact ⟨st s48 f2, mo_last⟩
        · intro hz all
          exact all _ _ ⟨⟨_, rfl⟩, rl, rs, b5, sp5⟩
        rintro σ6 H6 ⟨⟨u2, rfl⟩, rl6, rs6, b6, sp6⟩
        walk_at "n"
        refine ⟨rl6, wl, rs6, ws, sp6, fun b H7 R W s7 bk7 hR hW => ?_⟩
        have sp7 := sp6.same s7
        walk_at "n"
        refine ⟨rl6, wl, rs6, ws, sp7, fun pl H8 W8 s8 hpl e8 hsort hW8 => ?_⟩
        walk_at "n"
        refine ⟨_, _, rfl, ?_⟩
        walk_at "n"
        refine ⟨line_of (by simp), fun p9 hp9 => ?_⟩
        walk_at "n"
        have okR := sp7.okR
        have okW : ∀ x, x ∈ W8 → SpanOk x.1 x.2 := fun x hx => sp7.okW x ((hW8 x).mp hx)
        have lR : (conT id rs6).length ≤ 20 := by
          rw [conT_len]
          exact sp7.rn
        have lW : W8.length ≤ 6 := by
          have := nodup_len (code_nodup hsort) fun x hx => (hW8 x).mp hx
          rw [conT_len] at this
          exact Nat.le_trans this sp7.wn
        have lL := lines_n (conT id rs6) W8
        have hls := lines_str okR okW
        have s9 : Same H8 (upd H8 p9 (.lst [])) := snew hp9
        have sp9 := (sp7.same s8).same s9
        have bk9 := (bk7.same s8).same s9
        have b9 := (b6.same (s7.trans s8)).same s9
        have e9 := s9 _ _ e8
        obtain ⟨d1, d2, n1, n2, n3, n4, n5⟩ := ne_strs (K := K) (SqL.of e9) (SqL.of upd_same) fun z hz => (hls z hz).2
        refine ⟨d1, d2, n1, n2, n3, n4, ?_⟩
        rw [n5]
        clear n1 n2 n3 n4 n5 d1 d2
        generalize upd H8 p9 (.lst []) = H9 at *
        walk_at "n"
        refine cond_ifE (fun v H' => v = .str (textOf (linesOf (conT id rs6) W8)) ∧ H' = H9) ?_ ?_ ?_
        rotate_left
        · intro hz all
          refine all _ _ ⟨?_, rfl⟩
          unfold textOf
          rw [if_pos hz]
        · intro hz all
          walk_at "n"
          refine ⟨_, .inl (SqL.of e9), lines_fit (fun z hz => (hls z hz).1) (by omega), all _ _ ⟨?_, rfl⟩⟩
          unfold textOf
          rw [if_neg (by rw [hz]; decide)]
        rintro _ _ ⟨rfl, rfl⟩
        walk_at "n"
        refine ⟨R, W, bk9, fun R' W' H10 s10 sr sw mr mw _ _ _ _ => ?_⟩
        have eR : R' = conT id rs6 := sorted_ext Mo.num sr sp9.sort fun x => (mr x).trans (hR x)
        have eW : W' = W8 := sorted_ext code sw hsort fun x => (mw x).trans ((hW x).trans (hW8 x).symm)
        subst eR eW
        walk_at "n"
        refine ⟨rfl, ?_⟩
        walk_at "n"
        refine cond_q rfl ?_
        walk_at "n"
        obtain ⟨es, t1, t2, t3, t4⟩ := own_text okR okW (by omega) lW
        refine ⟨es, t1, t2, fun b2 H11 R2 W2 s11 hb2 bk2 m1 m2 => ?_⟩
        have bk11 := (bk9.same s10).same s11
        walk_at "n"
        refine ⟨bk2.ins, bk11.ins, R2, W2, R, W, bk2, bk11, fun x => (m1 x).trans ((t3 x).trans (hR x).symm), fun x => (m2 x).trans ((t4 x).trans ((hW8 x).trans (hW x).symm)), fun H12 s12 => ⟨true, rfl, ?_⟩⟩
        walk_at "n"
        have s912 := s10.trans (s11.trans s12)
        have sp12 := sp9.same s912
        have bk12 := bk9.same s912
        have b12 := b9.same s912
        have e12 := s912 _ _ e9
        refine ⟨line_of (by simp), fun p13 hp13 => ?_⟩
        have s13 : Same H12 (upd H12 p13 (.lst [])) := snew hp13
        have sp13 := sp12.same s13
        have bk13 := bk12.same s13
        have b13 := b12.same s13
        have e13 := s13 _ _ e12
        walk_at "n"
        obtain ⟨d1, d2, n1, n2, n3, n4, n5⟩ := ne_strs (K := K) (SqL.of e13) (SqL.of upd_same) fun z hz => (hls z hz).2
        refine ⟨d1, d2, n1, n2, n3, n4, ?_⟩
        rw [n5]
        clear n1 n2 n3 n4 n5 d1 d2
        generalize upd H12 p13 (.lst []) = H13 at *
        walk_at "n"
        refine cond_ifS (fun σ' H' => (∃ u2 u6 u7 u8, σ' = [some (.ref a), some (.ref g), u2, some (.ref s), some (.ref b), some (.ref pl), u6, u7, u8]) ∧ BagAt K H' g c ∧ SpecP K H' s rl6 wl rs6 ws ∧ BookAt K H' b R W) ?_ ?_ ?_
        rotate_left
        · intro hz all
          exact all _ _ ⟨⟨_, _, _, _, rfl⟩, b13, sp13, bk13⟩
        · intro hz all
          walk_at "n"
          refine ⟨c, linesOf (conT id rs6) W', b13, SqL.of e13, fun z => (by rw [z] at hz; cases hz), by omega, fun z hz => (hls z hz).2, fun p14 H14 ys s14 b14 hp14 e14 hm hl hf => ?_⟩
          have sp14 := sp13.sb b13 nsg s14
          have bk14 := bk13.bag b13 s14
          have e14' := b13.sl (SqL.of e13) s14
          have ym : ∀ z, z ∈ ys → z.length ≤ 139 := fun z hz => (hls z ((hm z).mp hz)).1
          walk_at "n"
          refine ⟨_, .inl (SqL.of e14), lines_fit ym (by omega), ?_⟩
          walk_at "n"
          obtain ⟨es', q1, q2, q3, q4⟩ := shuffled okR okW (by omega) lW (fun z => (by rw [z] at hz; cases hz)) hm hl hf
          refine ⟨es', q1, .inr q2, fun b3 H15 R3 W3 s15 hb3 bk3 m3 m4 => ?_⟩
          have bk15 := bk14.same s15
          walk_at "n"
          refine ⟨bk3.ins, bk15.ins, R3, W3, R, W, bk3, bk15, fun x => (m3 x).trans ((q3 x).trans (hR x).symm), fun x => (m4 x).trans ((q4 x).trans ((hW8 x).trans (hW x).symm)), fun H16 s16 => ⟨true, rfl, ?_⟩⟩
          walk_at "n"
          refine ⟨R3, W3, bk3.same s16, fun R' W'' H17 s17 sr sw mr mw _ _ _ _ => ?_⟩
          have eR : R' = conT id rs6 := sorted_ext Mo.num sr sp9.sort fun x => (mr x).trans ((m3 x).trans (q3 x))
          have eW : W'' = W' := sorted_ext code sw hsort fun x => (mw x).trans ((m4 x).trans (q4 x))
          subst eR eW
          walk_at "n"
          refine cond_q rfl ?_
          walk_at "n"
          have s147 := s15.trans (s16.trans s17)
          exact all _ _ ⟨⟨_, _, _, _, rfl⟩, b14.same s147, sp14.same s147, bk14.same s147⟩
        rintro σ20 H20 ⟨⟨u2', u6, u7, u8, rfl⟩, b20, sp20, bk20⟩
        walk_at "n"
        refine ⟨rl6, wl, rs6, ws, sp20, fun b4 H21 R4 W4 s21 bk4 hR4 hW4 => ?_⟩
        have bk21 := bk20.same s21
        walk_at "n"
        refine ⟨bk21.ins, bk4.ins, R, W, R4, W4, bk21, bk4, fun x => (hR x).trans (hR4 x).symm, fun x => (hW x).trans (hW4 x).symm, fun H22 s22 => ⟨true, rfl, ?_⟩⟩
        walk_at "n"
        exact ⟨b20.same (s21.trans s22), _, _, _, _, _, _, _, rfl⟩
      · rintro σ H2 ⟨b2, v2, v3, v4, v5, v6, v7, v8, rfl⟩
        walk_at "n"
        intro x dx hx hdx ne
        refine ⟨dx, [], [], upd_same, .inr (T.d_Book___init___0 _), fun t ht => by simp at ht, by decide, .inr (T.d_Book___init___1 _), fun t ht => by simp at ht, by decide, fun H3 R0 W0 s4 hb4 _ _ rl wl => ⟨rfl, ?_⟩⟩
        have er : R0 = [] := List.length_eq_zero_iff.mp (by simpa using rl)
        have ewl : W0 = [] := List.length_eq_zero_iff.mp (by simpa using wl)
        subst er ewl
        walk_at "n"
        refine ⟨[], [], hb4, fun R' W' H4 s4 _ _ mr mw _ _ _ _ => ?_⟩
        have e1 : R' = [] := List.eq_nil_iff_forall_not_mem.mpr fun x hx => by simpa using (mr x).mp hx
        have e2 : W' = [] := List.eq_nil_iff_forall_not_mem.mpr fun x hx => by simpa using (mw x).mp hx
        subst e1 e2
        walk_at "n"
        refine ⟨[], by have e1 := sizeLine_eq; have e2 : ("none" : Str).length = 4 := by decide
                       omega, .inl ⟨rfl, rfl⟩, fun b5 H5 R5 W5 s5 hb5 bk5 m5 m6 => ?_⟩
        walk_at "n"
        intro x6 dx6 hx6 hdx6 ne6
        refine ⟨dx6, [], [], upd_same, .inr (T.d_Book___init___0 _), fun t ht => by simp at ht, by decide, .inr (T.d_Book___init___1 _), fun t ht => by simp at ht, by decide, fun H7 R6 W6 s7 bk6 _ _ rl wl => ⟨rfl, ?_⟩⟩
        have er : R6 = [] := List.length_eq_zero_iff.mp (by simpa using rl)
        have ewl : W6 = [] := List.length_eq_zero_iff.mp (by simpa using wl)
        subst er ewl
        have bk7 := bk5.same (s7.made hx6 hdx6)
        walk_at "n"
        refine ⟨bk7.ins, bk6.ins, R5, W5, [], [], bk7, bk6, fun x => by rw [m5]; simp, fun x => by rw [m6]; simp, fun H8 s8 => ?_⟩
        exact h H8
theorem ok_law {P : Program} {w : World} {K : PySem.W.Frag} {mg : Str → Option Value} {base : Heap} (T : Tx K mg) : F.Fr P w K mg base 11 (He.ga K "law") (sp_law K) := (T.f_law).elim fun fd F1 => fr_of F1 (okF_law T F1) (fun _ _ _ _ _ _ us hl => match us, hl with | [_], _ => rfl)
end G
set_option maxHeartbeats 0
namespace G
open PySem PySem.Spec PyProof.Rows L2 F

theorem tx {K : PySem.W.Frag} {h0 : Heap} {mg : Str → Option Value} (X0 : K.In h0) (G0 : h0.Ns mainGlobals mg) (c : SaysX checks fns K) : Tx K mg where
  g__wall := have h : ((He.Fa.glo "_wall").ok K) = true := c.fact 0; He.glo_ok X0 G0 h
  g_book_text := have h : ((He.Fa.glo "book_text").ok K) = true := c.fact 1; He.glo_ok X0 G0 h
  g_RungError := have h : ((He.Fa.glo "RungError").ok K) = true := c.fact 2; He.glo_ok X0 G0 h
  g_BadMoment := have h : ((He.Fa.glo "BadMoment").ok K) = true := c.fact 3; He.glo_ok X0 G0 h
  g_BadText := have h : ((He.Fa.glo "BadText").ok K) = true := c.fact 4; He.glo_ok X0 G0 h
  g_BadWatch := have h : ((He.Fa.glo "BadWatch").ok K) = true := c.fact 5; He.glo_ok X0 G0 h
  g_TooMany := have h : ((He.Fa.glo "TooMany").ok K) = true := c.fact 6; He.glo_ok X0 G0 h
  g_NoEntry := have h : ((He.Fa.glo "NoEntry").ok K) = true := c.fact 7; He.glo_ok X0 G0 h
  g_is_whole := have h : ((He.Fa.glo "is_whole").ok K) = true := c.fact 8; He.glo_ok X0 G0 h
  g_is_between := have h : ((He.Fa.glo "is_between").ok K) = true := c.fact 9; He.glo_ok X0 G0 h
  g_is_leap := have h : ((He.Fa.glo "is_leap").ok K) = true := c.fact 10; He.glo_ok X0 G0 h
  g_month_length := have h : ((He.Fa.glo "month_length").ok K) = true := c.fact 11; He.glo_ok X0 G0 h
  g_days_ahead := have h : ((He.Fa.glo "days_ahead").ok K) = true := c.fact 12; He.glo_ok X0 G0 h
  g_day_number := have h : ((He.Fa.glo "day_number").ok K) = true := c.fact 13; He.glo_ok X0 G0 h
  g_date_of := have h : ((He.Fa.glo "date_of").ok K) = true := c.fact 14; He.glo_ok X0 G0 h
  g_weekday_of := have h : ((He.Fa.glo "weekday_of").ok K) = true := c.fact 15; He.glo_ok X0 G0 h
  g_wrong_part := have h : ((He.Fa.glo "wrong_part").ok K) = true := c.fact 16; He.glo_ok X0 G0 h
  g_number_in := have h : ((He.Fa.glo "number_in").ok K) = true := c.fact 17; He.glo_ok X0 G0 h
  g_date_in := have h : ((He.Fa.glo "date_in").ok K) = true := c.fact 18; He.glo_ok X0 G0 h
  g_time_in := have h : ((He.Fa.glo "time_in").ok K) = true := c.fact 19; He.glo_ok X0 G0 h
  g_moment_at := have h : ((He.Fa.glo "moment_at").ok K) = true := c.fact 20; He.glo_ok X0 G0 h
  g_Moment := have h : ((He.Fa.glo "Moment").ok K) = true := c.fact 21; He.glo_ok X0 G0 h
  g_need_watch := have h : ((He.Fa.glo "need_watch").ok K) = true := c.fact 22; He.glo_ok X0 G0 h
  g_span_code := have h : ((He.Fa.glo "span_code").ok K) = true := c.fact 23; He.glo_ok X0 G0 h
  g_with_ring := have h : ((He.Fa.glo "with_ring").ok K) = true := c.fact 24; He.glo_ok X0 G0 h
  g_rings_in := have h : ((He.Fa.glo "rings_in").ok K) = true := c.fact 25; He.glo_ok X0 G0 h
  g_spans_in := have h : ((He.Fa.glo "spans_in").ok K) = true := c.fact 26; He.glo_ok X0 G0 h
  g_Book := have h : ((He.Fa.glo "Book").ok K) = true := c.fact 27; He.glo_ok X0 G0 h
  g_moment_in := have h : ((He.Fa.glo "moment_in").ok K) = true := c.fact 28; He.glo_ok X0 G0 h
  g_moment_of := have h : ((He.Fa.glo "moment_of").ok K) = true := c.fact 29; He.glo_ok X0 G0 h
  g_need_end := have h : ((He.Fa.glo "need_end").ok K) = true := c.fact 30; He.glo_ok X0 G0 h
  g_read_entry := have h : ((He.Fa.glo "read_entry").ok K) = true := c.fact 31; He.glo_ok X0 G0 h
  g_lines_in := have h : ((He.Fa.glo "lines_in").ok K) = true := c.fact 32; He.glo_ok X0 G0 h
  g_read_book := have h : ((He.Fa.glo "read_book").ok K) = true := c.fact 33; He.glo_ok X0 G0 h
  g__law_bag := have h : ((He.Fa.glo "_law_bag").ok K) = true := c.fact 34; He.glo_ok X0 G0 h
  g__law_draw := have h : ((He.Fa.glo "_law_draw").ok K) = true := c.fact 35; He.glo_ok X0 G0 h
  g__law_length := have h : ((He.Fa.glo "_law_length").ok K) = true := c.fact 36; He.glo_ok X0 G0 h
  g__law_date := have h : ((He.Fa.glo "_law_date").ok K) = true := c.fact 37; He.glo_ok X0 G0 h
  g__law_weekday := have h : ((He.Fa.glo "_law_weekday").ok K) = true := c.fact 38; He.glo_ok X0 G0 h
  g__law_number := have h : ((He.Fa.glo "_law_number").ok K) = true := c.fact 39; He.glo_ok X0 G0 h
  g__law_morrow := have h : ((He.Fa.glo "_law_morrow").ok K) = true := c.fact 40; He.glo_ok X0 G0 h
  g__law_moment := have h : ((He.Fa.glo "_law_moment").ok K) = true := c.fact 41; He.glo_ok X0 G0 h
  g__law_drawn_date := have h : ((He.Fa.glo "_law_drawn_date").ok K) = true := c.fact 42; He.glo_ok X0 G0 h
  g__law_drawn_watch := have h : ((He.Fa.glo "_law_drawn_watch").ok K) = true := c.fact 43; He.glo_ok X0 G0 h
  g__law_ordered := have h : ((He.Fa.glo "_law_ordered").ok K) = true := c.fact 44; He.glo_ok X0 G0 h
  g__law_spec := have h : ((He.Fa.glo "_law_spec").ok K) = true := c.fact 45; He.glo_ok X0 G0 h
  g__law_book := have h : ((He.Fa.glo "_law_book").ok K) = true := c.fact 46; He.glo_ok X0 G0 h
  g__law_word := have h : ((He.Fa.glo "_law_word").ok K) = true := c.fact 47; He.glo_ok X0 G0 h
  g__law_lines := have h : ((He.Fa.glo "_law_lines").ok K) = true := c.fact 48; He.glo_ok X0 G0 h
  g__law_shuffled := have h : ((He.Fa.glo "_law_shuffled").ok K) = true := c.fact 49; He.glo_ok X0 G0 h
  g_law := have h : ((He.Fa.glo "law").ok K) = true := c.fact 50; He.glo_ok X0 G0 h
  b_NotImplemented := have h : ((He.Fa.free "NotImplemented").ok K) = true := c.fact 51; He.free_ok X0 G0 h
  b_ValueError := have h : ((He.Fa.free "ValueError").ok K) = true := c.fact 52; He.free_ok X0 G0 h
  b_abs := have h : ((He.Fa.free "abs").ok K) = true := c.fact 53; He.free_ok X0 G0 h
  b_all := have h : ((He.Fa.free "all").ok K) = true := c.fact 54; He.free_ok X0 G0 h
  b_bool := have h : ((He.Fa.free "bool").ok K) = true := c.fact 55; He.free_ok X0 G0 h
  b_classmethod := have h : ((He.Fa.free "classmethod").ok K) = true := c.fact 56; He.free_ok X0 G0 h
  b_dict := have h : ((He.Fa.free "dict").ok K) = true := c.fact 57; He.free_ok X0 G0 h
  b_enumerate := have h : ((He.Fa.free "enumerate").ok K) = true := c.fact 58; He.free_ok X0 G0 h
  b_int := have h : ((He.Fa.free "int").ok K) = true := c.fact 59; He.free_ok X0 G0 h
  b_isinstance := have h : ((He.Fa.free "isinstance").ok K) = true := c.fact 60; He.free_ok X0 G0 h
  b_len := have h : ((He.Fa.free "len").ok K) = true := c.fact 61; He.free_ok X0 G0 h
  b_list := have h : ((He.Fa.free "list").ok K) = true := c.fact 62; He.free_ok X0 G0 h
  b_property := have h : ((He.Fa.free "property").ok K) = true := c.fact 63; He.free_ok X0 G0 h
  b_range := have h : ((He.Fa.free "range").ok K) = true := c.fact 64; He.free_ok X0 G0 h
  b_sorted := have h : ((He.Fa.free "sorted").ok K) = true := c.fact 65; He.free_ok X0 G0 h
  b_staticmethod := have h : ((He.Fa.free "staticmethod").ok K) = true := c.fact 66; He.free_ok X0 G0 h
  b_str := have h : ((He.Fa.free "str").ok K) = true := c.fact 67; He.free_ok X0 G0 h
  b_sum := have h : ((He.Fa.free "sum").ok K) = true := c.fact 68; He.free_ok X0 G0 h
  b_super := have h : ((He.Fa.free "super").ok K) = true := c.fact 69; He.free_ok X0 G0 h
  b_tuple := have h : ((He.Fa.free "tuple").ok K) = true := c.fact 70; He.free_ok X0 G0 h
  v_ROUND_YEARS := have h : ((He.Fa.int "ROUND_YEARS" 400).ok K) = true := c.fact 71; (He.int_ok X0 G0 h).elim fun t e => ⟨_, e, t, rfl⟩
  v_ROUND_DAYS := have h : ((He.Fa.int "ROUND_DAYS" 146097).ok K) = true := c.fact 72; (He.int_ok X0 G0 h).elim fun t e => ⟨_, e, t, rfl⟩
  v_DAY_MINUTES := have h : ((He.Fa.int "DAY_MINUTES" 1440).ok K) = true := c.fact 73; (He.int_ok X0 G0 h).elim fun t e => ⟨_, e, t, rfl⟩
  v_LENGTHS := have h : ((He.Fa.glo "LENGTHS").ok K) = true := c.fact 74; ⟨_, He.glo_ok X0 G0 h, rfl⟩
  t_LENGTHS := have h : (He.tupB K "LENGTHS" [(.int 31), (.int 28), (.int 31), (.int 30), (.int 31), (.int 30), (.int 31), (.int 31), (.int 30), (.int 31), (.int 30), (.int 31)]) = true := c.fact 75; fun H => He.tupB_ok h H
  v_DIGITS := have h : ((He.Fa.str "DIGITS" "0123456789").ok K) = true := c.fact 76; (He.str_ok X0 G0 h).elim fun t e => ⟨_, e, t, rfl⟩
  v_Moment := have h : ((He.Fa.glo "Moment").ok K) = true := c.fact 77; ⟨_, He.glo_ok X0 G0 h, rfl⟩
  c_Moment := have h : ((He.Fa.cls "Moment").ok K) = true := c.fact 78; He.cls_ok h
  n_Moment_year := have h : ((He.Fa.noat "Moment" "year").ok K) = true := c.fact 79; He.noat_ok h
  n_Moment_month := have h : ((He.Fa.noat "Moment" "month").ok K) = true := c.fact 80; He.noat_ok h
  n_Moment_day := have h : ((He.Fa.noat "Moment" "day").ok K) = true := c.fact 81; He.noat_ok h
  n_Moment_hour := have h : ((He.Fa.noat "Moment" "hour").ok K) = true := c.fact 82; He.noat_ok h
  n_Moment_minute := have h : ((He.Fa.noat "Moment" "minute").ok K) = true := c.fact 83; He.noat_ok h
  n_Moment_date := have h : ((He.Fa.noat "Moment" "date").ok K) = true := c.fact 84; He.noat_ok h
  n_Moment_weekday := have h : ((He.Fa.noat "Moment" "weekday").ok K) = true := c.fact 85; He.noat_ok h
  n_Moment_number := have h : ((He.Fa.noat "Moment" "number").ok K) = true := c.fact 86; He.noat_ok h
  is_Moment := have h : (isCB K (He.ga K "Moment") && (He.Fa.cls "Moment").ok K) = true := c.fact 87; isCB_ok h
  r_Moment := have h : (creadB K (He.ga K "Moment")) = true := c.fact 88; creadB_ok h
  sf_Moment := have h : (PySem.W.selfFirst K (He.ga K "Moment")) = true := c.fact 89; h
  cv_Moment_MOST_YEAR := have h : (cvalB K (He.ga K "Moment") "MOST_YEAR" (.int 999999)) = true := c.fact 90; cvalB_ok h
  mk_Moment := have h : ((He.Fa.mkr "Moment").ok K) = true := c.fact 91; He.mkr_ok h
  m_Moment___init__ := have h : ((He.Fa.meth "Moment" "__init__").ok K) = true := c.fact 92; He.meth_ok h
  o_Moment___init__ := have h : ((He.Fa.meth "Moment" "__init__").ok K) = true := c.fact 93; ⟨(He.meth_ok h).at_, (He.meth_ok h).fn⟩
  m_Moment___add__ := have h : ((He.Fa.meth "Moment" "__add__").ok K) = true := c.fact 94; He.meth_ok h
  o_Moment___add__ := have h : ((He.Fa.meth "Moment" "__add__").ok K) = true := c.fact 95; ⟨(He.meth_ok h).at_, (He.meth_ok h).fn⟩
  m_Moment___radd__ := have h : ((He.Fa.meth "Moment" "__radd__").ok K) = true := c.fact 96; He.meth_ok h
  o_Moment___radd__ := have h : ((He.Fa.meth "Moment" "__radd__").ok K) = true := c.fact 97; ⟨(He.meth_ok h).at_, (He.meth_ok h).fn⟩
  m_Moment___sub__ := have h : ((He.Fa.meth "Moment" "__sub__").ok K) = true := c.fact 98; He.meth_ok h
  o_Moment___sub__ := have h : ((He.Fa.meth "Moment" "__sub__").ok K) = true := c.fact 99; ⟨(He.meth_ok h).at_, (He.meth_ok h).fn⟩
  m_Moment___floordiv__ := have h : ((He.Fa.meth "Moment" "__floordiv__").ok K) = true := c.fact 100; He.meth_ok h
  o_Moment___floordiv__ := have h : ((He.Fa.meth "Moment" "__floordiv__").ok K) = true := c.fact 101; ⟨(He.meth_ok h).at_, (He.meth_ok h).fn⟩
  m_Moment___mod__ := have h : ((He.Fa.meth "Moment" "__mod__").ok K) = true := c.fact 102; He.meth_ok h
  o_Moment___mod__ := have h : ((He.Fa.meth "Moment" "__mod__").ok K) = true := c.fact 103; ⟨(He.meth_ok h).at_, (He.meth_ok h).fn⟩
  m_Moment___lt__ := have h : ((He.Fa.meth "Moment" "__lt__").ok K) = true := c.fact 104; He.meth_ok h
  o_Moment___lt__ := have h : ((He.Fa.meth "Moment" "__lt__").ok K) = true := c.fact 105; ⟨(He.meth_ok h).at_, (He.meth_ok h).fn⟩
  m_Moment___le__ := have h : ((He.Fa.meth "Moment" "__le__").ok K) = true := c.fact 106; He.meth_ok h
  o_Moment___le__ := have h : ((He.Fa.meth "Moment" "__le__").ok K) = true := c.fact 107; ⟨(He.meth_ok h).at_, (He.meth_ok h).fn⟩
  m_Moment___gt__ := have h : ((He.Fa.meth "Moment" "__gt__").ok K) = true := c.fact 108; He.meth_ok h
  o_Moment___gt__ := have h : ((He.Fa.meth "Moment" "__gt__").ok K) = true := c.fact 109; ⟨(He.meth_ok h).at_, (He.meth_ok h).fn⟩
  m_Moment___ge__ := have h : ((He.Fa.meth "Moment" "__ge__").ok K) = true := c.fact 110; He.meth_ok h
  o_Moment___ge__ := have h : ((He.Fa.meth "Moment" "__ge__").ok K) = true := c.fact 111; ⟨(He.meth_ok h).at_, (He.meth_ok h).fn⟩
  m_Moment___eq__ := have h : ((He.Fa.meth "Moment" "__eq__").ok K) = true := c.fact 112; He.meth_ok h
  o_Moment___eq__ := have h : ((He.Fa.meth "Moment" "__eq__").ok K) = true := c.fact 113; ⟨(He.meth_ok h).at_, (He.meth_ok h).fn⟩
  m_Moment___str__ := have h : ((He.Fa.meth "Moment" "__str__").ok K) = true := c.fact 114; He.meth_ok h
  o_Moment___str__ := have h : ((He.Fa.meth "Moment" "__str__").ok K) = true := c.fact 115; ⟨(He.meth_ok h).at_, (He.meth_ok h).fn⟩
  ne_Moment := have h : (neB K (He.ga K "Moment")) = true := c.fact 116; neB_ok h
  fm_Moment := have h : (fmB K (He.ga K "Moment")) = true := c.fact 117; fmB_ok h
  v_Book := have h : ((He.Fa.glo "Book").ok K) = true := c.fact 118; ⟨_, He.glo_ok X0 G0 h, rfl⟩
  c_Book := have h : ((He.Fa.cls "Book").ok K) = true := c.fact 119; He.cls_ok h
  n_Book_rung := have h : ((He.Fa.noat "Book" "rung").ok K) = true := c.fact 120; He.noat_ok h
  n_Book_spans := have h : ((He.Fa.noat "Book" "spans").ok K) = true := c.fact 121; He.noat_ok h
  is_Book := have h : (isCB K (He.ga K "Book") && (He.Fa.cls "Book").ok K) = true := c.fact 122; isCB_ok h
  r_Book := have h : (creadB K (He.ga K "Book")) = true := c.fact 123; creadB_ok h
  sf_Book := have h : (PySem.W.selfFirst K (He.ga K "Book")) = true := c.fact 124; h
  cv_Book_MOST_RINGS := have h : (cvalB K (He.ga K "Book") "MOST_RINGS" (.int 2000)) = true := c.fact 125; cvalB_ok h
  cv_Book_MOST_WATCHES := have h : (cvalB K (He.ga K "Book") "MOST_WATCHES" (.int 12)) = true := c.fact 126; cvalB_ok h
  cv_Book_LONGEST := have h : (cvalB K (He.ga K "Book") "LONGEST" (.int 1152000)) = true := c.fact 127; cvalB_ok h
  mk_Book := have h : ((He.Fa.mkr "Book").ok K) = true := c.fact 128; He.mkr_ok h
  m_Book___init__ := have h : ((He.Fa.meth "Book" "__init__").ok K) = true := c.fact 129; He.meth_ok h
  o_Book___init__ := have h : ((He.Fa.meth "Book" "__init__").ok K) = true := c.fact 130; ⟨(He.meth_ok h).at_, (He.meth_ok h).fn⟩
  p_Book_rings := have h : (propB K (He.ga K "Book") "rings") = true := c.fact 131; propB_ok h
  p_Book_watches := have h : (propB K (He.ga K "Book") "watches") = true := c.fact 132; propB_ok h
  m_Book___iadd__ := have h : ((He.Fa.meth "Book" "__iadd__").ok K) = true := c.fact 133; He.meth_ok h
  o_Book___iadd__ := have h : ((He.Fa.meth "Book" "__iadd__").ok K) = true := c.fact 134; ⟨(He.meth_ok h).at_, (He.meth_ok h).fn⟩
  m_Book___isub__ := have h : ((He.Fa.meth "Book" "__isub__").ok K) = true := c.fact 135; He.meth_ok h
  o_Book___isub__ := have h : ((He.Fa.meth "Book" "__isub__").ok K) = true := c.fact 136; ⟨(He.meth_ok h).at_, (He.meth_ok h).fn⟩
  m_Book___contains__ := have h : ((He.Fa.meth "Book" "__contains__").ok K) = true := c.fact 137; He.meth_ok h
  o_Book___contains__ := have h : ((He.Fa.meth "Book" "__contains__").ok K) = true := c.fact 138; ⟨(He.meth_ok h).at_, (He.meth_ok h).fn⟩
  m_Book_watch := have h : ((He.Fa.meth "Book" "watch").ok K) = true := c.fact 139; He.meth_ok h
  m_Book___or__ := have h : ((He.Fa.meth "Book" "__or__").ok K) = true := c.fact 140; He.meth_ok h
  o_Book___or__ := have h : ((He.Fa.meth "Book" "__or__").ok K) = true := c.fact 141; ⟨(He.meth_ok h).at_, (He.meth_ok h).fn⟩
  m_Book___eq__ := have h : ((He.Fa.meth "Book" "__eq__").ok K) = true := c.fact 142; He.meth_ok h
  o_Book___eq__ := have h : ((He.Fa.meth "Book" "__eq__").ok K) = true := c.fact 143; ⟨(He.meth_ok h).at_, (He.meth_ok h).fn⟩
  ne_Book := have h : (neB K (He.ga K "Book")) = true := c.fact 144; neB_ok h
  d_Book___init___0 := have h : (tup0B K (dfl0 (fun K => He.ma K (He.ga K "Book") "__init__") 0 K)) = true := c.fact 145; fun H => tup0B_ok h H
  d_Book___init___1 := have h : (tup0B K (dfl0 (fun K => He.ma K (He.ga K "Book") "__init__") 1 K)) = true := c.fact 146; fun H => tup0B_ok h H
  lim := have h : (noLimB K) = true := c.fact 147; noLimB_ok h
  f_book_text := c.def_ 0 (d := dd_book_text)
  f_is_whole := c.def_ 1 (d := dd_is_whole)
  f_is_between := c.def_ 2 (d := dd_is_between)
  f_is_leap := c.def_ 3 (d := dd_is_leap)
  f_month_length := c.def_ 4 (d := dd_month_length)
  f_days_ahead := c.def_ 5 (d := dd_days_ahead)
  f_day_number := c.def_ 6 (d := dd_day_number)
  f_date_of := c.def_ 7 (d := dd_date_of)
  f_weekday_of := c.def_ 8 (d := dd_weekday_of)
  f_wrong_part := c.def_ 9 (d := dd_wrong_part)
  f_number_in := c.def_ 10 (d := dd_number_in)
  f_date_in := c.def_ 11 (d := dd_date_in)
  f_time_in := c.def_ 12 (d := dd_time_in)
  f_moment_at := c.def_ 13 (d := dd_moment_at)
  f_Moment___init__ := c.def_ 14 (d := dd_Moment___init__)
  f_Moment_at := c.def_ 15 (d := dd_Moment_at)
  f_Moment_read := c.def_ 16 (d := dd_Moment_read)
  f_Moment___add__ := c.def_ 17 (d := dd_Moment___add__)
  f_Moment___radd__ := c.def_ 18 (d := dd_Moment___radd__)
  f_Moment___sub__ := c.def_ 19 (d := dd_Moment___sub__)
  f_Moment___floordiv__ := c.def_ 20 (d := dd_Moment___floordiv__)
  f_Moment___mod__ := c.def_ 21 (d := dd_Moment___mod__)
  f_Moment___lt__ := c.def_ 22 (d := dd_Moment___lt__)
  f_Moment___le__ := c.def_ 23 (d := dd_Moment___le__)
  f_Moment___gt__ := c.def_ 24 (d := dd_Moment___gt__)
  f_Moment___ge__ := c.def_ 25 (d := dd_Moment___ge__)
  f_Moment___eq__ := c.def_ 26 (d := dd_Moment___eq__)
  f_Moment___str__ := c.def_ 27 (d := dd_Moment___str__)
  f_need_watch := c.def_ 28 (d := dd_need_watch)
  f_span_code := c.def_ 29 (d := dd_span_code)
  f_with_ring := c.def_ 30 (d := dd_with_ring)
  f_rings_in := c.def_ 31 (d := dd_rings_in)
  f_spans_in := c.def_ 32 (d := dd_spans_in)
  f_Book___init__ := c.def_ 33 (d := dd_Book___init__)
  f_Book_rings := c.def_ 34 (d := dd_Book_rings)
  f_Book_watches := c.def_ 35 (d := dd_Book_watches)
  f_Book___iadd__ := c.def_ 36 (d := dd_Book___iadd__)
  f_Book___isub__ := c.def_ 37 (d := dd_Book___isub__)
  f_Book___contains__ := c.def_ 38 (d := dd_Book___contains__)
  f_Book_watch := c.def_ 39 (d := dd_Book_watch)
  f_Book___or__ := c.def_ 40 (d := dd_Book___or__)
  f_Book___eq__ := c.def_ 41 (d := dd_Book___eq__)
  f_moment_in := c.def_ 42 (d := dd_moment_in)
  f_moment_of := c.def_ 43 (d := dd_moment_of)
  f_need_end := c.def_ 44 (d := dd_need_end)
  f_read_entry := c.def_ 45 (d := dd_read_entry)
  f_lines_in := c.def_ 46 (d := dd_lines_in)
  f_read_book := c.def_ 47 (d := dd_read_book)
  f__law_bag := c.def_ 48 (d := dd__law_bag)
  f__law_draw := c.def_ 49 (d := dd__law_draw)
  f__law_length := c.def_ 50 (d := dd__law_length)
  f__law_date := c.def_ 51 (d := dd__law_date)
  f__law_weekday := c.def_ 52 (d := dd__law_weekday)
  f__law_number := c.def_ 53 (d := dd__law_number)
  f__law_morrow := c.def_ 54 (d := dd__law_morrow)
  f__law_moment := c.def_ 55 (d := dd__law_moment)
  f__law_drawn_date := c.def_ 56 (d := dd__law_drawn_date)
  f__law_drawn_watch := c.def_ 57 (d := dd__law_drawn_watch)
  f__law_ordered := c.def_ 58 (d := dd__law_ordered)
  f__law_spec := c.def_ 59 (d := dd__law_spec)
  f__law_book := c.def_ 60 (d := dd__law_book)
  f__law_word := c.def_ 61 (d := dd__law_word)
  f__law_lines := c.def_ 62 (d := dd__law_lines)
  f__law_shuffled := c.def_ 63 (d := dd__law_shuffled)
  f_law := c.def_ 64 (d := dd_law)
end G
open PySem PySem.W PySem.Calls PyProof.Rows
set_option maxHeartbeats 0 in
theorem PySem.Challenge.cw_rungback_k79_texts_of_books_holds : PySem.Challenge.rw_rungback_k79_texts_of_books.Holds := by
  w_on; o_law
  refine HandSHeadRun.head_any (r := OpenLaw.row PySem.Challenge.rw_rungback_k79_texts_of_books) (q := view (OpenLaw.row PySem.Challenge.rw_rungback_k79_texts_of_books).prog [61]) (H := G.hk) (ob := G.ob) (M := 20000) (loose := G.loose) (d := HandSHeadRun.topDef (OpenLaw.row PySem.Challenge.rw_rungback_k79_texts_of_books).prog 61) (kwd := []) G.ob_eq
    (by kernel_rfl) (fun z => by kernel_rfl) G.run (by kernel_rfl) (by kernel_rfl) (by kernel_rfl) (by rfl) (by first | assumption | decide +kernel) (by decide +kernel) ⟨rfl, rfl, rfl, rfl, rfl, by decide +kernel⟩ ?hw ?hc
  case hw => w_witness2
  case hc =>
    refine F.walk_end (l := PySem.Challenge.rw_rungback_k79_texts_of_books) (n := 63) (k := 11) (x := "_law_script") rfl (by decide) (by kernel_rfl) ⟨rfl, by decide, by decide⟩ fun w mg fa h0 Yd Gd hm0 => ?_
    obtain ⟨K, KX, c⟩ := Yd
    have hm : mg ("law" : PySem.Str) = some (.ref fa) := by
      have e : (HandSHeadRun.topDef (OpenLaw.row PySem.Challenge.rw_rungback_k79_texts_of_books).prog 61).name = ("law" : PySem.Str) := by kernel_rfl
      rw [← e]
      exact hm0
    have T := G.tx KX Gd c
    have e := hm.symm.trans T.g_law
    cases e
    obtain ⟨fd, F1⟩ := T.f_law
    refine ⟨K, fd, G.sp_law K, KX, fun z v => L2.FunD.bindsA (ps := ["_law_script"]) F1 (fun _ _ _ _ _ _ us hl => match us, hl with | [_], _ => rfl) z [v] rfl, fun H a ns hle hS => ?_, fun base => G.okF_law T F1⟩
    exact ⟨ns, hS, fun _ => rfl⟩
