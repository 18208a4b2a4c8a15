import PyProof.Rows.All
import Wide.All
import OpenK.AllK
import Wide.FinOn
import KE.KStateDown
import HandS.Base
import HandS.Call
import HandS.Ends
import HandS.More
import HandS.Words
import HandS.WordsExc
import HandS.Defaults
import HandS.Property
import HandS.Head0
import HandS.Head1
import HandS.Head2
import HandS.HeadEnd
import HandS.Head3
import HandS.HeadHook1
import HandS.HeadHook2
import HandS.HeadHook3
import HandS.HeadHook4
import PySem.Challenge.RW_mindmeans_k35_whole_strains_by_formula
import HandS.ForMost
import HandS.TupAny
import HandS.Exc
import HandS.TryOnly
import HandS.ExcOwn
import HandS.CallSlots
import HandS.Lambda
import HandS.Nested
import HandS.Gcd
import HandS.Wide
import HandS.IsInst
import HandS.TupMul
import HandS.Zip
import HandS.Deep
import HandS.Style
import HandS.NestedK
import HandS.EndTab
import HandS.MakeKwOnly
import KE.KDictZip
import HandS.ExcValue
import HandS.Star
import PyProof.TupleOfStr
import PyProof.Rows.TupleMadeD
import PyProof.SeqIndex
import KE.KIndexOf
import HandS.Strs
import KE.SortData
import HandS.Conv
import HandS.SetFor
import HandS.OwnEq
import KE.SortKeyHeap
set_option Elab.async false
set_option linter.all false
set_option maxRecDepth 100000
set_option maxHeartbeats 400000
/-! the head's facts, getters among them -/
namespace DL
open PySem PySem.Spec PyProof.Rows L2
def baseTys : List String := ["NoneType", "bool", "int", "str", "list", "tuple"]
def stB (st : Stmt) (i : Nat) : Stmt := match st with
  | .ClassDef _ _ _ b _ _ _ _ _ _ _ => b.getD i (.Pass ⟨0, 0, 0, 0⟩)
  | _ => .Pass ⟨0, 0, 0, 0⟩
/-! ### getters of properties in a Hook -/
structure GetD where
  cls : Str
  prop : Str
  d : He.DefD
def propAd (K : PySem.W.Frag) (t : GetD) : Addr := He.ma K (He.ga K t.cls) t.prop
def getAd (K : PySem.W.Frag) (t : GetD) : Addr := match PySem.W.recIn K (propAd K t) "property" with
  | some (.ref g :: _) => g
  | _ => 0
def isProp (K : PySem.W.Frag) (t : GetD) : Bool := He.eqO (PySem.W.findIn K (.ref (He.ga K t.cls)) t.prop) (some (some (.ref (propAd K t)))) && (He.eqO (PySem.W.specialIn K (.ref (propAd K t)) "__get__") (some (some (.builtin "property.__get__"))) &&
  (decide (PySem.W.takesIn K (.ref (propAd K t)) = some true) && match PySem.W.recIn K (propAd K t) "property" with
    | some (.ref _ :: _) => true
    | _ => false))
theorem isProp_ok {K : PySem.W.Frag} {t : GetD} (h : isProp K t = true) : PropOf K (He.ga K t.cls) t.prop (propAd K t) (getAd K t) := by
  obtain ⟨h1, h⟩ := He.ba h
  obtain ⟨h2, h⟩ := He.ba h
  obtain ⟨h3, h4⟩ := He.ba h
  refine ⟨He.eqO_ok h1, He.eqO_ok h2, of_decide_eq_true h3, ?_⟩
  unfold getAd
  split at h4
  · rename_i g r e
    rw [e]
    exact ⟨r, rfl⟩
  · cases h4
def fnAt (K : PySem.W.Frag) (a : Addr) : He.FnW := match K.lookup a with
  | some ⟨_, _, .func fd, _⟩ => some (fd.name, fd.qualname, fd.params, fd.body, fd.scope, fd.globals, fd.closure, fd.builtins)
  | _ => none
def okAt (K : PySem.W.Frag) (a : Addr) (d : He.DefD) : Bool := PySem.W.keepIn K (.ref a) && (match K.lookup a with
  | some ⟨_, _, .func fd, _⟩ => PySem.W.codeIn K fd.code d.qual && (He.dflB K fd.defaults (d.dvs K) && He.kwdB K fd.kwdefaults (d.kws K))
  | _ => false)
theorem funAt {K : PySem.W.Frag} {a : Addr} {d : He.DefD} (e : fnAt K a = d.val) (c : okAt K a d = true) : ∃ fd, FunD K d.name d.qual d.params d.body d.scope (d.dvs K) (d.kws K) a fd := by
  obtain ⟨kp, cc⟩ := He.ba c
  unfold fnAt at e
  cases lk : K.lookup a with
  | none =>
    rw [lk] at cc
    cases cc
  | some o =>
    obtain ⟨oc, od, dt, osl⟩ := o
    rw [lk] at cc e
    cases dt with
    | func fd =>
      obtain ⟨m1, m2, m3, m4, m5, m6, m7, m8, m9, m10, m11, m12, m13, m14, m15⟩ := fd
      have ee : (some (m1, m2, m3, m4, m5, m6, m7, m15) : He.FnW) = some (d.name, d.qual, d.params, .stmts d.body, d.scope, mainGlobals, [], builtinsNs) := e
      simp only [Option.some.injEq, Prod.mk.injEq] at ee
      obtain ⟨z1, z2, z3, z4, z5, z6, z7, z8⟩ := ee
      subst z1 z2 z3 z4 z5 z6 z7 z8
      obtain ⟨y1, y2⟩ := He.ba (show (PySem.W.codeIn K m13 d.qual && (He.dflB K m8 (d.dvs K) && He.kwdB K m9 (d.kws K))) = true from cc)
      obtain ⟨y3, y4⟩ := He.ba y2
      exact ⟨_, ⟨oc, od, m8, m9, m10, m11, m12, m13, m14, osl, rfl, lk, y1, He.dflB_ok y3, He.kwdB_ok y4⟩, kp⟩
    | _ => cases cc
def getOk (K : PySem.W.Frag) (t : GetD) : Bool := isProp K t && okAt K (getAd K t) t.d
abbrev AlY : Type := He.AlX × List He.FnW
section
variable (n : Nat) (fa : List He.Fa) (fn : List He.DefD) (gt : List GetD) (tf : List He.Defn) (ex : PySem.W.Frag → Bool)
def exY (K : PySem.W.Frag) : Bool := ex K && gt.all (getOk K)
def obsY (g : Addr → Option Obj) : AlY := (He.obsX n fa fn [] tf (exY gt ex) g, gt.map fun t => fnAt (He.frT g (He.asD g n)) (getAd (He.frT g (He.asD g n)) t))
def valY (w : World) : AlY := (He.valX fn [] w, gt.map fun t => t.d.val)
structure SaysY (w : World) (h : Heap) (K : PySem.W.Frag) : Prop where
  x : He.SaysX fa fn [] tf (exY gt ex) w h K
  g : gt.map (fun t => fnAt K (getAd K t)) = gt.map fun t => t.d.val
def hookY : PySem.W.Hook where
  α := AlY
  obs := fun s => obsY n fa fn gt tf ex s.heap.get?
  val := fun w => valY fn gt w
  says := fun w h => ∃ K : PySem.W.Frag, K.In h ∧ SaysY fa fn gt tf ex w h K
  of := fun _ _ e => ⟨_, He.frT_in, He.saysX_of (congrArg (fun z : AlY => z.1) e), congrArg (fun z : AlY => z.2) e⟩
  keeps := fun _ _ _ ⟨K, hK, c⟩ k => ⟨K, PySem.W.Frag.In.keeps hK k, ⟨c.x.t, c.x.more, c.x.hd, c.x.out, fun p hp => k _ _ (c.x.empty p hp)⟩, c.g⟩
end
theorem obsY_eq {n : Nat} {fa : List He.Fa} {fn : List He.DefD} {gt : List GetD} {tf : List He.Defn} {ex : PySem.W.Frag → Bool} {g : Addr → Option Obj} {s : Shared} (h : ∀ a, g a = s.heap.get? a) : obsY n fa fn gt tf ex g = (hookY n fa fn gt tf ex).obs s := by
  have e : g = s.heap.get? := funext h
  rw [e]
  rfl
/-! ### what isinstance asks of a class -/
def clsB (K : PySem.W.Frag) (c : Str) : Bool := He.eqO (PySem.W.findIn K (.ref (He.ga K c)) "__class__") (some (some (.builtin "object.__class__"))) && (He.eqO (PySem.W.specialIn K (.builtin "object.__class__") "__get__") (some (some (.builtin "getset_descriptor.__get__"))) &&
  (decide (PySem.W.takesIn K (.builtin "object.__class__") = some true) && (decide (PySem.W.mroIn K (He.ga K c) (.type "object") = some true) && baseTys.all fun n => decide (PySem.W.kitOne K (.type n) (.ref (He.ga K c)) = some false))))
def clsBs (cs : List Str) (K : PySem.W.Frag) : Bool := cs.all fun c => clsB K c && cs.all fun c' => c == c' || decide (PySem.W.kitOne K (.ref (He.ga K c')) (.ref (He.ga K c)) = some false)
/-- what the module's name x means has no dict -/
def nodB (K : PySem.W.Frag) (x : Str) : Bool := match K.lookup (He.ga K x) with
  | some o => o.dict.isNone
  | none => false
theorem nodB_ok {K : PySem.W.Frag} {x : Str} (h : nodB K x = true) : ∃ o, K.lookup (He.ga K x) = some o ∧ o.dict = none := by
  unfold nodB at h
  cases q : K.lookup (He.ga K x) with
  | none =>
    rw [q] at h
    cases h
  | some o =>
    rw [q] at h
    exact ⟨o, rfl, by simpa using h⟩
/-! ### error classes whose __init__ says super().__init__() and keeps one field -/
structure ErrD where
  cls : Str
  fld : Str
  d : He.DefD
def errAd (K : PySem.W.Frag) (t : ErrD) : Addr := He.ma K (He.ga K t.cls) "__init__"
abbrev FnE : Type := Option (Str × Str × Arguments × FuncBody × Scope × Addr × List Str × Addr)
def fnAtE (K : PySem.W.Frag) (a : Addr) : FnE := match K.lookup a with
  | some ⟨_, _, .func fd, _⟩ => some (fd.name, fd.qualname, fd.params, fd.body, fd.scope, fd.globals, fd.closure.map (·.1), fd.builtins)
  | _ => none
def ErrD.val (t : ErrD) : FnE := some (t.d.name, t.d.qual, t.d.params, .stmts t.d.body, t.d.scope, mainGlobals, ["__class__"], builtinsNs)
def errClsB (K : PySem.W.Frag) (C : Addr) : Bool := match K.lookup C with
  | some ⟨.type ty, _, .cls cd, sl⟩ => ty == "type" && (match cd.mro, sl.toList with
    | .ref C' :: bm, [_, _, _, _, some (.builtin n), _] => C' == C && (n == "ValueError.__new__" && (!cd.hasDel && (cd.hasDict && (PySem.HandSPX.refsVE bm && decide (PySem.W.alongIn K "__init__" bm = some (some (.builtin "ValueError.__init__")))))))
    | _, _ => false)
  | _ => false
def isFile (file : Str) (vs : Array Value) : Bool := match vs[2]? with
  | some (Value.str y _) => y == file
  | _ => false
def errFnB (file : Str) (K : PySem.W.Frag) (C f : Addr) (q : Str) : Bool := match K.lookup f with
  | some ⟨_, _, .func fd, _⟩ => (match fd.code with
    | .ref cda => PySem.W.codeIn K (.ref cda) q && (match K.lookup cda with
      | some ⟨_, _, .fields vs, _⟩ => isFile file vs
      | _ => false)
    | _ => false) && (match fd.closure with
    | [(_, cc)] => (match K.lookup cc with
      | some ⟨_, _, .cell (some (.ref D)), _⟩ => D == C
      | _ => false)
    | _ => false)
  | _ => false
def errOk (file : Str) (K : PySem.W.Frag) (t : ErrD) : Bool := errClsB K (He.ga K t.cls) && (errFnB file K (He.ga K t.cls) (errAd K t) t.d.qual && (PySem.W.keepIn K (.ref (He.ga K t.cls)) && (He.eqO (PySem.W.findIn K (.ref (He.ga K t.cls)) "__setattr__") (some (some (.builtin "object.__setattr__"))) &&
  (decide (PySem.W.subIn K (.ref (He.ga K t.cls)) (.type "BaseException") = some true) && (decide (PySem.W.subIn K (.ref (He.ga K t.cls)) (.type "ValueError") = some true) && (decide (PySem.W.typeIn K (.ref (He.ga K t.cls)) = some (.type "type")) &&
  (He.eqO (PySem.W.nsIn K cStatics "thirdparty.any") (some none) && (He.eqO (PySem.W.findIn K (.ref (He.ga K t.cls)) t.fld) (some none) && (He.eqO (PySem.W.findIn K (.ref (He.ga K t.cls)) "__init__") (some (some (.ref (errAd K t)))) &&
  (decide (PySem.W.typeIn K (.ref (errAd K t)) = some (.type "function")) && He.eqO (PySem.W.nsIn K mainGlobals "super") (some none)))))))))))
abbrev AlZ : Type := AlY × List FnE
section
variable (n : Nat) (fa : List He.Fa) (fn : List He.DefD) (gt : List GetD) (tf : List He.Defn) (ex : PySem.W.Frag → Bool) (er : List ErrD) (file : Str)
def exZ (K : PySem.W.Frag) : Bool := ex K && er.all (errOk file K)
def obsZ (g : Addr → Option Obj) : AlZ := (obsY n fa fn gt tf (exZ ex er file) g, er.map fun t => fnAtE (He.frT g (He.asD g n)) (errAd (He.frT g (He.asD g n)) t))
def valZ (w : World) : AlZ := (valY fn gt w, er.map ErrD.val)
structure SaysZ (w : World) (h : Heap) (K : PySem.W.Frag) : Prop where
  y : SaysY fa fn gt tf (exZ ex er file) w h K
  e : er.map (fun t => fnAtE K (errAd K t)) = er.map ErrD.val
def hookZ : PySem.W.Hook where
  α := AlZ
  obs := fun s => obsZ n fa fn gt tf ex er file s.heap.get?
  val := fun w => valZ fn gt er w
  says := fun w h => ∃ K : PySem.W.Frag, K.In h ∧ SaysZ fa fn gt tf ex er file w h K
  of := fun _ _ e => ⟨_, He.frT_in, ⟨⟨He.saysX_of (congrArg (fun z : AlZ => z.1.1) e), congrArg (fun z : AlZ => z.1.2) e⟩, congrArg (fun z : AlZ => z.2) e⟩⟩
  keeps := fun _ _ _ ⟨K, hK, c⟩ k => ⟨K, PySem.W.Frag.In.keeps hK k, ⟨⟨⟨c.y.x.t, c.y.x.more, c.y.x.hd, c.y.x.out, fun p hp => k _ _ (c.y.x.empty p hp)⟩, c.y.g⟩, c.e⟩⟩
end
theorem obsZ_eq {n : Nat} {fa : List He.Fa} {fn : List He.DefD} {gt : List GetD} {tf : List He.Defn} {ex : PySem.W.Frag → Bool} {er : List ErrD} {file : Str} {g : Addr → Option Obj} {s : Shared} (h : ∀ a, g a = s.heap.get? a) : obsZ n fa fn gt tf ex er file g = (hookZ n fa fn gt tf ex er file).obs s := by
  have e : g = s.heap.get? := funext h
  rw [e]
  rfl
/-- what clauses and isinstance ask of error classes -/
def excIs (c D : Str) : Bool := c == D || D == "MindError"
def errsB (K : PySem.W.Frag) (errs tested : List Str) : Bool := errs.all fun c =>
  decide (PySem.W.exmOne K (.ref (He.ga K c)) (.ref (He.ga K "MindError")) = some true) && (He.eqO (PySem.W.findIn K (.ref (He.ga K c)) "__getattribute__") (some (some (.builtin "BaseException.__getattribute__"))) && (He.eqO (PySem.W.findIn K (.ref (He.ga K c)) "__getattr__") (some none) &&
  (decide (PySem.W.subIn K (.ref (He.ga K c)) (.type "BaseException") = some true) && (PySem.W.hasDictIn K (He.ga K c) && (He.eqO (PySem.W.findIn K (.ref (He.ga K c)) "__class__") (some (some (.builtin "object.__class__"))) &&
  (He.eqO (PySem.W.specialIn K (.builtin "object.__class__") "__get__") (some (some (.builtin "getset_descriptor.__get__"))) && (decide (PySem.W.takesIn K (.builtin "object.__class__") = some true) && (decide (PySem.W.mroIn K (He.ga K c) (.type "object") = some true) &&
  (He.eqO (PySem.W.findIn K (.ref (He.ga K c)) "given") (some none) && (He.eqO (PySem.W.findIn K (.ref (He.ga K c)) "index") (some none) && (decide (PySem.W.kitOne K (.ref (He.ga K c)) (.type "ValueError") = some true) &&
  tested.all fun D => decide (PySem.W.kitOne K (.ref (He.ga K c)) (.ref (He.ga K D)) = some (excIs c D)))))))))))))
end DL

set_option Elab.async false
set_option linter.all false
set_option maxRecDepth 100000
set_option maxHeartbeats 4000000
namespace W
open PySem PySem.Spec PyProof.Rows L2 DL
def top (i : Nat) : Stmt := PySem.Challenge.pw_mindmeans_k35_whole_strains_by_formula.main.body.getD i (.Pass ⟨0, 0, 0, 0⟩)
abbrev s_is_whole : Stmt := top 5
abbrev s_is_between : Stmt := top 6
abbrev s_is_word : Stmt := top 7
abbrev s_is_name : Stmt := top 8
abbrev s_is_tuple_of : Stmt := top 9
abbrev s_is_pair : Stmt := top 10
abbrev s_wrong_in : Stmt := top 11
abbrev s_wrong_in_all : Stmt := top 12
abbrev s_are_below : Stmt := top 13
abbrev s_lowest : Stmt := top 17
abbrev s_is_fraction : Stmt := top 18
abbrev s_plus : Stmt := top 19
abbrev s_minus : Stmt := top 20
abbrev s_times : Stmt := top 21
abbrev s_is_less : Stmt := top 22
abbrev s_lesser : Stmt := top 23
abbrev s_greater : Stmt := top 24
abbrev s_total : Stmt := top 25
abbrev s_wrong_in_people : Stmt := top 29
abbrev s_is_sum : Stmt := top 30
abbrev s_is_row : Stmt := top 31
abbrev s_wrong_in_trust : Stmt := top 32
abbrev s_mixed : Stmt := top 33
abbrev s_first_counts : Stmt := top 34
abbrev s_next_counts : Stmt := top 35
abbrev s_counts_by : Stmt := top 36
abbrev s_check_circle : Stmt := top 46
abbrev s_check_number : Stmt := top 47
abbrev s_check_many : Stmt := top 48
abbrev s_check_bound : Stmt := top 49
abbrev s_apart_by : Stmt := top 51
abbrev s_strain_in : Stmt := top 52
abbrev s_strain_by : Stmt := top 53
abbrev s_beats_for_all_by : Stmt := top 54
abbrev s_strain : Stmt := top 56
abbrev s_beats_for_all : Stmt := top 57
abbrev s__law_pool : Stmt := top 59
abbrev s__law_below : Stmt := top 60
abbrev s__law_one : Stmt := top 61
abbrev s__law_same : Stmt := top 62
abbrev s__law_fr : Stmt := top 63
abbrev s__law_plus : Stmt := top 64
abbrev s__law_times : Stmt := top 65
abbrev s__law_less : Stmt := top 66
abbrev s__law_right : Stmt := top 67
abbrev s_law : Stmt := top 68
def cCls : List Str := ["Circle"]
abbrev s_Circle___init__ : Stmt := stB (top 45) 0
abbrev s_Circle_people : Stmt := stB (top 45) 1
abbrev s_Circle_trust : Stmt := stB (top 45) 2
abbrev s_Circle_parts : Stmt := stB (top 45) 3
abbrev s_Circle___eq__ : Stmt := stB (top 45) 4
end W

set_option Elab.async false
set_option linter.all false
set_option maxRecDepth 100000
set_option maxHeartbeats 0
namespace HH
open PySem PySem.Spec PyProof.Rows L2 DL W
abbrev R : PySem.W.OpenRow := PySem.W.OpenLaw.row PySem.Challenge.rw_mindmeans_k35_whole_strains_by_formula
def d_is_whole : He.DefD := ⟨("is_whole", none), "is_whole", "is_whole", defArgs s_is_whole, defBody s_is_whole, defScope s_is_whole, [], []⟩
def d_is_between : He.DefD := ⟨("is_between", none), "is_between", "is_between", defArgs s_is_between, defBody s_is_between, defScope s_is_between, [], []⟩
def d_is_word : He.DefD := ⟨("is_word", none), "is_word", "is_word", defArgs s_is_word, defBody s_is_word, defScope s_is_word, [], []⟩
def d_is_name : He.DefD := ⟨("is_name", none), "is_name", "is_name", defArgs s_is_name, defBody s_is_name, defScope s_is_name, [], []⟩
def d_is_tuple_of : He.DefD := ⟨("is_tuple_of", none), "is_tuple_of", "is_tuple_of", defArgs s_is_tuple_of, defBody s_is_tuple_of, defScope s_is_tuple_of, [], []⟩
def d_is_pair : He.DefD := ⟨("is_pair", none), "is_pair", "is_pair", defArgs s_is_pair, defBody s_is_pair, defScope s_is_pair, [], []⟩
def d_wrong_in : He.DefD := ⟨("wrong_in", none), "wrong_in", "wrong_in", defArgs s_wrong_in, defBody s_wrong_in, defScope s_wrong_in, [], []⟩
def d_wrong_in_all : He.DefD := ⟨("wrong_in_all", none), "wrong_in_all", "wrong_in_all", defArgs s_wrong_in_all, defBody s_wrong_in_all, defScope s_wrong_in_all, [], []⟩
def d_are_below : He.DefD := ⟨("are_below", none), "are_below", "are_below", defArgs s_are_below, defBody s_are_below, defScope s_are_below, [], []⟩
def d_lowest : He.DefD := ⟨("lowest", none), "lowest", "lowest", defArgs s_lowest, defBody s_lowest, defScope s_lowest, [], []⟩
def d_is_fraction : He.DefD := ⟨("is_fraction", none), "is_fraction", "is_fraction", defArgs s_is_fraction, defBody s_is_fraction, defScope s_is_fraction, [], []⟩
def d_plus : He.DefD := ⟨("plus", none), "plus", "plus", defArgs s_plus, defBody s_plus, defScope s_plus, [], []⟩
def d_minus : He.DefD := ⟨("minus", none), "minus", "minus", defArgs s_minus, defBody s_minus, defScope s_minus, [], []⟩
def d_times : He.DefD := ⟨("times", none), "times", "times", defArgs s_times, defBody s_times, defScope s_times, [], []⟩
def d_is_less : He.DefD := ⟨("is_less", none), "is_less", "is_less", defArgs s_is_less, defBody s_is_less, defScope s_is_less, [], []⟩
def d_lesser : He.DefD := ⟨("lesser", none), "lesser", "lesser", defArgs s_lesser, defBody s_lesser, defScope s_lesser, [], []⟩
def d_greater : He.DefD := ⟨("greater", none), "greater", "greater", defArgs s_greater, defBody s_greater, defScope s_greater, [], []⟩
def d_total : He.DefD := ⟨("total", none), "total", "total", defArgs s_total, defBody s_total, defScope s_total, [], []⟩
def d_wrong_in_people : He.DefD := ⟨("wrong_in_people", none), "wrong_in_people", "wrong_in_people", defArgs s_wrong_in_people, defBody s_wrong_in_people, defScope s_wrong_in_people, [], []⟩
def d_is_sum : He.DefD := ⟨("is_sum", none), "is_sum", "is_sum", defArgs s_is_sum, defBody s_is_sum, defScope s_is_sum, [], []⟩
def d_is_row : He.DefD := ⟨("is_row", none), "is_row", "is_row", defArgs s_is_row, defBody s_is_row, defScope s_is_row, [], []⟩
def d_wrong_in_trust : He.DefD := ⟨("wrong_in_trust", none), "wrong_in_trust", "wrong_in_trust", defArgs s_wrong_in_trust, defBody s_wrong_in_trust, defScope s_wrong_in_trust, [], []⟩
def d_mixed : He.DefD := ⟨("mixed", none), "mixed", "mixed", defArgs s_mixed, defBody s_mixed, defScope s_mixed, [], []⟩
def d_first_counts : He.DefD := ⟨("first_counts", none), "first_counts", "first_counts", defArgs s_first_counts, defBody s_first_counts, defScope s_first_counts, [], []⟩
def d_next_counts : He.DefD := ⟨("next_counts", none), "next_counts", "next_counts", defArgs s_next_counts, defBody s_next_counts, defScope s_next_counts, [], []⟩
def d_counts_by : He.DefD := ⟨("counts_by", none), "counts_by", "counts_by", defArgs s_counts_by, defBody s_counts_by, defScope s_counts_by, [], []⟩
def d_check_circle : He.DefD := ⟨("check_circle", none), "check_circle", "check_circle", defArgs s_check_circle, defBody s_check_circle, defScope s_check_circle, [], []⟩
def d_check_number : He.DefD := ⟨("check_number", none), "check_number", "check_number", defArgs s_check_number, defBody s_check_number, defScope s_check_number, [], []⟩
def d_check_many : He.DefD := ⟨("check_many", none), "check_many", "check_many", defArgs s_check_many, defBody s_check_many, defScope s_check_many, [], []⟩
def d_check_bound : He.DefD := ⟨("check_bound", none), "check_bound", "check_bound", defArgs s_check_bound, defBody s_check_bound, defScope s_check_bound, [], []⟩
def d_apart_by : He.DefD := ⟨("apart_by", none), "apart_by", "apart_by", defArgs s_apart_by, defBody s_apart_by, defScope s_apart_by, [], []⟩
def d_strain_in : He.DefD := ⟨("strain_in", none), "strain_in", "strain_in", defArgs s_strain_in, defBody s_strain_in, defScope s_strain_in, [], []⟩
def d_strain_by : He.DefD := ⟨("strain_by", none), "strain_by", "strain_by", defArgs s_strain_by, defBody s_strain_by, defScope s_strain_by, [], []⟩
def d_beats_for_all_by : He.DefD := ⟨("beats_for_all_by", none), "beats_for_all_by", "beats_for_all_by", defArgs s_beats_for_all_by, defBody s_beats_for_all_by, defScope s_beats_for_all_by, [], []⟩
def d_strain : He.DefD := ⟨("strain", none), "strain", "strain", defArgs s_strain, defBody s_strain, defScope s_strain, [], []⟩
def d_beats_for_all : He.DefD := ⟨("beats_for_all", none), "beats_for_all", "beats_for_all", defArgs s_beats_for_all, defBody s_beats_for_all, defScope s_beats_for_all, [], []⟩
def d__law_pool : He.DefD := ⟨("_law_pool", none), "_law_pool", "_law_pool", defArgs s__law_pool, defBody s__law_pool, defScope s__law_pool, [], []⟩
def d__law_below : He.DefD := ⟨("_law_below", none), "_law_below", "_law_below", defArgs s__law_below, defBody s__law_below, defScope s__law_below, [], []⟩
def d__law_one : He.DefD := ⟨("_law_one", none), "_law_one", "_law_one", defArgs s__law_one, defBody s__law_one, defScope s__law_one, [], []⟩
def d__law_same : He.DefD := ⟨("_law_same", none), "_law_same", "_law_same", defArgs s__law_same, defBody s__law_same, defScope s__law_same, [], []⟩
def d__law_fr : He.DefD := ⟨("_law_fr", none), "_law_fr", "_law_fr", defArgs s__law_fr, defBody s__law_fr, defScope s__law_fr, [], []⟩
def d__law_plus : He.DefD := ⟨("_law_plus", none), "_law_plus", "_law_plus", defArgs s__law_plus, defBody s__law_plus, defScope s__law_plus, [], []⟩
def d__law_times : He.DefD := ⟨("_law_times", none), "_law_times", "_law_times", defArgs s__law_times, defBody s__law_times, defScope s__law_times, [], []⟩
def d__law_less : He.DefD := ⟨("_law_less", none), "_law_less", "_law_less", defArgs s__law_less, defBody s__law_less, defScope s__law_less, [], []⟩
def d__law_right : He.DefD := ⟨("_law_right", none), "_law_right", "_law_right", defArgs s__law_right, defBody s__law_right, defScope s__law_right, [], []⟩
def d_law : He.DefD := ⟨("law", none), "law", "law", defArgs s_law, defBody s_law, defScope s_law, [], []⟩
def d_Circle___init__ : He.DefD := ⟨("Circle", some "__init__"), "__init__", "Circle.__init__", defArgs s_Circle___init__, defBody s_Circle___init__, defScope s_Circle___init__, [], []⟩
def g_Circle_people : GetD := ⟨"Circle", "people", ⟨("Circle", none), "people", "Circle.people", defArgs s_Circle_people, defBody s_Circle_people, defScope s_Circle_people, [], []⟩⟩
def g_Circle_trust : GetD := ⟨"Circle", "trust", ⟨("Circle", none), "trust", "Circle.trust", defArgs s_Circle_trust, defBody s_Circle_trust, defScope s_Circle_trust, [], []⟩⟩
def gt : List GetD := [g_Circle_people, g_Circle_trust]
def fn : List He.DefD := [d_is_whole, d_is_between, d_is_word, d_is_name, d_is_tuple_of, d_is_pair, d_wrong_in, d_wrong_in_all, d_are_below, d_lowest, d_is_fraction, d_plus, d_minus, d_times, d_is_less, d_lesser, d_greater, d_total, d_wrong_in_people, d_is_sum, d_is_row, d_wrong_in_trust, d_mixed, d_first_counts, d_next_counts, d_counts_by, d_check_circle, d_check_number, d_check_many, d_check_bound, d_apart_by, d_strain_in, d_strain_by, d_beats_for_all_by, d_strain, d_beats_for_all, d__law_pool, d__law_below, d__law_one, d__law_same, d__law_fr, d__law_plus, d__law_times, d__law_less, d__law_right, d_law, d_Circle___init__]
def fa : List He.Fa := [.glo "is_whole", .glo "is_between", .glo "is_word", .glo "is_name", .glo "is_tuple_of", .glo "is_pair", .glo "wrong_in", .glo "wrong_in_all", .glo "are_below", .glo "lowest", .glo "is_fraction", .glo "plus", .glo "minus", .glo "times", .glo "is_less", .glo "lesser", .glo "greater", .glo "total", .glo "wrong_in_people", .glo "is_sum", .glo "is_row", .glo "wrong_in_trust", .glo "mixed", .glo "first_counts", .glo "next_counts", .glo "counts_by", .glo "check_circle", .glo "check_number", .glo "check_many", .glo "check_bound", .glo "apart_by", .glo "strain_in", .glo "strain_by", .glo "beats_for_all_by", .glo "strain", .glo "beats_for_all", .glo "_law_pool", .glo "_law_below", .glo "_law_one", .glo "_law_same", .glo "_law_fr", .glo "_law_plus", .glo "_law_times", .glo "_law_less", .glo "_law_right", .glo "law", .free "abs", .free "all", .free "bool", .free "divmod", .free "enumerate", .free "int", .free "isinstance", .free "len", .free "list", .free "max", .free "min", .free "range", .free "str", .free "tuple", .free "zip", .str "LETTERS" "abcdefghijklmnopqrstuvwxyz", .int "MOST_LETTERS" 8, .glo "WORDS", .glo "NOTHING", .glo "WHOLE", .int "MOST_PEOPLE" 5, .int "MOST_BEATS" 40, .glo "Circle", .cls "Circle", .mkr "Circle", .noat "Circle" "all_told"]
def tf : List He.Defn := [("wrong_in_all", none), ("wrong_in_people", none), ("wrong_in_trust", none)]
def ex (K : PySem.W.Frag) : Bool := (clsBs cCls K) && ((decide ((tf.map fun p => (He.cT K p).2).Nodup)) && ((He.eqO (PySem.W.nsIn K mainGlobals "gcd") (some (some (.builtin "math.gcd")))) && ((He.tupB K "WORDS" [.str "agree", .str "all", .str "back", .str "beat", .str "book", .str "case", .str "circle", .str "end", .str "firm", .str "group", .str "hear", .str "in", .str "last", .str "mean", .str "meet", .str "middle", .str "mind", .str "near", .str "none", .str "of", .str "out", .str "people", .str "quit", .str "rest", .str "rhythm", .str "row", .str "say", .str "spread", .str "swing", .str "take", .str "trust", .str "undo", .str "web", .str "weight", .str "yes"] && nodB K "WORDS") && ((He.tupB K "NOTHING" [.int 0, .int 1] && nodB K "NOTHING") && ((He.tupB K "WHOLE" [.int 1, .int 1] && nodB K "WHOLE") && (true))))))
def names0 : List Str := ["LETTERS", "MOST_LETTERS", "WORDS", "is_whole", "is_between", "is_word", "is_name", "is_tuple_of", "is_pair", "wrong_in", "wrong_in_all", "are_below", "NOTHING", "WHOLE", "lowest", "is_fraction", "plus", "minus", "times", "is_less", "lesser", "greater", "total", "MOST_PEOPLE", "MOST_BEATS", "wrong_in_people", "is_sum", "is_row", "wrong_in_trust", "mixed"]
def names1 : List Str := ["first_counts", "next_counts", "counts_by", "MindError", "InvalidNumber", "InvalidFraction", "NotACircle", "InvalidPeople", "InvalidTrust", "Circle", "check_circle", "check_number", "check_many", "check_bound", "apart_by", "strain_in", "strain_by", "beats_for_all_by", "strain", "beats_for_all", "_law_pool", "_law_below", "_law_one", "_law_same", "_law_fr", "_law_plus", "_law_times", "_law_less", "_law_right"]
def names : List Str := names0 ++ (names1)
abbrev hk : PySem.W.Hook := hookY 5 fa fn gt tf ex
def ob (s : PySem.W.SharedT) : AlY := obsY 5 fa fn gt tf ex (HandSHeadRun.getT s)
theorem ob_eq (s : PySem.W.SharedT) : ob s = hk.obs s.abs := obsY_eq (HandSHeadRun.getT_eq s)
theorem run (w : World) : HandSHeadRun.RunEqI R (PySem.W.view R.prog [0, 68]) hk ob 4000 names w := by
  unfold HandSHeadRun.RunEqI
  kernel_rfl
end HH

set_option Elab.async false
set_option linter.all false
set_option maxRecDepth 100000
set_option maxHeartbeats 400000
/-! new tuples of texts, known to the object -/
namespace DL
open PySem PySem.Spec PyProof.Rows L2 HT
def isSV : V → Bool
  | .str _ => true
  | _ => false
/-- texts alone, one at least -/
def strV (xs : List V) : Bool := !xs.isEmpty && xs.all isSV
/-- how a new tuple is tracked -/
def tupO (xs : List V) (o : Obj) : HO := if strV xs then .frz o (.tup xs) else .tup xs
theorem tupO_rd {H : Hp} {p : Addr} {xs : List V} {o : Obj} : Rd (upd H p (tupO xs o)) p (.tup xs) := by
  unfold tupO
  split
  · exact .inr ⟨o, upd_same⟩
  · exact .inl upd_same
theorem tupO_ok {P : Program} {w : World} {H : Hp} {h : Heap} {p : Addr} {xs : List V} {o : Obj} (e : h.get? p = some o) (k : ObjOk P w H h p (.tup xs)) : ObjOk P w H h p (tupO xs o) := by
  unfold tupO
  split
  · exact ⟨e, k⟩
  · exact k
/-- what is known to the object has no dict -/
def ExT (K : PySem.W.Frag) (H : Hp) (a : Addr) : Prop := (∃ o u, H a = some (.frz o (.tup u)) ∧ o.dict = none) ∨ ∃ o, K.lookup a = some o ∧ o.dict = none
def SqX (K : PySem.W.Frag) (H : Hp) (a : Addr) (xs : List V) : Prop := SqT K H a xs ∧ (strV xs = true → ExT K H a)
theorem tupO_ext {K : PySem.W.Frag} {H : Hp} {p : Addr} {xs : List V} {o : Obj} (hd : o.dict = none) (h : strV xs = true) (e : H p = some (tupO xs o)) : ExT K H p := by
  unfold tupO at e
  rw [if_pos h] at e
  exact .inl ⟨o, xs, e, hd⟩
theorem strV_cons {x : V} {xs : List V} (h : isSV x = false) : strV (x :: xs) = false := by
  simp [strV, h]
theorem strV_nil : strV [] = false := rfl
section
variable {X : Cx} {es : List Expr} {pos : Pos} {t : TA}
def tTupX (t : TA) : TE := fun σ H Q => t σ H fun xs H1 => xs.length ≤ sizeLine ∧ ∀ p o, H1 p = none → o.dict = none → Q (.ref p) (upd H1 p (tupO xs o))
theorem pe_tupX {k : Nat} (h : PA X es t) : PE X (.Tuple es k pos) (tTupX t) := by
  refine ⟨fun pins s σ H Q I hq => ?_⟩
  refine wpAny_Tuple_spliced (thn (h.run pos pins s σ H _ I hq) fun us s1 ⟨xs, H1, I1, r, z, q⟩ => ⟨by rw [← r.length]; exact z, ?_⟩)
  have hf : H1 s1.heap.objs.size = none := I1.hok.fresh (Nat.le_refl _)
  refine ⟨.ref s1.heap.objs.size, _, I1.laid (o := tupO xs { cls := .type "tuple", data := .seq us.toArray }) (t' := s1.toks) (fun b u e => Heap.get?_push_of_some _ e) (Nat.le_refl _) ?_, rfl, q _ _ hf rfl⟩
  exact tupO_ok (Heap.get?_push_size _ rfl) ⟨z, us, r, ⟨_, Heap.get?_push_size _ rfl, rfl, _, rfl⟩⟩
theorem call_tuple_ofX : CallR X (.type "tuple") (fun xs H Q => ∃ p ys, xs = [.ref p] ∧ ((SqL X.K H p ys ∧ ∀ l o, H l = none → o.dict = none → Q (.ref l) (upd H l (tupO ys o))) ∨ (SqT X.K H p ys ∧ Q (.ref p) H))) := by
  intro pins s σ H xs us Q I r h
  obtain ⟨p, ys, rfl, h⟩ := h
  obtain ⟨u, rfl, rx⟩ := vals1 r
  cases rx
  rcases h with ⟨hq, q⟩ | ⟨hq, q⟩
  · obtain ⟨its, r', pl, hz⟩ := I.list hq
    have hlen := r'.length
    refine call_tuple_list pl.isList (fun h' kp => ?_) (by simp only [List.size_toArray] <;> omega)
    have I1 : Inv X pins σ H { s with heap := h' } := I.kept (t' := s.toks) kp
    have J := I1.laid (t' := s.toks) (a := h'.objs.size) (o := tupO ys { cls := .type "tuple", data := .seq its.toArray }) (h' := h'.push { cls := .type "tuple", data := .seq its.toArray }) (fun b o e => Heap.get?_push_of_some _ e) (Nat.le_refl _)
      (tupO_ok (Heap.get?_push_size _ rfl) ⟨hz, its, r', IsTup.new _ _⟩)
    exact ⟨.ref h'.objs.size, _, J, rfl, q _ _ (I1.hok.fresh (Nat.le_refl _)) rfl⟩
  · obtain ⟨its, r', pl, hz⟩ := I.tuple hq
    exact call_tuple_same pl ⟨.ref p, H, I, rfl, q⟩
def rSlX (K : PySem.W.Frag) : V → Option Int → Option Int → Hp → VK → Prop := fun x lo hi H Q => ∃ a xs, x = .ref a ∧ SqT K H a xs ∧
  (sIx xs.length 0 lo = 0 ∧ sIx xs.length xs.length hi = xs.length → Q (.ref a) H) ∧ (¬ (sIx xs.length 0 lo = 0 ∧ sIx xs.length xs.length hi = xs.length) → ∀ p o, H p = none → o.dict = none → Q (.ref p) (upd H p (tupO (cutV xs lo hi) o)))
theorem sl_tupX : SlR X (rSlX X.K) := by
  intro pins s σ H x v vl vu lo hi sl Q I rx hs pl pu h
  obtain ⟨a, xs, rfl, hx, q1, q2⟩ := h
  cases rx
  obtain ⟨its, r, ht, hz⟩ := I.tuple hx
  have hlen : its.toArray.size = xs.length := by rw [List.size_toArray]; exact r.length.symm
  refine ⟨"tuple", _, PyProof.Rows.slot_tuple_getitem.lookup, ht.typeIs, ?_⟩
  by_cases hw : sIx xs.length 0 lo = 0 ∧ sIx xs.length xs.length hi = xs.length
  · exact getItem_tuple_whole ht hs pl pu (by rw [hlen]; exact hw) ⟨.ref a, H, I, rfl, q1 hw⟩
  · refine getItem_tuple_cut ht hs pl pu (by rw [hlen]; exact hw) ?_ (by rw [hlen]; exact hz)
    rw [hlen]
    refine ⟨.ref s.heap.objs.size, _, I.laid (t' := s.toks) (o := tupO (cutV xs lo hi) _) (fun b ob q => Heap.get?_push_of_some _ q) (Nat.le_refl _) (tupO_ok (Heap.get?_push_size _ rfl) ?_), rfl, q2 hw _ _ (I.hok.fresh (Nat.le_refl _)) rfl⟩
    exact ⟨Nat.le_trans (cutV_length xs lo hi) hz, _, (r.drop (sIx xs.length 0 lo)).take (sIx xs.length xs.length hi - sIx xs.length 0 lo), IsTup.new _ _⟩
def rCatX (K : PySem.W.Frag) : R2 := fun x y H Q => ∃ a b xs ys, x = .ref a ∧ y = .ref b ∧ SqT K H a xs ∧ SqT K H b ys ∧ xs.length + ys.length ≤ sizeLine ∧
  (xs = [] → Q (.ref b) H) ∧ (xs ≠ [] → ys = [] → Q (.ref a) H) ∧ (xs ≠ [] → ys ≠ [] → ∀ p o, H p = none → o.dict = none → Q (.ref p) (upd H p (tupO (xs ++ ys) o)))
theorem op_catX : OpR X (binaryOp .Add) (rCatX X.K) := by
  intro pins s σ H x y v u Q I rx ry h
  obtain ⟨a, b, xs, ys, rfl, rfl, ha, hb, hz, q0, q1, q2⟩ := h
  cases rx
  cases ry
  obtain ⟨its, r1, p1, _⟩ := I.tuple ha
  obtain ⟨its2, r2, p2, _⟩ := I.tuple hb
  by_cases hx : xs = []
  · subst hx
    cases r1
    exact cat_tup0 p1 p2 ⟨.ref b, H, I, rfl, q0 rfl⟩
  · refine cat_tup p1 p2 (fun z => hx (r1.nil_iff.mp z)) (fun z => ⟨.ref a, H, I, rfl, q1 hx (r2.nil_iff.mp z)⟩) (fun z => ?_) (by rw [← r1.length, ← r2.length]; exact hz)
    refine ⟨.ref s.heap.objs.size, _, I.laid (t' := s.toks) (o := tupO (xs ++ ys) _) (fun b ob q => Heap.get?_push_of_some _ q) (Nat.le_refl _) (tupO_ok (Heap.get?_push_size _ rfl) ?_), rfl, q2 hx (fun w => z (r2.nil_iff.mpr w)) _ _ (I.hok.fresh (Nat.le_refl _)) rfl⟩
    exact ⟨by rw [List.length_append]; exact hz, _, r1.append r2, IsTup.new _ _⟩
theorem ExT.at_ {pins : List (Addr × Obj)} {σ : L2.St} {H : Hp} {s : Shared} {a : Addr} (h : ExT X.K H a) (I : Inv X pins σ H s) : ∃ o, s.heap.get? a = some o ∧ o.dict = none := by
  rcases h with ⟨o, u, e, d⟩ | ⟨o, e, d⟩
  · obtain ⟨e1, _⟩ := (show ObjOk X.prog X.w H s.heap a (.frz o (.tup u)) from I.hok a _ e)
    exact ⟨o, e1, d⟩
  · exact ⟨o, I.kIn _ _ e, d⟩
/-- t.m(e): a method of tuples -/
def tTM (K : PySem.W.Frag) (r : V → List V → Hp → VK → Prop) (to : TE) (t : TA) : TE := fun σ H Q => to σ H fun x H1 => ∃ a xs, x = .ref a ∧ SqT K H1 a xs ∧ ExT K H1 a ∧ t σ H1 fun ys H2 => r x ys H2 Q
theorem pe_tm {o e : Expr} {es : List Expr} {to : TE} {t : TA} {name : Str} {apos cpos : Pos} {id : String} {r : V → List V → Hp → VK → Prop} (slot : Slot "tuple" name id) (hty : typeOf (.builtin id) = pure (.type "method_descriptor")) (hm : MtR X id r) (ho : PE X o to) (ha : PA X (e :: es) t)
    (hbase : attributeBase o name X.env (eval o X.env) = eval o X.env := by rfl)
    (hfew : ((backTo cpos (starEach (e :: es) X.env)).all (fun x => !x.1) && (backToKw cpos (keywordEach [] X.env)).all (fun x => x.1.isSome)
      && decide ((e :: es).length + ([] : List Keyword).length + (if ([] : List Keyword).isEmpty then 0 else 1) < 30)) = true := by rfl)
    (hline : (apos.endLine == cpos.line) = true := by rfl) (hs : starEach (e :: es) X.env = (false, eval e X.env) :: starEach es X.env := by rfl) (hplain : (backTo cpos (starEach es X.env)).any (·.1) = false := by rfl) :
    PE X (.Call (.Attribute o name apos) (e :: es) [] cpos) (tTM X.K r to t) := by
  refine ⟨fun pins s σ H Q I h => ?_⟩
  refine wpAny_Call_method_late hbase hfew hline rfl (thn (ho.run pins s σ H _ I h) fun v s1 ⟨x, H1, I1, r1, a, xs, ex, hq, he, q1⟩ => ?_)
  subst ex
  obtain rfl : v = Value.ref a := r1
  obtain ⟨its, _, pl, _⟩ := I1.tuple hq
  obtain ⟨ob, e1, d1⟩ := he.at_ I1
  refine ⟨"tuple", id, PySem.F.plainAttrs_tuple, slot, hty, pl.typeIs, (fun a' e' => by cases e'; exact ⟨ob, e1, d1⟩), ?_⟩
  have hA := ha.run cpos pins s1 σ H1 _ I1 q1
  rw [hs] at hA ⊢
  refine Calls.callWith_builtin (by show (false || (backTo cpos (starEach es X.env)).any (·.1)) = false; rw [hplain] <;> rfl) (Calls.evalArgs_plain ?_)
  exact thn hA fun us s2 ⟨vs, H2, I2, r2, q2⟩ => hm pins s2 σ H2 (.ref a) vs _ us Q I2 rfl r2 q2
end
end DL

set_option Elab.async false
set_option linter.all false
set_option maxRecDepth 100000
set_option maxHeartbeats 4000000
namespace DL
open PySem PySem.Spec PyProof.Rows L2

/-! ### data -/
inductive D where
  | non | bl (b : Bool) | int (i : Int) | str (x : Str)
  | tup (l : List D) | lst (l : List D)
  | dct (ks : List D) (vs : List D)
  | obj (c : Str) (fs : List D)
  | glo (x : Str) | ty (n : String)
  | clo (i : Nat)
  | bowl
instance : Inhabited D := ⟨.non⟩

def LIM : Nat := 1000000
theorem lim_line : LIM < sizeLine := by decide

/-- a text that is let -/
def okS (x : Str) : Bool := decide (x.length ≤ LIM) && PyData.strOk x
/-- the attributes of the instances of a class, in order -/
def attrsOf (c : Str) : List Str := if c = "Circle" then ["all_told"] else if c = "Case" then ["all_of_it"] else []

def keyD : Key → D
  | .inl i => .int i
  | .inr x => .str x
def tkeyD (l : List Key) : D := .tup (l.map keyD)

/-- what data stands for: the written part, the module's names, the closures, the bowl -/
structure RC where
  K : PySem.W.Frag
  mg : Str → Option Value
  fns : List Addr
  bo : Option Addr

mutual
def Rep (R : RC) (H : Hp) : D → V → Prop
  | .non, v => v = .non
  | .bl b, v => v = .bl b
  | .int i, v => v = .int i
  | .str x, v => v = .str x ∧ okS x = true
  | .tup l, v => ∃ a vs, v = .ref a ∧ SqX R.K H a vs ∧ RepL R H l vs ∧ l.length ≤ LIM
  | .lst l, v => ∃ a vs, v = .ref a ∧ SqL R.K H a vs ∧ RepL R H l vs ∧ l.length ≤ LIM
  | .dct ks ds, v => ∃ a vs, v = .ref a ∧ RepL R H ds vs ∧ ks.length ≤ LIM ∧
      ((∃ kk : List Key, Rd H a (.dK (kk.zip vs)) ∧ ks = kk.map keyD ∧ kk.length = vs.length) ∨
       (∃ kk : List (List Key), Rd H a (.dT (kk.zip vs)) ∧ ks = kk.map tkeyD ∧ kk.length = vs.length))
  | .obj c fs, v => ∃ a C dx vs, v = .ref a ∧ R.mg c = some (.ref C) ∧ H a = some (.ins C dx ((attrsOf c).zip vs)) ∧ RepL R H fs vs ∧ vs.length = (attrsOf c).length
  | .glo x, v => ∃ f, v = .ref f ∧ R.mg x = some (.ref f)
  | .ty n, v => v = .ty n
  | .clo i, v => ∃ f, v = .ref f ∧ R.fns[i]? = some f
  | .bowl, v => ∃ a, v = .ref a ∧ R.bo = some a
def RepL (R : RC) (H : Hp) : List D → List V → Prop
  | [], vs => vs = []
  | d :: ds, vs => ∃ v r, vs = v :: r ∧ Rep R H d v ∧ RepL R H ds r
end

/-- all that is tracked stays, tables apart -/
def Sub (H H' : Hp) : Prop := ∀ a o, H a = some o → (∀ ps, o ≠ .tbl ps) → H' a = some o
theorem Sub.refl (H : Hp) : Sub H H := fun _ _ h _ => h
theorem Sub.trans {H H1 H2 : Hp} (a : Sub H H1) (b : Sub H1 H2) : Sub H H2 := fun c o h n => b c o (a c o h n) n
theorem Sub.rd {H H' : Hp} {a : Addr} {u : HO} (s : Sub H H') (n : ∀ ps, u ≠ .tbl ps) (h : Rd H a u) : Rd H' a u := by
  rcases h with h | ⟨o, h⟩
  · exact .inl (s _ _ h n)
  · exact .inr ⟨o, s _ _ h (fun _ z => by cases z)⟩
theorem Sub.seq {K : PySem.W.Frag} {H H' : Hp} {a : Addr} {xs : List V} (e : Sub H H') (h : SqL K H a xs) : SqL K H' a xs :=
  h.elim (fun h => .inl (e.rd (fun _ z => by cases z) h)) .inr
theorem Sub.tup {K : PySem.W.Frag} {H H' : Hp} {a : Addr} {xs : List V} (e : Sub H H') (h : SqT K H a xs) : SqT K H' a xs :=
  h.elim (fun h => .inl (e.rd (fun _ z => by cases z) h)) .inr
theorem Sub.ext {K : PySem.W.Frag} {H H' : Hp} {a : Addr} (e : Sub H H') (h : ExT K H a) : ExT K H' a :=
  h.elim (fun ⟨o, u, h, d⟩ => .inl ⟨o, u, e _ _ h (fun _ z => by cases z), d⟩) .inr
theorem Sub.tupx {K : PySem.W.Frag} {H H' : Hp} {a : Addr} {xs : List V} (e : Sub H H') (h : SqX K H a xs) : SqX K H' a xs := ⟨e.tup h.1, fun q => e.ext (h.2 q)⟩
mutual
theorem Rep.mono {R : RC} {H H' : Hp} (s : Sub H H') : ∀ {d : D} {v : V}, Rep R H d v → Rep R H' d v
  | .non, _, h => h
  | .bl _, _, h => h
  | .int _, _, h => h
  | .str _, _, h => h
  | .glo _, _, h => h
  | .ty _, _, h => h
  | .clo _, _, h => h
  | .bowl, _, h => h
  | .tup l, v, h => by
    obtain ⟨a, vs, e, h1, h2, h3⟩ := h
    exact ⟨a, vs, e, s.tupx h1, RepL.mono s h2, h3⟩
  | .lst l, v, h => by
    obtain ⟨a, vs, e, h1, h2, h3⟩ := h
    exact ⟨a, vs, e, s.seq h1, RepL.mono s h2, h3⟩
  | .dct ks ds, v, h => by
    obtain ⟨a, vs, e, h1, h2, h3⟩ := h
    refine ⟨a, vs, e, RepL.mono s h1, h2, ?_⟩
    rcases h3 with ⟨kk, q, r⟩ | ⟨kk, q, r⟩
    · exact .inl ⟨kk, s.rd (fun _ z => by cases z) q, r⟩
    · exact .inr ⟨kk, s.rd (fun _ z => by cases z) q, r⟩
  | .obj c fs, v, h => by
    obtain ⟨a, C, dx, vs, e, h1, h2, h3, h4⟩ := h
    exact ⟨a, C, dx, vs, e, h1, s _ _ h2 (fun _ z => by cases z), RepL.mono s h3, h4⟩
theorem RepL.mono {R : RC} {H H' : Hp} (s : Sub H H') : ∀ {ds : List D} {vs : List V}, RepL R H ds vs → RepL R H' ds vs
  | [], _, h => h
  | d :: ds, vs, h => by
    obtain ⟨v, r, e, h1, h2⟩ := h
    exact ⟨v, r, e, Rep.mono s h1, RepL.mono s h2⟩
end
theorem RepL.length {R : RC} {H : Hp} : ∀ {ds : List D} {vs : List V}, RepL R H ds vs → ds.length = vs.length
  | [], _, h => by cases h; rfl
  | d :: ds, vs, h => by
    obtain ⟨v, r, e, h1, h2⟩ := h
    subst e
    simp [RepL.length h2]
theorem RepL.get {R : RC} {H : Hp} : ∀ {ds : List D} {vs : List V} {i : Nat} {d : D}, RepL R H ds vs → ds[i]? = some d → ∃ v, vs[i]? = some v ∧ Rep R H d v
  | [], _, _, _, _, e => by simp at e
  | d :: ds, vs, 0, d', h, e => by
    obtain ⟨v, r, e1, h1, h2⟩ := h
    subst e1
    simp at e
    subst e
    exact ⟨v, rfl, h1⟩
  | d :: ds, vs, i + 1, d', h, e => by
    obtain ⟨v, r, e1, h1, h2⟩ := h
    subst e1
    obtain ⟨v', a, b⟩ := RepL.get (i := i) h2 (by simpa using e)
    exact ⟨v', by simpa using a, b⟩
theorem RepL.getV {R : RC} {H : Hp} {ds : List D} {vs : List V} {i : Nat} {v : V} (h : RepL R H ds vs) (e : vs[i]? = some v) : ∃ d, ds[i]? = some d ∧ Rep R H d v := by
  have hi : i < ds.length := by
    rw [h.length]
    exact (List.getElem?_eq_some_iff.mp e).1
  obtain ⟨v', e', r⟩ := h.get (List.getElem?_eq_getElem hi)
  rw [e] at e'
  cases e'
  exact ⟨_, List.getElem?_eq_getElem hi, r⟩
theorem RepL.append {R : RC} {H : Hp} : ∀ {ds es : List D} {vs ws : List V}, RepL R H ds vs → RepL R H es ws → RepL R H (ds ++ es) (vs ++ ws)
  | [], _, _, _, h, g => by
    cases h
    exact g
  | d :: ds, es, vs, ws, h, g => by
    obtain ⟨v, r, e, h1, h2⟩ := h
    subst e
    exact ⟨v, r ++ ws, rfl, h1, RepL.append h2 g⟩
theorem RepL.take {R : RC} {H : Hp} : ∀ (n : Nat) {ds : List D} {vs : List V}, RepL R H ds vs → RepL R H (ds.take n) (vs.take n)
  | 0, _, _, _ => by simp [RepL]
  | _ + 1, [], _, h => by
    cases h
    simp [RepL]
  | n + 1, d :: ds, vs, h => by
    obtain ⟨v, r, e, h1, h2⟩ := h
    subst e
    exact ⟨v, r.take n, rfl, h1, RepL.take n h2⟩
theorem RepL.drop {R : RC} {H : Hp} : ∀ (n : Nat) {ds : List D} {vs : List V}, RepL R H ds vs → RepL R H (ds.drop n) (vs.drop n)
  | 0, _, _, h => by simpa using h
  | _ + 1, [], _, h => by
    cases h
    simp [RepL]
  | n + 1, d :: ds, vs, h => by
    obtain ⟨v, r, e, h1, h2⟩ := h
    subst e
    simpa using RepL.drop n h2
theorem RepL.nil {R : RC} {H : Hp} : RepL R H [] [] := rfl
theorem RepL.cons {R : RC} {H : Hp} {d : D} {v : V} {ds : List D} {vs : List V} (h : Rep R H d v) (t : RepL R H ds vs) : RepL R H (d :: ds) (v :: vs) := ⟨v, vs, rfl, h, t⟩
theorem RepL.set {R : RC} {H : Hp} {d : D} {v : V} (h : Rep R H d v) : ∀ (i : Nat) {ds : List D} {vs : List V}, RepL R H ds vs → RepL R H (ds.set i d) (vs.set i v)
  | _, [], _, t => by
    cases t
    simp [RepL]
  | 0, d' :: ds, vs, t => by
    obtain ⟨v', r, e, h1, h2⟩ := t
    subst e
    exact ⟨v, r, rfl, h, h2⟩
  | i + 1, d' :: ds, vs, t => by
    obtain ⟨v', r, e, h1, h2⟩ := t
    subst e
    exact ⟨v', r.set i v, rfl, h1, RepL.set h i h2⟩

/-! ### what is visible, results -/
open Classical in
noncomputable def vis (H : Hp) (O : Addr → Prop) : Hp := fun a => if O a then none else H a
theorem vis_of {H : Hp} {O : Addr → Prop} {a : Addr} {o : HO} (h : H a = some o) (n : ¬ O a) : vis H O a = some o := by
  unfold vis
  rw [if_neg n]
  exact h
theorem of_vis {H : Hp} {O : Addr → Prop} {a : Addr} {o : HO} (h : vis H O a = some o) : H a = some o ∧ ¬ O a := by
  unfold vis at h
  by_cases q : O a
  · rw [if_pos q] at h
    cases h
  · rw [if_neg q] at h
    exact ⟨h, q⟩
theorem vis_sub {H : Hp} {O O' : Addr → Prop} (h : ∀ a, O' a → O a) : Sub (vis H O) (vis H O') := fun a o e _ => by
  obtain ⟨e1, e2⟩ := of_vis e
  exact vis_of e1 fun q => e2 (h a q)
theorem vis_all {H : Hp} {O : Addr → Prop} : Sub (vis H O) H := fun a o e _ => (of_vis e).1

abbrev Bw := Option (List Int)
inductive Wv where
  | val (d : D) | own (d : D)
def Wv.d : Wv → D
  | .val d => d
  | .own d => d
inductive Slot where
  | un | val (d : D) | own (d : D)
abbrev Sls := List Slot
def Wv.slot : Wv → Slot
  | .val d => .val d
  | .own d => .own d
inductive Res (α : Type) where
  | ok (a : α) (b : Bw) | err (c : Str) (fs : List D) (b : Bw) | bad
def Res.bind {α β : Type} (r : Res α) (f : α → Bw → Res β) : Res β := match r with
  | .ok a b => f a b
  | .err c fs b => .err c fs b
  | .bad => .bad
theorem Res.bind_ok {α β : Type} (a : α) (b : Bw) (f : α → Bw → Res β) : (Res.ok a b).bind f = f a b := rfl

/-- what stays over a call, an expression: all but the bowl -/
structure Ext (bo : Option Addr) (H H' : Hp) : Prop where
  keep : ∀ a o, H a = some o → bo ≠ some a → (∀ ps, o ≠ .tbl ps) → H' a = some o
  dom : ∀ a, H' a = none → H a = none
theorem Ext.refl {bo : Option Addr} (H : Hp) : Ext bo H H := ⟨fun _ _ h _ _ => h, fun _ h => h⟩
theorem Ext.trans {bo : Option Addr} {H H1 H2 : Hp} (a : Ext bo H H1) (b : Ext bo H1 H2) : Ext bo H H2 := ⟨fun c o h n m => b.keep c o (a.keep c o h n m) n m, fun c h => a.dom c (b.dom c h)⟩
theorem Ext.new {bo : Option Addr} {H : Hp} {p : Addr} {o : HO} (h : H p = none) : Ext bo H (upd H p o) :=
  ⟨fun a u e _ _ => by rw [upd_ne (ne_of_none e h)]; exact e, fun a e => by
    by_cases q : a = p
    · subst q
      exact h
    · rw [upd_ne q] at e
      exact e⟩
def BwOk (bo : Option Addr) (b : Bw) (H : Hp) : Prop := match bo, b with
  | some a, some l => H a = some (.lst (l.map V.int))
  | none, none => True
  | _, _ => False

/-- a new list, dict at a, its elements visible in Hv -/
def RepTop (R : RC) (H Hv : Hp) (d : D) (a : Addr) : Prop := match d with
  | .lst l => ∃ vs, H a = some (.lst vs) ∧ RepL R Hv l vs ∧ l.length ≤ LIM
  | .dct ks ds => ∃ vs, RepL R Hv ds vs ∧ ks.length ≤ LIM ∧
      ((∃ kk : List Key, H a = some (.dK (kk.zip vs)) ∧ ks = kk.map keyD ∧ kk.length = vs.length) ∨
       (∃ kk : List (List Key), H a = some (.dT (kk.zip vs)) ∧ ks = kk.map tkeyD ∧ kk.length = vs.length))
  | _ => False
def plus (O : Addr → Prop) (a : Addr) : Addr → Prop := fun b => O b ∨ b = a
def RepW (R : RC) (O : Addr → Prop) (H0 H' : Hp) : Wv → V → Prop
  | .val d, v => Rep R (vis H' O) d v
  | .own d, v => ∃ a, v = .ref a ∧ H0 a = none ∧ ¬ O a ∧ RepTop R H' (vis H' (plus O a)) d a

theorem RepTop.rep {R : RC} {H Hv Hv' : Hp} {d : D} {a : Addr} (h : RepTop R H Hv d a) (s : Sub Hv Hv') (ha : Hv' a = H a) : Rep R Hv' d (.ref a) := by
  cases d with
  | lst l =>
    obtain ⟨vs, h1, h2, h3⟩ := h
    exact ⟨a, vs, rfl, .inl (.inl (ha.trans h1)), RepL.mono s h2, h3⟩
  | dct ks ds =>
    obtain ⟨vs, h1, h2, h3⟩ := h
    refine ⟨a, vs, rfl, RepL.mono s h1, h2, ?_⟩
    rcases h3 with ⟨kk, q, r⟩ | ⟨kk, q, r⟩
    · exact .inl ⟨kk, .inl (ha.trans q), r⟩
    · exact .inr ⟨kk, .inl (ha.trans q), r⟩
  | _ => exact h.elim
theorem vis_at {H : Hp} {O : Addr → Prop} {a : Addr} (n : ¬ O a) : vis H O a = H a := by
  unfold vis
  rw [if_neg n]
/-- a new thing as a value -/
theorem RepW.rep {R : RC} {O : Addr → Prop} {H0 H' : Hp} {w : Wv} {v : V} (h : RepW R O H0 H' w v) : Rep R (vis H' O) w.d v := by
  cases w with
  | val d => exact h
  | own d =>
    obtain ⟨a, e, h0, hO, h1⟩ := h
    subst e
    exact h1.rep (vis_sub fun b q => .inl q) (vis_at hO)

/-! ### a body's parameters, the state -/
structure BP where
  R : RC
  T : List NdefX.NTab
  O : Addr → Prop
  He : Hp
  W : WX
  P : Hp
def ownO (O : Addr → Prop) (env : Sls) (σ : L2.St) : Addr → Prop := fun a => O a ∨ ∃ (i : Nat) (d : D), env[i]? = some (.own d) ∧ σ[i]? = some (some (.ref a))
structure Rel (B : BP) (env : Sls) (b : Bw) (σ : L2.St) (H : Hp) : Prop where
  len : env.length = σ.length
  val : ∀ (i : Nat) (d : D), env[i]? = some (.val d) → ∃ v, σ[i]? = some (some v) ∧ Rep B.R (vis H (ownO B.O env σ)) d v
  own : ∀ (i : Nat) (d : D), env[i]? = some (.own d) → ∃ a, σ[i]? = some (some (.ref a)) ∧ ¬ B.O a ∧ B.He a = none ∧ RepTop B.R H (vis H (ownO B.O env σ)) d a
  sep : ∀ (i j : Nat) (d e : D) (a : Addr), env[i]? = some (.own d) → env[j]? = some (.own e) → σ[i]? = some (some (.ref a)) → σ[j]? = some (some (.ref a)) → i = j
  bow : BwOk B.R.bo b H
  bO : ∀ a, B.R.bo = some a → B.O a
  odom : ∀ a, B.O a → ∃ o, H a = some o
  tab : NdefX.TabsN B.T H
  ext : Ext B.R.bo B.He H
  pin : Sub B.P (vis H (ownO B.O env σ))
section
variable {B : BP} {env : Sls} {b : Bw} {σ : L2.St} {H H' : Hp}
theorem RepTop.there {R : RC} {Hv : Hp} {d : D} {a : Addr} (h : RepTop R H Hv d a) : ∃ o, H a = some o ∧ ∀ ps, o ≠ .tbl ps := by
  cases d with
  | lst l =>
    obtain ⟨vs, h1, _⟩ := h
    exact ⟨_, h1, fun _ z => by cases z⟩
  | dct ks ds =>
    obtain ⟨vs, _, _, ⟨kk, q, _⟩ | ⟨kk, q, _⟩⟩ := h
    · exact ⟨_, q, fun _ z => by cases z⟩
    · exact ⟨_, q, fun _ z => by cases z⟩
  | _ => exact h.elim
theorem Rel.od (I : Rel B env b σ H) {a : Addr} (h : ownO B.O env σ a) : ∃ o, H a = some o := by
  rcases h with h | ⟨i, d, h1, h2⟩
  · exact I.odom a h
  · obtain ⟨a', e, _, _, r⟩ := I.own i d h1
    rw [h2] at e
    cases e
    obtain ⟨o, q, _⟩ := r.there
    exact ⟨o, q⟩
theorem Rel.bOO (I : Rel B env b σ H) {a : Addr} (h : B.R.bo = some a) : ownO B.O env σ a := .inl (I.bO a h)
/-- the visible part stays -/
theorem vis_ext {bo : Option Addr} {O : Addr → Prop} (x : Ext bo H H') (hb : ∀ a, bo = some a → O a) : Sub (vis H O) (vis H' O) := fun a o e n => by
  obtain ⟨e1, e2⟩ := of_vis e
  exact vis_of (x.keep a o e1 (fun q => e2 (hb a q)) n) e2
theorem RepTop.ext {bo : Option Addr} {R : RC} {Hv Hv' : Hp} {d : D} {a : Addr} (x : Ext bo H H') (na : bo ≠ some a) (s : Sub Hv Hv') (h : RepTop R H Hv d a) : RepTop R H' Hv' d a := by
  cases d with
  | lst l =>
    obtain ⟨vs, h1, h2, h3⟩ := h
    exact ⟨vs, x.keep a _ h1 na (fun _ z => by cases z), RepL.mono s h2, h3⟩
  | dct ks ds =>
    obtain ⟨vs, h1, h2, h3⟩ := h
    refine ⟨vs, RepL.mono s h1, h2, ?_⟩
    rcases h3 with ⟨kk, q, r⟩ | ⟨kk, q, r⟩
    · exact .inl ⟨kk, x.keep a _ q na (fun _ z => by cases z), r⟩
    · exact .inr ⟨kk, x.keep a _ q na (fun _ z => by cases z), r⟩
  | _ => exact h.elim
/-- the state behind an expression's part -/
theorem Rel.go {b' : Bw} (I : Rel B env b σ H) (x : Ext B.R.bo H H') (hb : BwOk B.R.bo b' H') (t : NdefX.TabsN B.T H') : Rel B env b' σ H' where
  len := I.len
  val := fun i d e => by
    obtain ⟨v, h1, h2⟩ := I.val i d e
    exact ⟨v, h1, h2.mono (vis_ext x fun a q => I.bOO q)⟩
  own := fun i d e => by
    obtain ⟨a, h1, h2, h3, h4⟩ := I.own i d e
    exact ⟨a, h1, h2, h3, h4.ext x (fun q => h2 (I.bO a q)) (vis_ext x fun a q => I.bOO q)⟩
  sep := I.sep
  bow := hb
  bO := I.bO
  odom := fun a h => by
    obtain ⟨o, e⟩ := I.odom a h
    cases q : H' a with
    | some o' => exact ⟨o', rfl⟩
    | none =>
      rw [x.dom a q] at e
      cases e
  tab := t
  ext := I.ext.trans x
  pin := I.pin.trans (vis_ext x fun a q => I.bOO q)
theorem RepW.go {R : RC} {O : Addr → Prop} {H0 : Hp} {w : Wv} {v : V} (h : RepW R O H0 H w v) (x : Ext R.bo H H') (hb : ∀ a, R.bo = some a → O a) : RepW R O H0 H' w v := by
  cases w with
  | val d => exact Rep.mono (vis_ext x hb) h
  | own d =>
    obtain ⟨a, e, h0, hO, h1⟩ := h
    exact ⟨a, e, h0, hO, h1.ext x (fun q => hO (hb a q)) (vis_ext x fun a q => .inl (hb a q))⟩
theorem RepW.back {R : RC} {O : Addr → Prop} {H0 H1 : Hp} {w : Wv} {v : V} (h : RepW R O H1 H w v) (x : ∀ a, H1 a = none → H0 a = none) : RepW R O H0 H w v := by
  cases w with
  | val d => exact h
  | own d =>
    obtain ⟨a, e, h0, hO, h1⟩ := h
    exact ⟨a, e, x a h0, hO, h1⟩
end

/-! ### readings -/
/-- the fields of the instances of an error class -/
def errGiven : List Str := ["InvalidNumber", "InvalidFraction", "InvalidGroup", "InvalidWord", "InvalidCommand", "UnknownPerson", "NotACircle", "NotACase", "NotABook"]
def errIndex : List Str := ["InvalidPeople", "InvalidTrust", "InvalidMinds", "InvalidFirmness", "InvalidMeetings", "InvalidStrays", "InvalidWeb", "InvalidText"]
def errAttrs (c : Str) : List Str := if c ∈ errGiven then ["given"] else if c ∈ errIndex then ["index"] else []
/-- an exception in the air: its class, its fields -/
def RepX (R : RC) (H : Hp) (c : Str) (fs : List D) (cls : Value) (d : Option Addr) : Prop :=
  ∃ C, R.mg c = some (.ref C) ∧ cls = .ref C ∧ match fs with
    | [] => d = none
    | _ => ∃ dd vs, d = some dd ∧ H dd = some (.xd (List.zip (errAttrs c) vs)) ∧ (errAttrs c).length = fs.length ∧ RepL R H fs vs

abbrev Rho (α γ : Type) := RC → (Addr → Prop) → Hp → Hp → α → γ → Prop
def wpG {α γ : Type} (B : BP) (ρ : Rho α γ) (O : Addr → Prop) (H : Hp) (r : Res α) (σ : L2.St) (Q : γ → Hp → Prop) : Prop := match r with
  | .ok a b => ∀ x H', Ext B.R.bo H H' → BwOk B.R.bo b H' → NdefX.TabsN B.T H' → ρ B.R O H H' a x → Q x H'
  | .err c fs b => ∀ cls d H', Ext B.R.bo H H' → BwOk B.R.bo b H' → NdefX.TabsN B.T H' → RepX B.R (vis H' O) c fs cls d → B.W cls d σ H'
  | .bad => False
def rd {α γ : Type} (B : BP) (ρ : Rho α γ) (ev : Sls → Bw → Res α) : L2.St → Hp → (γ → Hp → Prop) → Prop := fun σ H Q =>
  ∃ env b, Rel B env b σ H ∧ wpG B ρ (ownO B.O env σ) H (ev env b) σ Q
def rhoB : Rho Bool Bool := fun _ _ _ _ a x => a = x
def rhoL : Rho (List D) (List V) := fun R O _ H' a x => RepL R (vis H' O) a x
abbrev Ev := Sls → Bw → Res Wv
abbrev EvT := Sls → Bw → Res Bool
abbrev EvA := Sls → Bw → Res (List D)
abbrev rdE (B : BP) (ev : Ev) : TE := rd B RepW ev
abbrev rdT (B : BP) (ev : EvT) : TT := rd B rhoB ev
abbrev rdA (B : BP) (ev : EvA) : TA := rd B rhoL ev
abbrev DE (B : BP) (X : Cx) (e : Expr) (ev : Ev) : Prop := PE X e (rdE B ev)
abbrev DT (B : BP) (X : Cx) (e : Expr) (ev : EvT) : Prop := PT X e (rdT B ev)
abbrev DA (B : BP) (X : Cx) (es : List Expr) (ev : EvA) : Prop := PA X es (rdA B ev)
/-- Rho's that stay -/
structure Stays {α γ : Type} (ρ : Rho α γ) : Prop where
  go : ∀ {R : RC} {O : Addr → Prop} {H0 H H' : Hp} {a : α} {x : γ}, ρ R O H0 H a x → Ext R.bo H H' → (∀ a, R.bo = some a → O a) → ρ R O H0 H' a x
  back : ∀ {R : RC} {O : Addr → Prop} {H0 H1 H : Hp} {a : α} {x : γ}, ρ R O H1 H a x → (∀ a, H1 a = none → H0 a = none) → ρ R O H0 H a x
theorem staysW : Stays RepW := ⟨RepW.go, RepW.back⟩
theorem staysB : Stays rhoB := ⟨fun h _ _ => h, fun h _ => h⟩
theorem staysL : Stays rhoL := ⟨fun h x hb => RepL.mono (vis_ext x hb) h, fun h _ => h⟩

theorem imp_PE {X : Cx} {e : Expr} {t u : TE} (h : PE X e t) (hi : ∀ σ H Q, u σ H Q → t σ H Q) : PE X e u := ⟨fun pins s σ H Q I q => h.run pins s σ H Q I (hi σ H Q q)⟩
theorem imp_PT {X : Cx} {e : Expr} {t u : TT} (h : PT X e t) (hi : ∀ σ H Q, u σ H Q → t σ H Q) : PT X e u := ⟨fun pins s σ H Q I q => h.run pins s σ H Q I (hi σ H Q q)⟩
theorem imp_PA {X : Cx} {e : List Expr} {t u : TA} (h : PA X e t) (hi : ∀ σ H Q, u σ H Q → t σ H Q) : PA X e u := ⟨fun pos pins s σ H Q I q => h.run pos pins s σ H Q I (hi σ H Q q)⟩

section
variable {B : BP} {α α1 α2 γ γ1 γ2 : Type} {ρ : Rho α γ} {ρ1 : Rho α1 γ1} {ρ2 : Rho α2 γ2} {σ : L2.St} {H : Hp} {Q : γ → Hp → Prop}
theorem wpG_err {O : Addr → Prop} {H1 : Hp} {c : Str} {fs : List D} {b : Bw} {Q' : γ1 → Hp → Prop} (h : wpG B ρ O H (.err c fs b) σ Q) (x : Ext B.R.bo H H1) : wpG B ρ1 O H1 (.err c fs b) σ Q' :=
  fun cls d H' e1 e2 e3 e4 => h cls d H' (x.trans e1) e2 e3 e4
/-- one part, then the rest -/
theorem rd_bind {ev : Sls → Bw → Res α1} {k : α1 → Sls → Bw → Res α} {Q1 : γ1 → Hp → Prop} (h : rd B ρ (fun env b => (ev env b).bind fun a b1 => k a env b1) σ H Q)
    (hq : ∀ env a b1 x H1, Rel B env b1 σ H1 → Ext B.R.bo H H1 → ρ1 B.R (ownO B.O env σ) H H1 a x → wpG B ρ (ownO B.O env σ) H (k a env b1) σ Q → Q1 x H1) : rd B ρ1 ev σ H Q1 := by
  obtain ⟨env, b, I, w⟩ := h
  refine ⟨env, b, I, ?_⟩
  have w : wpG B ρ (ownO B.O env σ) H ((ev env b).bind fun a b1 => k a env b1) σ Q := w
  cases e : ev env b with
  | ok a b1 =>
    rw [e] at w
    exact fun x H1 e1 e2 e3 e4 => hq env a b1 x H1 (I.go e1 e2 e3) e1 e4 w
  | err c fs b1 =>
    rw [e] at w
    exact wpG_err (ρ1 := ρ1) w (Ext.refl H)
  | bad =>
    rw [e] at w
    exact w.elim
/-- two parts, then the rest -/
theorem rd_bind2 {ev1 : Sls → Bw → Res α1} {ev2 : Sls → Bw → Res α2} {k : α1 → α2 → Sls → Bw → Res α} {Q2 : γ1 → γ2 → Hp → Prop} (s1 : Stays ρ1) (s2 : Stays ρ2)
    (h : rd B ρ (fun env b => (ev1 env b).bind fun a1 b1 => (ev2 env b1).bind fun a2 b2 => k a1 a2 env b2) σ H Q)
    (hq : ∀ env a1 a2 b2 x y H2, Rel B env b2 σ H2 → Ext B.R.bo H H2 → ρ1 B.R (ownO B.O env σ) H H2 a1 x → ρ2 B.R (ownO B.O env σ) H H2 a2 y → wpG B ρ (ownO B.O env σ) H (k a1 a2 env b2) σ Q → Q2 x y H2) :
    rd B ρ1 ev1 σ H fun x H1 => rd B ρ2 ev2 σ H1 fun y H2 => Q2 x y H2 := by
  refine rd_bind (k := fun a1 env b1 => (ev2 env b1).bind fun a2 b2 => k a1 a2 env b2) h fun env a1 b1 x H1 I1 x1 r1 w => ⟨env, b1, I1, ?_⟩
  have w : wpG B ρ (ownO B.O env σ) H ((ev2 env b1).bind fun a2 b2 => k a1 a2 env b2) σ Q := w
  cases e : ev2 env b1 with
  | ok a2 b2 =>
    rw [e] at w
    exact fun y H2 e1 e2 e3 e4 => hq env a1 a2 b2 x y H2 (I1.go e1 e2 e3) (x1.trans e1) (s1.go r1 e1 fun a q => I1.bOO q) (s2.back e4 x1.dom) w
  | err c fs b2 =>
    rw [e] at w
    exact wpG_err (ρ1 := ρ2) w x1
  | bad =>
    rw [e] at w
    exact w.elim
/-- the end: a value told -/
theorem wpG_ok {O : Addr → Prop} {a : α} {b : Bw} {x : γ} {H1 : Hp} (w : wpG B ρ O H (.ok a b) σ Q) (e1 : Ext B.R.bo H H1) (e2 : BwOk B.R.bo b H1) (e3 : NdefX.TabsN B.T H1) (e4 : ρ B.R O H H1 a x) : Q x H1 := w x H1 e1 e2 e3 e4
end
end DL

set_option Elab.async false
set_option linter.all false
set_option maxRecDepth 100000
set_option maxHeartbeats 4000000
namespace DL
open PySem PySem.Spec PyProof.Rows L2

/-! ### expressions: names, constants, operators by values -/
def dVar (i : Nat) : Ev := fun env b => match env[i]? with
  | some (.val d) => .ok (.val d) b
  | _ => .bad
def dC (d : D) : Ev := fun _ b => .ok (.val d) b
section
variable {B : BP} {X : Cx} {e a c : Expr} {es : List Expr} {ea eb ec : Ev} {pos p : Pos}
theorem rd_var {i : Nat} {σ : L2.St} {H : Hp} {Q : VK} (h : rdE B (dVar i) σ H Q) : tVar i σ H Q := by
  obtain ⟨env, b, I, w⟩ := h
  unfold dVar at w
  cases e : env[i]? with
  | none =>
    rw [e] at w
    exact False.elim w
  | some s =>
    rw [e] at w
    cases s with
    | val d =>
      obtain ⟨v, h1, h2⟩ := I.val i d e
      exact ⟨v, h1, w v H (Ext.refl H) I.bow I.tab h2⟩
    | un => exact False.elim w
    | own d => exact False.elim w
theorem de_var (i : Nat) {x : Str} (hN : X.N[i]? = some x := by rfl) (hv : Vis X.env.scope x := by first | exact Or.inl rfl | exact Or.inr (Or.inl rfl) | exact Or.inr (Or.inr rfl)) (hd : (x == ("__debug__" : Str)) = false := by decide)
    (hcd : (x == ("__classdict__" : Str)) = false := by decide) : DE B X (.Name x pos) (dVar i) := imp_PE (pe_var hN hv hd hcd) fun _ _ _ => rd_var
theorem rd_const {d : D} {v : V} (r : ∀ H, Rep B.R H d v) {σ : L2.St} {H : Hp} {Q : VK} (h : rdE B (dC d) σ H Q) : tC v σ H Q := by
  obtain ⟨env, b, I, w⟩ := h
  exact w v H (Ext.refl H) I.bow I.tab (r _)
theorem de_int {i : Int} {j : Nat} : DE B X (.Constant (.int i) j pos) (dC (.int i)) := imp_PE pe_int fun _ _ _ => rd_const (d := .int i) (v := .int i) fun _ => rfl
theorem de_bl {b : Bool} {j : Nat} : DE B X (.Constant (.bool b) j pos) (dC (.bl b)) := imp_PE pe_bl fun _ _ _ => rd_const (d := .bl b) (v := .bl b) fun _ => rfl
theorem de_non {j : Nat} : DE B X (.Constant .none j pos) (dC .non) := imp_PE pe_non fun _ _ _ => rd_const (d := .non) (v := .non) fun _ => rfl
theorem de_str {x : Str} {j : Nat} (h : okS x = true := by decide +kernel) : DE B X (.Constant (.str x) j pos) (dC (.str x)) := imp_PE pe_str fun _ _ _ => rd_const (d := .str x) (v := .str x) fun _ => ⟨rfl, h⟩
/-- a module's name: a def, a class as a value; a constant -/
theorem de_glo {x : Str} {f : Addr} (hg : Gl X x) (hm : X.mg x = some (.ref f)) (hR : B.R.mg = X.mg := by rfl) (hd : (x == ("__debug__" : Str)) = false := by decide) : DE B X (.Name x pos) (dC (.glo x)) :=
  imp_PE (pe_glob (v := .ref f) hg hm rfl hd) fun _ _ _ => rd_const (d := .glo x) (v := .ref f) fun _ => ⟨f, rfl, by rw [hR]; exact hm⟩
theorem de_gcon {x : Str} {d : D} {v : V} {u : Value} (hg : Gl X x) (hm : X.mg x = some u) (r : RelV v u) (hr : ∀ H, Rep B.R H d v) (hd : (x == ("__debug__" : Str)) = false := by decide) : DE B X (.Name x pos) (dC d) :=
  imp_PE (pe_glob (v := v) hg hm r hd) fun _ _ _ => rd_const hr
theorem de_ty {x : Str} {n : String} (hg : Gl X x) (hm : X.mg x = none) (hv : bootBuiltins x = some (.type n)) (hn : x ≠ "__name__" := by decide) (hd : (x == ("__debug__" : Str)) = false := by decide) : DE B X (.Name x pos) (dC (.ty n)) :=
  imp_PE (pe_bltn (v := .ty n) hg hm hv rfl hn hd) fun _ _ _ => rd_const (d := .ty n) (v := .ty n) fun _ => rfl

/-! ### values in, a value out -/
abbrev Nw (R : RC) (O : Addr → Prop) (H : Hp) (w : Wv) (Q : VK) : Prop := ∀ v H', Same H H' → RepW R O H H' w v → Q v H'
def H2ok (R : RC) (f : D → D → Option Wv) (r : R2) : Prop := ∀ d1 d2 w x y H O (Q : VK), f d1 d2 = some w → (∀ a, H a = none → ¬ O a) → Rep R (vis H O) d1 x → Rep R (vis H O) d2 y → Nw R O H w Q → r x y H Q
def H1ok (R : RC) (f : D → Option Wv) (r : V → Hp → VK → Prop) : Prop := ∀ d1 w x H O (Q : VK), f d1 = some w → (∀ a, H a = none → ¬ O a) → Rep R (vis H O) d1 x → Nw R O H w Q → r x H Q
def HLok (R : RC) (f : List D → Option Wv) (r : List V → Hp → VK → Prop) : Prop := ∀ ds w vs H O (Q : VK), f ds = some w → (∀ a, H a = none → ¬ O a) → RepL R (vis H O) ds vs → Nw R O H w Q → r vs H Q
theorem same_ext {bo : Option Addr} {H H' : Hp} (s : Same H H') : Ext bo H H' := ⟨fun a o h _ _ => s a o h, fun a h => s.free h⟩
theorem bw_same {bo : Option Addr} {b : Bw} {H H' : Hp} (h : BwOk bo b H) (s : Same H H') : BwOk bo b H' := by
  cases bo <;> cases b <;> first | exact h | exact s _ _ h
theorem tabs_same {T : List NdefX.NTab} {H H' : Hp} (h : NdefX.TabsN T H) (s : Same H H') : NdefX.TabsN T H' := h.ext s
def optR (o : Option Wv) (b : Bw) : Res Wv := match o with
  | some w => .ok w b
  | none => .bad
theorem nw_of {env : Sls} {b : Bw} {σ : L2.St} {H0 H : Hp} {w : Wv} {Q : VK} (I : Rel B env b σ H) (x : Ext B.R.bo H0 H) (q : wpG B RepW (ownO B.O env σ) H0 (.ok w b) σ Q) : Nw B.R (ownO B.O env σ) H w Q :=
  fun v H' s r => q v H' (x.trans (same_ext s)) (bw_same I.bow s) (tabs_same I.tab s) (r.back x.dom)
theorem Rel.nod {env : Sls} {b : Bw} {σ : L2.St} {H : Hp} (I : Rel B env b σ H) : ∀ a, H a = none → ¬ ownO B.O env σ a := fun a h q => by
  obtain ⟨o, e⟩ := I.od q
  rw [h] at e
  cases e
def dOp2 (f : D → D → Option Wv) (ea eb : Ev) : Ev := fun env b => (ea env b).bind fun a1 b1 => (eb env b1).bind fun a2 b2 => optR (f a1.d a2.d) b2
def dOp1 (f : D → Option Wv) (ea : Ev) : Ev := fun env b => (ea env b).bind fun a1 b1 => optR (f a1.d) b1
def dOpL (f : List D → Option Wv) (ea : EvA) : Ev := fun env b => (ea env b).bind fun a1 b1 => optR (f a1) b1
theorem rd_op2 {f : D → D → Option Wv} {r : R2} (hk : H2ok B.R f r) {σ : L2.St} {H : Hp} {Q : VK} (h : rdE B (dOp2 f ea eb) σ H Q) : tOp r (rdE B ea) (rdE B eb) σ H Q := by
  refine rd_bind2 (k := fun a1 a2 _ b2 => optR (f a1.d a2.d) b2) staysW staysW h fun env a1 a2 b2 x y H2 I2 x2 r1 r2 w => ?_
  cases e : f a1.d a2.d with
  | none =>
    rw [e] at w
    exact False.elim w
  | some v =>
    rw [e] at w
    exact hk _ _ v x y H2 _ Q e I2.nod r1.rep r2.rep (nw_of I2 x2 w)
theorem rd_op1 {f : D → Option Wv} {r : V → Hp → VK → Prop} (hk : H1ok B.R f r) {σ : L2.St} {H : Hp} {Q : VK} (h : rdE B (dOp1 f ea) σ H Q) : rdE B ea σ H fun x H1 => r x H1 Q := by
  refine rd_bind (k := fun a1 _ b1 => optR (f a1.d) b1) h fun env a1 b1 x H1 I1 x1 r1 w => ?_
  cases e : f a1.d with
  | none =>
    rw [e] at w
    exact False.elim w
  | some v =>
    rw [e] at w
    exact hk _ v x H1 _ Q e I1.nod r1.rep (nw_of I1 x1 w)
theorem rd_opL {A : EvA} {f : List D → Option Wv} {r : List V → Hp → VK → Prop} (hk : HLok B.R f r) {σ : L2.St} {H : Hp} {Q : VK} (h : rdE B (dOpL f A) σ H Q) : rdA B A σ H fun x H1 => r x H1 Q := by
  refine rd_bind (k := fun a1 _ b1 => optR (f a1) b1) h fun env a1 b1 x H1 I1 x1 r1 w => ?_
  cases e : f a1 with
  | none =>
    rw [e] at w
    exact False.elim w
  | some v =>
    rw [e] at w
    exact hk _ v x H1 _ Q e I1.nod r1 (nw_of I1 x1 w)
theorem de_bin {op : Operator} {f : D → D → Option Wv} {r : R2} (ho : OpR X (binaryOp op) r) (hk : H2ok B.R f r) (ha : DE B X a ea) (hb : DE B X c eb) : DE B X (.BinOp a op c pos) (dOp2 f ea eb) :=
  imp_PE (pe_op ho ha hb) fun _ _ _ => rd_op2 hk
theorem de_cmp {op : CmpOp} {f : D → D → Option Wv} {r : R2} (ho : OpR X (compareOp op) r) (hk : H2ok B.R f r) (ha : DE B X a ea) (hb : DE B X c eb) (hm : behindInMarks op c = false := by first | exact nomark _ | rfl) : DE B X (.Compare a [op] [c] pos) (dOp2 f ea eb) :=
  imp_PE (pe_cmpR ho ha hb hm) fun _ _ _ => rd_op2 hk
theorem de_un {op : UnaryOp} {f : D → Option Wv} {r : V → Hp → VK → Prop} (ho : UnR X (unaryOp op) r) (hk : H1ok B.R f r) (ha : DE B X a ea) : DE B X (.UnaryOp op a pos) (dOp1 f ea) :=
  imp_PE (pe_un ho ha) fun _ _ _ => rd_op1 hk
theorem de_ix {f : D → D → Option Wv} {r : R2} (ho : IxR X r) (hk : H2ok B.R f r) (ha : DE B X a ea) (hb : DE B X c eb) (hs : PlainIx c := by exact fun _ _ => rfl) : DE B X (.Subscript a c pos) (dOp2 f ea eb) :=
  imp_PE (pe_ix ho ha hb hs) fun _ _ _ => rd_op2 hk

/-! ### tests -/
def dTst (ev : Ev) : EvT := fun env b => (ev env b).bind fun w b1 => match w.d with
  | .bl c => .ok c b1
  | _ => .bad
theorem rd_tst {ev : Ev} {σ : L2.St} {H : Hp} {Q : Bool → Hp → Prop} (h : rdT B (dTst ev) σ H Q) : rdE B ev σ H fun x H' => ∃ k, x = .bl k ∧ Q k H' := by
  refine rd_bind (k := fun w _ b1 => match w.d with | .bl c => .ok c b1 | _ => .bad) h fun env a1 b1 x H1 I1 x1 r1 w => ?_
  have r := r1.rep
  cases e : a1.d with
  | bl c =>
    rw [e] at r w
    have w : wpG B rhoB (ownO B.O env σ) H (.ok c b1) σ Q := w
    exact ⟨c, r, w c H1 x1 I1.bow I1.tab rfl⟩
  | _ =>
    rw [e] at w
    exact False.elim w
theorem dt_cmp {op : CmpOp} {f : D → D → Option Wv} {r : R2} (ho : OpR X (compareOp op) r) (hk : H2ok B.R f r) (ha : DE B X a ea) (hb : DE B X c eb) (hm : behindInMarks op c = false := by first | exact nomark _ | rfl) : DT B X (.Compare a [op] [c] pos) (dTst (dOp2 f ea eb)) :=
  imp_PT (pt_cmpR ho ha hb hm) fun σ H Q h => rd_op2 hk (rd_tst h)
theorem dt_val {ev : Ev} (h : DE B X e ev) (he : ∀ whole, isTrue e X.env whole = (do let v ← whole; standAt e.pos; holding [v] (truthy v)) := by intro _; rfl) : DT B X e (dTst ev) :=
  imp_PT (pt_val h he) fun σ H Q h => rd_tst h
def dAnd (t u : EvT) : EvT := fun env b => (t env b).bind fun c b1 => if c = true then u env b1 else .ok false b1
def dOr (t u : EvT) : EvT := fun env b => (t env b).bind fun c b1 => if c = true then .ok true b1 else u env b1
def dNot (t : EvT) : EvT := fun env b => (t env b).bind fun c b1 => .ok (!c) b1
/-- a branch behind a part: the rest as a reading of its own -/
theorem rd_rest {α γ : Type} {ρ : Rho α γ} (s : Stays ρ) {ev : Sls → Bw → Res α} {env : Sls} {b : Bw} {σ : L2.St} {H0 H : Hp} {Q : γ → Hp → Prop} (I : Rel B env b σ H) (x : Ext B.R.bo H0 H) (w : wpG B ρ (ownO B.O env σ) H0 (ev env b) σ Q) : rd B ρ ev σ H Q := by
  refine ⟨env, b, I, ?_⟩
  cases e : ev env b with
  | ok a b1 =>
    rw [e] at w
    exact fun y H' e1 e2 e3 e4 => w y H' (x.trans e1) e2 e3 (s.back e4 x.dom)
  | err c fs b1 =>
    rw [e] at w
    exact fun cls d H' e1 e2 e3 e4 => w cls d H' (x.trans e1) e2 e3 e4
  | bad =>
    rw [e] at w
    exact False.elim w
abbrev DW (B : BP) (X : Cx) (e : Expr) (ev : EvT) : Prop := PW X e (rdT B ev)
theorem imp_PW {X : Cx} {e : Expr} {t u : TT} (h : PW X e t) (hi : ∀ σ H Q, u σ H Q → t σ H Q) : PW X e u := ⟨fun wh pins s σ H Q I q => h.run wh pins s σ H Q I (hi σ H Q q)⟩
variable {tA tB : EvT} {rest : List Expr}
theorem rd_and {σ : L2.St} {H : Hp} {Q : Bool → Hp → Prop} (h : rdT B (dAnd tA tB) σ H Q) : tAnd (rdT B tA) (rdT B tB) σ H Q := by
  refine rd_bind (ρ1 := rhoB) (k := fun c env b1 => if c = true then tB env b1 else .ok false b1) h fun env c b1 x H1 I1 x1 r1 w => ?_
  cases (show c = x from r1)
  cases c with
  | true => exact rd_rest staysB I1 x1 w
  | false =>
    rw [if_neg Bool.false_ne_true]
    exact wpG_ok (x := false) w x1 I1.bow I1.tab rfl
theorem rd_or {σ : L2.St} {H : Hp} {Q : Bool → Hp → Prop} (h : rdT B (dOr tA tB) σ H Q) : tOr (rdT B tA) (rdT B tB) σ H Q := by
  refine rd_bind (ρ1 := rhoB) (k := fun c env b1 => if c = true then .ok true b1 else tB env b1) h fun env c b1 x H1 I1 x1 r1 w => ?_
  cases (show c = x from r1)
  cases c with
  | false => exact rd_rest staysB I1 x1 w
  | true =>
    rw [if_pos rfl]
    exact wpG_ok (x := true) w x1 I1.bow I1.tab rfl
theorem rd_not {σ : L2.St} {H : Hp} {Q : Bool → Hp → Prop} (h : rdT B (dNot tA) σ H Q) : tNot (rdT B tA) σ H Q := by
  refine rd_bind (ρ1 := rhoB) (k := fun c env b1 => .ok (!c) b1) h fun env c b1 x H1 I1 x1 r1 w => ?_
  cases (show c = x from r1)
  exact wpG_ok (x := !c) w x1 I1.bow I1.tab rfl
theorem dw_and1 (ha : DT B X a tA) : DW B X (.BoolOp .And [a] pos) tA := pw_and1 ha
theorem dw_or1 (ha : DT B X a tA) : DW B X (.BoolOp .Or [a] pos) tA := pw_or1 ha
theorem dw_and (ha : DT B X a tA) (hb : DW B X (.BoolOp .And (c :: rest) pos) tB) : DW B X (.BoolOp .And (a :: c :: rest) pos) (dAnd tA tB) := imp_PW (pw_and ha hb) fun _ _ _ => rd_and
theorem dw_or (ha : DT B X a tA) (hb : DW B X (.BoolOp .Or (c :: rest) pos) tB) : DW B X (.BoolOp .Or (a :: c :: rest) pos) (dOr tA tB) := imp_PW (pw_or ha hb) fun _ _ _ => rd_or
theorem dt_not (ha : DT B X a tA) : DT B X (.UnaryOp .Not a pos) (dNot tA) := imp_PT (pt_not ha) fun _ _ _ => rd_not

/-! ### and, or, not as values -/
def dAndV (ea eb : Ev) : Ev := fun env b => (ea env b).bind fun w b1 => match w.d with
  | .bl c => if c = true then eb env b1 else .ok (.val (.bl false)) b1
  | _ => .bad
def dOrV (ea eb : Ev) : Ev := fun env b => (ea env b).bind fun w b1 => match w.d with
  | .bl c => if c = true then .ok (.val (.bl true)) b1 else eb env b1
  | _ => .bad
def dNotV (ea : Ev) : Ev := dOp1 (fun d => match d with | .bl c => some (.val (.bl (!c))) | _ => none) ea
theorem rd_andV {σ : L2.St} {H : Hp} {Q : VK} (h : rdE B (dAndV ea eb) σ H Q) : tAndV (rdE B ea) (rdE B eb) σ H Q := by
  refine rd_bind (k := fun w env b1 => match w.d with | .bl c => if c = true then eb env b1 else .ok (.val (.bl false)) b1 | _ => .bad) h fun env a1 b1 x H1 I1 x1 r1 w => ?_
  have r := r1.rep
  cases e : a1.d with
  | bl c =>
    rw [e] at r w
    refine ⟨c, r, ?_⟩
    cases c with
    | true => exact rd_rest staysW I1 x1 w
    | false =>
      rw [if_neg Bool.false_ne_true]
      exact wpG_ok (x := V.bl false) w x1 I1.bow I1.tab rfl
  | _ =>
    rw [e] at w
    exact False.elim w
theorem rd_orV {σ : L2.St} {H : Hp} {Q : VK} (h : rdE B (dOrV ea eb) σ H Q) : tOrV (rdE B ea) (rdE B eb) σ H Q := by
  refine rd_bind (k := fun w env b1 => match w.d with | .bl c => if c = true then .ok (.val (.bl true)) b1 else eb env b1 | _ => .bad) h fun env a1 b1 x H1 I1 x1 r1 w => ?_
  have r := r1.rep
  cases e : a1.d with
  | bl c =>
    rw [e] at r w
    refine ⟨c, r, ?_⟩
    cases c with
    | false => exact rd_rest staysW I1 x1 w
    | true =>
      rw [if_pos rfl]
      exact wpG_ok (x := V.bl true) w x1 I1.bow I1.tab rfl
  | _ =>
    rw [e] at w
    exact False.elim w
theorem de_one {op : BoolOp} (h : DE B X a ea) : DE B X (.BoolOp op [a] pos) ea := pe_one h
theorem de_and (ha : DE B X a ea) (hb : DE B X (.BoolOp .And (c :: rest) pos) eb) : DE B X (.BoolOp .And (a :: c :: rest) pos) (dAndV ea eb) := imp_PE (pe_and ha hb) fun _ _ _ => rd_andV
theorem de_or (ha : DE B X a ea) (hb : DE B X (.BoolOp .Or (c :: rest) pos) eb) : DE B X (.BoolOp .Or (a :: c :: rest) pos) (dOrV ea eb) := imp_PE (pe_or ha hb) fun _ _ _ => rd_orV
theorem de_not (ha : DE B X a ea) : DE B X (.UnaryOp .Not a pos) (dNotV ea) := imp_PE (pe_not ha) fun σ H Q h =>
  rd_op1 (f := fun d => match d with | .bl c => some (.val (.bl (!c))) | _ => none) (r := fun x H1 Q => ∃ c, x = .bl c ∧ Q (.bl (!c)) H1) (fun d w x H O Q e _ r q => by
    cases d with
    | bl c =>
      cases e
      exact ⟨c, r, q _ H (Same.refl H) rfl⟩
    | _ => cases e) h
def dIf (t : EvT) (ea eb : Ev) : Ev := fun env b => (t env b).bind fun c b1 => if c = true then ea env b1 else eb env b1
theorem rd_if {σ : L2.St} {H : Hp} {Q : VK} (h : rdE B (dIf tA ea eb) σ H Q) : tIf (rdT B tA) (rdE B ea) (rdE B eb) σ H Q := by
  refine rd_bind (ρ1 := rhoB) (k := fun c env b1 => if c = true then ea env b1 else eb env b1) h fun env c b1 x H1 I1 x1 r1 w => ?_
  cases (show c = x from r1)
  cases c with
  | true => exact rd_rest staysW I1 x1 w
  | false => exact rd_rest staysW I1 x1 w
theorem de_ifx {t : Expr} (ht : DT B X t tA) (ha : DE B X a ea) (hb : DE B X c eb) : DE B X (.IfExp t a c pos) (dIf tA ea eb) := imp_PE (pe_ifExp ht ha hb) fun _ _ _ => rd_if

/-! ### texts alone -/
def isStrD : D → Bool
  | .str _ => true
  | _ => false
def strD (l : List D) : Bool := !l.isEmpty && l.all isStrD
theorem isStr_eq {R : RC} {H : Hp} {d : D} {v : V} (h : Rep R H d v) : isStrD d = isSV v := by
  cases d with
  | non => cases (show v = .non from h); rfl
  | bl b => cases (show v = .bl b from h); rfl
  | int b => cases (show v = .int b from h); rfl
  | str x => obtain ⟨rfl, _⟩ := h; rfl
  | tup l => obtain ⟨a, vs, rfl, _⟩ := h; rfl
  | lst l => obtain ⟨a, vs, rfl, _⟩ := h; rfl
  | dct a b => obtain ⟨a, vs, rfl, _⟩ := h; rfl
  | obj a b => obtain ⟨a, C, dx, vs, rfl, _⟩ := h; rfl
  | glo a => obtain ⟨a, rfl, _⟩ := h; rfl
  | ty a => cases (show v = .ty a from h); rfl
  | clo a => obtain ⟨a, rfl, _⟩ := h; rfl
  | bowl => obtain ⟨a, rfl, _⟩ := h; rfl
theorem all_eq {R : RC} {H : Hp} : ∀ {ds : List D} {vs : List V}, RepL R H ds vs → ds.all isStrD = vs.all isSV
  | [], _, h => by
    cases h
    rfl
  | d :: ds, vs, h => by
    obtain ⟨v, r, rfl, h1, h2⟩ := h
    rw [List.all_cons, List.all_cons, isStr_eq h1, all_eq h2]
theorem strD_eq {R : RC} {H : Hp} {ds : List D} {vs : List V} (h : RepL R H ds vs) : strD ds = strV vs := by
  have e := all_eq h
  unfold strD strV
  rw [e]
  have l := h.length
  cases ds <;> cases vs <;> simp_all
theorem strV_rev {vs : List V} (h : strV vs.reverse = true) : strV vs = true := by
  simpa [strV] using h
theorem strV_rep {k : Nat} {vs : List V} (h : strV (List.replicate k vs).flatten = true) : strV vs = true := by
  cases k with
  | zero => cases h
  | succ k =>
    cases vs with
    | nil =>
      have e : (List.replicate (k + 1) ([] : List V)).flatten = [] := by simp
      rw [e] at h
      cases h
    | cons v vs =>
      rw [List.replicate_succ, List.flatten_cons] at h
      simp only [strV, List.all_append, Bool.and_eq_true] at h ⊢
      exact ⟨rfl, h.2.1⟩
/-! ### argument lists, displays -/
def dNil : EvA := fun _ b => .ok [] b
def dCons (ea : Ev) (er : EvA) : EvA := fun env b => (ea env b).bind fun a1 b1 => (er env b1).bind fun r b2 => .ok (a1.d :: r) b2
theorem da_nil : DA B X [] dNil := imp_PA pa_nil fun σ H Q h => by
  obtain ⟨env, b, I, w⟩ := h
  exact wpG_ok (x := ([] : List V)) w (Ext.refl H) I.bow I.tab rfl
theorem da_cons {A : EvA} (ha : DE B X e ea) (hr : DA B X es A) (hs : starEach (e :: es) X.env = (false, eval e X.env) :: starEach es X.env := by rfl) : DA B X (e :: es) (dCons ea A) :=
  imp_PA (pa_cons ha hr hs) fun σ H Q h =>
    rd_bind2 (k := fun a1 r _ b2 => .ok (a1.d :: r) b2) staysW staysL h fun env a1 a2 b2 x y H2 I2 x2 r1 r2 w => wpG_ok (x := x :: y) w x2 I2.bow I2.tab (RepL.cons r1.rep r2)
def fTup (ds : List D) : Option Wv := if ds.length ≤ LIM then some (.val (.tup ds)) else none
def fLst (ds : List D) : Option Wv := if ds.length ≤ LIM then some (.own (.lst ds)) else none
theorem small_lim {n : Nat} (h : n ≤ LIM) : n ≤ sizeLine := Nat.le_trans h (Nat.le_of_lt lim_line)
/-- a new tuple -/
theorem new_tup {R : RC} {H : Hp} {O : Addr → Prop} {ds : List D} {vs : List V} {p : Addr} (od : ∀ a, H a = none → ¬ O a) (r : RepL R (vis H O) ds vs) (hl : ds.length ≤ LIM) (hp : H p = none) (hs : strV vs = false) : RepW R O H (upd H p (.tup vs)) (.val (.tup ds)) (.ref p) :=
  ⟨p, vs, rfl, ⟨.inl (.inl (vis_of upd_same (od p hp))), fun q => by rw [hs] at q; cases q⟩, r.mono (vis_ext (Ext.new (bo := none) hp) fun a q => by cases q), hl⟩
theorem new_tupX {R : RC} {H : Hp} {O : Addr → Prop} {ds : List D} {vs : List V} {p : Addr} {o : Obj} (od : ∀ a, H a = none → ¬ O a) (r : RepL R (vis H O) ds vs) (hl : ds.length ≤ LIM) (hp : H p = none) (hd : o.dict = none) : RepW R O H (upd H p (tupO vs o)) (.val (.tup ds)) (.ref p) := by
  have e : vis (upd H p (tupO vs o)) O p = some (tupO vs o) := vis_of upd_same (od p hp)
  have rd : Rd (vis (upd H p (tupO vs o)) O) p (.tup vs) := by
    by_cases z : strV vs = true
    · exact .inr ⟨o, e.trans (by unfold tupO; rw [if_pos z])⟩
    · exact .inl (e.trans (by unfold tupO; rw [if_neg z]))
  exact ⟨p, vs, rfl, ⟨.inl rd, fun q => tupO_ext hd q e⟩, r.mono (vis_ext (Ext.new (bo := none) hp) fun a q => by cases q), hl⟩
theorem new_lst {R : RC} {H : Hp} {O : Addr → Prop} {ds : List D} {vs : List V} {p : Addr} (od : ∀ a, H a = none → ¬ O a) (r : RepL R (vis H O) ds vs) (hl : ds.length ≤ LIM) (hp : H p = none) : RepW R O H (upd H p (.lst vs)) (.own (.lst ds)) (.ref p) :=
  ⟨p, rfl, hp, od p hp, vs, upd_same, r.mono fun a o e _ => by
    obtain ⟨e1, e2⟩ := of_vis e
    have ne := ne_of_none e1 hp
    exact vis_of (show upd H p (.lst vs) a = some o by rw [upd_ne ne]; exact e1) fun q => q.elim e2 ne, hl⟩
theorem same_upd {H : Hp} {p : Addr} {o : HO} (h : H p = none) : Same H (upd H p o) := fun b x e => by
  rw [upd_ne (ne_of_none e h)]
  exact e
theorem hl_tup {R : RC} : HLok R fTup fun xs H1 Q => xs.length ≤ sizeLine ∧ ∀ p o, H1 p = none → o.dict = none → Q (.ref p) (upd H1 p (tupO xs o)) := fun ds w vs H O Q e od r q => by
  unfold fTup at e
  split at e
  · rename_i hl
    cases e
    exact ⟨by rw [← r.length]; exact small_lim hl, fun p o hp hd => q _ _ (same_upd hp) (new_tupX od r hl hp hd)⟩
  · cases e
theorem hl_lst {R : RC} : HLok R fLst fun xs H1 Q => xs.length ≤ sizeLine ∧ ∀ p, H1 p = none → Q (.ref p) (upd H1 p (.lst xs)) := fun ds w vs H O Q e od r q => by
  unfold fLst at e
  split at e
  · rename_i hl
    cases e
    exact ⟨by rw [← r.length]; exact small_lim hl, fun p hp => q _ _ (same_upd hp) (new_lst od r hl hp)⟩
  · cases e
theorem de_tup {A : EvA} {k : Nat} (h : DA B X es A) : DE B X (.Tuple es k pos) (dOpL fTup A) := imp_PE (pe_tupX h) fun σ H Q h => rd_opL hl_tup h
theorem de_lst {A : EvA} (h : DA B X es A) : DE B X (.List es pos) (dOpL fLst A) := imp_PE (pe_lst h) fun σ H Q h => rd_opL hl_lst h

/-! ### built-ins -/
variable {x : Str} {id T : String} {r : List V → Hp → VK → Prop} {f : List D → Option Wv}
theorem de_callB {A : EvA} (hc : CallR X (.builtin id) r) (hk : HLok B.R f r) (hg : Gl X x) (hm : X.mg x = none) (hv : bootBuiltins x = some (.builtin id)) (ha : DA B X (e :: es) A) (hn : x ≠ "__name__" := by decide) (hdb : (x == ("__debug__" : Str)) = false := by decide)
    (he : starEach (e :: es) X.env = (false, eval e X.env) :: starEach es X.env := by rfl) (hpl : (backTo pos (starEach es X.env)).any (·.1) = false := by rfl) : DE B X (.Call (.Name x p) (e :: es) [] pos) (dOpL f A) :=
  imp_PE (pe_callB hc hg hm hv ha hn hdb he hpl) fun σ H Q h => rd_opL hk h
theorem de_callTy {A : EvA} (hc : CallR X (.type T) r) (hk : HLok B.R f r) (hg : Gl X x) (hm : X.mg x = none) (hv : bootBuiltins x = some (.type T)) (ha : DA B X (e :: es) A) (hn : x ≠ "__name__" := by decide) (hdb : (x == ("__debug__" : Str)) = false := by decide)
    (he : starEach (e :: es) X.env = (false, eval e X.env) :: starEach es X.env := by rfl) (hpl : (backTo pos (starEach es X.env)).any (·.1) = false := by rfl) : DE B X (.Call (.Name x p) (e :: es) [] pos) (dOpL f A) :=
  imp_PE (pe_callTy hc hg hm hv ha hn hdb he hpl) fun σ H Q h => rd_opL hk h
theorem de_callF {A : EvA} (hc : CallR X (.builtin id) r) (hk : HLok B.R f r) (hg : Gl X x) (hm : X.mg x = some (.builtin id)) (ha : DA B X (e :: es) A) (hdb : (x == ("__debug__" : Str)) = false := by decide)
    (he : starEach (e :: es) X.env = (false, eval e X.env) :: starEach es X.env := by rfl) (hpl : (backTo pos (starEach es X.env)).any (·.1) = false := by rfl) : DE B X (.Call (.Name x p) (e :: es) [] pos) (dOpL f A) :=
  imp_PE (pe_callBfun hc hg hm ha hdb he hpl) fun σ H Q h => rd_opL hk h
end
end DL

set_option Elab.async false
set_option linter.all false
set_option maxRecDepth 100000
set_option maxHeartbeats 4000000
namespace DL
open PySem PySem.Spec PyProof.Rows L2

/-! ### ints -/
def vI (i : Int) : Option Wv := some (.val (.int i))
def vB (b : Bool) : Option Wv := some (.val (.bl b))
def fI2 (g : Int → Int → Option Wv) (x y : D) : Option Wv := match x, y with
  | .int i, .int j => g i j
  | _, _ => none
theorem h2_rI {R : RC} {C : Int → Int → Prop} {g : Int → Int → V} {f : Int → Int → Option Wv} (hf : ∀ i j w, f i j = some w → C i j ∧ ∃ d, w = .val d ∧ ∀ H, Rep R H d (g i j)) : H2ok R (fI2 f) (rI C g) := fun d1 d2 w x y H O Q e od r1 r2 q => by
  cases d1 with
  | int i =>
    cases d2 with
    | int j =>
      obtain ⟨hc, d, rfl, hr⟩ := hf i j w e
      exact ⟨i, j, r1, r2, hc, q _ H (Same.refl H) (hr _)⟩
    | _ => cases e
  | _ => cases e
theorem h2_rI0 {R : RC} {g : Int → Int → V} {f : Int → Int → Option Wv} (hf : ∀ i j w, f i j = some w → ∃ d, w = .val d ∧ ∀ H, Rep R H d (g i j)) : H2ok R (fI2 f) (rI0 g) := fun d1 d2 w x y H O Q e od r1 r2 q => by
  cases d1 with
  | int i =>
    cases d2 with
    | int j =>
      obtain ⟨d, rfl, hr⟩ := hf i j w e
      exact ⟨i, j, r1, r2, q _ H (Same.refl H) (hr _)⟩
    | _ => cases e
  | _ => cases e
def fAdd : D → D → Option Wv := fI2 fun i j => vI (i + j)
def fSub : D → D → Option Wv := fI2 fun i j => vI (i - j)
def mulOk (i j : Int) : Bool := decide (i.natAbs.log2 + j.natAbs.log2 < 1000000)
def divOk (j : Int) : Bool := decide (j ≠ 0) && decide (j.natAbs.log2 < 9000)
def powOk (i j : Int) : Bool := decide (0 ≤ j) && (decide (j ≤ 1000) && decide (i.natAbs < 1000))
def fMul : D → D → Option Wv := fI2 fun i j => if mulOk i j then vI (i * j) else none
def fDiv : D → D → Option Wv := fI2 fun i j => if divOk j then vI (i.fdiv j) else none
def fMod : D → D → Option Wv := fI2 fun i j => if j = 0 then none else vI (i.fmod j)
def fPow : D → D → Option Wv := fI2 fun i j => if powOk i j then vI (i ^ j.toNat) else none
def fLt : D → D → Option Wv := fI2 fun i j => vB (decide (i < j))
def fLe : D → D → Option Wv := fI2 fun i j => vB (decide (i ≤ j))
def fGt : D → D → Option Wv := fI2 fun i j => vB (decide (j < i))
def fGe : D → D → Option Wv := fI2 fun i j => vB (decide (j ≤ i))
theorem rep_vI {R : RC} {i : Int} {w : Wv} (h : vI i = some w) : ∃ d, w = .val d ∧ ∀ H, Rep R H d (.int i) := by
  cases h
  exact ⟨_, rfl, fun _ => rfl⟩
theorem rep_vB {R : RC} {i : Bool} {w : Wv} (h : vB i = some w) : ∃ d, w = .val d ∧ ∀ H, Rep R H d (.bl i) := by
  cases h
  exact ⟨_, rfl, fun _ => rfl⟩
section
variable {B : BP} {X : Cx} {a c e : Expr} {ea eb : Ev} {pos p : Pos}
theorem op_fdivW2 : OpR X (binaryOp .FloorDiv) (rI (fun _ j => j ≠ 0 ∧ j.natAbs.log2 < 9000) fun i j => .int (i.fdiv j)) := opI fun i j _ _ _ _ _ hc q => floordiv_int hc.1 q (.inl (PyProof.noPylong_of_log2 hc.2))
theorem de_add (ha : DE B X a ea) (hb : DE B X c eb) : DE B X (.BinOp a .Add c pos) (dOp2 fAdd ea eb) := de_bin op_add (h2_rI0 fun i j w h => rep_vI h) ha hb
theorem de_sub (ha : DE B X a ea) (hb : DE B X c eb) : DE B X (.BinOp a .Sub c pos) (dOp2 fSub ea eb) := de_bin op_sub (h2_rI0 fun i j w h => rep_vI h) ha hb
theorem de_mul (ha : DE B X a ea) (hb : DE B X c eb) : DE B X (.BinOp a .Mult c pos) (dOp2 fMul ea eb) := de_bin op_mulW (h2_rI fun i j w h => by
  split at h
  · rename_i hm
    have hm2 : i.natAbs.log2 + j.natAbs.log2 < 1000000 := of_decide_eq_true hm
    exact ⟨hm2, rep_vI h⟩
  · cases h) ha hb
theorem de_div (ha : DE B X a ea) (hb : DE B X c eb) : DE B X (.BinOp a .FloorDiv c pos) (dOp2 fDiv ea eb) := de_bin op_fdivW2 (h2_rI fun i j w h => by
  split at h
  · rename_i hm
    unfold divOk at hm
    rw [Bool.and_eq_true] at hm
    exact ⟨⟨of_decide_eq_true hm.1, of_decide_eq_true hm.2⟩, rep_vI h⟩
  · cases h) ha hb
theorem de_mod (ha : DE B X a ea) (hb : DE B X c eb) : DE B X (.BinOp a .Mod c pos) (dOp2 fMod ea eb) := de_bin op_modN (h2_rI fun i j w h => by
  split at h
  · cases h
  · rename_i hm
    exact ⟨hm, rep_vI h⟩) ha hb
theorem de_pow (ha : DE B X a ea) (hb : DE B X c eb) : DE B X (.BinOp a .Pow c pos) (dOp2 fPow ea eb) := de_bin op_pow (h2_rI fun i j w h => by
  split at h
  · rename_i hm
    unfold powOk at hm
    rw [Bool.and_eq_true, Bool.and_eq_true] at hm
    have h1 := of_decide_eq_true hm.1
    have h2 := of_decide_eq_true hm.2.1
    have h3 := of_decide_eq_true hm.2.2
    exact ⟨⟨h1, by omega, by omega⟩, rep_vI h⟩
  · cases h) ha hb
def fNeg (x : D) : Option Wv := match x with
  | .int i => vI (-i)
  | _ => none
theorem de_neg (ha : DE B X a ea) : DE B X (.UnaryOp .USub a pos) (dOp1 fNeg ea) := de_un un_neg (fun d w x H O Q e od r q => by
  cases d with
  | int i =>
    cases e
    exact ⟨i, r, q _ H (Same.refl H) rfl⟩
  | _ => cases e) ha
theorem h_lt {R : RC} : H2ok R fLt (rI0 fun i j => .bl (decide (i < j))) := h2_rI0 fun i j w h => rep_vB h
theorem h_le {R : RC} : H2ok R fLe (rI0 fun i j => .bl (decide (i ≤ j))) := h2_rI0 fun i j w h => rep_vB h
theorem h_gt {R : RC} : H2ok R fGt (rI0 fun i j => .bl (decide (j < i))) := h2_rI0 fun i j w h => rep_vB h
theorem h_ge {R : RC} : H2ok R fGe (rI0 fun i j => .bl (decide (j ≤ i))) := h2_rI0 fun i j w h => rep_vB h

/-! ### is None -/
def isNon : D → Bool
  | .non => true
  | _ => false
def fIsN (x y : D) : Option Wv := match y with
  | .non => vB (isNon x)
  | _ => none
def fNotN (x y : D) : Option Wv := match y with
  | .non => vB (!isNon x)
  | _ => none
theorem rep_non {R : RC} {H : Hp} {d : D} {v : V} (h : Rep R H d v) : decide (v = .non) = isNon d := by
  cases d with
  | non =>
    cases (show v = .non from h)
    rfl
  | bl b =>
    cases (show v = .bl b from h)
    rfl
  | int b =>
    cases (show v = .int b from h)
    rfl
  | str b =>
    cases h.1
    rfl
  | ty n =>
    cases (show v = .ty n from h)
    rfl
  | tup l =>
    obtain ⟨a, vs, rfl, _⟩ := h
    rfl
  | lst l =>
    obtain ⟨a, vs, rfl, _⟩ := h
    rfl
  | dct ks ds =>
    obtain ⟨a, vs, rfl, _⟩ := h
    rfl
  | obj c fs =>
    obtain ⟨a, _, _, vs, rfl, _⟩ := h
    rfl
  | glo x =>
    obtain ⟨f, rfl, _⟩ := h
    rfl
  | clo x =>
    obtain ⟨f, rfl, _⟩ := h
    rfl
  | bowl =>
    obtain ⟨f, rfl, _⟩ := h
    rfl
theorem h_isN {R : RC} : H2ok R fIsN (fun x y H Q => y = .non ∧ Q (.bl (decide (x = .non))) H) := fun d1 d2 w x y H O Q e od r1 r2 q => by
  cases d2 with
  | non =>
    cases e
    exact ⟨r2, by rw [rep_non r1]; exact q _ H (Same.refl H) rfl⟩
  | _ => cases e
theorem h_notN {R : RC} : H2ok R fNotN (fun x y H Q => y = .non ∧ Q (.bl (!decide (x = .non))) H) := fun d1 d2 w x y H O Q e od r1 r2 q => by
  cases d2 with
  | non =>
    cases e
    exact ⟨r2, by rw [rep_non r1]; exact q _ H (Same.refl H) rfl⟩
  | _ => cases e

/-! ### == of data -/
mutual
def eqD : D → D → Bool
  | .non, .non => true
  | .bl x, .bl y => x == y
  | .bl x, .int j => (if x then 1 else 0) == j
  | .int i, .bl y => i == (if y then 1 else 0)
  | .int i, .int j => i == j
  | .str x, .str y => x == y
  | .lst xs, .lst ys => eqDs xs ys
  | .tup xs, .tup ys => eqDs xs ys
  | _, _ => false
def eqDs : List D → List D → Bool
  | [], [] => true
  | x :: xs, y :: ys => eqD x y && eqDs xs ys
  | _, _ => false
end
mutual
def pureD : Nat → D → Bool
  | _, .non | _, .bl _ | _, .int _ | _, .str _ => true
  | n + 1, .lst l => pureDs n l
  | n + 1, .tup l => pureDs n l
  | _, _ => false
def pureDs : Nat → List D → Bool
  | _, [] => true
  | n, d :: ds => pureD n d && pureDs n ds
end
mutual
def pyD : D → PyData
  | .non => .none
  | .bl b => .bool b
  | .int i => .int i
  | .str x => .str x
  | .lst l => .list (pyDs l)
  | .tup l => .tuple (pyDs l)
  | _ => .none
def pyDs : List D → List PyData
  | [] => []
  | d :: ds => pyD d :: pyDs ds
end
mutual
theorem dp_of {R : RC} {H : Hp} : ∀ {n : Nat} {d : D} {v : V}, pureD n d = true → Rep R H d v → Dp R.K H v (pyD d) ∧ (pyD d).canLay0 = true ∧ (pyD d).depth ≤ n
  | n, .non, v, _, r => by
    cases (show v = .non from r)
    exact ⟨by simp only [pyD]; exact .non, by simp [pyD, PyData.canLay0], by simp [pyD, PyData.depth]⟩
  | n, .bl b, v, _, r => by
    cases (show v = .bl b from r)
    exact ⟨by simp only [pyD]; exact .bl b, by simp [pyD, PyData.canLay0], by simp [pyD, PyData.depth]⟩
  | n, .int b, v, _, r => by
    cases (show v = .int b from r)
    exact ⟨by simp only [pyD]; exact .int b, by simp [pyD, PyData.canLay0], by simp [pyD, PyData.depth]⟩
  | n, .str b, v, _, r => by
    obtain ⟨rfl, h⟩ := r
    unfold okS at h
    rw [Bool.and_eq_true] at h
    exact ⟨by simp only [pyD]; exact .str b, by simp [pyD, PyData.canLay0, h.2], by simp [pyD, PyData.depth]⟩
  | n + 1, .lst l, v, h, r => by
    obtain ⟨a, vs, rfl, h1, h2, _⟩ := r
    obtain ⟨i, j, k⟩ := dps_of (by simpa [pureD] using h) h2
    exact ⟨by simp only [pyD]; exact .lst h1 i, by simpa [pyD, PyData.canLay0] using j, by simp only [pyD, PyData.depth]; omega⟩
  | n + 1, .tup l, v, h, r => by
    obtain ⟨a, vs, rfl, h1, h2, _⟩ := r
    obtain ⟨i, j, k⟩ := dps_of (by simpa [pureD] using h) h2
    exact ⟨by simp only [pyD]; exact .tup h1.1 i, by simpa [pyD, PyData.canLay0] using j, by simp only [pyD, PyData.depth]; omega⟩
  | 0, .lst l, _, h, _ => by simp [pureD] at h
  | 0, .tup l, _, h, _ => by simp [pureD] at h
  | n, .dct _ _, _, h, _ => by simp [pureD] at h
  | n, .obj _ _, _, h, _ => by simp [pureD] at h
  | n, .glo _, _, h, _ => by simp [pureD] at h
  | n, .ty _, _, h, _ => by simp [pureD] at h
  | n, .clo _, _, h, _ => by simp [pureD] at h
  | n, .bowl, _, h, _ => by simp [pureD] at h
theorem dps_of {R : RC} {H : Hp} : ∀ {n : Nat} {ds : List D} {vs : List V}, pureDs n ds = true → RepL R H ds vs → DpAll R.K H vs (pyDs ds) ∧ PyData.canLayAll0 (pyDs ds) = true ∧ PyData.depthAll (pyDs ds) ≤ n
  | n, [], vs, _, r => by
    cases r
    exact ⟨by simp only [pyDs]; exact .nil, by simp [pyDs, PyData.canLayAll0], by simp [pyDs, PyData.depthAll]⟩
  | n, d :: ds, vs, h, r => by
    obtain ⟨v, t, rfl, h1, h2⟩ := r
    simp only [pureDs, Bool.and_eq_true] at h
    obtain ⟨i, j, k⟩ := dp_of h.1 h1
    obtain ⟨i', j', k'⟩ := dps_of h.2 h2
    exact ⟨by simp only [pyDs]; exact .cons i i', by simp [pyDs, PyData.canLayAll0, j, j'], by simp only [pyDs, PyData.depthAll]; omega⟩
end
mutual
theorem eq_py : ∀ {n m : Nat} {d e : D}, pureD n d = true → pureD m e = true → PyData.eqv (pyD d) (pyD e) = eqD d e
  | n, m, d, e, hd, he => by
    cases d with
    | lst xs =>
      cases e with
      | lst ys =>
        cases n with
        | zero => simp [pureD] at hd
        | succ n =>
          cases m with
          | zero => simp [pureD] at he
          | succ m =>
            simp only [pyD, PyData.eqv, eqD]
            exact eqs_py (by simpa [pureD] using hd) (by simpa [pureD] using he)
      | dct _ _ => simp [pureD] at he
      | obj _ _ => simp [pureD] at he
      | glo _ => simp [pureD] at he
      | ty _ => simp [pureD] at he
      | clo _ => simp [pureD] at he
      | bowl => simp [pureD] at he
      | _ => simp [pyD, PyData.eqv, eqD]
    | tup xs =>
      cases e with
      | tup ys =>
        cases n with
        | zero => simp [pureD] at hd
        | succ n =>
          cases m with
          | zero => simp [pureD] at he
          | succ m =>
            simp only [pyD, PyData.eqv, eqD]
            exact eqs_py (by simpa [pureD] using hd) (by simpa [pureD] using he)
      | dct _ _ => simp [pureD] at he
      | obj _ _ => simp [pureD] at he
      | glo _ => simp [pureD] at he
      | ty _ => simp [pureD] at he
      | clo _ => simp [pureD] at he
      | bowl => simp [pureD] at he
      | _ => simp [pyD, PyData.eqv, eqD]
    | dct _ _ => simp [pureD] at hd
    | obj _ _ => simp [pureD] at hd
    | glo _ => simp [pureD] at hd
    | ty _ => simp [pureD] at hd
    | clo _ => simp [pureD] at hd
    | bowl => simp [pureD] at hd
    | _ =>
      cases e with
      | dct _ _ => simp [pureD] at he
      | obj _ _ => simp [pureD] at he
      | glo _ => simp [pureD] at he
      | ty _ => simp [pureD] at he
      | clo _ => simp [pureD] at he
      | bowl => simp [pureD] at he
      | _ => simp [pyD, PyData.eqv, eqD]
theorem eqs_py : ∀ {n m : Nat} {ds es : List D}, pureDs n ds = true → pureDs m es = true → PyData.eqvAll (pyDs ds) (pyDs es) = eqDs ds es
  | _, _, [], [], _, _ => by simp [pyDs, PyData.eqvAll, eqDs]
  | _, _, [], _ :: _, _, _ => by simp [pyDs, PyData.eqvAll, eqDs]
  | _, _, _ :: _, [], _, _ => by simp [pyDs, PyData.eqvAll, eqDs]
  | n, m, d :: ds, e :: es, hd, he => by
    simp only [pureDs, Bool.and_eq_true] at hd he
    simp only [pyDs, PyData.eqvAll, eqDs]
    rw [eq_py hd.1 he.1, eqs_py hd.2 he.2]
end
def PD : Nat := 60
def fEq (x y : D) : Option Wv := if pureD PD x && pureD PD y then vB (eqD x y) else none
def fNe (x y : D) : Option Wv := if pureD PD x && pureD PD y then vB (!eqD x y) else none
theorem shaped_of {d : D} {n : Nat} (hn : n ≤ 64) (h1 : (pyD d).canLay0 = true) (h2 : (pyD d).depth ≤ n) : SeqAt.shaped (pyD d) = true := by
  unfold SeqAt.shaped
  rw [h1, Bool.true_and]
  exact decide_eq_true (by omega)
theorem h_eq {R : RC} : H2ok R fEq (rEqD R.K) := fun d1 d2 w x y H O Q e od r1 r2 q => by
  unfold fEq at e
  split at e
  · rename_i hp
    rw [Bool.and_eq_true] at hp
    cases e
    obtain ⟨a1, a2, a3⟩ := dp_of hp.1 (r1.mono vis_all)
    obtain ⟨b1, b2, b3⟩ := dp_of hp.2 (r2.mono vis_all)
    refine ⟨_, _, a1, b1, shaped_of (by decide) a2 a3, shaped_of (by decide) b2 b3, ?_⟩
    rw [eq_py hp.1 hp.2]
    exact q _ H (Same.refl H) rfl
  · cases e
theorem h_ne {R : RC} : H2ok R fNe (rNeD R.K) := fun d1 d2 w x y H O Q e od r1 r2 q => by
  unfold fNe at e
  split at e
  · rename_i hp
    rw [Bool.and_eq_true] at hp
    cases e
    obtain ⟨a1, a2, a3⟩ := dp_of hp.1 (r1.mono vis_all)
    obtain ⟨b1, b2, b3⟩ := dp_of hp.2 (r2.mono vis_all)
    refine ⟨_, _, a1, b1, shaped_of (by decide) a2 a3, shaped_of (by decide) b2 b3, ?_⟩
    rw [eq_py hp.1 hp.2]
    exact q _ H (Same.refl H) rfl
  · cases e
end
end DL

set_option Elab.async false
set_option linter.all false
set_option maxRecDepth 100000
set_option maxHeartbeats 4000000
namespace DL
open PySem PySem.Spec PyProof.Rows L2

/-! ### the order of texts -/
theorem ltCps_irr : ∀ a : List Nat, ltCps a a = false
  | [] => rfl
  | x :: r => by simp [ltCps, ltCps_irr r]
theorem ltCps_asymm : ∀ a b : List Nat, ltCps a b = true → ltCps b a = false
  | [], [], h => by simp [ltCps] at h
  | [], _ :: _, _ => rfl
  | _ :: _, [], h => by simp [ltCps] at h
  | x :: r, y :: t, h => by
    simp only [ltCps, Bool.or_eq_true, Bool.and_eq_true, decide_eq_true_eq, beq_iff_eq] at h
    rcases h with h | ⟨e, h⟩
    · simp [ltCps, show ¬ y < x by omega, show ¬ y = x by omega]
    · subst e
      simp [ltCps, ltCps_asymm r t h]
theorem ltCps_tri : ∀ a b : List Nat, ltCps a b = false → ltCps b a = false → a = b
  | [], [], _, _ => rfl
  | [], _ :: _, h, _ => by simp [ltCps] at h
  | _ :: _, [], _, h => by simp [ltCps] at h
  | x :: r, y :: t, h, g => by
    simp only [ltCps, Bool.or_eq_false_iff, Bool.and_eq_false_iff, decide_eq_false_iff_not, beq_eq_false_iff_ne] at h g
    have e : x = y := by omega
    subst e
    rcases h.2 with q | q
    · exact absurd rfl q
    · rcases g.2 with q' | q'
      · exact absurd rfl q'
      · rw [ltCps_tri r t q q']
theorem ltCps_trans : ∀ a b c : List Nat, ltCps a b = true → ltCps b c = true → ltCps a c = true
  | [], _, [], _, h => by cases ‹List Nat› <;> simp [ltCps] at h
  | [], _, _ :: _, _, _ => rfl
  | _ :: _, [], _, h, _ => by simp [ltCps] at h
  | _ :: _, _ :: _, [], _, h => by simp [ltCps] at h
  | x :: r, y :: t, z :: u, h, g => by
    simp only [ltCps, Bool.or_eq_true, Bool.and_eq_true, decide_eq_true_eq, beq_iff_eq] at h g ⊢
    rcases h with h | ⟨e, h⟩
    · rcases g with g | ⟨e', g⟩
      · exact .inl (by omega)
      · exact .inl (by omega)
    · rcases g with g | ⟨e', g⟩
      · exact .inl (by omega)
      · exact .inr ⟨by omega, ltCps_trans r t u h g⟩
def ltS (x y : Str) : Bool := ltCps x.cps.toList y.cps.toList
def leS (x y : Str) : Bool := !ltS y x
theorem str_ext {x y : Str} (h : x.cps.toList = y.cps.toList) : x = y := by
  obtain ⟨a⟩ := x
  obtain ⟨b⟩ := y
  have : a = b := by simpa using congrArg List.toArray h
  rw [this]
theorem leS_antisymm {x y : Str} (h : leS x y = true) (g : leS y x = true) : x = y := by
  unfold leS ltS at h g
  simp only [Bool.not_eq_true'] at h g
  exact str_ext (ltCps_tri _ _ g h)
theorem leS_total (x y : Str) : (leS x y || leS y x) = true := by
  unfold leS ltS
  cases h : ltCps y.cps.toList x.cps.toList with
  | false => rfl
  | true => rw [ltCps_asymm _ _ h]; rfl
theorem leS_trans {x y z : Str} (h : leS x y = true) (g : leS y z = true) : leS x z = true := by
  unfold leS ltS at *
  simp only [Bool.not_eq_true'] at *
  cases q : ltCps z.cps.toList x.cps.toList with
  | false => rfl
  | true =>
    cases e : ltCps y.cps.toList z.cps.toList with
    | true => rw [ltCps_trans _ _ _ e q] at h; cases h
    | false =>
      rw [str_ext (ltCps_tri _ _ g e)] at q
      rw [q] at h
      cases h
def insS (x : Str) : List Str → List Str
  | [] => [x]
  | y :: r => if ltS y x then y :: insS x r else x :: y :: r
def sortS : List Str → List Str
  | [] => []
  | x :: r => insS x (sortS r)
theorem insS_perm (x : Str) : ∀ l, (insS x l).Perm (x :: l)
  | [] => .refl _
  | y :: r => by
    unfold insS
    split
    · exact ((insS_perm x r).cons y).trans (.swap _ _ _)
    · exact .refl _
theorem sortS_perm : ∀ l, (sortS l).Perm l
  | [] => .refl _
  | x :: r => (insS_perm x (sortS r)).trans ((sortS_perm r).cons x)
theorem insS_sorted (x : Str) : ∀ l : List Str, l.Pairwise (fun a b => leS a b = true) → (insS x l).Pairwise (fun a b => leS a b = true)
  | [], _ => by simp [insS]
  | y :: r, h => by
    obtain ⟨h1, h2⟩ := List.pairwise_cons.mp h
    unfold insS
    split
    · rename_i q
      refine List.pairwise_cons.mpr ⟨fun z hz => ?_, insS_sorted x r h2⟩
      rcases List.mem_cons.mp ((insS_perm x r).mem_iff.mp hz) with e | hz
      · subst e
        unfold leS
        unfold ltS at q ⊢
        rw [ltCps_asymm _ _ q]
        rfl
      · exact h1 z hz
    · rename_i q
      have hxy : leS x y = true := by
        unfold leS
        simpa using q
      exact List.pairwise_cons.mpr ⟨fun z hz => by
        rcases List.mem_cons.mp hz with e | hz
        · subst e
          exact hxy
        · exact leS_trans hxy (h1 z hz), h⟩
theorem sortS_sorted : ∀ l, (sortS l).Pairwise (fun a b => leS a b = true)
  | [] => .nil
  | x :: r => insS_sorted x _ (sortS_sorted r)
theorem rising_pair : ∀ (p : Str) (l : List Str), risingS p l = true → (p :: l).Pairwise (fun a b => leS a b = true)
  | p, [], _ => by simp
  | p, x :: r, h => by
    have h' : (!ltCps x.cps.toList p.cps.toList && risingS x r) = true := h
    rw [Bool.and_eq_true] at h'
    have ih := rising_pair x r h'.2
    have hpx : leS p x = true := h'.1
    refine List.pairwise_cons.mpr ⟨fun z hz => ?_, ih⟩
    rcases List.mem_cons.mp hz with e | hz
    · subst e
      exact hpx
    · exact leS_trans hpx ((List.pairwise_cons.mp ih).1 z hz)
theorem sorted_pair {l : List Str} (h : sortedS l = true) : l.Pairwise (fun a b => leS a b = true) := by
  cases l with
  | nil => exact .nil
  | cons x r => exact rising_pair x r h
theorem sortS_only {xs ys : List Str} (p : ys.Perm xs) (s : sortedS ys = true) : ys = sortS xs :=
  List.Perm.eq_of_pairwise (fun a b _ _ h g => leS_antisymm h g) (sorted_pair s) (sortS_sorted xs) (p.trans (sortS_perm xs).symm)

/-! ### lists of one kind -/
def asInts : List D → Option (List Int)
  | [] => some []
  | .int i :: r => (asInts r).map (i :: ·)
  | _ => none
def asStrs : List D → Option (List Str)
  | [] => some []
  | .str i :: r => (asStrs r).map (i :: ·)
  | _ => none
def asBls : List D → Option (List Bool)
  | [] => some []
  | .bl i :: r => (asBls r).map (i :: ·)
  | _ => none
theorem asInts_rep {R : RC} {H : Hp} : ∀ {ds : List D} {vs : List V} {l : List Int}, asInts ds = some l → RepL R H ds vs → vs = l.map V.int ∧ ds.length = l.length
  | [], vs, l, e, r => by
    cases e
    cases r
    exact ⟨rfl, rfl⟩
  | .int i :: ds, vs, l, e, r => by
    obtain ⟨v, t, rfl, h1, h2⟩ := r
    cases q : asInts ds with
    | none => simp [asInts, q] at e
    | some l' =>
      simp [asInts, q] at e
      subst e
      obtain ⟨a, b⟩ := asInts_rep q h2
      subst a
      exact ⟨by rw [show v = .int i from h1]; rfl, by simp [b]⟩
  | .non :: _, _, _, e, _ | .bl _ :: _, _, _, e, _ | .str _ :: _, _, _, e, _ | .tup _ :: _, _, _, e, _ | .lst _ :: _, _, _, e, _ | .dct _ _ :: _, _, _, e, _ | .obj _ _ :: _, _, _, e, _ | .glo _ :: _, _, _, e, _ | .ty _ :: _, _, _, e, _ | .clo _ :: _, _, _, e, _ | .bowl :: _, _, _, e, _ => by simp [asInts] at e
theorem asStrs_rep {R : RC} {H : Hp} : ∀ {ds : List D} {vs : List V} {l : List Str}, asStrs ds = some l → RepL R H ds vs → vs = l.map V.str ∧ ds.length = l.length ∧ ∀ x ∈ l, okS x = true
  | [], vs, l, e, r => by
    cases e
    cases r
    exact ⟨rfl, rfl, by simp⟩
  | .str i :: ds, vs, l, e, r => by
    obtain ⟨v, t, rfl, h1, h2⟩ := r
    cases q : asStrs ds with
    | none => simp [asStrs, q] at e
    | some l' =>
      simp [asStrs, q] at e
      subst e
      obtain ⟨a, b, c⟩ := asStrs_rep q h2
      subst a
      exact ⟨by rw [h1.1]; rfl, by simp [b], fun x hx => (List.mem_cons.mp hx).elim (fun z => z ▸ h1.2) (c x)⟩
  | .non :: _, _, _, e, _ | .bl _ :: _, _, _, e, _ | .int _ :: _, _, _, e, _ | .tup _ :: _, _, _, e, _ | .lst _ :: _, _, _, e, _ | .dct _ _ :: _, _, _, e, _ | .obj _ _ :: _, _, _, e, _ | .glo _ :: _, _, _, e, _ | .ty _ :: _, _, _, e, _ | .clo _ :: _, _, _, e, _ | .bowl :: _, _, _, e, _ => by simp [asStrs] at e
theorem asBls_rep {R : RC} {H : Hp} : ∀ {ds : List D} {vs : List V} {l : List Bool}, asBls ds = some l → RepL R H ds vs → vs = l.map V.bl ∧ ds.length = l.length
  | [], vs, l, e, r => by
    cases e
    cases r
    exact ⟨rfl, rfl⟩
  | .bl i :: ds, vs, l, e, r => by
    obtain ⟨v, t, rfl, h1, h2⟩ := r
    cases q : asBls ds with
    | none => simp [asBls, q] at e
    | some l' =>
      simp [asBls, q] at e
      subst e
      obtain ⟨a, b⟩ := asBls_rep q h2
      subst a
      exact ⟨by rw [show v = .bl i from h1]; rfl, by simp [b]⟩
  | .non :: _, _, _, e, _ | .int _ :: _, _, _, e, _ | .str _ :: _, _, _, e, _ | .tup _ :: _, _, _, e, _ | .lst _ :: _, _, _, e, _ | .dct _ _ :: _, _, _, e, _ | .obj _ _ :: _, _, _, e, _ | .glo _ :: _, _, _, e, _ | .ty _ :: _, _, _, e, _ | .clo _ :: _, _, _, e, _ | .bowl :: _, _, _, e, _ => by simp [asBls] at e
theorem repL_strs {R : RC} {H : Hp} : ∀ {l : List Str}, (∀ x ∈ l, okS x = true) → RepL R H (l.map D.str) (l.map V.str)
  | [], _ => rfl
  | x :: r, h => RepL.cons ⟨rfl, h x (List.mem_cons_self ..)⟩ (repL_strs fun y hy => h y (List.mem_cons_of_mem _ hy))
theorem repL_ints {R : RC} {H : Hp} : ∀ {l : List Int}, RepL R H (l.map D.int) (l.map V.int)
  | [] => rfl
  | x :: r => RepL.cons rfl repL_ints
/-- a visible list, tuple as the rules read it -/
theorem vis_sql {K : PySem.W.Frag} {H : Hp} {O : Addr → Prop} {a : Addr} {xs : List V} (h : SqL K (vis H O) a xs) : SqL K H a xs := vis_all.seq h
theorem vis_sqt {K : PySem.W.Frag} {H : Hp} {O : Addr → Prop} {a : Addr} {xs : List V} (h : SqX K (vis H O) a xs) : SqT K H a xs := vis_all.tup h.1

/-! ### len, all, any, sum, tuple, list, sorted, int, abs, divmod, max, min, gcd -/
def f1 (f : D → Option Wv) (ds : List D) : Option Wv := match ds with
  | [d] => f d
  | _ => none
def f2 (f : D → D → Option Wv) (ds : List D) : Option Wv := match ds with
  | [d, e] => f d e
  | _ => none
theorem f1_inv {f : D → Option Wv} {ds : List D} {w : Wv} (h : f1 f ds = some w) : ∃ d, ds = [d] ∧ f d = some w := by
  match ds, h with
  | [d], h => exact ⟨d, rfl, h⟩
theorem f2_inv {f : D → D → Option Wv} {ds : List D} {w : Wv} (h : f2 f ds = some w) : ∃ d e, ds = [d, e] ∧ f d e = some w := by
  match ds, h with
  | [d, e], h => exact ⟨d, e, rfl, h⟩
theorem rep1 {R : RC} {H : Hp} {d : D} {vs : List V} (h : RepL R H [d] vs) : ∃ v, vs = [v] ∧ Rep R H d v := by
  obtain ⟨v, r, e, h1, h2⟩ := h
  cases h2
  exact ⟨v, e, h1⟩
theorem rep2 {R : RC} {H : Hp} {d e : D} {vs : List V} (h : RepL R H [d, e] vs) : ∃ v u, vs = [v, u] ∧ Rep R H d v ∧ Rep R H e u := by
  obtain ⟨v, r, e1, h1, h2⟩ := h
  obtain ⟨u, rfl, h3⟩ := rep1 h2
  exact ⟨v, u, e1, h1, h3⟩
def lenD : D → Option Wv
  | .str x => vI x.length
  | .lst l => vI l.length
  | .tup l => vI l.length
  | _ => none
theorem hl_len {R : RC} : HLok R (f1 lenD) (fun xs H Q => ∃ x n, xs = [x] ∧ LenV R.K x H n ∧ Q (.int n) H) := fun ds w vs H O Q e od r q => by
  obtain ⟨d, hd, e'⟩ := f1_inv e
  clear e
  subst hd
  have e := e'
  clear e'
  obtain ⟨v, rfl, h⟩ := rep1 r
  cases d with
  | str x =>
    cases e
    obtain ⟨rfl, ok⟩ := h
    unfold okS at ok
    rw [Bool.and_eq_true] at ok
    exact ⟨_, _, rfl, ⟨small_lim (of_decide_eq_true ok.1), rfl⟩, q _ H (Same.refl H) rfl⟩
  | lst l =>
    cases e
    obtain ⟨a, us, rfl, h1, h2, _⟩ := h
    exact ⟨_, _, rfl, .inl ⟨us, vis_sql h1, rfl⟩, by rw [← h2.length]; exact q _ H (Same.refl H) rfl⟩
  | tup l =>
    cases e
    obtain ⟨a, us, rfl, h1, h2, _⟩ := h
    exact ⟨_, _, rfl, .inr ⟨us, vis_sqt h1, rfl⟩, by rw [← h2.length]; exact q _ H (Same.refl H) rfl⟩
  | _ => cases e
def allD : D → Option Wv
  | .lst l => (asBls l).bind fun bs => vB (bs.all id)
  | _ => none
def anyD : D → Option Wv
  | .lst l => (asBls l).bind fun bs => vB (bs.any id)
  | _ => none
def sumD : D → Option Wv
  | .lst l => (asInts l).bind fun bs => vI bs.sum
  | _ => none
theorem hl_all {R : RC} : HLok R (f1 allD) (rAll R.K) := fun ds w vs H O Q e od r q => by
  obtain ⟨d, hd, e'⟩ := f1_inv e
  clear e
  subst hd
  have e := e'
  clear e'
  obtain ⟨v, rfl, h⟩ := rep1 r
  cases d with
  | lst l =>
    obtain ⟨a, us, rfl, h1, h2, _⟩ := h
    have e : (asBls l).bind (fun bs => vB (bs.all id)) = some w := e
    cases z : asBls l with
    | none =>
      rw [z] at e
      cases e
    | some bs =>
      rw [z] at e
      have e : vB (bs.all id) = some w := e
      cases e
      obtain ⟨rfl, _⟩ := asBls_rep z h2
      exact ⟨a, bs, rfl, vis_sql h1, q _ H (Same.refl H) rfl⟩
  | _ => cases e
theorem hl_any {R : RC} : HLok R (f1 anyD) (rAny R.K) := fun ds w vs H O Q e od r q => by
  obtain ⟨d, hd, e'⟩ := f1_inv e
  clear e
  subst hd
  have e := e'
  clear e'
  obtain ⟨v, rfl, h⟩ := rep1 r
  cases d with
  | lst l =>
    obtain ⟨a, us, rfl, h1, h2, _⟩ := h
    have e : (asBls l).bind (fun bs => vB (bs.any id)) = some w := e
    cases z : asBls l with
    | none =>
      rw [z] at e
      cases e
    | some bs =>
      rw [z] at e
      have e : vB (bs.any id) = some w := e
      cases e
      obtain ⟨rfl, _⟩ := asBls_rep z h2
      exact ⟨a, bs, rfl, vis_sql h1, q _ H (Same.refl H) rfl⟩
  | _ => cases e
theorem hl_sum {R : RC} : HLok R (f1 sumD) (rSum R.K) := fun ds w vs H O Q e od r q => by
  obtain ⟨d, hd, e'⟩ := f1_inv e
  clear e
  subst hd
  have e := e'
  clear e'
  obtain ⟨v, rfl, h⟩ := rep1 r
  cases d with
  | lst l =>
    obtain ⟨a, us, rfl, h1, h2, _⟩ := h
    have e : (asInts l).bind (fun bs => vI bs.sum) = some w := e
    cases z : asInts l with
    | none =>
      rw [z] at e
      cases e
    | some bs =>
      rw [z] at e
      have e : vI bs.sum = some w := e
      cases e
      obtain ⟨rfl, _⟩ := asInts_rep z h2
      exact ⟨a, bs, rfl, vis_sql h1, q _ H (Same.refl H) rfl⟩
  | _ => cases e
def tupleD : D → Option Wv
  | .lst l => some (.val (.tup l))
  | .tup l => some (.val (.tup l))
  | _ => none
theorem hl_tuple {R : RC} : HLok R (f1 tupleD) (fun xs H Q => ∃ p ys, xs = [.ref p] ∧ ((SqL R.K H p ys ∧ ∀ l o, H l = none → o.dict = none → Q (.ref l) (upd H l (tupO ys o))) ∨ (SqT R.K H p ys ∧ Q (.ref p) H))) := fun ds w vs H O Q e od r q => by
  obtain ⟨d, hd, e'⟩ := f1_inv e
  clear e
  subst hd
  have e := e'
  clear e'
  obtain ⟨v, rfl, h⟩ := rep1 r
  cases d with
  | lst l =>
    cases e
    obtain ⟨a, us, rfl, h1, h2, h3⟩ := h
    exact ⟨a, us, rfl, .inl ⟨vis_sql h1, fun p o hp hd => q _ _ (same_upd hp) (new_tupX od h2 h3 hp hd)⟩⟩
  | tup l =>
    cases e
    have h' := h
    obtain ⟨a, us, rfl, h1, h2, h3⟩ := h
    exact ⟨a, us, rfl, .inr ⟨vis_sqt h1, q _ H (Same.refl H) h'⟩⟩
  | _ => cases e
def listD : D → Option Wv
  | .lst l => some (.own (.lst l))
  | .tup l => some (.own (.lst l))
  | _ => none
theorem hl_list {R : RC} : HLok R (f1 listD) (fun xs H Q => ∃ p ys, xs = [.ref p] ∧ (SqL R.K H p ys ∨ SqT R.K H p ys) ∧ ∀ l, H l = none → Q (.ref l) (upd H l (.lst ys))) := fun ds w vs H O Q e od r q => by
  obtain ⟨d, hd, e'⟩ := f1_inv e
  clear e
  subst hd
  have e := e'
  clear e'
  obtain ⟨v, rfl, h⟩ := rep1 r
  cases d with
  | lst l =>
    cases e
    obtain ⟨a, us, rfl, h1, h2, h3⟩ := h
    exact ⟨a, us, rfl, .inl (vis_sql h1), fun p hp => q _ _ (same_upd hp) (new_lst od h2 h3 hp)⟩
  | tup l =>
    cases e
    obtain ⟨a, us, rfl, h1, h2, h3⟩ := h
    exact ⟨a, us, rfl, .inr (vis_sqt h1), fun p hp => q _ _ (same_upd hp) (new_lst od h2 h3 hp)⟩
  | _ => cases e
def sortedD : D → Option Wv
  | .lst l => (asStrs l).bind fun ss => if ss.length < 64 then some (.own (.lst ((sortS ss).map D.str))) else none
  | _ => none
theorem hl_sorted {R : RC} : HLok R (f1 sortedD) (rSortedS R.K) := fun ds w vs H O Q e od r q => by
  obtain ⟨d, hd, e'⟩ := f1_inv e
  clear e
  subst hd
  have e := e'
  clear e'
  obtain ⟨v, rfl, h⟩ := rep1 r
  cases d with
  | lst l =>
    obtain ⟨a, us, rfl, h1, h2, h3⟩ := h
    cases z : asStrs l with
    | none => simp [sortedD, z] at e
    | some ss =>
      simp only [sortedD, z, Option.bind_some] at e
      split at e
      · rename_i h64
        cases e
        obtain ⟨rfl, hl, ok⟩ := asStrs_rep z h2
        refine ⟨a, ss, rfl, vis_sql h1, h64, fun ys p hp hs hn => ?_⟩
        have ey := sortS_only hp hs
        subst ey
        have hlen : (sortS ss).length = ss.length := (sortS_perm ss).length_eq
        exact q _ _ (same_upd hn) (new_lst od (repL_strs fun x hx => ok x ((sortS_perm ss).mem_iff.mp hx)) (by rw [List.length_map, hlen]; unfold LIM; omega) hn)
      · cases e
  | _ => cases e
def intD : D → Option Wv
  | .int i => vI i
  | .bl b => vI (if b then 1 else 0)
  | _ => none
theorem hl_int {R : RC} : HLok R (f1 intD) (fun xs H Q => (∃ i, xs = [.int i] ∧ Q (.int i) H) ∨ ∃ k, xs = [.bl k] ∧ Q (.int (if k then 1 else 0)) H) := fun ds w vs H O Q e od r q => by
  obtain ⟨d, hd, e'⟩ := f1_inv e
  clear e
  subst hd
  have e := e'
  clear e'
  obtain ⟨v, rfl, h⟩ := rep1 r
  cases d with
  | int i =>
    cases e
    exact .inl ⟨i, by rw [show v = .int i from h], q _ H (Same.refl H) rfl⟩
  | bl b =>
    cases e
    exact .inr ⟨b, by rw [show v = .bl b from h], q _ H (Same.refl H) rfl⟩
  | _ => cases e
def absD : D → Option Wv
  | .int i => vI (if i < 0 then -i else i)
  | _ => none
theorem hl_abs {R : RC} : HLok R (f1 absD) (fun xs H Q => ∃ i, xs = [.int i] ∧ Q (.int (if i < 0 then -i else i)) H) := fun ds w vs H O Q e od r q => by
  obtain ⟨d, hd, e'⟩ := f1_inv e
  clear e
  subst hd
  have e := e'
  clear e'
  obtain ⟨v, rfl, h⟩ := rep1 r
  cases d with
  | int i =>
    cases e
    exact ⟨i, by rw [show v = .int i from h], q _ H (Same.refl H) rfl⟩
  | _ => cases e
def fDivmod : D → D → Option Wv := fI2 fun i j => if 0 < j ∧ j < 1073741824 then some (.val (.tup [.int (i / j), .int (i % j)])) else none
theorem fI2_inv {g : Int → Int → Option Wv} {x y : D} {w : Wv} (h : fI2 g x y = some w) : ∃ i j, x = .int i ∧ y = .int j ∧ g i j = some w := by
  cases x with
  | int i =>
    cases y with
    | int j => exact ⟨i, j, rfl, rfl, h⟩
    | _ => cases h
  | _ => cases h
theorem hl_divmod {R : RC} : HLok R (f2 fDivmod) (fun xs H Q => ∃ i j, xs = [.int i, .int j] ∧ CDiv i j ∧ ∀ p, H p = none → Q (.ref p) (upd H p (.tup [.int (i / j), .int (i % j)]))) := fun ds w vs H O Q e od r q => by
  obtain ⟨d1, d2, hd, e'⟩ := f2_inv e
  clear e
  subst hd
  have e := e'
  clear e'
  obtain ⟨v, u, rfl, h1, h2⟩ := rep2 r
  obtain ⟨i, j, hi, hj, e'⟩ := fI2_inv e
  clear e
  subst hi
  subst hj
  have e := e'
  clear e'
  split at e
  · rename_i hc
    cases e
    exact ⟨i, j, by rw [show v = .int i from h1, show u = .int j from h2], hc, fun p hp => q _ _ (same_upd hp) (new_tup od (RepL.cons rfl (RepL.cons rfl RepL.nil)) (by show 2 ≤ LIM; decide) hp (strV_cons rfl))⟩
  · cases e
def fMax : D → D → Option Wv := fI2 fun i j => vI (if j > i then j else i)
def fMin : D → D → Option Wv := fI2 fun i j => vI (if j < i then j else i)
theorem hl_max {R : RC} : HLok R (f2 fMax) (fun xs H Q => ∃ i j, xs = [.int i, .int j] ∧ Q (.int (if j > i then j else i)) H) := fun ds w vs H O Q e od r q => by
  obtain ⟨d1, d2, hd, e'⟩ := f2_inv e
  clear e
  subst hd
  have e := e'
  clear e'
  obtain ⟨v, u, rfl, h1, h2⟩ := rep2 r
  obtain ⟨i, j, hi, hj, e'⟩ := fI2_inv e
  clear e
  subst hi
  subst hj
  have e := e'
  clear e'
  cases e
  exact ⟨i, j, by rw [show v = .int i from h1, show u = .int j from h2], q _ H (Same.refl H) rfl⟩
theorem hl_min {R : RC} : HLok R (f2 fMin) (fun xs H Q => ∃ i j, xs = [.int i, .int j] ∧ Q (.int (if j < i then j else i)) H) := fun ds w vs H O Q e od r q => by
  obtain ⟨d1, d2, hd, e'⟩ := f2_inv e
  clear e
  subst hd
  have e := e'
  clear e'
  obtain ⟨v, u, rfl, h1, h2⟩ := rep2 r
  obtain ⟨i, j, hi, hj, e'⟩ := fI2_inv e
  clear e
  subst hi
  subst hj
  have e := e'
  clear e'
  cases e
  exact ⟨i, j, by rw [show v = .int i from h1, show u = .int j from h2], q _ H (Same.refl H) rfl⟩
def fGcd : D → D → Option Wv := fI2 fun i j => vI (Nat.gcd i.natAbs j.natAbs : Nat)
theorem hl_gcd {R : RC} : HLok R (f2 fGcd) rGcd := fun ds w vs H O Q e od r q => by
  obtain ⟨d1, d2, hd, e'⟩ := f2_inv e
  clear e
  subst hd
  have e := e'
  clear e'
  obtain ⟨v, u, rfl, h1, h2⟩ := rep2 r
  obtain ⟨i, j, hi, hj, e'⟩ := fI2_inv e
  clear e
  subst hi
  subst hj
  have e := e'
  clear e'
  cases e
  exact ⟨i, j, by rw [show v = .int i from h1, show u = .int j from h2], q _ H (Same.refl H) rfl⟩

/-! ### isinstance -/
/-- what is known of an own class -/
structure ClsI (K : PySem.W.Frag) (C : Addr) : Prop where
  cl : Cls K C
  ha : PySem.W.findIn K (.ref C) "__class__" = some (some (.builtin "object.__class__"))
  hn : PySem.W.specialIn K (.builtin "object.__class__") "__get__" = some (some (.builtin "getset_descriptor.__get__"))
  htk : PySem.W.takesIn K (.builtin "object.__class__") = some true
  hm : PySem.W.mroIn K C (.type "object") = some true
def tyN : D → Option String
  | .non => some "NoneType"
  | .bl _ => some "bool"
  | .int _ => some "int"
  | .str _ => some "str"
  | .lst _ => some "list"
  | .tup _ => some "tuple"
  | _ => none
def isiB (t n : String) : Bool := t == n || (t == "bool" && n == "int")
def isTy (n : String) : Bool := ["int", "bool", "str", "list", "tuple"].contains n
/-- own classes by name: isinstance of an own class's instance -/
def fIsi (x y : D) : Option Wv := match y with
  | .ty n => if isTy n then (match tyN x with
    | some t => vB (isiB t n)
    | none => none) else none
  | _ => none
theorem tyX_of {K : PySem.W.Frag} {R : RC} (hK : R.K = K) {H : Hp} {d : D} {v : V} {t : String} (h : tyN d = some t) (r : Rep R H d v) : TyX K H v (.type t) := by
  subst hK
  cases d with
  | non =>
    cases h
    cases (show v = .non from r)
    exact .base .non
  | bl b =>
    cases h
    cases (show v = .bl b from r)
    exact .base (.bl b)
  | int b =>
    cases h
    cases (show v = .int b from r)
    exact .base (.int b)
  | str b =>
    cases h
    cases r.1
    exact .base (.str b)
  | lst l =>
    cases h
    obtain ⟨a, vs, rfl, h1, _⟩ := r
    rcases h1 with (h1 | ⟨o, h1⟩) | ⟨o, _, _, h1, h2, _⟩
    · exact .base (.lst h1)
    · exact .base (.frz h1)
    · exact .kList h1 h2
  | tup l =>
    cases h
    obtain ⟨a, vs, rfl, ⟨h1, _⟩, _⟩ := r
    rcases h1 with (h1 | ⟨o, h1⟩) | ⟨o, _, _, h1, h2, _⟩
    · exact .base (.tup h1)
    · exact .fTuple h1
    · exact .kTuple h1 h2
  | _ => cases h
theorem kit_isi {K : PySem.W.Frag} {d : D} {t n : String} (h : tyN d = some t) (hn : isTy n = true) : PySem.W.kitOne K (.type t) (.type n) = some (isiB t n) := by
  have hn' : n = "int" ∨ n = "bool" ∨ n = "str" ∨ n = "list" ∨ n = "tuple" := by
    simpa [isTy] using hn
  have ht : t = "NoneType" ∨ t = "bool" ∨ t = "int" ∨ t = "str" ∨ t = "list" ∨ t = "tuple" := by
    cases d <;> simp [tyN] at h <;> simp [← h]
  rcases hn' with rfl | rfl | rfl | rfl | rfl <;> rcases ht with rfl | rfl | rfl | rfl | rfl | rfl <;> exact kit_ty (by decide +kernel)
theorem hl_isi {R : RC} : HLok R (f2 fIsi) (rIsi R.K) := fun ds w vs H O Q e od r q => by
  obtain ⟨d1, d2, hd, e'⟩ := f2_inv e
  clear e
  subst hd
  have e := e'
  clear e'
  obtain ⟨v, u, rfl, h1, h2⟩ := rep2 r
  cases d2 with
  | ty n =>
    simp only [fIsi] at e
    split at e
    · rename_i hn
      cases z : tyN d1 with
      | none => simp [z] at e
      | some t =>
        simp [z, vB] at e
        subst e
        cases (show u = .ty n from h2)
        exact ⟨v, .ty n, .type t, .type n, isiB t n, rfl, .ty n, tyX_of rfl z (h1.mono vis_all), kit_isi z hn, q _ H (Same.refl H) rfl⟩
    · cases e
  | _ => cases e
end DL

set_option Elab.async false
set_option linter.all false
set_option maxRecDepth 100000
set_option maxHeartbeats 4000000
namespace DL
open PySem PySem.Spec PyProof.Rows L2

/-! ### statements -/
inductive RS where
  | nx (env : Sls) (b : Bw) | rt (w : Wv) (b : Bw) | bk (env : Sls) (b : Bw) | ct (env : Sls) (b : Bw) | err (c : Str) (fs : List D) (b : Bw) | bad
abbrev Sv := Sls → Bw → RS
def wpS (B : BP) (r : RS) (D : Ends) : Prop := match r with
  | .nx env b => ∀ σ H, Rel B env b σ H → D.nx σ H
  | .rt w b => ∀ v H, Ext B.R.bo B.He H → BwOk B.R.bo b H → NdefX.TabsN B.T H → RepW B.R B.O B.He H w v → D.rt v H
  | .bk env b => ∀ σ H, Rel B env b σ H → D.bk σ H
  | .ct env b => ∀ σ H, Rel B env b σ H → D.ct σ H
  | .err c fs b => ∀ cls d σ H, Ext B.R.bo B.He H → BwOk B.R.bo b H → NdefX.TabsN B.T H → RepX B.R (vis H B.O) c fs cls d → B.W cls d σ H
  | .bad => False
def rdS (B : BP) (dv : Sv) : TS := fun D σ H => ∃ env b, Rel B env b σ H ∧ wpS B (dv env b) D
abbrev DS (B : BP) (X : Cx) (st : Stmt) (dv : Sv) : Prop := PS X st (rdS B dv)
abbrev DSs (B : BP) (X : Cx) (sts : List Stmt) (dv : Sv) : Prop := PSs X sts (rdS B dv)
theorem imp_PS {X : Cx} {e : Stmt} {t u : TS} (h : PS X e t) (hi : ∀ D σ H, u D σ H → t D σ H) : PS X e u := ⟨fun pins s σ H D I q => h.run pins s σ H D I (hi D σ H q)⟩
theorem imp_PSs {X : Cx} {e : List Stmt} {t u : TS} (h : PSs X e t) (hi : ∀ D σ H, u D σ H → t D σ H) : PSs X e u := ⟨fun pins s σ H D I q => h.run pins s σ H D I (hi D σ H q)⟩
theorem RepX.mono {R : RC} {H H' : Hp} (s : Sub H H') {c : Str} {fs : List D} {cls : Value} {d : Option Addr} (h : RepX R H c fs cls d) : RepX R H' c fs cls d := by
  obtain ⟨C, h1, h2, h3⟩ := h
  refine ⟨C, h1, h2, ?_⟩
  cases fs with
  | nil => exact h3
  | cons f r =>
    obtain ⟨dd, vs, e, e1, e2, e3⟩ := h3
    exact ⟨dd, vs, e, s _ _ e1 (fun _ z => by cases z), e2, RepL.mono s e3⟩
section
variable {B : BP} {X : Cx} {env : Sls} {b : Bw} {σ : L2.St} {H H' : Hp}
/-- what an expression lets out, a statement does -/
theorem err_of {α γ : Type} {ρ : Rho α γ} {c : Str} {fs : List D} {b' : Bw} {D : Ends} (I : Rel B env b σ H) (w : wpS B (.err c fs b') D) {Q : γ → Hp → Prop} : wpG B ρ (ownO B.O env σ) H (.err c fs b' : Res α) σ Q :=
  fun cls d H' e1 e2 e3 e4 => w cls d σ H' (I.ext.trans e1) e2 e3 (e4.mono (vis_sub fun a q => .inl q))
theorem RepTop.hv {R : RC} {Hv Hv' : Hp} {d : D} {a : Addr} (s : Sub Hv Hv') (h : RepTop R H Hv d a) : RepTop R H Hv' d a := by
  cases d with
  | lst l =>
    obtain ⟨vs, h1, h2, h3⟩ := h
    exact ⟨vs, h1, h2.mono s, h3⟩
  | dct ks ds =>
    obtain ⟨vs, h1, h2⟩ := h
    exact ⟨vs, h1.mono s, h2⟩
  | _ => exact h.elim
/-- what was visible stays so, whatever new own things come -/
theorem vis_more {bo : Option Addr} {O O' : Addr → Prop} (x : Ext bo H H') (hb : ∀ a, bo = some a → O a) (ho : ∀ a o, H a = some o → O' a → O a) : Sub (vis H O) (vis H' O') := fun a o e n => by
  obtain ⟨e1, e2⟩ := of_vis e
  exact vis_of (x.keep a o e1 (fun q => e2 (hb a q)) n) fun q => e2 (ho a o e1 q)
theorem own_set {O : Addr → Prop} {i : Nat} {s : Slot} {v : V} {a : Addr} (h : ownO O (env.set i s) (σ.set i (some v)) a) : ownO O env σ a ∨ ∃ d, s = .own d ∧ v = .ref a := by
  rcases h with h | ⟨j, d, h1, h2⟩
  · exact .inl (.inl h)
  · by_cases q : i = j
    · subst q
      by_cases l : i < env.length
      · rw [List.getElem?_set_self l] at h1
        by_cases l2 : i < σ.length
        · rw [List.getElem?_set_self l2] at h2
          cases h1
          cases h2
          exact .inr ⟨d, rfl, rfl⟩
        · rw [List.getElem?_eq_none (by simpa using l2)] at h2
          cases h2
      · rw [List.getElem?_eq_none (by simpa using l)] at h1
        cases h1
    · rw [List.getElem?_set_ne q] at h1 h2
      exact .inl (.inr ⟨j, d, h1, h2⟩)
/-- a name stored -/
theorem Rel.set {b' : Bw} {i : Nat} {w : Wv} {v : V} (I : Rel B env b σ H) (x : Ext B.R.bo H H') (hb : BwOk B.R.bo b' H') (t : NdefX.TabsN B.T H') (r : RepW B.R (ownO B.O env σ) H H' w v) : Rel B (env.set i w.slot) b' (σ.set i (some v)) H' := by
  have J := I.go x hb t
  have news : ∀ a o, H a = some o → ownO B.O (env.set i w.slot) (σ.set i (some v)) a → ownO B.O env σ a := fun a o e h => by
    rcases own_set h with h | ⟨d, e1, e2⟩
    · exact h
    · cases w with
      | val d' => cases e1
      | own d' =>
        obtain ⟨a', e3, h0, _⟩ := r
        rw [e2] at e3
        cases e3
        rw [h0] at e
        cases e
  have vsub : Sub (vis H (ownO B.O env σ)) (vis H' (ownO B.O (env.set i w.slot) (σ.set i (some v)))) := vis_more x (fun a q => I.bOO q) news
  refine ⟨by simp [I.len], fun j d e => ?_, fun j d e => ?_, fun j k d e a h1 h2 h3 h4 => ?_, hb, I.bO, J.odom, t, J.ext, I.pin.trans vsub⟩
  · by_cases q : i = j
    · subst q
      have l : i < env.length := by
        have z := (List.getElem?_eq_some_iff.mp e).1
        simpa using z
      rw [List.getElem?_set_self l] at e
      rw [List.getElem?_set_self (by rw [← I.len]; exact l)]
      cases w with
      | val d' =>
        cases e
        exact ⟨v, rfl, Rep.mono (vis_sub fun a h => (own_set h).elim id fun ⟨d, e1, _⟩ => by cases e1) r⟩
      | own d' => cases e
    · rw [List.getElem?_set_ne q] at e
      rw [List.getElem?_set_ne q]
      obtain ⟨u, h1, h2⟩ := I.val j d e
      exact ⟨u, h1, h2.mono vsub⟩
  · by_cases q : i = j
    · subst q
      have l : i < env.length := by
        have z := (List.getElem?_eq_some_iff.mp e).1
        simpa using z
      rw [List.getElem?_set_self l] at e
      rw [List.getElem?_set_self (by rw [← I.len]; exact l)]
      cases w with
      | val d' => cases e
      | own d' =>
        cases e
        obtain ⟨a, rfl, h0, h1, h2⟩ := r
        refine ⟨a, rfl, fun z => h1 (.inl z), I.ext.dom a h0, RepTop.hv (vis_sub fun c h => ?_) h2⟩
        rcases own_set h with h | ⟨d, _, e2⟩
        · exact .inl h
        · cases e2
          exact .inr rfl
    · rw [List.getElem?_set_ne q] at e
      rw [List.getElem?_set_ne q]
      obtain ⟨a, h1, h2, h3, h4⟩ := I.own j d e
      exact ⟨a, h1, h2, h3, h4.ext x (fun z => h2 (I.bO a z)) vsub⟩
  · have old : ∀ (j : Nat) (d : D) (a : Addr), i ≠ j → (env.set i w.slot)[j]? = some (.own d) → (σ.set i (some v))[j]? = some (some (.ref a)) → ∃ o, H a = some o := fun j d a q h1 h2 => by
      rw [List.getElem?_set_ne q] at h1 h2
      exact I.od (.inr ⟨j, d, h1, h2⟩)
    have nu : ∀ (d : D) (a : Addr), (env.set i w.slot)[i]? = some (.own d) → (σ.set i (some v))[i]? = some (some (.ref a)) → H a = none := fun d a h1 h2 => by
      have l : i < env.length := by
        have z := (List.getElem?_eq_some_iff.mp h1).1
        simpa using z
      rw [List.getElem?_set_self l] at h1
      rw [List.getElem?_set_self (by rw [← I.len]; exact l)] at h2
      have hv : v = .ref a := Option.some.inj (Option.some.inj h2)
      cases w with
      | val d' => exact nomatch h1
      | own d' =>
        obtain ⟨a', e3, h0, _⟩ := r
        rw [hv] at e3
        have ea : a = a' := by injection e3
        rw [ea]
        exact h0
    by_cases q1 : i = j
    · by_cases q2 : i = k
      · rw [← q1, ← q2]
      · subst q1
        have z := nu d a h1 h3
        obtain ⟨o, z2⟩ := old k e a q2 h2 h4
        rw [z] at z2
        exact nomatch z2
    · by_cases q2 : i = k
      · subst q2
        have z := nu e a h2 h4
        obtain ⟨o, z2⟩ := old j d a q1 h1 h3
        rw [z] at z2
        exact nomatch z2
      · rw [List.getElem?_set_ne q1] at h1 h3
        rw [List.getElem?_set_ne q2] at h2 h4
        exact I.sep j k d e a h1 h2 h3 h4

/-! ### blocks, small statements -/
variable {st : Stmt} {rest : List Stmt} {d1 d2 : Sv} {e : Expr} {ev : Ev} {pos : Pos}
def dNext : Sv := fun env b => .nx env b
def dSeq (d1 d2 : Sv) : Sv := fun env b => match d1 env b with
  | .nx e b' => d2 e b'
  | r => r
theorem dss_nil : DSs B X [] dNext := imp_PSs pss_nil fun D σ H h => by
  obtain ⟨env, b, I, w⟩ := h
  exact w σ H I
theorem rd_seq {D : Ends} (h : rdS B (dSeq d1 d2) D σ H) : tSeq (rdS B d1) (rdS B d2) D σ H := by
  obtain ⟨env, b, I, w⟩ := h
  refine ⟨env, b, I, ?_⟩
  unfold dSeq at w
  cases e : d1 env b with
  | nx e1 b1 =>
    rw [e] at w
    exact fun σ' H' I' => ⟨e1, b1, I', w⟩
  | rt v b1 =>
    rw [e] at w
    exact w
  | bk e1 b1 =>
    rw [e] at w
    exact w
  | ct e1 b1 =>
    rw [e] at w
    exact w
  | err c fs b1 =>
    rw [e] at w
    exact w
  | bad =>
    rw [e] at w
    exact w
theorem dss_cons (h1 : DS B X st d1) (h2 : DSs B X rest d2) : DSs B X (st :: rest) (dSeq d1 d2) := imp_PSs (pss_cons h1 h2) fun D σ H h => rd_seq h
theorem dss_one (h1 : DS B X st d1) : DSs B X [st] d1 := pss_one h1
def dBad : Sv := fun _ _ => .bad
theorem ds_never : DS B X st dBad := imp_PS ps_never fun D σ H h => by
  obtain ⟨env, b, I, w⟩ := h
  exact w
theorem dss_never : DSs B X rest dBad := imp_PSs pss_never fun D σ H h => by
  obtain ⟨env, b, I, w⟩ := h
  exact w
theorem ds_pass : DS B X (.Pass pos) dNext := imp_PS ps_pass fun D σ H h => by
  obtain ⟨env, b, I, w⟩ := h
  exact w σ H I
def dBrk : Sv := fun env b => .bk env b
def dCnt : Sv := fun env b => .ct env b
theorem ds_break : DS B X (.Break pos) dBrk := imp_PS ps_break fun D σ H h => by
  obtain ⟨env, b, I, w⟩ := h
  exact w σ H I
theorem ds_cont : DS B X (.Continue pos) dCnt := imp_PS ps_continue fun D σ H h => by
  obtain ⟨env, b, I, w⟩ := h
  exact w σ H I
/-- an expression, then a statement's end -/
def Res.toS (r : Res Wv) (k : Wv → Bw → RS) : RS := match r with
  | .ok w b => k w b
  | .err c fs b => .err c fs b
  | .bad => .bad
theorem rd_toS {k : Wv → Sls → Bw → RS} {D : Ends} {Q : VK} (h : rdS B (fun env b => (ev env b).toS fun w b1 => k w env b1) D σ H)
    (hq : ∀ env b w b1 x H1, Rel B env b σ H → Ext B.R.bo H H1 → BwOk B.R.bo b1 H1 → NdefX.TabsN B.T H1 → RepW B.R (ownO B.O env σ) H H1 w x → wpS B (k w env b1) D → Q x H1) : rdE B ev σ H Q := by
  obtain ⟨env, b, I, w⟩ := h
  refine ⟨env, b, I, ?_⟩
  have w : wpS B ((ev env b).toS fun w b1 => k w env b1) D := w
  cases e : ev env b with
  | ok a b1 =>
    rw [e] at w
    exact fun x H1 e1 e2 e3 e4 => hq env b a b1 x H1 I e1 e2 e3 e4 w
  | err c fs b1 =>
    rw [e] at w
    exact err_of I w
  | bad =>
    rw [e] at w
    exact False.elim w
def dAsg (i : Nat) (ev : Ev) : Sv := fun env b => (ev env b).toS fun w b1 => .nx (env.set i w.slot) b1
theorem rd_asg {i : Nat} {D : Ends} (h : rdS B (dAsg i ev) D σ H) : tAsg (rdE B ev) (gName i) D σ H :=
  rd_toS (k := fun w env b1 => .nx (env.set i w.slot) b1) h fun env b w b1 x H1 I e1 e2 e3 e4 q => q _ _ (I.set e1 e2 e3 e4)
theorem ds_set {i : Nat} {x : Str} {pos' : Pos} (hN : X.N.Nodup) (he : DE B X e ev) (hi : X.N[i]? = some x := by rfl) (hx : Loc X.env.scope x := by first | exact Or.inl rfl | exact Or.inr rfl) (hs : swapsWith e (some (.Name x pos')) pos.line X.env = pure false := by rfl)
    (hf : X.fn x = true ∨ X.env.scope.names.lookup x = some .local := by first | exact .inl rfl | exact .inr rfl) : DS B X (.Assign [.Name x pos'] e pos) (dAsg i ev) := imp_PS (ps_set hN hi hx he hs hf) fun D σ H h => rd_asg h
def dRet (ev : Ev) : Sv := fun env b => (ev env b).toS fun w b1 => .rt w b1
theorem repW_ret {w : Wv} {v : V} (I : Rel B env b σ H) (r : RepW B.R (ownO B.O env σ) H H' w v) : RepW B.R B.O B.He H' w v := by
  cases w with
  | val d => exact Rep.mono (vis_sub fun a q => .inl q) r
  | own d =>
    obtain ⟨a, e, h0, h1, h2⟩ := r
    exact ⟨a, e, I.ext.dom a h0, fun z => h1 (.inl z), RepTop.hv (vis_sub fun c q => q.elim (fun z => .inl (.inl z)) .inr) h2⟩
theorem ds_ret (he : DE B X e ev) : DS B X (.Return (some e) pos) (dRet ev) := imp_PS (ps_ret he) fun D σ H h =>
  rd_toS (k := fun w env b1 => .rt w b1) h fun env b w b1 x H1 I e1 e2 e3 e4 q => q x H1 (I.ext.trans e1) e2 e3 (repW_ret I e4)
def dRetN : Sv := fun _ b => .rt (.val .non) b
theorem ds_retN : DS B X (.Return none pos) dRetN := imp_PS ps_retN fun D σ H h => by
  obtain ⟨env, b, I, w⟩ := h
  exact w .non H I.ext I.bow I.tab rfl
/-- return x, x a list or dict of the body's own -/
def dRetO (i : Nat) : Sv := fun env b => match env[i]? with
  | some (.own d) => .rt (.own d) b
  | some (.val d) => .rt (.val d) b
  | _ => .bad
theorem ds_retO (i : Nat) {x : Str} {p : Pos} (hN : X.N[i]? = some x := by rfl) (hv : Vis X.env.scope x := by first | exact Or.inl rfl | exact Or.inr (Or.inl rfl) | exact Or.inr (Or.inr rfl)) (hd : (x == ("__debug__" : Str)) = false := by decide)
    (hcd : (x == ("__classdict__" : Str)) = false := by decide) : DS B X (.Return (some (.Name x p)) pos) (dRetO i) := imp_PS (ps_ret (pe_var hN hv hd hcd)) fun D σ H h => by
  obtain ⟨env, b, I, w⟩ := h
  unfold dRetO at w
  cases e : env[i]? with
  | none =>
    rw [e] at w
    exact False.elim w
  | some s =>
    rw [e] at w
    cases s with
    | un => exact False.elim w
    | val d =>
      obtain ⟨v, h1, h2⟩ := I.val i d e
      exact ⟨v, h1, w v H I.ext I.bow I.tab (Rep.mono (vis_sub fun a q => .inl q) h2)⟩
    | own d =>
      obtain ⟨a, h1, h2, h3, h4⟩ := I.own i d e
      refine ⟨.ref a, h1, w _ H I.ext I.bow I.tab ⟨a, rfl, h3, h2, RepTop.hv (vis_sub fun c q => ?_) h4⟩⟩
      rcases q with q | q
      · exact .inl q
      · subst q
        exact .inr ⟨i, d, e, h1⟩
def dDrop (ev : Ev) : Sv := fun env b => (ev env b).toS fun _ b1 => .nx env b1
theorem ds_expr (he : DE B X e ev) (hs : swapsWith e none pos.line X.env = pure false := by rfl) : DS B X (.Expr e pos) (dDrop ev) := imp_PS (ps_expr he hs) fun D σ H h =>
  rd_toS (k := fun w env b1 => .nx env b1) h fun env b w b1 x H1 I e1 e2 e3 e4 q => q _ _ (I.go e1 e2 e3)
def dIfS (t : EvT) (d1 d2 : Sv) : Sv := fun env b => match t env b with
  | .ok c b1 => if c = true then d1 env b1 else d2 env b1
  | .err c fs b => .err c fs b
  | .bad => .bad
theorem rd_ifS {t : EvT} {D : Ends} (h : rdS B (dIfS t d1 d2) D σ H) : tIfS (rdT B t) (rdS B d1) (rdS B d2) D σ H := by
  obtain ⟨env, b, I, w⟩ := h
  refine ⟨env, b, I, ?_⟩
  unfold dIfS at w
  cases e : t env b with
  | ok c b1 =>
    rw [e] at w
    intro y H1 e1 e2 e3 e4
    cases (show c = y from e4)
    have J := I.go e1 e2 e3
    cases c with
    | true => exact ⟨env, b1, J, w⟩
    | false => exact ⟨env, b1, J, w⟩
  | err c fs b1 =>
    rw [e] at w
    exact err_of I w
  | bad =>
    rw [e] at w
    exact False.elim w
theorem ds_if {c : Expr} {a f : List Stmt} {t : EvT} (hc : DT B X c t) (ha : DSs B X a d1) (hb : DSs B X f d2) : DS B X (.If c a f pos) (dIfS t d1 d2) := imp_PS (ps_if hc ha hb) fun D σ H h => rd_ifS h
end
end DL

set_option Elab.async false
set_option linter.all false
set_option maxRecDepth 100000
set_option maxHeartbeats 4000000
namespace DL
open PySem PySem.Spec PyProof.Rows L2

/-! ### defs -/
abbrev Mir := List D → Bw → Res Wv
def spD (K : PySem.W.Frag) (mg : Str → Option Value) (T : List NdefX.NTab) (n : Nat) (m : Mir) : Sp := fun vs H Q E =>
  ∃ (fns : List Addr) (bo : Option Addr) (O : Addr → Prop) (ds : List D) (b : Bw), ds.length = n ∧ RepL ⟨K, mg, fns, bo⟩ (vis H O) ds vs ∧ BwOk bo b H ∧ (∀ a, bo = some a → O a) ∧ (∀ a, O a → ∃ o, H a = some o) ∧ NdefX.TabsN T H ∧
    match m ds b with
    | .ok w b' => ∀ v H', Ext bo H H' → BwOk bo b' H' → NdefX.TabsN T H' → RepW ⟨K, mg, fns, bo⟩ O H H' w v → Q v H'
    | .err c fs b' => ∀ cls d H', Ext bo H H' → BwOk bo b' H' → NdefX.TabsN T H' → RepX ⟨K, mg, fns, bo⟩ (vis H' O) c fs cls d → E cls d H'
    | .bad => False
def RS.toR (r : RS) : Res Wv := match r with
  | .nx _ b => .ok (.val .non) b
  | .rt w b => .ok w b
  | .err c fs b => .err c fs b
  | _ => .bad
/-- the slots at a def's entry -/
def ent (N : Nat) (ds : List D) : Sls := ds.map Slot.val ++ List.replicate (N - ds.length) Slot.un
def mir (dv : Sv) (n N : Nat) : Mir := fun ds b => if ds.length = n then (dv (ent N ds) b).toR else .bad
section
variable {Pg : Program} {w : World} {K : PySem.W.Frag} {mg : Str → Option Value} {base : Heap} {T : List NdefX.NTab}
theorem ent_rel {R : RC} {O : Addr → Prop} {H : Hp} {W : WX} {ds : List D} {vs : List V} {b : Bw} {N : List Str} (hl : vs.length ≤ N.length) (r : RepL R (vis H O) ds vs) (hb : BwOk R.bo b H) (bO : ∀ a, R.bo = some a → O a) (od : ∀ a, O a → ∃ o, H a = some o) (t : NdefX.TabsN T H) :
    Rel ⟨R, T, O, H, W, fun _ => none⟩ (ent N.length ds) b (L2.start N vs) H := by
  have hlen := r.length
  have noown : ∀ (i : Nat) (d : D), (ent N.length ds)[i]? ≠ some (.own d) := fun i d e => by
    unfold ent at e
    by_cases h : i < ds.length
    · rw [List.getElem?_append_left (by simpa using h), List.getElem?_map] at e
      cases q : ds[i]? with
      | none => rw [q] at e; exact nomatch e
      | some x => rw [q] at e; exact nomatch e
    · rw [List.getElem?_append_right (by simpa using h), List.getElem?_replicate] at e
      split at e <;> exact nomatch e
  have sub : ∀ {a}, ownO O (ent N.length ds) (L2.start N vs) a → O a := fun h => h.elim id fun ⟨i, d, h1, _⟩ => absurd h1 (noown i d)
  refine ⟨?_, fun i d e => ?_, fun i d e => absurd e (noown i d), fun i j d e a h1 => absurd h1 (noown i d), hb, bO, od, t, Ext.refl H, fun a o e => by cases e⟩
  · unfold ent L2.start
    simp
    omega
  · unfold ent at e
    by_cases h : i < ds.length
    · rw [List.getElem?_append_left (by simpa using h), List.getElem?_map] at e
      cases q : ds[i]? with
      | none => rw [q] at e; exact nomatch e
      | some x =>
        rw [q] at e
        cases e
        obtain ⟨v, h1, h2⟩ := r.get q
        refine ⟨v, ?_, h2.mono (vis_sub fun a h => sub h)⟩
        unfold L2.start
        rw [List.getElem?_append_left (by rw [List.length_map, ← hlen]; exact h), List.getElem?_map, h1]
        rfl
    · rw [List.getElem?_append_right (by simpa using h), List.getElem?_replicate] at e
      split at e <;> exact nomatch e
/-- a def's body as it stands in its frame -/
abbrev bpOf (K : PySem.W.Frag) (mg : Str → Option Value) (T : List NdefX.NTab) (fns : List Addr) (bo : Option Addr) (O : Addr → Prop) (H : Hp) (E : XK) (P : Hp) : BP := ⟨⟨K, mg, fns, bo⟩, T, O, H, fun cls d _ H' => E cls d H', P⟩
theorem end_of {fns : List Addr} {bo : Option Addr} {O : Addr → Prop} {H : Hp} {Q : VK} {E : XK} {P : Hp} {r : RS} (h : match r.toR with
    | .ok w b' => ∀ v H', Ext bo H H' → BwOk bo b' H' → NdefX.TabsN T H' → RepW ⟨K, mg, fns, bo⟩ O H H' w v → Q v H'
    | .err c fs b' => ∀ cls d H', Ext bo H H' → BwOk bo b' H' → NdefX.TabsN T H' → RepX ⟨K, mg, fns, bo⟩ (vis H' O) c fs cls d → E cls d H'
    | .bad => False) : wpS (bpOf K mg T fns bo O H E P) r { nx := fun _ H' => Q .non H', rt := Q } := by
  cases r with
  | nx env b => exact fun σ' H' I => h .non H' I.ext I.bow I.tab rfl
  | rt w b => exact fun v H' e1 e2 e3 e4 => h v H' e1 e2 e3 e4
  | bk env b => exact False.elim h
  | ct env b => exact False.elim h
  | err c fs b => exact fun cls d σ H' e1 e2 e3 e4 => h cls d H' e1 e2 e3 e4
  | bad => exact False.elim h
theorem fn_okD {x qual : Str} {params : Arguments} {body : List Stmt} {scope : Scope} {f : Addr} {fd : FuncData} {N ps : List Str} {k : Nat} {dv : Sv} (F : FunD K x qual params body scope [] [] f fd) (S : FnScope N ps scope)
    (hb : ∀ (fns : List Addr) (bo : Option Addr) (O : Addr → Prop) (P : Hp) (cdv : Value) (A : Around) (outer : List PySem.Env) (s : Shared) (H : Hp) (E : XK), Room k (A.deeper (envOfC qual scope s.heap.objs.size f cdv)) →
      DSs (bpOf K mg T fns bo O H E P) (cxOf (L2.CX Pg w) Pg w K mg base N qual scope f cdv A outer s H E) body dv) :
    FnOk Pg w K mg base (L2.CX Pg w) (k + 1) f fd ps (spD K mg T ps.length (mir dv ps.length N.length)) := by
  have hN : ps.length ≤ N.length := by
    have q := congrArg List.length S.pre
    rw [List.length_take] at q
    omega
  refine F.ok S (fun vs H Q E h => ?_) (fun cdv A outer s H vs Q E hr h => ?_)
  · obtain ⟨_, _, _, ds, _, h1, h2, _⟩ := h
    rw [← h2.length]
    exact h1
  · obtain ⟨fns, bo, O, ds, b, h1, h2, h3, h4, h5, h6, h7⟩ := h
    refine ⟨_, hb fns bo O (fun _ => none) cdv A outer s H E hr, ent N.length ds, b, ent_rel (by rw [← h2.length, h1]; exact hN) h2 h3 h4 h5 h6, ?_⟩
    unfold mir at h7
    rw [if_pos h1] at h7
    exact end_of h7
/-- a def of the module, as a caller takes it -/
structure Cal (Pg : Program) (w : World) (K : PySem.W.Frag) (mg : Str → Option Value) (base : Heap) (T : List NdefX.NTab) (k : Nat) (x : Str) (ps : List Str) (m : Mir) : Prop where
  ex : ∃ (f : Addr) (fd : FuncData), FnOk Pg w K mg base (L2.CX Pg w) k f fd ps (spD K mg T ps.length m) ∧ mg x = some (.ref f) ∧ PySem.W.keepIn K (.ref f) = true ∧ Binds K fd ps []
theorem Cal.mono {j k : Nat} {x : Str} {ps : List Str} {m : Mir} (c : Cal Pg w K mg base T j x ps m) (h : j ≤ k) : Cal Pg w K mg base T k x ps m := by
  obtain ⟨f, fd, a, b⟩ := c.ex
  exact ⟨f, fd, a.mono h, b⟩
theorem Cal.eq {k : Nat} {x : Str} {ps : List Str} {m m' : Mir} (c : Cal Pg w K mg base T k x ps m) (h : m = m') : Cal Pg w K mg base T k x ps m' := h ▸ c
end
/-! ### calls -/
def dCall (m : Mir) (A : EvA) : Ev := fun env b => (A env b).bind fun ds b1 => m ds b1
section
variable {B : BP} {X : Cx} {e : Expr} {es : List Expr} {x : Str} {p pos : Pos} {σ : L2.St} {H : Hp} {Q : VK}
/-- what a call asks -/
theorem sp_of {m : Mir} {n : Nat} {env : Sls} {b1 : Bw} {H1 : Hp} {ds : List D} {vs : List V} (hn : ds.length = n ∨ m ds b1 = .bad) (I : Rel B env b1 σ H1) (x1 : Ext B.R.bo H H1) (r : RepL B.R (vis H1 (ownO B.O env σ)) ds vs) (w : wpG B RepW (ownO B.O env σ) H (m ds b1) σ Q) :
    spD B.R.K B.R.mg B.T n m vs H1 Q (WE B.W σ) := by
  have hn' : ds.length = n := hn.resolve_right fun z => by rw [z] at w; exact w
  refine ⟨B.R.fns, B.R.bo, ownO B.O env σ, ds, b1, hn', r, I.bow, fun a q => I.bOO q, fun a q => I.od q, I.tab, ?_⟩
  cases e : m ds b1 with
  | ok v b2 =>
    rw [e] at w
    exact fun u H' e1 e2 e3 e4 => w u H' (x1.trans e1) e2 e3 (RepW.back e4 x1.dom)
  | err c fs b2 =>
    rw [e] at w
    exact fun cls d H' e1 e2 e3 e4 => w cls d H' (x1.trans e1) e2 e3 e4
  | bad =>
    rw [e] at w
    exact w
def Fits (n : Nat) (m : Mir) : Prop := ∀ ds b, ds.length ≠ n → m ds b = .bad
theorem mir_fits {dv : Sv} {n N : Nat} : Fits n (mir dv n N) := fun ds b h => by
  unfold mir
  rw [if_neg h]
theorem rd_call {m : Mir} {A : EvA} {n : Nat} (hf : Fits n m) (h : rdE B (dCall m A) σ H Q) : rdA B A σ H fun vs H1 => spD B.R.K B.R.mg B.T n m vs H1 Q (WE B.W σ) :=
  rd_bind (k := fun ds _ b1 => m ds b1) h fun env ds b1 vs H1 I1 x1 r1 w => sp_of (by
    by_cases q : ds.length = n
    · exact .inl q
    · exact .inr (hf ds b1 q)) I1 x1 r1 w
theorem de_call {k : Nat} {ps : List Str} {m : Mir} {A : EvA} (c : Cal X.prog X.w X.K X.mg X.base B.T k x ps m) (hf : Fits ps.length m) (hr : Room k X.A) (tk : Takes X B.W) (hg : Gl X x) (ha : DA B X (e :: es) A) (hK : B.R.K = X.K := by rfl) (hM : B.R.mg = X.mg := by rfl)
    (hdb : (x == ("__debug__" : Str)) = false := by decide) (he : starEach (e :: es) X.env = (false, eval e X.env) :: starEach es X.env := by rfl) (hpl : (backTo pos (starEach es X.env)).any (·.1) = false := by rfl) :
    DE B X (.Call (.Name x p) (e :: es) [] pos) (dCall m A) := by
  obtain ⟨f, fd, F, hm, hk, hb⟩ := c.ex
  refine imp_PE (pe_callSD F hr hg hm hk hb .nil (fun σ => passAt tk σ) ha hdb he hpl) fun σ H Q h => ?_
  have z := rd_call hf h
  rw [hK, hM] at z
  show rdA B A σ H fun vs H1 => spD X.K X.mg B.T ps.length m (vs ++ []) H1 Q (WE B.W σ)
  simpa only [List.append_nil] using z
end
/-! ### targets -/
abbrev Bd := D → Sls → Option Sls
def bName (i : Nat) : Bd := fun d env => some (env.set i (.val d))
def bEach : List Bd → List D → Sls → Option Sls
  | [], [], env => some env
  | t :: ts, d :: ds, env => (t d env).bind fun e => bEach ts ds e
  | _, _, _ => none
def bTup (ts : List Bd) : Bd := fun d env => match d with
  | .tup l => bEach ts l env
  | _ => none
def rdG (B : BP) (is : List Nat) (bd : Bd) : TG := fun v σ H Q => ∃ env b d env', Rel B env b σ H ∧ Rep B.R (vis H (ownO B.O env σ)) d v ∧ bd d env = some env' ∧
  ∀ σ', Rel B env' b σ' H → Sub (vis H (ownO B.O env σ)) (vis H (ownO B.O env' σ')) → σ'.length = σ.length → (∀ j, j ∉ is → σ'[j]? = σ[j]?) → (∀ j : Nat, j ∉ is → env'[j]? = env[j]?) → Q σ' H
def rdGs (B : BP) (is : List Nat) (bd : List D → Sls → Option Sls) : TGs := fun vs σ H Q => ∃ env b ds env', Rel B env b σ H ∧ RepL B.R (vis H (ownO B.O env σ)) ds vs ∧ bd ds env = some env' ∧
  ∀ σ', Rel B env' b σ' H → Sub (vis H (ownO B.O env σ)) (vis H (ownO B.O env' σ')) → σ'.length = σ.length → (∀ j, j ∉ is → σ'[j]? = σ[j]?) → (∀ j : Nat, j ∉ is → env'[j]? = env[j]?) → Q σ' H
abbrev DG (B : BP) (X : Cx) (tg : Expr) (is : List Nat) (bd : Bd) : Prop := PG X tg (rdG B is bd)
abbrev DGs (B : BP) (X : Cx) (tgs : List Expr) (is : List Nat) (bds : List Bd) : Prop := PGs X tgs (rdGs B is (bEach bds))
theorem imp_PG {X : Cx} {e : Expr} {t u : TG} (h : PG X e t) (hi : ∀ v σ H Q, u v σ H Q → t v σ H Q) : PG X e u := ⟨fun pins s σ H v y Q I r q => h.run pins s σ H v y Q I r (hi v σ H Q q)⟩
theorem imp_PGs {X : Cx} {e : List Expr} {t u : TGs} (h : PGs X e t) (hi : ∀ v σ H Q, u v σ H Q → t v σ H Q) : PGs X e u := ⟨fun pins s σ H v y Q I r q => h.run pins s σ H v y Q I r (hi v σ H Q q)⟩
section
variable {B : BP} {X : Cx} {tg : Expr} {tgs : List Expr} {pos : Pos} {x : Str}
theorem Rel.setV {env : Sls} {b : Bw} {σ : L2.St} {H : Hp} {i : Nat} {d : D} {v : V} (I : Rel B env b σ H) (r : Rep B.R (vis H (ownO B.O env σ)) d v) : Rel B (env.set i (.val d)) b (σ.set i (some v)) H :=
  I.set (w := .val d) (Ext.refl H) I.bow I.tab r
theorem own_setV {O : Addr → Prop} {env : Sls} {σ : L2.St} {i : Nat} {d : D} {v : V} {a : Addr} (h : ownO O (env.set i (.val d)) (σ.set i (some v)) a) : ownO O env σ a :=
  (own_set h).elim id fun ⟨d, e, _⟩ => nomatch e
theorem dg_name {i : Nat} (hN : X.N.Nodup) (hi : X.N[i]? = some x := by rfl) (hx : Loc X.env.scope x := by first | exact Or.inl rfl | exact Or.inr rfl) (hf : X.fn x = true ∨ X.env.scope.names.lookup x = some .local := by first | exact .inl rfl | exact .inr rfl) : DG B X (.Name x pos) [i] (bName i) :=
  imp_PG (pg_name hN hi hx hf) fun v σ H Q h => by
    obtain ⟨env, b, d, env', I, r, e, q⟩ := h
    cases e
    exact q _ (I.setV r) (vis_sub fun a z => own_setV z) (by simp) (fun j hj => by
      rw [List.getElem?_set_ne (fun z => hj (by simp [z]))]) fun j hj => by
      rw [List.getElem?_set_ne (fun z => hj (by simp [z]))]
theorem dgs_nil : DGs B X [] [] [] := imp_PGs pgs_nil fun v σ H Q h => by
  obtain ⟨env, b, ds, env', I, r, e, q⟩ := h
  cases ds with
  | nil =>
    cases r
    cases e
    exact ⟨rfl, q σ I (Sub.refl _) rfl (fun _ _ => rfl) fun _ _ => rfl⟩
  | cons d ds => cases e
theorem dgs_cons {is js : List Nat} {bd : Bd} {bds : List Bd} (h1 : DG B X tg is bd) (h2 : DGs B X tgs js bds) (hs : (assignEach (tg :: tgs) X.env).map (·.2) = assign tg X.env :: (assignEach tgs X.env).map (·.2) := by rfl) : DGs B X (tg :: tgs) (is ++ js) (bd :: bds) :=
  imp_PGs (pgs_cons h1 h2 hs) fun vs σ H Q h => by
    obtain ⟨env, b, ds, env', I, r, e, q⟩ := h
    cases ds with
    | nil => cases e
    | cons d ds =>
      obtain ⟨v, vr, rfl, r1, r2⟩ := r
      cases e1 : bd d env with
      | none =>
        simp [bEach, e1] at e
      | some env1 =>
        simp [bEach, e1] at e
        refine ⟨v, vr, rfl, env, b, d, env1, I, r1, e1, fun σ1 I1 s1 l1 k1 g1 => ⟨env1, b, ds, env', I1, r2.mono s1, e, fun σ2 I2 s2 l2 k2 g2 => q σ2 I2 (s1.trans s2) (l2.trans l1) (fun j hj => ?_) fun j hj => ?_⟩⟩
        · rw [k2 j (fun z => hj (by simp [z])), k1 j (fun z => hj (by simp [z]))]
        · rw [g2 j (fun z => hj (by simp [z])), g1 j (fun z => hj (by simp [z]))]
theorem dg_tup {is : List Nat} {bds : List Bd} {k n : Nat} (hc : X.calm = true) (h : DGs B X tgs is bds) (hK : B.R.K = X.K := by rfl) (hl : bds.length = n := by rfl)
    (hn : (assignEach tgs X.env).length = n := by rfl) (hst : (assignEach tgs X.env).findIdx? (·.1) = none := by rfl) : DG B X (.Tuple tgs k pos) is (bTup bds) :=
  imp_PG (pg_tup hc h hn hst) fun v σ H Q h => by
    obtain ⟨env, b, d, env', I, r, e, q⟩ := h
    cases d with
    | tup l =>
      obtain ⟨a, vs, rfl, h1, h2, h3⟩ := r
      have len : ∀ (bs : List Bd) (l : List D) (env env' : Sls), bEach bs l env = some env' → l.length = bs.length := by
        intro bs
        induction bs with
        | nil =>
          intro l env env' e
          cases l with
          | nil => rfl
          | cons d l => cases e
        | cons t ts ih =>
          intro l env env' e
          cases l with
          | nil => cases e
          | cons d l =>
            cases e1 : t d env with
            | none => simp [bEach, e1] at e
            | some env1 =>
              simp [bEach, e1] at e
              simp [ih l env1 env' e]
      exact ⟨a, vs, rfl, by rw [← hK]; exact vis_sqt h1, by rw [← h2.length, len _ _ _ _ e, hl], env, b, l, env', I, h2, e, q⟩
    | _ => cases e
end
end DL

set_option Elab.async false
set_option linter.all false
set_option maxRecDepth 100000
set_option maxHeartbeats 4000000
namespace DL
open PySem PySem.Spec PyProof.Rows L2

/-! ### what is walked -/
/-- J yields the things ds, wherever Pi and (visibly) Pv stand -/
def ItRep (R : RC) (Pi Pv : Hp) (J : It) (ds : List D) : Prop := ∀ (H : Hp) (O : Addr → Prop), Sub Pi H → Sub Pv (vis H O) → (∀ a, H a = none → ¬ O a) →
  (∀ (i : Nat) (d : D), ds[i]? = some d → J.go i H ∧ ∀ x H', J.yld i H x H' → Same H H' ∧ Rep R (vis H' O) d x) ∧ J.stop ds.length H
def rhoI : Rho (List D) It := fun R O _ H' ds J => ItRep R (vis H' O) (vis H' O) J ds ∧ ds.length ≤ LIM
/-- .. a list of the body's own, too -/
def rhoJ (O0 : Addr → Prop) : Rho (List D) It := fun R O _ H' ds J => ItRep R (vis H' O0) (vis H' O) J ds ∧ ds.length ≤ LIM
abbrev EvI := Sls → Bw → Res (List D)
abbrev rdI (B : BP) (evi : EvI) : TI := rd B rhoI evi
abbrev rdJ (B : BP) (evi : EvI) : TI := rd B (rhoJ B.O) evi
abbrev DI (B : BP) (X : Cx) (tg e : Expr) (evi : EvI) : Prop := PI X tg e (rdI B evi)
abbrev DJ (B : BP) (X : Cx) (tg e : Expr) (evi : EvI) : Prop := PI X tg e (rdJ B evi)
theorem imp_PI {X : Cx} {tg e : Expr} {t u : TI} (h : PI X tg e t) (hi : ∀ σ H Q, u σ H Q → t σ H Q) : PI X tg e u := ⟨fun pins s σ H Q I q => h.run pins s σ H Q I (hi σ H Q q)⟩
section
variable {B : BP} {X : Cx} {tg e : Expr} {ev : Ev} {evi : EvI}
theorem di_dj (h : DI B X tg e evi) : DJ B X tg e evi := imp_PI h fun σ H Q w => by
  obtain ⟨env, b, I, w⟩ := w
  refine ⟨env, b, I, ?_⟩
  cases q : evi env b with
  | ok ds b1 =>
    rw [q] at w
    exact fun J H' e1 e2 e3 e4 => w J H' e1 e2 e3 ⟨fun H2 O s1 s2 od => e4.1 H2 O ((vis_sub fun a z => .inl z).trans s1) s2 od, e4.2⟩
  | err c fs b1 =>
    rw [q] at w
    exact w
  | bad =>
    rw [q] at w
    exact w
/-- a list as it stands -/
theorem it_list {R : RC} {Pi Pv : Hp} {a : Addr} {vs : List V} {ds : List D} (h : SqL R.K Pi a vs) (r : RepL R Pv ds vs) : ItRep R Pi Pv (Itl R.K a) ds := fun H O s1 s2 od => by
  have hH := s1.seq h
  refine ⟨fun i d e => ?_, ⟨vs, hH, by rw [r.length]; exact Nat.le_refl _⟩⟩
  obtain ⟨v, e1, r1⟩ := r.get e
  refine ⟨⟨vs, v, hH, e1⟩, fun x H' y => ?_⟩
  obtain ⟨rfl, y⟩ := y
  have z := y vs hH
  rw [e1] at z
  cases z
  exact ⟨Same.refl _, r1.mono s2⟩
theorem it_tup {R : RC} {Pi Pv : Hp} {a : Addr} {vs : List V} {ds : List D} (h : SqX R.K Pi a vs) (r : RepL R Pv ds vs) : ItRep R Pi Pv (Itt R.K a) ds := fun H O s1 s2 od => by
  have hH := s1.tup h.1
  refine ⟨fun i d e => ?_, ⟨vs, hH, by rw [r.length]; exact Nat.le_refl _⟩⟩
  obtain ⟨v, e1, r1⟩ := r.get e
  refine ⟨⟨vs, v, hH, e1⟩, fun x H' y => ?_⟩
  obtain ⟨rfl, y⟩ := y
  have z := y vs hH
  rw [e1] at z
  cases z
  exact ⟨Same.refl _, r1.mono s2⟩
theorem it_rng {R : RC} {Pi Pv : Hp} {lo : Int} {n : Nat} : ItRep R Pi Pv (Itr lo n) ((List.range n).map fun i => .int (lo + (i : Nat))) := fun H O s1 s2 od => by
  refine ⟨fun i d e => ?_, by show n ≤ _; simp⟩
  rw [List.getElem?_map] at e
  by_cases hi : i < n
  · rw [List.getElem?_range hi] at e
    cases e
    exact ⟨hi, fun x H' y => by obtain ⟨rfl, rfl⟩ := y; exact ⟨Same.refl _, rfl⟩⟩
  · rw [List.getElem?_eq_none (by simpa using hi)] at e
    cases e
/-- a list or a tuple -/
def dSeqI (ev : Ev) : EvI := fun env b => (ev env b).bind fun w b1 => match w.d with
  | .lst l => .ok l b1
  | .tup l => .ok l b1
  | _ => .bad
theorem di_seq (h : DE B X e ev) (hK : B.R.K = X.K := by rfl) : DI B X tg e (dSeqI ev) := by
  refine ⟨fun pins s σ H R I w => ?_⟩
  obtain ⟨env, b, J, w⟩ := w
  have w : wpG B rhoI (ownO B.O env σ) H ((ev env b).bind fun w b1 => match w.d with | .lst l => .ok l b1 | .tup l => .ok l b1 | _ => .bad) σ R := w
  cases q : ev env b with
  | bad =>
    rw [q] at w
    exact False.elim w
  | err c fs b1 =>
    rw [q] at w
    refine (pi_list h).run pins s σ H R I ⟨env, b, J, ?_⟩
    rw [q]
    exact w
  | ok a b1 =>
    rw [q] at w
    have w : wpG B rhoI (ownO B.O env σ) H (match a.d with | .lst l => .ok l b1 | .tup l => .ok l b1 | _ => .bad) σ R := w
    cases z : a.d with
    | lst l =>
      rw [z] at w
      refine (pi_list h).run pins s σ H R I ⟨env, b, J, ?_⟩
      rw [q]
      intro x H1 e1 e2 e3 e4
      have r := e4.rep
      rw [z] at r
      obtain ⟨a1, vs, rfl, r1, r2, r3⟩ := r
      refine ⟨a1, rfl, ⟨vs, by rw [← hK]; exact vis_sql r1⟩, ?_⟩
      rw [← hK]
      exact w _ H1 e1 e2 e3 ⟨it_list r1 r2, r3⟩
    | tup l =>
      rw [z] at w
      refine (pi_tup h).run pins s σ H R I ⟨env, b, J, ?_⟩
      rw [q]
      intro x H1 e1 e2 e3 e4
      have r := e4.rep
      rw [z] at r
      obtain ⟨a1, vs, rfl, r1, r2, r3⟩ := r
      refine ⟨a1, rfl, ⟨vs, by rw [← hK]; exact vis_sqt r1⟩, ?_⟩
      rw [← hK]
      exact w _ H1 e1 e2 e3 ⟨it_tup r1 r2, r3⟩
    | _ =>
      rw [z] at w
      exact False.elim w
/-- a list of the body's own, in a comprehension -/
def dOwnI (i : Nat) : EvI := fun env b => match env[i]? with
  | some (.own (.lst l)) => .ok l b
  | some (.val (.lst l)) => .ok l b
  | _ => .bad
theorem dj_own (i : Nat) {x : Str} {pos : Pos} (hK : B.R.K = X.K := by rfl) (hN : X.N[i]? = some x := by rfl) (hv : Vis X.env.scope x := by first | exact Or.inl rfl | exact Or.inr (Or.inl rfl) | exact Or.inr (Or.inr rfl)) (hd : (x == ("__debug__" : Str)) = false := by decide)
    (hcd : (x == ("__classdict__" : Str)) = false := by decide) : DJ B X tg (.Name x pos) (dOwnI i) := imp_PI (pi_list (pe_var hN hv hd hcd)) fun σ H R w => by
  obtain ⟨env, b, I, w⟩ := w
  unfold dOwnI at w
  cases e : env[i]? with
  | none =>
    rw [e] at w
    exact False.elim w
  | some s =>
    rw [e] at w
    cases s with
    | un => exact False.elim w
    | val d =>
      cases d with
      | lst l =>
        obtain ⟨v, h1, h2⟩ := I.val i _ e
        obtain ⟨a, vs, rfl, r1, r2, r3⟩ := h2
        refine ⟨.ref a, h1, a, rfl, ⟨vs, by rw [← hK]; exact vis_sql r1⟩, ?_⟩
        rw [← hK]
        exact w _ H (Ext.refl H) I.bow I.tab ⟨it_list ((vis_sub fun a z => .inl z).seq r1) r2, r3⟩
      | _ => exact False.elim w
    | own d =>
      cases d with
      | lst l =>
        obtain ⟨a, h1, h2, h3, h4⟩ := I.own i _ e
        obtain ⟨vs, r1, r2, r3⟩ := h4
        refine ⟨.ref a, h1, a, rfl, ⟨vs, .inl (.inl r1)⟩, ?_⟩
        rw [← hK]
        exact w _ H (Ext.refl H) I.bow I.tab ⟨it_list (.inl (.inl (vis_of r1 h2))) r2, r3⟩
      | _ => exact False.elim w
/-! ### range -/
def rngOk (n : Int) : Bool := decide (n ≤ 500000) && decide (-500000 ≤ n)
def rngL (lo hi : Int) : List D := (List.range (hi - lo).toNat).map fun i => .int (lo + (i : Nat))
def rng1 (d : D) (b : Bw) : Res (List D) := match d with
  | .int n => if rngOk n then .ok (rngL 0 n) b else .bad
  | _ => .bad
def rng2 (d e : D) (b : Bw) : Res (List D) := match d, e with
  | .int m, .int n => if rngOk m && rngOk n then .ok (rngL m n) b else .bad
  | _, _ => .bad
def dRng1 (ea : Ev) : EvI := fun env b => (ea env b).bind fun w b1 => rng1 w.d b1
def dRng2 (ea eb : Ev) : EvI := fun env b => (ea env b).bind fun w b1 => (eb env b1).bind fun u b2 => rng2 w.d u.d b2
theorem rng_ok {n : Int} (h : rngOk n = true) : n ≤ 500000 ∧ -500000 ≤ n := by
  unfold rngOk at h
  rw [Bool.and_eq_true] at h
  exact ⟨of_decide_eq_true h.1, of_decide_eq_true h.2⟩
variable {a c : Expr} {ea eb : Ev} {p pos : Pos}
theorem rng_len {m n : Int} (h1 : -500000 ≤ m) (h2 : n ≤ 500000) : (rngL m n).length ≤ LIM := by
  unfold rngL LIM
  rw [List.length_map, List.length_range]
  omega
theorem di_rng1 (hg : Gl X "range") (hm : X.mg "range" = none) (ha : DE B X a ea) (hs : starEach [a] X.env = [(false, eval a X.env)] := by rfl) : DI B X tg (.Call (.Name "range" p) [a] [] pos) (dRng1 ea) :=
  imp_PI (pi_range1 hg hm (pa_cons ha pa_nil hs) hs) fun σ H R w => by
    refine rd_bind (ρ := rhoI) (k := fun (w : Wv) _ b1 => rng1 w.d b1) w fun env w1 b1 x H1 I1 x1 r1 w => ?_
    have r := r1.rep
    cases z : w1.d with
    | int n =>
      rw [z] at r w
      cases (show x = .int n from r)
      have w : wpG B rhoI (ownO B.O env σ) H (if rngOk n = true then .ok (rngL 0 n) b1 else .bad) σ R := w
      by_cases hn : rngOk n = true
      · rw [if_pos hn] at w
        have hh := rng_ok hn
        refine ⟨n, rfl, by omega, by omega, wpG_ok (x := Itr 0 n.toNat) w x1 I1.bow I1.tab ?_⟩
        have q := it_rng (R := B.R) (Pi := vis H1 (ownO B.O env σ)) (Pv := vis H1 (ownO B.O env σ)) (lo := 0) (n := n.toNat)
        refine ⟨?_, rng_len (by omega) hh.1⟩
        unfold rngL
        rw [Int.sub_zero]
        exact q
      · rw [if_neg hn] at w
        exact False.elim w
    | _ =>
      rw [z] at w
      exact False.elim w
theorem di_rng2 (hg : Gl X "range") (hm : X.mg "range" = none) (ha : DE B X a ea) (hb : DE B X c eb) (hs : starEach [a, c] X.env = [(false, eval a X.env), (false, eval c X.env)] := by rfl) (hs2 : starEach [c] X.env = [(false, eval c X.env)] := by rfl) :
    DI B X tg (.Call (.Name "range" p) [a, c] [] pos) (dRng2 ea eb) :=
  imp_PI (pi_range2 hg hm (pa_cons ha (pa_cons hb pa_nil hs2) (by rw [hs, hs2])) hs hs2) fun σ H R w => by
    refine rd_bind2 (ρ := rhoI) (k := fun (w u : Wv) _ b2 => rng2 w.d u.d b2) staysW staysW w fun env w1 w2 b2 x y H2 I2 x2 r1 r2 w => ?_
    have r1 := r1.rep
    have r2 := r2.rep
    cases z1 : w1.d with
    | int m =>
      cases z2 : w2.d with
      | int n =>
        rw [z1] at r1 w
        rw [z2] at r2 w
        cases (show x = .int m from r1)
        cases (show y = .int n from r2)
        have w : wpG B rhoI (ownO B.O env σ) H (if (rngOk m && rngOk n) = true then .ok (rngL m n) b2 else .bad) σ R := w
        by_cases hn : (rngOk m && rngOk n) = true
        · rw [if_pos hn] at w
          rw [Bool.and_eq_true] at hn
          have h1 := rng_ok hn.1
          have h2 := rng_ok hn.2
          exact ⟨m, n, rfl, ⟨by omega, by omega, by omega, by omega⟩, wpG_ok (x := Itr m (n - m).toNat) w x2 I2.bow I2.tab ⟨it_rng, rng_len h1.2 h2.1⟩⟩
        · rw [if_neg hn] at w
          exact False.elim w
      | _ =>
        rw [z1, z2] at w
        exact False.elim w
    | _ =>
      rw [z1] at w
      exact False.elim w
end

/-! ### for -/
def forL (bd : Bd) (body : Sv) : List D → Sv
  | [], env, b => .nx env b
  | d :: ds, env, b => match bd d env with
    | none => .bad
    | some e => match body e b with
      | .nx e' b' => forL bd body ds e' b'
      | .ct e' b' => forL bd body ds e' b'
      | .bk e' b' => .nx e' b'
      | .rt w b' => .rt w b'
      | .err c fs b' => .err c fs b'
      | .bad => .bad
def dFor (evi : EvI) (bd : Bd) (body : Sv) : Sv := fun env b => match evi env b with
  | .ok ds b1 => forL bd body ds env b1
  | .err c fs b => .err c fs b
  | .bad => .bad
abbrev BP.at (B : BP) (P : Hp) : BP := { B with P := P }
theorem Rel.atP {B : BP} {env : Sls} {b : Bw} {σ : L2.St} {H P : Hp} (I : Rel B env b σ H) (h : Sub P (vis H (ownO B.O env σ))) : Rel (B.at P) env b σ H := ⟨I.len, I.val, I.own, I.sep, I.bow, I.bO, I.odom, I.tab, I.ext, h⟩
section
variable {B : BP} {X : Cx} {tg iter : Expr} {evi : EvI} {bd : Bd} {is : List Nat} {body : Sv} {sts : List Stmt} {pos : Pos}
/-- the wish at a state of a wider pin -/
theorem wpS_at {P : Hp} {r : RS} {D : Ends} (hP : Sub B.P P) (h : wpS B r D) : wpS (B.at P) r D := by
  have back : ∀ {env b σ H}, Rel (B.at P) env b σ H → Rel B env b σ H := fun I => ⟨I.len, I.val, I.own, I.sep, I.bow, I.bO, I.odom, I.tab, I.ext, hP.trans I.pin⟩
  cases r with
  | nx env b => exact fun σ H I => h σ H (back I)
  | rt w b => exact h
  | bk env b => exact fun σ H I => h σ H (back I)
  | ct env b => exact fun σ H I => h σ H (back I)
  | err c fs b => exact h
  | bad => exact h
theorem Rel.back {P : Hp} (hP : Sub B.P P) {env : Sls} {b : Bw} {σ : L2.St} {H : Hp} (I : Rel (B.at P) env b σ H) : Rel B env b σ H := ⟨I.len, I.val, I.own, I.sep, I.bow, I.bO, I.odom, I.tab, I.ext, hP.trans I.pin⟩
theorem rd_for {D : Ends} {σ : L2.St} {H : Hp} (w : rdS B (dFor evi bd body) D σ H) :
    tFor (rdI B evi) (fun v σ H Q => ∃ P, rdG (B.at P) is bd v σ H Q) (fun D σ H => ∃ P, rdS (B.at P) body D σ H) D σ H := by
  obtain ⟨env, b, J, w⟩ := w
  unfold dFor at w
  refine ⟨env, b, J, ?_⟩
  cases q : evi env b with
  | bad =>
    rw [q] at w
    exact False.elim w
  | err c fs b1 =>
    rw [q] at w
    exact err_of J w
  | ok ds b1 =>
    rw [q] at w
    intro Jt H1 e1 e2 e3 e4
    have J1 := J.go e1 e2 e3
    generalize hP : vis H1 (ownO B.O env σ) = P at e4
    have e4 : ItRep B.R P P Jt ds := by
      have z : ItRep B.R (vis H1 (ownO B.O env σ)) (vis H1 (ownO B.O env σ)) Jt ds := e4.1
      rw [hP] at z
      exact z
    have hPP : Sub B.P P := hP ▸ J1.pin
    refine ⟨fun i m σ' H' => m = ds.length - i ∧ i ≤ ds.length ∧ ∃ env' b', Rel (B.at P) env' b' σ' H' ∧ wpS B (forL bd body (ds.drop i) env' b') D,
      ⟨ds.length, rfl, Nat.zero_le _, env, b1, J1.atP (hP ▸ Sub.refl _), w⟩, ?_⟩
    rintro i m σ' H' ⟨rfl, hi, env', b', I', w'⟩
    obtain ⟨items, stop⟩ := e4 H' (ownO B.O env' σ') (I'.pin.trans vis_all) I'.pin (Rel.nod (B := B.at P) I')
    by_cases hlt : i < ds.length
    · have hd : ds[i]? = some ds[i] := List.getElem?_eq_getElem hlt
      obtain ⟨go, yld⟩ := items i _ hd
      rw [List.drop_eq_getElem_cons hlt] at w'
      have w' : wpS B (match bd ds[i] env' with
        | none => .bad
        | some e => match body e b' with
          | .nx e' b' => forL bd body (ds.drop (i + 1)) e' b'
          | .ct e' b' => forL bd body (ds.drop (i + 1)) e' b'
          | .bk e' b' => .nx e' b'
          | .rt w b' => .rt w b'
          | .err c fs b' => .err c fs b'
          | .bad => .bad) D := w'
      cases hb : bd ds[i] env' with
      | none =>
        rw [hb] at w'
        exact False.elim w'
      | some env1 =>
        rw [hb] at w'
        refine .inr ⟨go, fun σ2 H2 => ∃ env2 b2, Rel (B.at P) env2 b2 σ2 H2 ∧ wpS B (forL bd body (ds.drop (i + 1)) env2 b2) D, fun σ2 H2 ⟨env2, b2, I2, w2⟩ => ⟨ds.length - (i + 1), by omega, rfl, hlt, env2, b2, I2, w2⟩, fun x H2 y => ?_⟩
        obtain ⟨sm, rx⟩ := yld x H2 y
        have I2 : Rel (B.at P) env' b' σ' H2 := I'.go (same_ext sm) (bw_same I'.bow sm) (tabs_same I'.tab sm)
        refine ⟨P, env', b', ds[i], env1, I2, rx, hb, fun σ3 I3 _ _ _ _ => ⟨P, env1, b', I3, ?_⟩⟩
        have w' : wpS B (match body env1 b' with
          | .nx e' b' => forL bd body (ds.drop (i + 1)) e' b'
          | .ct e' b' => forL bd body (ds.drop (i + 1)) e' b'
          | .bk e' b' => .nx e' b'
          | .rt w b' => .rt w b'
          | .err c fs b' => .err c fs b'
          | .bad => .bad) D := w'
        cases hr : body env1 b' with
        | nx e2 b2 =>
          rw [hr] at w'
          exact fun σ4 H4 I4 => ⟨e2, b2, I4, w'⟩
        | ct e2 b2 =>
          rw [hr] at w'
          exact fun σ4 H4 I4 => ⟨e2, b2, I4, w'⟩
        | bk e2 b2 =>
          rw [hr] at w'
          exact fun σ4 H4 I4 => w' σ4 H4 (Rel.back hPP I4)
        | rt v b2 =>
          rw [hr] at w'
          exact w'
        | err c fs b2 =>
          rw [hr] at w'
          exact w'
        | bad =>
          rw [hr] at w'
          exact w'
    · have e : i = ds.length := by omega
      subst e
      rw [List.drop_length] at w'
      exact .inl ⟨stop, w' σ' H' (Rel.back hPP I')⟩
theorem ds_for (hp : PassesOwn (model X.prog X.w) X.A X.env X.xe) (hc : X.calm = true) (hi : DI B X tg iter evi) (hg : ∀ P, DG (B.at P) X tg is bd) (hb : ∀ P, DSs (B.at P) X sts body)
    (hs : ∀ x, foldedSetIterable iter X.env x = pure x := by intro _; rfl) : DS B X (.For tg iter sts [] pos) (dFor evi bd body) :=
  imp_PS (ps_for hp hc hi (g := fun v σ H Q => ∃ P, rdG (B.at P) is bd v σ H Q) (tb := fun D σ H => ∃ P, rdS (B.at P) body D σ H) ⟨fun pins s σ H v u Q I r ⟨P, h⟩ => (hg P).run pins s σ H v u Q I r h⟩ ⟨fun pins s σ H D I ⟨P, h⟩ => (hb P).run pins s σ H D I h⟩ hs) fun D σ H w => rd_for w

/-! ### while -/
def whN (t : EvT) (body : Sv) : Nat → Sv
  | 0, _, _ => .bad
  | n + 1, env, b => match t env b with
    | .ok c b1 => if c = true then (match body env b1 with
      | .nx e' b' => whN t body n e' b'
      | .ct e' b' => whN t body n e' b'
      | .bk e' b' => .nx e' b'
      | .rt w b' => .rt w b'
      | .err c fs b' => .err c fs b'
      | .bad => .bad) else .nx env b1
    | .err c fs b => .err c fs b
    | .bad => .bad
open Classical in
noncomputable def dWhile (t : EvT) (body : Sv) : Sv := fun env b => if h : ∃ n, whN t body n env b ≠ .bad then whN t body (choose h) env b else .bad
theorem whN_more {t : EvT} {body : Sv} : ∀ {n : Nat} {env : Sls} {b : Bw}, whN t body n env b ≠ .bad → whN t body (n + 1) env b = whN t body n env b
  | 0, _, _, h => absurd rfl h
  | n + 1, env, b, h => by
    unfold whN at h ⊢
    cases q : t env b with
    | bad => rfl
    | err c fs b1 => rfl
    | ok c b1 =>
      simp only [q] at h ⊢
      cases c with
      | false => rfl
      | true =>
        simp only [if_true] at h ⊢
        cases z : body env b1 with
        | nx e' b' =>
          simp only [z] at h ⊢
          exact whN_more h
        | ct e' b' =>
          simp only [z] at h ⊢
          exact whN_more h
        | _ => rfl
theorem whN_le {t : EvT} {body : Sv} {n m : Nat} {env : Sls} {b : Bw} (h : whN t body n env b ≠ .bad) (l : n ≤ m) : whN t body m env b = whN t body n env b := by
  induction l with
  | refl => rfl
  | step l ih => rw [whN_more (by rw [ih]; exact h), ih]
/-- what a while loop comes to, by any number of turns that suffices -/
theorem dWhile_eq {t : EvT} {body : Sv} (n : Nat) {env : Sls} {b : Bw} {r : RS} (h : whN t body n env b = r) (hr : r ≠ .bad) : dWhile t body env b = r := by
  have hn : whN t body n env b ≠ .bad := by rw [h]; exact hr
  have ex : ∃ n, whN t body n env b ≠ .bad := ⟨n, hn⟩
  unfold dWhile
  rw [dif_pos ex]
  have hc := Classical.choose_spec ex
  rw [← h, ← whN_le hc (Nat.le_max_left _ n), ← whN_le hn (Nat.le_max_right (Classical.choose ex) n)]
theorem rd_while {t : EvT} {D : Ends} {σ : L2.St} {H : Hp} (w : rdS B (dWhile t body) D σ H) : tWhile (rdT B t) (rdS B body) D σ H := by
  obtain ⟨env, b, J, w⟩ := w
  unfold dWhile at w
  by_cases ex : ∃ n, whN t body n env b ≠ .bad
  · rw [dif_pos ex] at w
    generalize Classical.choose ex = n at w
    refine ⟨fun m σ' H' => ∃ env' b', Rel B env' b' σ' H' ∧ wpS B (whN t body m env' b') D, ⟨n, env, b, J, w⟩, ?_⟩
    rintro m σ' H' ⟨env', b', I', w'⟩
    cases m with
    | zero => exact False.elim w'
    | succ m =>
      unfold whN at w'
      refine ⟨env', b', I', ?_⟩
      cases q : t env' b' with
      | bad =>
        rw [q] at w'
        exact False.elim w'
      | err c fs b1 =>
        rw [q] at w'
        exact err_of I' w'
      | ok c b1 =>
        rw [q] at w'
        intro y H1 e1 e2 e3 e4
        cases (show c = y from e4)
        have J1 := I'.go e1 e2 e3
        cases c with
        | false => exact w' σ' H1 J1
        | true =>
          have w' : wpS B (match body env' b1 with
            | .nx e' b' => whN t body m e' b'
            | .ct e' b' => whN t body m e' b'
            | .bk e' b' => .nx e' b'
            | .rt w b' => .rt w b'
            | .err c fs b' => .err c fs b'
            | .bad => .bad) D := w'
          refine ⟨fun σ2 H2 => ∃ env2 b2, Rel B env2 b2 σ2 H2 ∧ wpS B (whN t body m env2 b2) D, fun σ2 H2 h2 => ⟨m, Nat.lt_succ_self m, h2⟩, env', b1, J1, ?_⟩
          cases hr : body env' b1 with
          | nx e2 b2 =>
            rw [hr] at w'
            exact fun σ4 H4 I4 => ⟨e2, b2, I4, w'⟩
          | ct e2 b2 =>
            rw [hr] at w'
            exact fun σ4 H4 I4 => ⟨e2, b2, I4, w'⟩
          | bk e2 b2 =>
            rw [hr] at w'
            exact fun σ4 H4 I4 => w' σ4 H4 I4
          | rt v b2 =>
            rw [hr] at w'
            exact w'
          | err c fs b2 =>
            rw [hr] at w'
            exact w'
          | bad =>
            rw [hr] at w'
            exact w'
  · rw [dif_neg ex] at w
    exact False.elim w
theorem ds_while {c : Expr} {t : EvT} (hp : PassesOwn (model X.prog X.w) X.A X.env X.xe) (hc : DT B X c t) (hb : DSs B X sts body) : DS B X (.While c sts [] pos) (dWhile t body) :=
  imp_PS (ps_while hp hc hb) fun D σ H w => rd_while w
end
end DL

set_option Elab.async false
set_option linter.all false
set_option maxRecDepth 100000
set_option maxHeartbeats 4000000
namespace DL
open PySem PySem.Spec PyProof.Rows L2

/-! ### comprehensions -/
def wipeE (env : Sls) : List Nat → Sls
  | [] => env
  | v :: vs => (wipeE env vs).set v .un
def noOwn (env : Sls) (vs : List Nat) : Bool := vs.all fun i => match env[i]? with
  | some (.own _) => false
  | _ => true
theorem wipeE_length (env : Sls) : ∀ vs : List Nat, (wipeE env vs).length = env.length
  | [] => rfl
  | v :: vs => by unfold wipeE; rw [List.length_set, wipeE_length env vs]
theorem wipeE_val {env : Sls} {i : Nat} {s : Slot} (hs : s ≠ .un) : ∀ {vs : List Nat}, (wipeE env vs)[i]? = some s → env[i]? = some s ∧ i ∉ vs
  | [], h => ⟨h, by simp⟩
  | v :: vs, h => by
    unfold wipeE at h
    by_cases hi : v = i
    · subst hi
      by_cases hv : v < (wipeE env vs).length
      · rw [List.getElem?_set_self hv] at h
        cases h
        exact absurd rfl hs
      · rw [List.getElem?_eq_none (by simpa using hv)] at h
        cases h
    · rw [List.getElem?_set_ne hi] at h
      obtain ⟨h1, h2⟩ := wipeE_val hs h
      exact ⟨h1, by simp only [List.mem_cons, not_or]; exact ⟨fun e => hi e.symm, h2⟩⟩
theorem wipeE_keep {env : Sls} {i : Nat} : ∀ {vs : List Nat}, i ∉ vs → (wipeE env vs)[i]? = env[i]?
  | [], _ => rfl
  | v :: vs, h => by
    simp only [List.mem_cons, not_or] at h
    unfold wipeE
    rw [List.getElem?_set_ne (fun e => h.1 e.symm), wipeE_keep h.2]
theorem wipe_keep {σ : L2.St} {i : Nat} : ∀ {vs : List Nat}, i ∉ vs → (wipe σ vs)[i]? = σ[i]?
  | [], _ => rfl
  | v :: vs, h => by
    simp only [List.mem_cons, not_or] at h
    unfold wipe
    rw [List.getElem?_set_ne (fun e => h.1 e.symm), wipe_keep h.2]
theorem wipe_in {σ : L2.St} {i : Nat} : ∀ {vs : List Nat}, i ∈ vs → (wipe σ vs)[i]? = if i < σ.length then some none else none
  | [], h => by simp at h
  | v :: vs, h => by
    unfold wipe
    by_cases q : v = i
    · subst q
      by_cases l : v < σ.length
      · rw [List.getElem?_set_self (by rw [wipe_length]; exact l), if_pos l]
      · rw [List.getElem?_eq_none (by rw [List.length_set, wipe_length]; omega), if_neg l]
    · rw [List.getElem?_set_ne q]
      exact wipe_in ((List.mem_cons.mp h).resolve_left fun e => q e.symm)
theorem wipe_same {σ σ2 : L2.St} {vs : List Nat} (hl : σ2.length = (wipe σ vs).length) (h : ∀ j, j ∉ vs → σ2[j]? = (wipe σ vs)[j]?) : wipe σ2 vs = wipe σ vs := by
  refine List.ext_getElem? fun j => ?_
  rw [wipe_length] at hl
  by_cases q : j ∈ vs
  · rw [wipe_in q, wipe_in q, hl]
  · rw [wipe_keep q, h j q]
/-- the parameters within a block: what the new list D is, is not seen -/
abbrev BP.cmp (B : BP) (O : Addr → Prop) (P : Hp) : BP := { B with O := O, W := fun _ _ _ _ => False, P := P }
def compL (bd : Bd) (tt : EvT) (te : Ev) (env : Sls) : List D → Bw → Res (List D)
  | [], b => .ok [] b
  | d :: ds, b => match bd d env with
    | none => .bad
    | some e => match tt e b with
      | .ok c b1 => if c = true then (match te e b1 with
        | .ok w b2 => match compL bd tt te env ds b2 with
          | .ok r b3 => .ok (w.d :: r) b3
          | _ => .bad
        | _ => .bad) else compL bd tt te env ds b1
      | _ => .bad
def ownL (r : Res (List D)) : Res Wv := match r with
  | .ok r b2 => .ok (.own (.lst r)) b2
  | _ => .bad
def dComp (evi : EvI) (bd : Bd) (tt : EvT) (te : Ev) (vs : List Nat) : Ev := fun env b => (evi env b).bind fun ds b1 => if noOwn env vs = true then ownL (compL bd tt te (wipeE env vs) ds b1) else .bad
theorem compL_len {bd : Bd} {tt : EvT} {te : Ev} {env : Sls} : ∀ {ds : List D} {b b' : Bw} {r : List D}, compL bd tt te env ds b = .ok r b' → r.length ≤ ds.length
  | [], b, b', r, h => by
    cases h
    exact Nat.le_refl _
  | d :: ds, b, b', r, h => by
    unfold compL at h
    cases e1 : bd d env with
    | none => simp [e1] at h
    | some e =>
      simp only [e1] at h
      cases e2 : tt e b with
      | ok c b1 =>
        simp only [e2] at h
        cases c with
        | false =>
          have q := compL_len (show compL bd tt te env ds b1 = .ok r b' from h)
          simp only [List.length_cons]
          omega
        | true =>
          simp only [if_true] at h
          cases e3 : te e b1 with
          | ok w b2 =>
            simp only [e3] at h
            cases e4 : compL bd tt te env ds b2 with
            | ok r2 b3 =>
              simp only [e4] at h
              cases h
              have q := compL_len e4
              simp only [List.length_cons]
              omega
            | _ => simp [e4] at h
          | _ => simp [e3] at h
      | _ => simp [e2] at h
section
variable {B : BP} {env : Sls} {b : Bw} {σ : L2.St} {H : Hp} {vs : List Nat} {Dd : Addr}
theorem own_blk (hn : noOwn env vs = true) (a : Addr) : ownO (plus B.O Dd) (wipeE env vs) (wipe σ vs) a ↔ plus (ownO B.O env σ) Dd a := by
  constructor
  · rintro (h | ⟨i, d, h1, h2⟩)
    · exact h.elim (fun z => .inl (.inl z)) .inr
    · obtain ⟨g1, g2⟩ := wipeE_val (by simp) h1
      rw [wipe_keep g2] at h2
      exact .inl (.inr ⟨i, d, g1, h2⟩)
  · rintro ((h | ⟨i, d, h1, h2⟩) | h)
    · exact .inl (.inl h)
    · have g : i ∉ vs := fun z => by
        unfold noOwn at hn
        have q := List.all_eq_true.mp hn i z
        rw [h1] at q
        cases q
      exact .inr ⟨i, d, by rw [wipeE_keep g]; exact h1, by rw [wipe_keep g]; exact h2⟩
    · exact .inl (.inr h)
/-- the state within a block -/
theorem Rel.blk {P : Hp} (I : Rel B env b σ H) (hn : noOwn env vs = true) (hD : H Dd = none) (hP : Sub P (vis H (ownO B.O env σ))) (acc : List V) : Rel (B.cmp (plus B.O Dd) P) (wipeE env vs) b (wipe σ vs) (upd H Dd (.lst acc)) := by
  have x : Ext B.R.bo H (upd H Dd (.lst acc)) := Ext.new hD
  have sub : Sub (vis H (ownO B.O env σ)) (vis (upd H Dd (.lst acc)) (ownO (plus B.O Dd) (wipeE env vs) (wipe σ vs))) := vis_more x (fun a q => I.bOO q) fun a o e h => ((own_blk hn a).mp h).elim id fun z => by
    rw [z, hD] at e
    cases e
  refine ⟨by rw [wipeE_length, wipe_length]; exact I.len, fun i d e => ?_, fun i d e => ?_, fun i j d e a h1 h2 h3 h4 => ?_, ?_, fun a q => .inl (I.bO a q), fun a h => ?_, tabs_same I.tab (same_upd hD), I.ext.trans x, hP.trans sub⟩
  · obtain ⟨g1, g2⟩ := wipeE_val (by simp) e
    obtain ⟨v, h1, h2⟩ := I.val i d g1
    exact ⟨v, by rw [wipe_keep g2]; exact h1, h2.mono sub⟩
  · obtain ⟨g1, g2⟩ := wipeE_val (by simp) e
    obtain ⟨a, h1, h2, h3, h4⟩ := I.own i d g1
    refine ⟨a, by rw [wipe_keep g2]; exact h1, fun z => z.elim h2 fun z => ?_, h3, h4.ext x (fun z => h2 (I.bO a z)) sub⟩
    obtain ⟨o, q, _⟩ := h4.there
    rw [z, hD] at q
    cases q
  · obtain ⟨g1, g2⟩ := wipeE_val (by simp) h1
    obtain ⟨g3, g4⟩ := wipeE_val (by simp) h2
    rw [wipe_keep g2] at h3
    rw [wipe_keep g4] at h4
    exact I.sep i j d e a g1 g3 h3 h4
  · exact bw_same I.bow (same_upd hD)
  · rcases h with h | h
    · obtain ⟨o, q⟩ := I.odom a h
      exact ⟨o, by rw [upd_ne (ne_of_none q hD)]; exact q⟩
    · exact ⟨_, by rw [h]; exact upd_same⟩
theorem bw_upd {bo : Option Addr} {b : Bw} {H : Hp} {a : Addr} {o : HO} (h : BwOk bo b H) (n : bo ≠ some a) : BwOk bo b (upd H a o) := by
  cases bo with
  | none => cases b <;> exact h
  | some c =>
    cases b with
    | none => exact h
    | some l =>
      have ne : c ≠ a := fun z => n (by rw [z])
      show upd H a o c = _
      rw [upd_ne ne]
      exact h
/-- the list within a block grows -/
theorem Rel.grow {P : Hp} {acc : List V} {O0 : Addr → Prop} {y : V} (I : Rel (B.cmp (plus B.O Dd) P) env b σ H) (hA : H Dd = some (.lst acc)) (he : B.He Dd = none) (hb : B.R.bo ≠ some Dd) : Rel (B.cmp (plus B.O Dd) P) env b σ (upd H Dd (.lst (acc ++ [y]))) := by
  have sub : Sub (vis H (ownO (plus B.O Dd) env σ)) (vis (upd H Dd (.lst (acc ++ [y]))) (ownO (plus B.O Dd) env σ)) := fun a o e n => by
    obtain ⟨e1, e2⟩ := of_vis e
    have ne : a ≠ Dd := fun z => e2 (.inl (.inr z))
    exact vis_of (by rw [upd_ne ne]; exact e1) e2
  refine ⟨I.len, fun i d e => ?_, fun i d e => ?_, I.sep, ?_, I.bO, fun a h => ?_, ?_, ⟨fun a o e n m => ?_, fun a h => ?_⟩, I.pin.trans sub⟩
  · obtain ⟨v, h1, h2⟩ := I.val i d e
    exact ⟨v, h1, h2.mono sub⟩
  · obtain ⟨a, h1, h2, h3, h4⟩ := I.own i d e
    have ne : a ≠ Dd := fun z => h2 (.inr z)
    have h4 := RepTop.hv sub h4
    refine ⟨a, h1, h2, h3, ?_⟩
    cases d with
    | lst l =>
      obtain ⟨vs, q1, q2, q3⟩ := h4
      exact ⟨vs, by rw [upd_ne ne]; exact q1, q2, q3⟩
    | dct ks ds =>
      obtain ⟨vs, q1, q2, q3⟩ := h4
      refine ⟨vs, q1, q2, ?_⟩
      rw [upd_ne ne]
      exact q3
    | _ => exact h4.elim
  · exact bw_upd I.bow hb
  · by_cases q : a = Dd
    · exact ⟨_, by rw [q]; exact upd_same⟩
    · obtain ⟨o, z⟩ := I.odom a h
      exact ⟨o, by rw [upd_ne q]; exact z⟩
  · intro p hp
    obtain ⟨ps, e1, e2, e3⟩ := I.tab p hp
    have up : ∀ b o, H b = some o → (∀ l, o ≠ .lst l) → upd H Dd (.lst (acc ++ [y])) b = some o := fun b o e n => by
      have ne : b ≠ Dd := fun z => by
        rw [z, hA] at e
        exact n acc (Option.some.inj e).symm
      rw [upd_ne ne]
      exact e
    refine ⟨ps, up _ _ e1 (fun l z => by cases z), e2, fun pos cv hc => ?_⟩
    obtain ⟨c, z1, z2⟩ := e3 pos cv hc
    exact ⟨c, z1, up _ _ z2 (fun l z => by unfold LamX.CodeO at z; cases z)⟩
  · have z := I.ext.keep a o e n m
    have ne : a ≠ Dd := fun q => by
      rw [q] at e
      have e : B.He Dd = some o := e
      rw [he] at e
      cases e
    rw [upd_ne ne]
    exact z
  · by_cases q : a = Dd
    · rw [q]
      exact he
    · rw [upd_ne q] at h
      exact I.ext.dom a h
end
section
variable {B : BP} {X : Cx} {tg iter elt : Expr} {ifs : List Expr} {evi : EvI} {bd : Bd} {is vs : List Nat} {tt : EvT} {te : Ev} {scope : Scope} {own : List (Str × Nat)} {pos : Pos}
theorem rd_comp {σ : L2.St} {H : Hp} {Q : VK} (his : ∀ j ∈ is, j ∈ vs) (w : rdE B (dComp evi bd tt te vs) σ H Q) :
    tLc (rdJ B evi) (fun v σ H Q => ∃ O P, rdG (B.cmp O P) is bd v σ H Q) (fun σ H Q => ∃ O P, rdT (B.cmp O P) tt σ H Q) (fun σ H Q => ∃ O P, rdE (B.cmp O P) te σ H Q) vs σ H Q := by
  refine rd_bind (ρ1 := rhoJ B.O) (k := fun ds env b1 => if noOwn env vs = true then ownL (compL bd tt te (wipeE env vs) ds b1) else .bad) w fun env ds b1 Jt H1 I1 x1 r1 w => ?_
  by_cases hn : noOwn env vs = true
  · rw [if_pos hn] at w
    cases hc : compL bd tt te (wipeE env vs) ds b1 with
    | bad =>
      rw [hc] at w
      exact False.elim w
    | err c fs b2 =>
      rw [hc] at w
      exact False.elim w
    | ok r b2 =>
      rw [hc] at w
      obtain ⟨itr, hlim⟩ := r1
      have w : wpG B RepW (ownO B.O env σ) H (.ok (.own (.lst r)) b2) σ Q := w
      intro Dd hD
      have hrl : r.length ≤ LIM := Nat.le_trans (compL_len hc) hlim
      have hHD : H Dd = none := x1.dom Dd hD
      have hO : ¬ ownO B.O env σ Dd := I1.nod Dd hD
      have hbo : B.R.bo ≠ some Dd := fun z => hO (.inl (I1.bO Dd z))
      generalize hP : vis H1 (ownO B.O env σ) = P at itr
      have hHe : B.He Dd = none := I1.ext.dom Dd hD
      -- the turns
      refine ⟨fun i m H' => m = ds.length - i ∧ i ≤ ds.length ∧ ∃ accD accV b', Rel (B.cmp (plus B.O Dd) P) (wipeE env vs) b' (wipe σ vs) H' ∧ Ext B.R.bo H1 H' ∧ H' Dd = some (.lst accV) ∧
          RepL B.R (vis H' (plus (ownO B.O env σ) Dd)) accD accV ∧ ∃ rest, compL bd tt te (wipeE env vs) (ds.drop i) b' = .ok rest b2 ∧ r = accD ++ rest,
        ⟨ds.length, rfl, Nat.zero_le _, [], [], b1, I1.blk hn hD (hP ▸ Sub.refl _) [], Ext.new hD, upd_same, rfl, r, hc, rfl⟩, ?_⟩
      rintro i m H' ⟨rfl, hi, accD, accV, b', I', x', hA, rA, rest, hr, er⟩
      have visI : Sub (vis H' (ownO (plus B.O Dd) (wipeE env vs) (wipe σ vs))) (vis H' (plus (ownO B.O env σ) Dd)) := vis_sub fun a h => (own_blk hn a).mpr h
      have visJ : Sub (vis H' (plus (ownO B.O env σ) Dd)) (vis H' (ownO (plus B.O Dd) (wipeE env vs) (wipe σ vs))) := vis_sub fun a h => (own_blk hn a).mp h
      have hPv : Sub P (vis H' (ownO (plus B.O Dd) (wipeE env vs) (wipe σ vs))) := I'.pin
      have hPi : Sub (vis H1 B.O) H' := fun a o e n => by
        obtain ⟨e1, e2⟩ := of_vis e
        exact x'.keep a o e1 (fun q => e2 (I1.bO a q)) n
      obtain ⟨items, stop⟩ := itr H' _ hPi hPv (Rel.nod (B := B.cmp (plus B.O Dd) P) I')
      by_cases hlt : i < ds.length
      · have hd : ds[i]? = some ds[i] := List.getElem?_eq_getElem hlt
        obtain ⟨go, yld⟩ := items i _ hd
        rw [List.drop_eq_getElem_cons hlt] at hr
        unfold compL at hr
        cases e1 : bd ds[i] (wipeE env vs) with
        | none =>
          rw [e1] at hr
          cases hr
        | some e =>
          simp only [e1] at hr
          cases e2 : tt e b' with
          | bad => simp [e2] at hr
          | err c fs b3 => simp [e2] at hr
          | ok c b3 =>
            simp only [e2] at hr
            refine .inr ⟨go, fun H2 => ∃ accD accV b', Rel (B.cmp (plus B.O Dd) P) (wipeE env vs) b' (wipe σ vs) H2 ∧ Ext B.R.bo H1 H2 ∧ H2 Dd = some (.lst accV) ∧
                RepL B.R (vis H2 (plus (ownO B.O env σ) Dd)) accD accV ∧ ∃ rest, compL bd tt te (wipeE env vs) (ds.drop (i + 1)) b' = .ok rest b2 ∧ r = accD ++ rest,
              fun H2 h2 => ⟨ds.length - (i + 1), by omega, rfl, hlt, h2⟩, fun x H2 y => ?_⟩
            obtain ⟨sm, rx⟩ := yld x H2 y
            have x2 : Ext B.R.bo H' H2 := same_ext sm
            have I2 : Rel (B.cmp (plus B.O Dd) P) (wipeE env vs) b' (wipe σ vs) H2 := I'.go x2 (bw_same I'.bow sm) (tabs_same I'.tab sm)
            refine ⟨plus B.O Dd, P, wipeE env vs, b', ds[i], e, I2, rx, e1, fun σ3 I3 _ l3 k3 h3 => ⟨wipe_same l3 fun j hj => k3 j fun z => hj (his j z), ?_⟩⟩
            -- the state at the turn's end is that of the block's start, over a later heap
            have bO' : ∀ a, B.R.bo = some a → plus (ownO B.O env σ) Dd a := fun a q => .inl (I1.bOO q)
            have again : ∀ {b4 H4}, Rel (B.cmp (plus B.O Dd) P) e b4 σ3 H4 → Ext B.R.bo H2 H4 → Rel (B.cmp (plus B.O Dd) P) (wipeE env vs) b4 (wipe σ vs) H4 := fun {b4 H4} I4 x4 => I2.go x4 I4.bow I4.tab
            have at2 : H2 Dd = some (.lst accV) := sm _ _ hA
            refine ⟨plus B.O Dd, P, e, b', I3, ?_⟩
            rw [e2]
            intro yb H3 f1 f2 f3 f4
            cases (show c = yb from f4)
            have I3' : Rel (B.cmp (plus B.O Dd) P) e b3 σ3 H3 := I3.go f1 f2 f3
            have at3 : H3 Dd = some (.lst accV) := f1.keep Dd _ at2 hbo (fun _ z => by cases z)
            cases c with
            | false =>
              rw [if_neg Bool.false_ne_true]
              exact ⟨accD, accV, b3, again I3' f1, x'.trans (x2.trans f1), at3, RepL.mono (vis_ext (x2.trans f1) bO') rA, rest, hr, er⟩
            | true =>
              rw [if_pos rfl]
              simp only [if_true] at hr
              cases e3 : te e b3 with
              | bad => simp [e3] at hr
              | err c fs b4 => simp [e3] at hr
              | ok w4 b4 =>
                simp only [e3] at hr
                cases e4 : compL bd tt te (wipeE env vs) (ds.drop (i + 1)) b4 with
                | bad => simp [e4] at hr
                | err c fs b5 => simp [e4] at hr
                | ok r5 b5 =>
                  simp only [e4] at hr
                  cases hr
                  refine ⟨plus B.O Dd, P, e, b3, I3', ?_⟩
                  rw [e3]
                  intro yv H4 g1 g2 g3 g4
                  have I4 : Rel (B.cmp (plus B.O Dd) P) e b4 σ3 H4 := I3'.go g1 g2 g3
                  have at4 : H4 Dd = some (.lst accV) := g1.keep Dd _ at3 hbo (fun _ z => by cases z)
                  have J4 := again I4 (f1.trans g1)
                  have lacc : accD.length = accV.length := rA.length
                  refine ⟨accV, at4, ?_, accD ++ [w4.d], accV ++ [yv], b4, Rel.grow (O0 := B.O) J4 at4 hHe hbo, ⟨fun a o q1 q2 q3 => ?_, fun a q1 => ?_⟩, upd_same, ?_, r5, e4, by rw [er, List.append_assoc]; rfl⟩
                  · have q := congrArg List.length er
                    rw [List.length_append, List.length_cons] at q
                    have := lim_line
                    omega
                  · have ne : a ≠ Dd := fun z => by
                      rw [z, hD] at q1
                      cases q1
                    rw [upd_ne ne]
                    exact (x'.trans (x2.trans (f1.trans g1))).keep a o q1 q2 q3
                  · by_cases z : a = Dd
                    · rw [z]
                      exact hD
                    · rw [upd_ne z] at q1
                      exact (x'.trans (x2.trans (f1.trans g1))).dom a q1
                  · have up : Sub (vis H4 (plus (ownO B.O env σ) Dd)) (vis (upd H4 Dd (.lst (accV ++ [yv]))) (plus (ownO B.O env σ) Dd)) := fun a o q n => by
                      obtain ⟨q1, q2⟩ := of_vis q
                      have ne : a ≠ Dd := fun z => q2 (.inr z)
                      exact vis_of (by rw [upd_ne ne]; exact q1) q2
                    refine RepL.append (RepL.mono ((vis_ext (x2.trans (f1.trans g1)) bO').trans up) rA) (RepL.cons (Rep.mono ?_ g4.rep) RepL.nil)
                    refine Sub.trans (vis_sub fun a h => ?_) up
                    rcases h with h | h
                    · rcases h with h | ⟨j, d, h1, h2⟩
                      · exact .inl (.inl h)
                      · -- a slot of the body's own
                        have g : j ∉ vs := fun z => by
                          unfold noOwn at hn
                          have q := List.all_eq_true.mp hn j z
                          rw [h1] at q
                          cases q
                        have z1 : (wipeE env vs)[j]? = some (.own d) := by rw [wipeE_keep g]; exact h1
                        have z2 : (wipe σ vs)[j]? = some (some (.ref a)) := by rw [wipe_keep g]; exact h2
                        have hj : j ∉ is := fun z => g (his j z)
                        exact .inr ⟨j, d, by rw [h3 j hj]; exact z1, by rw [k3 j hj]; exact z2⟩
                    · exact .inl (.inr h)
      · have e : i = ds.length := by omega
        subst e
        rw [List.drop_length] at hr
        cases hr
        rw [List.append_nil] at er
        subst er
        refine .inl ⟨stop, ?_⟩
        refine w (.ref Dd) H' (x1.trans x') I'.bow I'.tab ⟨Dd, rfl, hHD, hO, accV, hA, rA, hrl⟩
  · rw [if_neg hn] at w
    exact False.elim w
end
end DL
namespace DL
open PySem PySem.Spec PyProof.Rows L2
abbrev DTs (B : BP) (X : Cx) (ifs : List Expr) (tt : EvT) : Prop := PTs X ifs (rdT B tt)
theorem imp_PTs {X : Cx} {e : List Expr} {t u : TT} (h : PTs X e t) (hi : ∀ σ H Q, u σ H Q → t σ H Q) : PTs X e u := ⟨fun pins s σ H Q I q => h.run pins s σ H Q I (hi σ H Q q)⟩
def dYes : EvT := fun _ b => .ok true b
section
variable {B : BP} {X : Cx} {tg iter elt c : Expr} {ifs : List Expr} {evi : EvI} {bd : Bd} {is : List Nat} {tt : EvT} {te : Ev} {scope : Scope} {own : List (Str × Nat)} {pos : Pos}
theorem dts_nil : DTs B X [] dYes := imp_PTs pts_nil fun σ H Q h => by
  obtain ⟨env, b, I, w⟩ := h
  exact wpG_ok (x := true) w (Ext.refl H) I.bow I.tab rfl
theorem dts_one (h : DT B X c tt) : DTs B X [c] tt := pts_one h
theorem de_lc (hc : X.calm = true) (hN : X.N.Nodup) (hi : DJ B X tg iter evi) (ok : BlkOk X.N X.env.scope scope own) (his : ∀ j ∈ is, j ∈ own.map (·.2))
    (hg : ∀ (O : Addr → Prop) (P : Hp) (s : Shared) (H : Hp) (C : Addr) (cl : List (Str × Addr)) (fp : List Addr), DG (B.cmp O P) (X.blk s H scope (compEnvC scope cl C X.env) fp) tg is bd)
    (ht : ∀ (O : Addr → Prop) (P : Hp) (s : Shared) (H : Hp) (C : Addr) (cl : List (Str × Addr)) (fp : List Addr), DTs (B.cmp O P) (X.blk s H scope (compEnvC scope cl C X.env) fp) ifs tt)
    (he : ∀ (O : Addr → Prop) (P : Hp) (s : Shared) (H : Hp) (C : Addr) (cl : List (Str × Addr)) (fp : List Addr), DE (B.cmp O P) (X.blk s H scope (compEnvC scope cl C X.env) fp) elt te) (hs : ∀ x, foldedSetIterable iter X.env x = pure x := by intro _; rfl) :
    DE B X (.ListComp elt [⟨tg, iter, ifs, 0⟩] scope pos) (dComp evi bd tt te (own.map (·.2))) :=
  imp_PE (pe_lc hc hN hi ok (g := fun v σ H Q => ∃ O P, rdG (B.cmp O P) is bd v σ H Q) (tt := fun σ H Q => ∃ O P, rdT (B.cmp O P) tt σ H Q) (te := fun σ H Q => ∃ O P, rdE (B.cmp O P) te σ H Q)
    (fun s H C cl fp => ⟨fun pins s' σ H' v u Q I r ⟨O, P, h⟩ => (hg O P s H C cl fp).run pins s' σ H' v u Q I r h⟩)
    (fun s H C cl fp => ⟨fun pins s' σ H' Q I ⟨O, P, h⟩ => (ht O P s H C cl fp).run pins s' σ H' Q I h⟩)
    (fun s H C cl fp => ⟨fun pins s' σ H' Q I ⟨O, P, h⟩ => (he O P s H C cl fp).run pins s' σ H' Q I h⟩) hs) fun σ H Q w => rd_comp his w
theorem ds_setLc {i : Nat} {y : Str} {py spos : Pos} (hc : X.calm = true) (hN : X.N.Nodup) (hi : DJ B X tg iter evi) (ok : BlkOk X.N X.env.scope scope own) (his : ∀ j ∈ is, j ∈ own.map (·.2))
    (hg : ∀ (O : Addr → Prop) (P : Hp) (s : Shared) (H : Hp) (C : Addr) (cl : List (Str × Addr)) (fp : List Addr), DG (B.cmp O P) (X.blk s H scope (compEnvC scope cl C X.env) fp) tg is bd)
    (ht : ∀ (O : Addr → Prop) (P : Hp) (s : Shared) (H : Hp) (C : Addr) (cl : List (Str × Addr)) (fp : List Addr), DTs (B.cmp O P) (X.blk s H scope (compEnvC scope cl C X.env) fp) ifs tt)
    (he : ∀ (O : Addr → Prop) (P : Hp) (s : Shared) (H : Hp) (C : Addr) (cl : List (Str × Addr)) (fp : List Addr), DE (B.cmp O P) (X.blk s H scope (compEnvC scope cl C X.env) fp) elt te)
    (hy : X.N[i]? = some y := by rfl) (hyl : X.env.scope.names.lookup y = some .local := by rfl) (hsw : swapsWith (.ListComp elt [⟨tg, iter, ifs, 0⟩] scope pos) (some (.Name y py)) spos.line X.env = pure true := by refine sw_true ?_ ?_ ?_ ?_ <;> rfl)
    (hs : ∀ x, foldedSetIterable iter X.env x = pure x := by intro _; rfl) :
    DS B X (.Assign [.Name y py] (.ListComp elt [⟨tg, iter, ifs, 0⟩] scope pos) spos) (dAsg i (dComp evi bd tt te (own.map (·.2)))) :=
  imp_PS (ps_setLc hc hN hy hyl hsw hi ok (g := fun v σ H Q => ∃ O P, rdG (B.cmp O P) is bd v σ H Q) (tt := fun σ H Q => ∃ O P, rdT (B.cmp O P) tt σ H Q) (te := fun σ H Q => ∃ O P, rdE (B.cmp O P) te σ H Q)
    (fun s H C cl fp => ⟨fun pins s' σ H' v u Q I r ⟨O, P, h⟩ => (hg O P s H C cl fp).run pins s' σ H' v u Q I r h⟩)
    (fun s H C cl fp => ⟨fun pins s' σ H' Q I ⟨O, P, h⟩ => (ht O P s H C cl fp).run pins s' σ H' Q I h⟩)
    (fun s H C cl fp => ⟨fun pins s' σ H' Q I ⟨O, P, h⟩ => (he O P s H C cl fp).run pins s' σ H' Q I h⟩) hs) fun D σ H w => rd_comp his (rd_asg w)
end
end DL

set_option Elab.async false
set_option linter.all false
set_option maxRecDepth 100000
set_option maxHeartbeats 4000000
/-! enumerate(tuple), zip of tuples -/
namespace DL
open PySem PySem.Spec PyProof.Rows L2
open AutoSeq1 (wpAny_loadPart')
theorem meets_enumerate_newT (l : Addr) (items : Array Value) (n : Nat) (dct : Option Addr) (sl : Array (Option Value)) :
    Meets (Builtin.«enumerate.__new__» ⟨[.type "enumerate", .ref l], []⟩) (fun _ R s => s.heap.get? l = some { cls := .type "tuple", dict := dct, data := .seq items n, slots := sl } ∧
      R (.ok (.ret (.ref (s.heap.push { cls := .type "tuple_iterator", data := .fields #[.ref l, .int 0 0] }).objs.size)))
        { s with heap := (s.heap.push { cls := .type "tuple_iterator", data := .fields #[.ref l, .int 0 0] }).push { cls := .type "enumerate", data := .fields #[.none, .bool false, .ref s.heap.objs.size, rawInt 0, .none, .none] } }) :=
  .of_wp fun prog w A R s h => by
    obtain ⟨hp, g, d, tk, os⟩ := s; obtain ⟨hl, h⟩ := h
    have hsub := sub_enumerate
    have hL : Heap.IsTuple (Shared.heap ⟨hp, g, d, tk, os⟩) l items := ⟨_, hl, rfl, n, rfl⟩
    wp_walk using wpAny_loadPart' hl
    refine wpAny_stack_any fun st => wpAny_pure ?_
    split
    · rename_i c _ _ _ _ _
      cases (c == Value.type "enumerate")
      · wp_walk using wpAny_loadPart' hl, wpAny_pyIter_tuple hL
        exact ⟨_, rfl, h⟩
      · wp_walk using wpAny_loadPart' hl, wpAny_pyIter_tuple hL
        exact ⟨_, rfl, h⟩
    · wp_walk using wpAny_loadPart' hl, wpAny_pyIter_tuple hL
      exact ⟨_, rfl, h⟩
section
variable {prog : Program} {w : World} {A : Around} {E : Value → Shared → Prop} {s : Shared}
theorem call_enumerate_tuple {l : Addr} {items : Array Value} {Q : Value → Shared → Prop} (hL : s.heap.IsTuple l items)
    (h : ∀ h', IsEnum h' (s.heap.objs.size + 1) s.heap.objs.size 0 .none → h'.IsTupleIter s.heap.objs.size l 0 → h'.objs.size = s.heap.objs.size + 2 →
      (∀ b o, s.heap.get? b = some o → h'.get? b = some o) → Q (.ref (s.heap.objs.size + 1)) { s with heap := h' }) :
    wpAny (model prog w) A (call (.type "enumerate") [.ref l]) Q E s := by
  obtain ⟨⟨c, dct, dt, sl⟩, hl, hc, n, hd⟩ := hL
  replace hc : c = .type "tuple" := hc
  replace hd : dt = .seq items n := hd
  subst hc hd
  refine callType_new F.called_enumerate (by decide) (F.typeCall_enumerate_1 _) (F.newCall_enumerate_1 _) (fun obj => F.args_object_init_2 obj _) F.entry_enumerate_new
    (meets_enumerate_newT l items n dct sl) ⟨hl, ?_⟩
  have hz : (s.heap.push { cls := .type "tuple_iterator", data := .fields #[.ref l, .int 0 0] }).objs.size = s.heap.objs.size + 1 := Heap.size_push ..
  show _ ∧ _
  rw [hz]
  have he : IsEnum ((s.heap.push { cls := .type "tuple_iterator", data := .fields #[.ref l, .int 0 0] }).push
      { cls := .type "enumerate", data := .fields #[.none, .bool false, .ref s.heap.objs.size, rawInt 0, .none, .none] }) (s.heap.objs.size + 1) s.heap.objs.size 0 .none := by
    have := Heap.get?_push_size (s.heap.push { cls := .type "tuple_iterator", data := .fields #[.ref l, .int 0 0] })
      (o := { cls := .type "enumerate", data := .fields #[.none, .bool false, .ref s.heap.objs.size, rawInt 0, .none, .none] }) rfl
    rw [hz] at this; exact this
  refine ⟨⟨_, he, rfl⟩, h _ he ⟨_, Heap.get?_push_of_some _ (Heap.get?_push_size _ rfl), rfl, rfl⟩ (by rw [Heap.size_push, hz]) fun b o x => Heap.get?_push_of_some _ (Heap.get?_push_of_some _ x)⟩
theorem nextOf_tuple_item {it l : Addr} {i : Nat} {items} {x : Value} {Q : Value → Shared → Prop} (hit : s.heap.IsTupleIter it l i)
    (hl : s.heap.IsTuple l items) (hx : items[i]? = some x)
    (hQ : ∀ h', h'.IsTupleIter it l (i + 1) → Heap.SameBut it s.heap h' → Q x { s with heap := h' }) :
    wpAny (model prog w) A (Builtin.SmallTypes.nextOf (.ref it)) Q E s := by
  obtain ⟨o, ho, hc, hd⟩ := id hit
  obtain ⟨ol, hol, _, nl, hdl⟩ := hl
  unfold Builtin.SmallTypes.nextOf
  refine wpAny_bind (wpAny_callSpecial?_slot (name := Str.ofString "__next__") hit.typeIs F.slot_tuple_iterator_next
    (wpAny_call_entry F.slot_tuple_iterator_next hit.typeIs F.entry_tuple_iterator_next ?_ (F.args_tuple_iterator_next_1 _)))
  show wpAny _ _ (field (.ref it) 0 >>= _) _ _ s
  refine wpAny_bind (wpAny_field ho hd (x := .ref l) rfl ?_)
  show wpAny _ _ (if (Value.ref l == Value.none) = true then _ else _) _ _ s
  rw [if_neg (show ¬ ((Value.ref l == Value.none) = true) from Bool.false_ne_true)]
  show wpAny _ _ (field (.ref it) 1 >>= _) _ _ s
  refine wpAny_bind (wpAny_field ho hd (x := .int i 0) rfl ?_)
  show wpAny _ _ (seqItems? (.ref l) >>= _) _ _ s
  refine wpAny_bind (wpAny_seqItems hol hdl ?_)
  simp only [Int.toNat_natCast, hx]
  refine wpAny_bind (wpAny_setField ho hd (by simp) (wpAny_pure ⟨x, rfl, wpAny_pure (hQ _ ?_ (Heap.SameBut.update ..))⟩))
  exact ⟨_, Heap.get?_update_self _ ho (Obj.isFreed_of_fields (Obj.data_mapFields hd _)), (Obj.cls_mapFields ..).trans hc, by
    rw [Obj.data_mapFields hd]; simp [rawInt]⟩
theorem nextOf_tuple_end {it l : Addr} {i : Nat} {items} {Q : Value → Shared → Prop} (hh : A.handled = none)
    (hit : s.heap.IsTupleIter it l i) (hl : s.heap.IsTuple l items) (hx : items[i]? = none)
    (hE : ∀ h' e, Heap.ExtBut it s.heap h' → (∃ o, h'.get? e = some o ∧ o.cls = .type "StopIteration") → E (.ref e) { s with heap := h' }) :
    wpAny (model prog w) A (Builtin.SmallTypes.nextOf (.ref it)) Q E s := by
  obtain ⟨o, ho, hc, hd⟩ := id hit
  obtain ⟨ol, hol, _, nl, hdl⟩ := hl
  unfold Builtin.SmallTypes.nextOf
  refine wpAny_bind (wpAny_callSpecial?_slot (name := Str.ofString "__next__") hit.typeIs F.slot_tuple_iterator_next
    (wpAny_call_entry F.slot_tuple_iterator_next hit.typeIs F.entry_tuple_iterator_next ?_ (F.args_tuple_iterator_next_1 _)))
  show wpAny _ _ (field (.ref it) 0 >>= _) _ _ s
  refine wpAny_bind (wpAny_field ho hd (x := .ref l) rfl ?_)
  show wpAny _ _ (if (Value.ref l == Value.none) = true then _ else _) _ _ s
  rw [if_neg (show ¬ ((Value.ref l == Value.none) = true) from Bool.false_ne_true)]
  show wpAny _ _ (field (.ref it) 1 >>= _) _ _ s
  refine wpAny_bind (wpAny_field ho hd (x := .int i 0) rfl ?_)
  show wpAny _ _ (seqItems? (.ref l) >>= _) _ _ s
  refine wpAny_bind (wpAny_seqItems hol hdl ?_)
  simp only [Int.toNat_natCast, hx]
  refine wpAny_bind (wpAny_rule (wpAny_bind (wpAny_setField ho hd (by simp) ?_)))
  show wpAny _ _ (newExc (.type "StopIteration") [] >>= _) _ _ _
  refine wpAny_bind ?_
  simp only [newExc, newTuple]
  refine wpAny_bind (wpAny_newObj_type ?_ (by size_fits))
  refine wpAny_bind (m := firstArgMember _ _) (wpAny_of_eq (a := Value.none) (by first | rfl | (simp only [firstArgMember]; rfl)) ?_)
  refine wpAny_newObj_type ?_ (by size_fits)
  simp only [raiseNew]
  refine wpAny_bind (wpAny_handled ?_)
  first | rw [show A.in1.handled = none from hh] | rw [hh]
  refine wpAny_bind (wpAny_pure (wpAny_throw ?_))
  exact hE _ _ (((Heap.SameBut.update ..).extBut.push _).push _) ⟨_, Heap.get?_push_size _ rfl, rfl⟩
end
theorem Draws_tuple {prog : Program} {w : World} {A : Around} (hh : A.handled = none) (it l : Addr) (hne : l ≠ it) (items : Array Value) :
    Draws prog w A it [it, l] items.size (fun i v => items[i]? = some v) (fun i h => h.IsTupleIter it l i ∧ h.IsTuple l items) where
  live := fun _ _ st => let ⟨o, ho, _⟩ := st.1; ⟨o, ho⟩
  frame := fun _ _ _ st hk => ⟨st.1.at fun o e => hk it (by simp) o e, let ⟨o, ho, r⟩ := st.2; ⟨o, hk l (by simp) o ho, r⟩⟩
  item := fun i s Q E hi st hQ => by
    refine nextOf_tuple_item st.1 st.2 (x := items[i]) (by simp [hi]) fun h' hit' hs' => ?_
    exact hQ _ h' s.toks (by simp [hi]) ⟨hit', st.2.extBut hs'.extBut hne⟩ hs'
  done := fun s Q E st hE => nextOf_tuple_end hh st.1 st.2 (by simp) hE
/-- the tuple at a, each item in a new pair -/
def IteT (K : PySem.W.Frag) (a : Addr) : It :=
  ⟨fun i H => ∃ (xs : List V) (x : V), SqT K H a xs ∧ xs[i]? = some x, fun i H v H' => ∃ T x, v = .ref T ∧ H T = none ∧ H' = upd H T (.tup [.int (i : Nat), x]) ∧ ∀ xs, SqT K H a xs → xs[i]? = some x, fun i H => ∃ xs : List V, SqT K H a xs ∧ xs.length = i⟩
theorem turn_enumT {P : Program} {w : World} {K : PySem.W.Frag} {elts : List Expr} {kk : Nat} {tpos : Pos} (a e it : Addr) :
    Turn P w K (.Tuple elts kk tpos) (IteT K a) [e, it] e (fun i h => (∃ old, IsEnum h e it ((i : Nat) : Int) old) ∧ h.IsTupleIter it a i ∧ e ≠ it) where
  mem := by simp
  obj := fun i h st b hb => by
    obtain ⟨⟨old, he⟩, ⟨o, ho, hc, hd⟩, _⟩ := st
    have e' : b = e ∨ b = it := by simpa using hb
    rcases e' with z | z
    · rw [z]; exact ⟨_, he, fun v q => nomatch q⟩
    · rw [z]; exact ⟨o, ho, fun v q => by rw [hd] at q; cases q⟩
  keep := fun i h h' st k => let ⟨⟨old, he⟩, hi, hne⟩ := st; ⟨⟨old, k e (by simp) _ he⟩, hi.at fun o q => k it (by simp) o q, hne⟩
  item := by
    intro X hP hw hK hc i pins s σ H E I hf st hg
    subst hP hw hK
    obtain ⟨⟨old, he⟩, hit, hne⟩ := st
    obtain ⟨xs, x, hq, hx⟩ := hg
    obtain ⟨its, rv, p, hz⟩ := I.tuple hq
    obtain ⟨u, hu, ru⟩ := rv.get hx
    have hel : e < s.heap.objs.size := Heap.lt_size he
    have hil : it < s.heap.objs.size := by obtain ⟨_, q, _⟩ := hit; exact Heap.lt_size q
    have p' : s.heap.IsTuple a its.toArray := p
    have hil2 : i < its.toArray.size := by
      have := (List.getElem?_eq_some_iff.mp hu).1
      simpa using this
    have hai : a ≠ it := fun z => by
      obtain ⟨o, q1, q2, _⟩ := hit
      obtain ⟨o2, r1, r2, _⟩ := p'
      rw [z] at r1
      rw [r1] at q1
      cases q1
      rw [r2] at q2
      exact absurd q2 (by decide)
    have hae : a ≠ e := fun z => by
      obtain ⟨o2, r1, r2, _⟩ := p'
      rw [z] at r1
      have q1 : s.heap.get? e = some _ := he
      rw [r1] at q1
      cases q1
      have r2 : Value.type "enumerate" = Value.type "tuple" := r2
      exact absurd r2 (by decide)
    refine wpAny_pyNext_enum_itemD (Draws_tuple (A := X.A.in1) (I.ok.hd hc) it a hai its.toArray) he ⟨hit, p'⟩ hil2 hne (by simp [hne, Ne.symm hae]) fun u' h' tk hP ho hit' hT hsz hk => ?_
    have eu : u' = u := by
      have z : its.toArray[i]? = some u := by simpa using hu
      rw [z] at hP
      exact (Option.some.inj hP).symm
    subst eu
    refine ⟨_, rfl, wpAny_letOwnedTupleGo_enum (s := { s with heap := h', toks := tk + 1 }) ho fun h'' he' sb => ?_⟩
    have hT2 : h''.get? s.heap.objs.size = some { cls := .type "tuple", data := .seq #[.int i tk, u'] } := (sb.2 _ (Nat.ne_of_gt hel)).trans hT
    have new : ObjOk X.prog X.w (upd H s.heap.objs.size (.tup [.int (i : Nat), x])) h'' s.heap.objs.size (.tup [.int (i : Nat), x]) :=
      ⟨by show 2 ≤ sizeLine; decide, [.int i tk, u'], .cons ⟨_, rfl⟩ (.cons ru .nil), ⟨_, hT2, rfl, _, rfl⟩⟩
    have I1 : Inv X pins σ (upd H s.heap.objs.size (.tup [.int (i : Nat), x])) { s with heap := h'', toks := tk + 1 } :=
      I.turnedNew (ch := [e, it]) (fun b ob hb q => (sb.2 b (fun z => hb (by simp [z]))).trans (hk b ob (fun z => hb (by simp [z])) (fun z => hb (by simp [z])) q)) hf (Nat.le_refl _) new
    refine ⟨.ref s.heap.objs.size, _, I1, rfl, ⟨_, x, rfl, I.hok.fresh (Nat.le_refl _), rfl, fun ys hy => by rw [I.tuple_inj hy hq]; exact hx⟩, ⟨⟨u', ?_⟩, hit'.1.at fun o q => (sb.2 it (Ne.symm hne)).trans q, hne⟩, fun b hb => ?_⟩
    · have e1 : ((i + 1 : Nat) : Int) = (i : Int) + 1 := by omega
      rw [e1]; exact he'
    · have hb' : b < s.heap.objs.size := by
        have e' : b = e ∨ b = it := by simpa using hb
        rcases e' with z | z
        · rw [z]; exact hel
        · rw [z]; exact hil
      rw [upd_ne (Nat.ne_of_lt hb')]
      exact (hf b hb).1
  done := by
    intro X hP hw hK hc i pins s σ H E I hf st hg
    subst hP hw hK
    obtain ⟨⟨old, he⟩, hit, hne⟩ := st
    obtain ⟨xs, hq, hx⟩ := hg
    obtain ⟨its, rv, p, hz⟩ := I.tuple hq
    obtain ⟨f0, f1, f2, f3, f4, f5⟩ := hf it (by simp)
    have hl := rv.length
    have p' : s.heap.IsTuple a its.toArray := p
    have hai : a ≠ it := fun z => by
      obtain ⟨o, q1, q2, _⟩ := hit
      obtain ⟨o2, r1, r2, _⟩ := p'
      rw [z] at r1
      rw [r1] at q1
      cases q1
      rw [r2] at q2
      exact absurd q2 (by decide)
    have en : its.toArray.size = i := by rw [List.size_toArray]; omega
    exact wpAny_pyNext_enum_endD (Draws_tuple (A := X.A.in1) (I.ok.hd hc) it a hai its.toArray) he ⟨by rw [en]; exact hit, p'⟩ fun h' eb => ⟨rfl, I.turned (t' := s.toks) (fun b o hb q => eb b o hb q) f0 f1 f3 f4 f5⟩
  self := fun A i s Q E st h => let ⟨⟨_, he⟩, _⟩ := st; wpAny_pyIter_enum he h
def iEnumT (K : PySem.W.Frag) (ta : TA) : TI := fun σ H R => ta σ H fun vs H1 => ∃ a, vs = [.ref a] ∧ ((∃ xs, SqL K H1 a xs) ∧ R (Ite K a) H1 ∨ (∃ xs, SqT K H1 a xs) ∧ R (IteT K a) H1)
theorem pi_enumT {X : Cx} {e : Expr} {ta : TA} {p pos tpos : Pos} {elts : List Expr} {kk : Nat} (hg : Gl X "enumerate") (hm : X.mg "enumerate" = none) (ha : PA X [e] ta) (hs : starEach [e] X.env = [(false, eval e X.env)] := by rfl) :
    PI X (.Tuple elts kk tpos) (.Call (.Name "enumerate" p) [e] [] pos) (iEnumT X.K ta) := by
  refine ⟨fun pins s σ H R I h => ?_⟩
  refine Call_ (ld_blt I hg hm boot_enumerate (PyProof.Rows.callWith_type1 (thn (ha.run pos pins s σ H _ I h) fun us s1 ⟨vs, H1, I1, r1, q1⟩ => ?_) hs rfl))
  obtain ⟨a, ex, q⟩ := q1
  subst ex
  cases r1 with
  | cons r rr =>
    cases rr
    cases r
    have fp : ∀ b ∈ [s1.heap.objs.size + 1, s1.heap.objs.size], FpOk X pins H1 b := fun b hb => by
      have e' : b = s1.heap.objs.size + 1 ∨ b = s1.heap.objs.size := by simpa using hb
      have hle : s1.heap.objs.size ≤ b := by
        rcases e' with z | z
        · rw [z]; exact Nat.le_add_right _ _
        · rw [z]; exact Nat.le_refl _
      exact I1.fpOk hle (I1.hok.fresh hle)
    rcases q with ⟨⟨xs, hq⟩, q⟩ | ⟨⟨xs, hq⟩, q⟩
    · obtain ⟨its, rv, p', hz⟩ := I1.list hq
      refine call_enumerate_list p'.isList fun h' he hit hsz hk => wpAny_pyIter_enum he ?_
      have I2 : Inv X pins σ H1 { s1 with heap := h' } := I1.kept (t' := s1.toks) hk
      exact ⟨s1.heap.objs.size + 1, [s1.heap.objs.size + 1, s1.heap.objs.size], _, _, H1, rfl, I2, turn_enum a (s1.heap.objs.size + 1) s1.heap.objs.size, ⟨⟨.none, he⟩, hit, Nat.succ_ne_self _⟩, fp, q⟩
    · obtain ⟨its, rv, p', hz⟩ := I1.tuple hq
      refine call_enumerate_tuple (show s1.heap.IsTuple a its.toArray from p') fun h' he hit hsz hk => wpAny_pyIter_enum he ?_
      have I2 : Inv X pins σ H1 { s1 with heap := h' } := I1.kept (t' := s1.toks) hk
      exact ⟨s1.heap.objs.size + 1, [s1.heap.objs.size + 1, s1.heap.objs.size], _, _, H1, rfl, I2, turn_enumT a (s1.heap.objs.size + 1) s1.heap.objs.size, ⟨⟨.none, he⟩, hit, Nat.succ_ne_self _⟩, fp, q⟩
/-! ### in the layer -/
def enumL : Nat → List D → List D
  | _, [] => []
  | i, d :: ds => .tup [.int (i : Nat), d] :: enumL (i + 1) ds
theorem enumL_get : ∀ {ds : List D} {k i : Nat} {d : D}, (enumL k ds)[i]? = some d → ∃ x, ds[i]? = some x ∧ d = .tup [.int ((k + i : Nat) : Int), x]
  | [], _, _, _, h => by simp [enumL] at h
  | x :: ds, k, 0, d, h => by
    simp [enumL] at h
    exact ⟨x, rfl, by rw [← h]; rfl⟩
  | x :: ds, k, i + 1, d, h => by
    simp only [enumL, List.getElem?_cons_succ] at h
    obtain ⟨y, h1, h2⟩ := enumL_get h
    exact ⟨y, by simpa using h1, by rw [h2]; congr 3; omega⟩
theorem enumL_len : ∀ {ds : List D} {k : Nat}, (enumL k ds).length = ds.length
  | [], _ => rfl
  | _ :: ds, k => by simp [enumL, enumL_len]
theorem pair_rep {R : RC} {H1 H' : Hp} {O : Addr → Prop} {T : Addr} {v u : V} {d e : D} (hT : H1 T = none) (od : ∀ a, H1 a = none → ¬ O a) (e1 : H' = upd H1 T (.tup [v, u])) (r1 : Rep R (vis H1 O) d v) (r2 : Rep R (vis H1 O) e u) (hs : strV [v, u] = false) : Rep R (vis H' O) (.tup [d, e]) (.ref T) := by
  subst e1
  exact new_tup od (RepL.cons r1 (RepL.cons r2 RepL.nil)) (by show 2 ≤ LIM; decide) hT hs
theorem it_enumL {R : RC} {Pi Pv : Hp} {a : Addr} {vs : List V} {ds : List D} (h : SqL R.K Pi a vs) (r : RepL R Pv ds vs) : ItRep R Pi Pv (Ite R.K a) (enumL 0 ds) := fun H O s1 s2 od => by
  have hH := s1.seq h
  refine ⟨fun i d e => ?_, ⟨vs, hH, by rw [enumL_len, r.length]; exact Nat.le_refl _⟩⟩
  obtain ⟨x, ex, ed⟩ := enumL_get e
  obtain ⟨v, e1, r1⟩ := r.get ex
  refine ⟨⟨vs, v, hH, e1⟩, fun y H' q => ?_⟩
  obtain ⟨T, u, rfl, hT, hH', hu⟩ := q
  have z := hu vs hH
  rw [e1] at z
  cases z
  subst ed
  refine ⟨by rw [hH']; exact same_upd hT, pair_rep (u := v) hT od hH' (by rw [Nat.zero_add]; rfl) (r1.mono s2) (strV_cons rfl)⟩
theorem it_enumT {R : RC} {Pi Pv : Hp} {a : Addr} {vs : List V} {ds : List D} (h : SqX R.K Pi a vs) (r : RepL R Pv ds vs) : ItRep R Pi Pv (IteT R.K a) (enumL 0 ds) := fun H O s1 s2 od => by
  have hH := s1.tup h.1
  refine ⟨fun i d e => ?_, ⟨vs, hH, by rw [enumL_len, r.length]⟩⟩
  obtain ⟨x, ex, ed⟩ := enumL_get e
  obtain ⟨v, e1, r1⟩ := r.get ex
  refine ⟨⟨vs, v, hH, e1⟩, fun y H' q => ?_⟩
  obtain ⟨T, u, rfl, hT, hH', hu⟩ := q
  have z := hu vs hH
  rw [e1] at z
  cases z
  subst ed
  refine ⟨by rw [hH']; exact same_upd hT, pair_rep (u := v) hT od hH' (by rw [Nat.zero_add]; rfl) (r1.mono s2) (strV_cons rfl)⟩
def enum1 (d : D) (b : Bw) : Res (List D) := match d with
  | .lst l => .ok (enumL 0 l) b
  | .tup l => .ok (enumL 0 l) b
  | _ => .bad
def dEnum (ea : Ev) : EvI := fun env b => (ea env b).bind fun w b1 => enum1 w.d b1
section
variable {B : BP} {X : Cx} {e : Expr} {ea : Ev} {p pos tpos : Pos} {elts : List Expr} {kk : Nat}
theorem di_enum (hg : Gl X "enumerate") (hm : X.mg "enumerate" = none) (ha : DE B X e ea) (hK : B.R.K = X.K := by rfl) (hs : starEach [e] X.env = [(false, eval e X.env)] := by rfl) : DI B X (.Tuple elts kk tpos) (.Call (.Name "enumerate" p) [e] [] pos) (dEnum ea) :=
  imp_PI (pi_enumT hg hm (pa_cons ha pa_nil hs) hs) fun σ H R w => by
    refine rd_bind (ρ := rhoI) (k := fun (w : Wv) _ b1 => enum1 w.d b1) w fun env w1 b1 x H1 I1 x1 r1 w => ?_
    have r := r1.rep
    cases z : w1.d with
    | lst l =>
      rw [z] at r w
      obtain ⟨a, vs, rfl, h1, h2, h3⟩ := r
      refine ⟨a, rfl, .inl ⟨⟨vs, by rw [← hK]; exact vis_sql h1⟩, ?_⟩⟩
      rw [← hK]
      exact wpG_ok (x := Ite B.R.K a) w x1 I1.bow I1.tab ⟨it_enumL h1 h2, by rw [enumL_len]; exact h3⟩
    | tup l =>
      rw [z] at r w
      obtain ⟨a, vs, rfl, h1, h2, h3⟩ := r
      refine ⟨a, rfl, .inr ⟨⟨vs, by rw [← hK]; exact vis_sqt h1⟩, ?_⟩⟩
      rw [← hK]
      exact wpG_ok (x := IteT B.R.K a) w x1 I1.bow I1.tab ⟨it_enumT h1 h2, by rw [enumL_len]; exact h3⟩
    | _ =>
      rw [z] at w
      exact False.elim w
end
end DL

set_option Elab.async false
set_option linter.all false
set_option maxRecDepth 100000
set_option maxHeartbeats 4000000
namespace DL
open PySem PySem.Spec PyProof.Rows L2

/-! ### indexing -/
theorem RepL.atI {R : RC} {H : Hp} {ds : List D} {vs : List V} {i : Int} {d : D} (h : RepL R H ds vs) (e : L2.atI ds i = some d) : ∃ v, L2.atI vs i = some v ∧ Rep R H d v := by
  unfold L2.atI at e ⊢
  rw [← h.length]
  cases q : ixN ds.length i with
  | none => simp [q] at e
  | some j =>
    simp [q] at e
    simpa using h.get e
def fIx (x y : D) : Option Wv := match y with
  | .int i => match x with
    | .lst l => (atI l i).map .val
    | .tup l => (atI l i).map .val
    | .str z => (atI z.cps.toList i).bind fun c => if okS z && okS ⟨#[c]⟩ then some (.val (.str ⟨#[c]⟩)) else none
    | _ => none
  | _ => none
theorem okS_len {z : Str} (h : okS z = true) : z.length ≤ LIM ∧ z.length ≤ sizeLine := by
  unfold okS at h
  rw [Bool.and_eq_true] at h
  have := of_decide_eq_true h.1
  exact ⟨this, small_lim this⟩
theorem h_ix {R : RC} : H2ok R fIx (rIx R.K) := fun d1 d2 w x y H O Q e od r1 r2 q => by
  cases d2 with
  | int i =>
    cases (show y = .int i from r2)
    cases d1 with
    | lst l =>
      obtain ⟨a, vs, rfl, h1, h2, h3⟩ := r1
      simp only [fIx, Option.map_eq_some_iff] at e
      obtain ⟨d, e1, rfl⟩ := e
      obtain ⟨v, e2, rv⟩ := h2.atI e1
      exact .inl ⟨a, vs, i, v, rfl, rfl, vis_sql h1, e2, q _ H (Same.refl H) rv⟩
    | tup l =>
      obtain ⟨a, vs, rfl, h1, h2, h3⟩ := r1
      simp only [fIx, Option.map_eq_some_iff] at e
      obtain ⟨d, e1, rfl⟩ := e
      obtain ⟨v, e2, rv⟩ := h2.atI e1
      exact .inr (.inl ⟨a, vs, i, v, rfl, rfl, vis_sqt h1, e2, q _ H (Same.refl H) rv⟩)
    | str z =>
      obtain ⟨rfl, hz⟩ := r1
      simp only [fIx] at e
      cases ec : atI z.cps.toList i with
      | none => simp [ec] at e
      | some c =>
        simp only [ec, Option.bind_some] at e
        split at e
        · rename_i hok
          cases e
          rw [Bool.and_eq_true] at hok
          exact .inr (.inr ⟨z, i, c, rfl, rfl, (okS_len hz).2, ec, q _ H (Same.refl H) ⟨rfl, hok.2⟩⟩)
        · cases e
    | _ => cases e
  | _ => simp [fIx] at e
section
variable {B : BP} {X : Cx} {a c e : Expr} {ea eb : Ev} {pos p p2 : Pos}
theorem de_idx (ha : DE B X a ea) (hb : DE B X c eb) (hK : B.R.K = X.K := by rfl) (hs : PlainIx c := by exact fun _ _ => rfl) : DE B X (.Subscript a c pos) (dOp2 fIx ea eb) :=
  de_ix ix_seq (hK ▸ h_ix) ha hb hs

/-! ### slices -/
abbrev EvO := Sls → Bw → Res (Option Int)
def rhoO : Rho (Option Int) (Option Int) := fun _ _ _ _ a x => a = x
theorem staysO : Stays rhoO := ⟨fun h _ _ => h, fun h _ => h⟩
abbrev DO (B : BP) (X : Cx) (e : Option Expr) (ev : EvO) : Prop := PO X e (rd B rhoO ev)
def dNoPart : EvO := fun _ b => .ok none b
def part1 (d : D) (b : Bw) : Res (Option Int) := match d with
  | .int i => .ok (some i) b
  | _ => .bad
def dPart (ea : Ev) : EvO := fun env b => (ea env b).bind fun w b1 => part1 w.d b1
theorem imp_PO {X : Cx} {e : Option Expr} {t u : TO} (h : PO X e t) (hi : ∀ σ H Q, u σ H Q → t σ H Q) : PO X e u := ⟨fun pins s σ H Q I q => h.run pins s σ H Q I (hi σ H Q q)⟩
theorem do_none : DO B X none dNoPart := imp_PO po_none fun σ H Q h => by
  obtain ⟨env, b, I, w⟩ := h
  exact w none H (Ext.refl H) I.bow I.tab rfl
theorem do_some (h : DE B X e ea) : DO B X (some e) (dPart ea) := imp_PO (po_some h) fun σ H Q h => by
  refine rd_bind (k := fun (a1 : Wv) _ b1 => part1 a1.d b1) h fun env a1 b1 x H1 I1 x1 r1 w => ?_
  have r := r1.rep
  cases z : a1.d with
  | int i =>
    rw [z] at r w
    exact ⟨i, r, wpG_ok (x := some i) w x1 I1.bow I1.tab rfl⟩
  | _ =>
    rw [z] at w
    exact False.elim w
def cutD (xs : List D) (lo hi : Option Int) : List D := (xs.drop (HT.sIx xs.length 0 lo)).take (HT.sIx xs.length xs.length hi - HT.sIx xs.length 0 lo)
def fSl (x : D) (lo hi : Option Int) : Option Wv := match x with
  | .lst l => some (.own (.lst (cutD l lo hi)))
  | .tup l => some (.val (.tup (cutD l lo hi)))
  | .str z => if okS (cutS z lo hi) then some (.val (.str (cutS z lo hi))) else none
  | _ => none
theorem cutD_len (xs : List D) (lo hi : Option Int) : (cutD xs lo hi).length ≤ xs.length := by
  unfold cutD
  rw [List.length_take, List.length_drop]
  omega
theorem RepL.cut {R : RC} {H : Hp} {ds : List D} {vs : List V} (h : RepL R H ds vs) (lo hi : Option Int) : RepL R H (cutD ds lo hi) (cutV vs lo hi) := by
  unfold cutD cutV
  rw [h.length]
  exact (h.drop _).take _
def rSlAll (K : PySem.W.Frag) : V → Option Int → Option Int → Hp → VK → Prop := fun x lo hi H Q => rSlL K x lo hi H Q ∨ rSlX K x lo hi H Q ∨ rSlS x lo hi H Q
theorem sl_allK : L2.SlR X (rSlAll X.K) := SlR.or sl_list (SlR.or sl_tupX sl_str)
theorem hsl_ok {R : RC} {d : D} {w : Wv} {x : V} {lo hi : Option Int} {H : Hp} {O : Addr → Prop} {Q : VK} (e : fSl d lo hi = some w) (od : ∀ a, H a = none → ¬ O a) (r : Rep R (vis H O) d x) (q : Nw R O H w Q) : rSlAll R.K x lo hi H Q := by
  cases d with
  | lst l =>
    cases e
    obtain ⟨a, vs, rfl, h1, h2, h3⟩ := r
    exact .inl ⟨a, vs, rfl, vis_sql h1, fun p hp => q _ _ (same_upd hp) (new_lst od (h2.cut lo hi) (Nat.le_trans (cutD_len _ _ _) h3) hp)⟩
  | tup l =>
    cases e
    obtain ⟨a, vs, rfl, h1, h2, h3⟩ := r
    refine .inr (.inl ⟨a, vs, rfl, vis_sqt h1, fun hw => q _ H (Same.refl H) ?_, fun _ p o hp hd => q _ _ (same_upd hp) (new_tupX od (h2.cut lo hi) (Nat.le_trans (cutD_len _ _ _) h3) hp hd)⟩)
    have el : cutD l lo hi = l := by
      unfold cutD
      rw [h2.length, hw.1, hw.2]
      simp [← h2.length]
    rw [el]
    exact ⟨a, vs, rfl, h1, h2, h3⟩
  | str z =>
    simp only [fSl] at e
    split at e
    · rename_i hok
      cases e
      obtain ⟨rfl, hz⟩ := r
      exact .inr (.inr ⟨z, rfl, (okS_len hz).2, q _ H (Same.refl H) ⟨rfl, hok⟩⟩)
    · cases e
  | _ => cases e
def dSl (ea : Ev) (el eh : EvO) : Ev := fun env b => (ea env b).bind fun w b1 => (el env b1).bind fun lo b2 => (eh env b2).bind fun hi b3 => optR (fSl w.d lo hi) b3
theorem de_slice {lo hi : Option Expr} {el eh : EvO} (ha : DE B X e ea) (hl : DO B X lo el) (hh : DO B X hi eh) (hK : B.R.K = X.K := by rfl) : DE B X (.Subscript e (.Slice lo hi none p2) pos) (dSl ea el eh) :=
  imp_PE (pe_slice sl_allK ha hl hh) fun σ H Q h => by
    refine rd_bind (k := fun (w : Wv) env b1 => (el env b1).bind fun lo b2 => (eh env b2).bind fun hi b3 => optR (fSl w.d lo hi) b3) h fun env w1 b1 x H1 I1 x1 r1 wp => ⟨env, b1, I1, ?_⟩
    have wp : wpG B RepW (ownO B.O env σ) H ((el env b1).bind fun lo b2 => (eh env b2).bind fun hi b3 => optR (fSl w1.d lo hi) b3) σ Q := wp
    cases e1 : el env b1 with
    | bad =>
      rw [e1] at wp
      exact False.elim wp
    | err c fs b2 =>
      rw [e1] at wp
      exact wpG_err (ρ1 := rhoO) wp x1
    | ok lo b2 =>
      rw [e1] at wp
      intro lo' H2 f1 f2 f3 f4
      cases (show lo = lo' from f4)
      have I2 := I1.go f1 f2 f3
      refine ⟨env, b2, I2, ?_⟩
      have wp : wpG B RepW (ownO B.O env σ) H ((eh env b2).bind fun hi b3 => optR (fSl w1.d lo hi) b3) σ Q := wp
      cases e2 : eh env b2 with
      | bad =>
        rw [e2] at wp
        exact False.elim wp
      | err c fs b3 =>
        rw [e2] at wp
        exact wpG_err (ρ1 := rhoO) wp (x1.trans f1)
      | ok hi b3 =>
        rw [e2] at wp
        intro hi' H3 g1 g2 g3 g4
        cases (show hi = hi' from g4)
        have I3 := I2.go g1 g2 g3
        have wp : wpG B RepW (ownO B.O env σ) H (optR (fSl w1.d lo hi) b3) σ Q := wp
        cases e3 : fSl w1.d lo hi with
        | none =>
          rw [e3] at wp
          exact False.elim wp
        | some v =>
          rw [e3] at wp
          have rr := RepW.go (RepW.go r1 f1 fun a q => I1.bOO q) g1 fun a q => I2.bOO q
          rw [← hK]
          exact hsl_ok e3 I3.nod rr.rep (nw_of I3 ((x1.trans f1).trans g1) wp)

/-! ### [::-1] -/
theorem sliceApplied_rev {prog : Program} {w : World} {A : Around} {E : Value → Shared → Prop} {s : Shared} {sl : Addr} {vs : Value} {n : Nat} {Q : Int × Int × Nat → Shared → Prop} (hs : s.heap.IsSliceOf sl .none .none vs) (ps : IsPart vs (some (-1)))
    (h : Q ((n : Int) - 1, -1, n) s) : wpAny (model prog w) A (Builtin.Slice.sliceApplied (.ref sl) (pure (n : Int))) Q E s := by
  obtain ⟨os, hos, hcs, hds⟩ := id hs
  unfold Builtin.Slice.sliceApplied Builtin.Slice.sliceFields
  refine wpAny_bind (wpAny_bind (wpAny_field hos hds (x := .none) rfl (wpAny_bind (wpAny_field hos hds (x := .none) rfl (wpAny_bind (wpAny_field hos hds (x := vs) rfl (wpAny_pure ?_)))))))
  refine wpAny_bind (HT.slicePart_ ps ?_)
  show wpAny _ _ (if ((-1 : Int) == 0) = true then _ else _) _ _ s
  rw [if_neg (by decide)]
  refine wpAny_bind (slicePart_none (wpAny_bind (slicePart_none (wpAny_bind (wpAny_pure ?_)))))
  show wpAny _ _ (match Builtin.Slice.sliceAdjust none none (-1) (n : Int) with | (lo, hi) => pure (lo, (-1 : Int), Builtin.Slice.slicePlaces lo hi (-1))) _ _ s
  have e : Builtin.Slice.slicePlaces ((n : Int) - 1) (-1) (-1) = n := by
    unfold Builtin.Slice.slicePlaces
    rw [if_neg (by decide)]
    split
    · have : -(-1 : Int) = 1 := rfl
      rw [this, Int.ediv_one]
      omega
    · omega
  show wpAny _ _ (pure ((n : Int) - 1, (-1 : Int), Builtin.Slice.slicePlaces ((n : Int) - 1) (-1) (-1))) _ _ s
  rw [e]
  exact wpAny_pure h
theorem pick_rev (xs : Array Value) : ((List.range xs.size).filterMap fun (k : Nat) => xs[((xs.size : Int) - 1 + (k : Int) * -1).toNat]?).toArray = xs.toList.reverse.toArray := by
  have e : (fun (k : Nat) => xs[((xs.size : Int) - 1 + (k : Int) * -1).toNat]?) = (fun (j : Nat) => xs[j]?) ∘ (fun (k : Nat) => ((xs.size : Int) - 1 + (k : Int) * -1).toNat) := rfl
  rw [e, ← List.filterMap_map]
  have e2 : (List.range xs.size).map (fun (k : Nat) => ((xs.size : Int) - 1 + (k : Int) * -1).toNat) = (List.range xs.size).map (fun (k : Nat) => xs.size - 1 - k) := List.map_congr_left fun k hk => by
    have := List.mem_range.mp hk
    omega
  rw [e2, PySem.W.krv_range, List.filterMap_reverse, PySem.W.krv_all]
theorem getItem_tuple_rev {prog : Program} {w : World} {A : Around} {E : Value → Shared → Prop} {s : Shared} {t sl : Addr} {items : Array Value} {vs : Value} {Q : Value → Shared → Prop} (ht : IsTup s.heap t items) (hs : s.heap.IsSliceOf sl .none .none vs) (ps : IsPart vs (some (-1)))
    (h : Q (.ref s.heap.objs.size) { s with heap := s.heap.push { cls := .type "tuple", data := .seq items.toList.reverse.toArray } }) (hsz : items.size ≤ sizeLine) : wpAny (model prog w) A (getItem (.ref t) (.ref sl)) Q E s := by
  have htake : sizeOk (.seq items.toList.reverse.toArray) := by
    show items.toList.reverse.toArray.size ≤ sizeLine
    rw [List.size_toArray, List.length_reverse, Array.length_toList]
    exact hsz
  obtain ⟨os, hos, hcs, hds⟩ := id hs
  have hTs : s.TypeIs (.ref sl) "slice" := ⟨os, hos, hcs⟩
  unfold getItem
  try with_reducible refine wpAny_holding ?_
  first | refine wpAny_bind (wpAny_pure ?_) | skip
  refine wpAny_bind (wpAny_sequenceKey ht.typeIs (by decide) ?_)
  refine wpAny_bind (wpAny_callSpecial?_slot (name := Str.ofString "__getitem__") ht.typeIs PyProof.Rows.slot_tuple_getitem
    (wpAny_call_entry PyProof.Rows.slot_tuple_getitem ht.typeIs entry_tuple_getitem ?_ (args_tuple_getitem _ _)))
  show wpAny _ _ (Builtin.Tuple.tupleItemsOf (.ref t) >>= _) _ _ s
  refine wpAny_bind (tupleItemsOf_ ht ?_)
  refine wpAny_bind (wpAny_typeOf hTs ?_)
  rw [if_pos (by decide)]
  refine wpAny_bind (sliceApplied_rev hs ps ?_)
  have hno : ¬ (((items.size : Int) - 1 == 0 && (-1 : Int) == 1 && items.size == items.size) = true) := by
    intro q
    rw [Bool.and_eq_true, Bool.and_eq_true] at q
    exact absurd q.1.2 (by decide)
  show wpAny _ _ (if ((items.size : Int) - 1 == 0 && (-1 : Int) == 1 && items.size == items.size) = true then _ else _) _ _ s
  rw [if_neg hno, pick_rev]
  first
    | exact wpAny_bind (m := Builtin.Tuple.tupleExact _) (wpAny_newObj_type (wpAny_pure ⟨_, rfl, wpAny_pure h⟩) htake)
    | exact wpAny_bind (m := Builtin.Tuple.tupleExact _) (wpAny_newObj_type (wpAny_bind (wpAny_pure (wpAny_pure ⟨_, rfl, wpAny_pure h⟩))) htake)
    | exact wpAny_bind (wpAny_bind (m := Builtin.Tuple.tupleExact _) (wpAny_newObj_type (wpAny_pure (wpAny_pure ⟨_, rfl, wpAny_pure h⟩)) htake))
    | exact wpAny_bind (wpAny_bind (m := Builtin.Tuple.tupleExact _) (wpAny_newObj_type (wpAny_pure ⟨_, rfl, wpAny_pure h⟩) htake))
def tRev (K : PySem.W.Frag) (te : TE) : TE := fun σ H Q => te σ H fun x H1 => ∃ a xs, x = .ref a ∧ (SqL K H1 a xs ∧ (∀ p, H1 p = none → Q (.ref p) (upd H1 p (.lst xs.reverse))) ∨ SqT K H1 a xs ∧ ∀ p, H1 p = none → Q (.ref p) (upd H1 p (.tup xs.reverse)))
theorem pe_rev {te : TE} {k : Nat} {p1 p2 p3 pos : Pos} (he : PE X e te) : PE X (.Subscript e (.Slice none none (some (.UnaryOp .USub (.Constant (.int 1) k p1) p2)) p3) pos) (tRev X.K te) := by
  refine ⟨fun pins s σ H Q I h => ?_⟩
  refine Subscript_ (thn (he.run pins s σ H _ I h) fun v s1 ⟨x, H1, I1, r1, q1⟩ => ?_)
  obtain ⟨a, xs, ex, q⟩ := q1
  subst ex
  cases r1
  have hst : PO X (some (.UnaryOp .USub (.Constant (.int 1) k p1) p2)) (tPart (tUn (rU fun i => .int (-i)) (tC (.int 1)))) := po_some (pe_un un_neg pe_int)
  refine wpAny_Slice (thn (po_none.run pins s1 σ H1 (fun o H2 => o = none ∧ H2 = H1) I1 ⟨rfl, rfl⟩) fun vl s2 ⟨l, H2, I2, pl, el, e2⟩ => ?_)
  subst el e2
  refine thn (po_none.run pins s2 σ H2 (fun o H3 => o = none ∧ H3 = H2) I2 ⟨rfl, rfl⟩) fun vu s3 ⟨u, H3, I3, pu, eu, e3⟩ => ?_
  subst eu e3
  refine thn (hst.run pins s3 σ H3 (fun o H4 => o = some (-1) ∧ H4 = H3) I3 ⟨1, rfl, -1, rfl, rfl, rfl⟩) fun vs s4 ⟨o, H4, I4, ps, eo, e4⟩ => ?_
  subst eo e4
  have I5 : Inv X pins σ H4 { s4 with heap := s4.heap.push { cls := .type "slice", data := .fields #[vl, vu, vs] } } := I4.kept (t' := s4.toks) fun b ob q => Heap.get?_push_of_some _ q
  show wpAny (model X.prog X.w) X.A (subscriptTail e (.Slice none none (some (.UnaryOp .USub (.Constant (.int 1) k p1) p2)) p3) (.ref a) (.ref s4.heap.objs.size)) (EP X pins σ Q) X.xe { s4 with heap := s4.heap.push { cls := .type "slice", data := .fields #[vl, vu, vs] } }
  rcases q with ⟨hx, q⟩ | ⟨hx, q⟩
  · obtain ⟨its, r, ht, hz⟩ := I5.list hx
    have hlen := r.length
    refine tail_any (ops := [.ref a, .ref s4.heap.objs.size]) ht.isList.typeIs (PySem.slot_list_getitem.lookup) ?_ (by with_unfolding_all rfl)
    refine wpAny_getItem_list_slice ht.isList (Heap.IsSliceOf.new _ vl vu vs) pl pu ps (by decide) ?_ (by rw [List.size_toArray]; omega)
    rw [PySem.W.krv_pick]
    refine ⟨.ref _, _, I5.laid (t' := s4.toks) (o := .lst xs.reverse) (fun b ob q => Heap.get?_push_of_some _ q) (Nat.le_refl _) ?_, rfl, q _ (I5.hok.fresh (Nat.le_refl _))⟩
    exact ⟨by rw [List.length_reverse]; exact hz, _, 0, r.reverse, Heap.get?_push_size _ rfl⟩
  · obtain ⟨its, r, ht, hz⟩ := I5.tuple hx
    have hlen := r.length
    have vl0 : vl = .none := by cases pl; rfl
    have vu0 : vu = .none := by cases pu; rfl
    subst vl0 vu0
    refine tail_any (ops := [.ref a, .ref s4.heap.objs.size]) ht.typeIs (PyProof.Rows.slot_tuple_getitem.lookup) ?_ (by with_unfolding_all rfl)
    refine getItem_tuple_rev ht (Heap.IsSliceOf.new _ _ _ vs) ps ?_ (by rw [List.size_toArray]; omega)
    refine ⟨.ref _, _, I5.laid (t' := s4.toks) (o := .tup xs.reverse) (fun b ob q => Heap.get?_push_of_some _ q) (Nat.le_refl _) ?_, rfl, q _ (I5.hok.fresh (Nat.le_refl _))⟩
    exact ⟨by rw [List.length_reverse]; exact hz, _, by simpa using r.reverse, IsTup.new _ _⟩
theorem RepL.rev {R : RC} {H : Hp} : ∀ {ds : List D} {vs : List V}, RepL R H ds vs → RepL R H ds.reverse vs.reverse
  | [], _, h => by
    cases h
    rfl
  | d :: ds, vs, h => by
    obtain ⟨v, r, e, h1, h2⟩ := h
    subst e
    rw [List.reverse_cons, List.reverse_cons]
    exact RepL.append (RepL.rev h2) (RepL.cons h1 RepL.nil)
def fRev (x : D) : Option Wv := match x with
  | .lst l => some (.own (.lst l.reverse))
  | .tup l => if strD l then none else some (.val (.tup l.reverse))
  | _ => none
theorem de_rev {k : Nat} {p1 p3 : Pos} (ha : DE B X e ea) (hK : B.R.K = X.K := by rfl) : DE B X (.Subscript e (.Slice none none (some (.UnaryOp .USub (.Constant (.int 1) k p1) p2)) p3) pos) (dOp1 fRev ea) :=
  imp_PE (pe_rev ha) fun σ H Q h => rd_op1 (f := fRev) (r := fun x H1 Q => ∃ a xs, x = .ref a ∧ (SqL X.K H1 a xs ∧ (∀ p, H1 p = none → Q (.ref p) (upd H1 p (.lst xs.reverse))) ∨ SqT X.K H1 a xs ∧ ∀ p, H1 p = none → Q (.ref p) (upd H1 p (.tup xs.reverse)))) (by
    rw [← hK]
    exact fun d w x H O Q e od r q => by
      cases d with
      | lst l =>
        cases e
        obtain ⟨a, vs, rfl, h1, h2, h3⟩ := r
        exact ⟨a, vs, rfl, .inl ⟨vis_sql h1, fun p hp => q _ _ (same_upd hp) (new_lst od h2.rev (by rw [List.length_reverse]; exact h3) hp)⟩⟩
      | tup l =>
        simp only [fRev] at e
        split at e
        · cases e
        · rename_i ns
          cases e
          obtain ⟨a, vs, rfl, h1, h2, h3⟩ := r
          exact ⟨a, vs, rfl, .inr ⟨vis_sqt h1, fun p hp => q _ _ (same_upd hp) (new_tup od h2.rev (by rw [List.length_reverse]; exact h3) hp (by
            have z := strD_eq h2
            cases y : strV vs.reverse with
            | false => rfl
            | true =>
              rw [z] at ns
              exact absurd (strV_rev y) ns))⟩⟩
      | _ => cases e) h


end
/-! ### in, not in -/
section
variable {X : Cx}
def rInT (K : PySem.W.Frag) : R2 := fun x y H Q => ∃ d ds, Dp K H x d ∧ Dp K H y (.tuple ds) ∧ SeqAt.shaped d = true ∧ SeqAt.shaped (.tuple ds) = true ∧ Q (.bl (ds.any fun z => PyData.eqv z d)) H
def rNotInT (K : PySem.W.Frag) : R2 := fun x y H Q => ∃ d ds, Dp K H x d ∧ Dp K H y (.tuple ds) ∧ SeqAt.shaped d = true ∧ SeqAt.shaped (.tuple ds) = true ∧ Q (.bl (!ds.any fun z => PyData.eqv z d)) H
theorem op_inT (hu : X.A.units + 65 < cLine) : OpR X (compareOp .In) (rInT X.K) := by
  intro pins s σ H x y v u Q I rx ry h
  obtain ⟨d, ds, hd, he, sd, se, q⟩ := h
  obtain ⟨as, r1⟩ := Dp.reads I d x v hd rx
  obtain ⟨bs, r2⟩ := Dp.reads I (.tuple ds) y u he ry
  exact SeqAt.in_tuple_reads r2 r1 (SeqAt.canLay_of_shaped se) (SeqAt.canLay_of_shaped sd) (room_in_shaped sd hu) ⟨.bl _, H, I, rfl, q⟩
theorem op_notInT (hu : X.A.units + 65 < cLine) : OpR X (compareOp .NotIn) (rNotInT X.K) := by
  intro pins s σ H x y v u Q I rx ry h
  obtain ⟨d, ds, hd, he, sd, se, q⟩ := h
  obtain ⟨as, r1⟩ := Dp.reads I d x v hd rx
  obtain ⟨bs, r2⟩ := Dp.reads I (.tuple ds) y u he ry
  exact SeqAt.notIn_tuple_reads r2 r1 (SeqAt.canLay_of_shaped se) (SeqAt.canLay_of_shaped sd) (room_in_shaped sd hu) ⟨.bl _, H, I, rfl, q⟩
end
def inL (x : D) (l : List D) : Bool := l.any fun z => eqD z x
def fIn (x y : D) : Option Wv := if pureD PD x && pureD PD y then (match y with
  | .lst l => vB (inL x l)
  | .tup l => vB (inL x l)
  | _ => none) else none
def fNotIn (x y : D) : Option Wv := if pureD PD x && pureD PD y then (match y with
  | .lst l => vB (!inL x l)
  | .tup l => vB (!inL x l)
  | _ => none) else none
theorem any_py {n m : Nat} {x : D} (hx : pureD n x = true) : ∀ {l : List D}, pureDs m l = true → (pyDs l).any (fun z => PyData.eqv z (pyD x)) = inL x l
  | [], _ => by simp [pyDs, inL]
  | d :: ds, h => by
    simp only [pureDs, Bool.and_eq_true] at h
    have := any_py hx h.2
    unfold inL at this
    simp only [pyDs, inL, List.any_cons]
    rw [eq_py h.1 hx, this]
theorem pure_succ {n : Nat} {l : List D} : (pureD (n + 1) (.lst l) = pureDs n l) ∧ (pureD (n + 1) (.tup l) = pureDs n l) := ⟨by simp [pureD], by simp [pureD]⟩
theorem h_in {R : RC} : H2ok R fIn (fun x y H Q => rInD R.K x y H Q ∨ rInT R.K x y H Q) := fun d1 d2 w x y H O Q e od r1 r2 q => by
  unfold fIn at e
  split at e
  · rename_i hp
    rw [Bool.and_eq_true] at hp
    obtain ⟨a1, a2, a3⟩ := dp_of hp.1 (r1.mono vis_all)
    obtain ⟨b1, b2, b3⟩ := dp_of hp.2 (r2.mono vis_all)
    cases d2 with
    | lst l =>
      cases e
      refine .inl ⟨_, pyDs l, a1, by simpa [pyD] using b1, shaped_of (by decide) a2 a3, by simpa [pyD] using shaped_of (by decide) b2 b3, ?_⟩
      rw [any_py hp.1 (by have := hp.2; unfold PD at this; rwa [pure_succ.1] at this)]
      exact q _ H (Same.refl H) rfl
    | tup l =>
      cases e
      refine .inr ⟨_, pyDs l, a1, by simpa [pyD] using b1, shaped_of (by decide) a2 a3, by simpa [pyD] using shaped_of (by decide) b2 b3, ?_⟩
      rw [any_py hp.1 (by have := hp.2; unfold PD at this; rwa [pure_succ.2] at this)]
      exact q _ H (Same.refl H) rfl
    | _ => cases e
  · cases e
theorem h_notIn {R : RC} : H2ok R fNotIn (fun x y H Q => rNotInD R.K x y H Q ∨ rNotInT R.K x y H Q) := fun d1 d2 w x y H O Q e od r1 r2 q => by
  unfold fNotIn at e
  split at e
  · rename_i hp
    rw [Bool.and_eq_true] at hp
    obtain ⟨a1, a2, a3⟩ := dp_of hp.1 (r1.mono vis_all)
    obtain ⟨b1, b2, b3⟩ := dp_of hp.2 (r2.mono vis_all)
    cases d2 with
    | lst l =>
      cases e
      refine .inl ⟨_, pyDs l, a1, by simpa [pyD] using b1, shaped_of (by decide) a2 a3, by simpa [pyD] using shaped_of (by decide) b2 b3, ?_⟩
      rw [any_py hp.1 (by have := hp.2; unfold PD at this; rwa [pure_succ.1] at this)]
      exact q _ H (Same.refl H) rfl
    | tup l =>
      cases e
      refine .inr ⟨_, pyDs l, a1, by simpa [pyD] using b1, shaped_of (by decide) a2 a3, by simpa [pyD] using shaped_of (by decide) b2 b3, ?_⟩
      rw [any_py hp.1 (by have := hp.2; unfold PD at this; rwa [pure_succ.2] at this)]
      exact q _ H (Same.refl H) rfl
    | _ => cases e
  · cases e

/-! ### + and * of any kind -/
section
variable {X : Cx}
def rCatL (K : PySem.W.Frag) : R2 := fun x y H Q => ∃ l b xs zs, x = .ref l ∧ y = .ref b ∧ SqL K H l xs ∧ SqL K H b zs ∧ xs.length + zs.length ≤ sizeLine ∧ ∀ p, H p = none → Q (.ref p) (upd H p (.lst (xs ++ zs)))
theorem op_catL : OpR X (binaryOp .Add) (rCatL X.K) := by
  intro pins s σ H x y v u Q I rx ry h
  obtain ⟨l, b, xs, zs, rfl, rfl, hH, hB, hz, q⟩ := h
  cases rx
  cases ry
  obtain ⟨its, r, ⟨⟨cls, dd, data, sl⟩, n, ho, hc, hdn, hdt⟩, z⟩ := I.list hH
  obtain ⟨its2, r2, ⟨⟨cls2, dd2, data2, sl2⟩, n2, ho2, hc2, hdn2, hdt2⟩, z2⟩ := I.list hB
  simp only at hc hdt hc2 hdt2
  subst hc hdt hc2 hdt2
  have l1 := r.length
  have l2 := r2.length
  refine concat_meets ⟨_, ho, rfl⟩ ⟨_, ho2, rfl⟩ noFill_list_add seq_list_add PySem.F.slot_list_add PySem.F.entry_list_add (PySem.F.args_list_add_2 _ _) (list_addW l b its.toArray its2.toArray n n2 dd dd2 sl sl2 (by rw [List.size_toArray, List.size_toArray]; omega)) ⟨ho, ho2, ?_⟩
  have ea : its.toArray ++ its2.toArray = (its ++ its2).toArray := by simp
  rw [ea]
  exact ⟨.ref _, _, I.lnew (t' := s.toks) (r.append r2) (by rw [List.length_append]; omega), rfl, q _ I.fresh⟩
def rRepL (K : PySem.W.Frag) : R2 := fun x y H Q => ∃ l k xs, x = .ref l ∧ y = .int k ∧ SqL K H l xs ∧ -1000 ≤ k ∧ k ≤ 1000 ∧ xs.length ≤ 1000 ∧ ∀ p, H p = none → Q (.ref p) (upd H p (.lst (List.replicate k.toNat xs).flatten))
theorem rep_len {α : Type} {xs : List α} {k : Int} (h2 : k ≤ 1000) (hz : xs.length ≤ 1000) : (List.replicate k.toNat xs).flatten.length ≤ LIM := by
  rw [PyProof.Rows.lm_len_rep_flat]
  have a1 : k.toNat * xs.length ≤ 1000 * 1000 := Nat.mul_le_mul (by omega) hz
  exact a1
theorem op_repL : OpR X (binaryOp .Mult) (rRepL X.K) := by
  intro pins s σ H x y v u Q I rx ry h
  obtain ⟨l, k, xs, rfl, rfl, hH, h1, h2, hz, q⟩ := h
  cases rx
  obtain ⟨t, rfl⟩ := ry
  obtain ⟨its, r, ⟨⟨cls, dd, data, sl⟩, n, ho, hc, hdn, hdt⟩, z⟩ := I.list hH
  simp only at hc hdt
  subst hc hdt
  have hl := r.length
  have a1 : its.toArray.size * k.toNat ≤ 1000 * 1000 := by
    rw [List.size_toArray]
    exact Nat.mul_le_mul (by omega) (by omega)
  refine wpAny_binaryOp_repeat_ref (T := "list") (U := "int") (by decide) ⟨_, ho, rfl⟩ (fun s' => typeIs_int s' k t) noFill_list_mul F.fills_int_mul F.slot_int_rmul repeat_list F.slot_int_index.lookup
    (call_meets F.slot_int_rmul (typeIs_int s k t) F.entry_int_rmul (F.args_int_rmul_2 _ _) (lm_int_rmul_list_any k t l its.toArray n dd sl)
      ⟨ho, rfl, ⟨_, ho, rfl⟩, call_meets F.slot_list_mul ⟨_, ho, rfl⟩ F.entry_list_mul (F.args_list_mul_2 _ _)
        (lm_list_mul_any l its.toArray n dd sl k t (by simp [Builtin.List.listFitsIndex]; omega) (by omega) (by simp [Builtin.List.listTooLong, sizeLine]; simp at a1; omega))
        ⟨ho, ?_⟩⟩)
  rw [listMul_foldl_if]
  exact ⟨.ref _, _, I.lnew (t' := s.toks) (r.rep k.toNat) (small_lim (rep_len h2 hz)), rfl, q _ I.fresh⟩
theorem tuple_mulS (l : Addr) (items : Array Value) (n : Nat) (dd : Option Addr) (sl : Array (Option Value)) (x : Int) (u : Tok) (c0 : (decide (x < -(2 ^ 63)) || decide (x ≥ 2 ^ 63)) = false) (c1 : (items.isEmpty || x == 1) = true) :
    Meets (Builtin.«tuple.__mul__» ⟨[.ref l, .int x u], []⟩) (fun _ R s => s.heap.get? l = some { cls := .type "tuple", dict := dd, data := .seq items n, slots := sl } ∧
      R (.ok (.ret (Value.ref l))) s) :=
  .of_wp fun prog w A R s h => by
    obtain ⟨hp, g, d, tk, os⟩ := s
    obtain ⟨hl, h⟩ := h
    have f1 := AutoSeq1.idx_int
    wp_walk using wpAny_loadPart' hl
    repeat (first
      | (refine wpAny_ite_false (decide_eq_false (by rw [c0]; exact Bool.false_ne_true)) ?_; wp_walk using wpAny_loadPart' hl)
      | (refine wpAny_ite_true (decide_eq_true c1) ?_; wp_walk using wpAny_loadPart' hl))
    exact ⟨_, rfl, h⟩

theorem tuple_mul0 (l : Addr) (items : Array Value) (n : Nat) (dd : Option Addr) (sl : Array (Option Value)) (x : Int) (u : Tok) (c0 : (decide (x < -(2 ^ 63)) || decide (x ≥ 2 ^ 63)) = false) (c1 : (items.isEmpty || x == 1) = false) (c2 : (decide (x ≤ 0) || items.isEmpty) = true) :
    Meets (Builtin.«tuple.__mul__» ⟨[.ref l, .int x u], []⟩) (fun _ R s => s.heap.get? l = some { cls := .type "tuple", dict := dd, data := .seq items n, slots := sl } ∧
      R (.ok (.ret (Value.ref s.heap.objs.size))) { s with heap := s.heap.push { cls := Value.type "tuple", data := Data.seq #[] }, toks := s.toks }) :=
  .of_wp fun prog w A R s h => by
    obtain ⟨hp, g, d, tk, os⟩ := s
    obtain ⟨hl, h⟩ := h
    have f1 := AutoSeq1.idx_int
    wp_walk using wpAny_loadPart' hl
    repeat (first
      | (refine wpAny_ite_false (decide_eq_false (by rw [c0]; exact Bool.false_ne_true)) ?_; wp_walk using wpAny_loadPart' hl)
      | (refine wpAny_ite_false (decide_eq_false (by rw [c1]; exact Bool.false_ne_true)) ?_; wp_walk using wpAny_loadPart' hl)
      | (refine wpAny_ite_true (decide_eq_true c2) ?_; wp_walk using wpAny_loadPart' hl))
    exact ⟨_, rfl, h⟩
def rRepA (K : PySem.W.Frag) : R2 := fun x y H Q => ∃ l k xs, x = .ref l ∧ y = .int k ∧ SqT K H l xs ∧ -1000 ≤ k ∧ k ≤ 1000 ∧ xs.length ≤ 1000 ∧
  ((xs = [] ∨ k = 1) → Q (.ref l) H) ∧ ∀ p, H p = none → Q (.ref p) (upd H p (.tup (List.replicate k.toNat xs).flatten))
theorem op_repA : OpR X (binaryOp .Mult) (rRepA X.K) := by
  intro pins s σ H x y v u Q I rx ry h
  obtain ⟨l, k, xs, rfl, rfl, hT, h1, h2, hz, q1, q2⟩ := h
  by_cases hs : xs = [] ∨ k = 1
  · cases rx
    obtain ⟨t, rfl⟩ := ry
    obtain ⟨its, r, ⟨⟨cls, dd, data, sl⟩, ho, hc, n, hd⟩, hsz⟩ := I.tuple hT
    simp only at hc hd
    subst hc hd
    have c0 : (decide (k < -(2 ^ 63)) || decide (k ≥ 2 ^ 63)) = false := by
      rw [decide_eq_false (by omega), decide_eq_false (by omega)] <;> rfl
    have c1 : (its.toArray.isEmpty || k == 1) = true := by
      rcases hs with e | e
      · subst e
        cases r
        rfl
      · subst e
        simp
    refine wpAny_binaryOp_repeat_ref (T := "tuple") (U := "int") (by decide) ⟨_, ho, rfl⟩ (fun s' => typeIs_int s' k t) noFill_tuple_mul F.fills_int_mul F.slot_int_rmul repeat_tuple F.slot_int_index.lookup
      (call_meets F.slot_int_rmul (typeIs_int s k t) F.entry_int_rmul (F.args_int_rmul_2 _ _) (int_rmul_tuple k t l its.toArray n dd sl)
        ⟨ho, rfl, ⟨_, ho, rfl⟩, call_meets F.slot_tuple_mul ⟨_, ho, rfl⟩ F.entry_tuple_mul (F.args_tuple_mul_2 _ _) (tuple_mulS l its.toArray n dd sl k t c0 c1) ⟨ho, ?_⟩⟩)
    exact ⟨.ref l, H, I, rfl, q1 hs⟩
  · have hne : xs ≠ [] := fun e => hs (.inl e)
    have hk : k ≠ 1 := fun e => hs (.inr e)
    by_cases h0 : k ≤ 0
    · cases rx
      obtain ⟨t, rfl⟩ := ry
      obtain ⟨its, r, ⟨⟨cls, dd, data, sl⟩, ho, hc, n, hd⟩, hsz⟩ := I.tuple hT
      simp only at hc hd
      subst hc hd
      have c0 : (decide (k < -(2 ^ 63)) || decide (k ≥ 2 ^ 63)) = false := by
        rw [decide_eq_false (by omega), decide_eq_false (by omega)] <;> rfl
      have hi : its.toArray.isEmpty = false := by
        cases its with
        | nil =>
          have := r.length
          exact absurd (List.eq_nil_of_length_eq_zero (by simpa using this)) hne
        | cons a b => rfl
      have c1 : (its.toArray.isEmpty || k == 1) = false := by
        rw [hi, Bool.false_or]
        exact beq_eq_false_iff_ne.mpr hk
      have c2 : (decide (k ≤ 0) || its.toArray.isEmpty) = true := by
        rw [decide_eq_true h0]
        rfl
      refine wpAny_binaryOp_repeat_ref (T := "tuple") (U := "int") (by decide) ⟨_, ho, rfl⟩ (fun s' => typeIs_int s' k t) noFill_tuple_mul F.fills_int_mul F.slot_int_rmul repeat_tuple F.slot_int_index.lookup
        (call_meets F.slot_int_rmul (typeIs_int s k t) F.entry_int_rmul (F.args_int_rmul_2 _ _) (int_rmul_tuple k t l its.toArray n dd sl)
          ⟨ho, rfl, ⟨_, ho, rfl⟩, call_meets F.slot_tuple_mul ⟨_, ho, rfl⟩ F.entry_tuple_mul (F.args_tuple_mul_2 _ _) (tuple_mul0 l its.toArray n dd sl k t c0 c1 c2) ⟨ho, ?_⟩⟩)
      have ek : k.toNat = 0 := by omega
      have q := q2 _ (I.hok.fresh (Nat.le_refl s.heap.objs.size))
      rw [ek] at q
      refine ⟨.ref s.heap.objs.size, _, I.laid (t' := s.toks) (o := .tup []) (fun b ob q => Heap.get?_push_of_some _ q) (Nat.le_refl _) ?_, rfl, q⟩
      exact ⟨Nat.zero_le _, [], .nil, IsTup.new _ _⟩
    · exact op_repT pins s σ H _ _ v u Q I rx ry ⟨l, k, xs, rfl, rfl, hT, hne, by omega, h2, hz, q2⟩

end
section
variable {X : Cx}
def rCatS : R2 := fun x y H Q => ∃ i j, x = .str i ∧ y = .str j ∧ i.length + j.length ≤ sizeLine ∧ Q (.str (i ++ j)) H
def rAddG (K : PySem.W.Frag) : R2 := fun x y H Q => rI0 (fun i j => .int (i + j)) x y H Q ∨ rCatL K x y H Q ∨ rCatX K x y H Q ∨ rCatS x y H Q
theorem op_addG : OpR X (binaryOp .Add) (rAddG X.K) := OpR.or op_add (OpR.or op_catL (OpR.or op_catX op_add_str))
def rMulG (K : PySem.W.Frag) : R2 := fun x y H Q => rI CMulW (fun i j => .int (i * j)) x y H Q ∨ rRepL K x y H Q ∨ rRepA K x y H Q
theorem op_mulG : OpR X (binaryOp .Mult) (rMulG X.K) := OpR.or op_mulW (OpR.or op_repL op_repA)
end
def fAddG (x y : D) : Option Wv := match x, y with
  | .int i, .int j => vI (i + j)
  | .lst l, .lst m => if l.length + m.length ≤ LIM then some (.own (.lst (l ++ m))) else none
  | .tup l, .tup m => if l.length + m.length ≤ LIM then some (.val (.tup (l ++ m))) else none
  | .str a, .str b => if okS (a ++ b) then some (.val (.str (a ++ b))) else none
  | _, _ => none
def repOk (k : Int) (n : Nat) : Bool := decide (-1000 ≤ k) && (decide (k ≤ 1000) && decide (n ≤ 1000))
def fMulG (x y : D) : Option Wv := match x, y with
  | .int i, .int j => if mulOk i j then vI (i * j) else none
  | .lst l, .int k => if repOk k l.length then some (.own (.lst (List.replicate k.toNat l).flatten)) else none
  | .tup l, .int k => if repOk k l.length && !strD l then some (.val (.tup (List.replicate k.toNat l).flatten)) else none
  | _, _ => none
theorem h_addG {R : RC} : H2ok R fAddG (rAddG R.K) := fun d1 d2 w x y H O Q e od r1 r2 q => by
  cases d1 with
  | int i =>
    cases d2 with
    | int j =>
      cases e
      exact .inl ⟨i, j, r1, r2, q _ H (Same.refl H) rfl⟩
    | _ => cases e
  | lst l =>
    cases d2 with
    | lst m =>
      simp only [fAddG] at e
      split at e
      · rename_i hl
        cases e
        obtain ⟨a, vs, rfl, h1, h2, h3⟩ := r1
        obtain ⟨b, us, rfl, g1, g2, g3⟩ := r2
        exact .inr (.inl ⟨a, b, vs, us, rfl, rfl, vis_sql h1, vis_sql g1, by rw [← h2.length, ← g2.length]; exact small_lim hl, fun p hp => q _ _ (same_upd hp) (new_lst od (h2.append g2) (by rw [List.length_append]; exact hl) hp)⟩)
      · cases e
    | _ => cases e
  | tup l =>
    cases d2 with
    | tup m =>
      simp only [fAddG] at e
      split at e
      · rename_i hl
        cases e
        obtain ⟨a, vs, rfl, h1, h2, h3⟩ := r1
        obtain ⟨b, us, rfl, g1, g2, g3⟩ := r2
        refine .inr (.inr (.inl ⟨a, b, vs, us, rfl, rfl, vis_sqt h1, vis_sqt g1, by rw [← h2.length, ← g2.length]; exact small_lim hl, fun e1 => ?_, fun e1 e2 => ?_, fun e1 e2 p o hp hd => q _ _ (same_upd hp) (new_tupX od (h2.append g2) (by rw [List.length_append]; exact hl) hp hd)⟩))
        · subst e1
          have el : l = [] := List.eq_nil_of_length_eq_zero (by rw [h2.length]; rfl)
          subst el
          exact q _ H (Same.refl H) ⟨b, us, rfl, g1, g2, g3⟩
        · subst e2
          have el : m = [] := List.eq_nil_of_length_eq_zero (by rw [g2.length]; rfl)
          subst el
          exact q _ H (Same.refl H) ⟨a, vs, rfl, h1, by rw [List.append_nil]; exact h2, by rw [List.append_nil]; exact h3⟩
      · cases e
    | _ => cases e
  | str a =>
    cases d2 with
    | str b =>
      simp only [fAddG] at e
      split at e
      · rename_i hl
        cases e
        obtain ⟨rfl, h1⟩ := r1
        obtain ⟨rfl, h2⟩ := r2
        exact .inr (.inr (.inr ⟨a, b, rfl, rfl, by
          have z1 := (okS_len h1).1
          have z2 := (okS_len h2).1
          have z3 : 2 * LIM ≤ sizeLine := by decide
          omega, q _ H (Same.refl H) ⟨rfl, hl⟩⟩))
      · cases e
    | _ => cases e
  | _ => cases e
theorem h_mulG {R : RC} : H2ok R fMulG (rMulG R.K) := fun d1 d2 w x y H O Q e od r1 r2 q => by
  cases d1 with
  | int i =>
    cases d2 with
    | int j =>
      simp only [fMulG] at e
      split at e
      · rename_i hm
        cases e
        have hm2 : i.natAbs.log2 + j.natAbs.log2 < 1000000 := of_decide_eq_true hm
        exact .inl ⟨i, j, r1, r2, hm2, q _ H (Same.refl H) rfl⟩
      · cases e
    | _ => cases e
  | lst l =>
    cases d2 with
    | int k =>
      simp only [fMulG] at e
      split at e
      · rename_i hm
        cases e
        unfold repOk at hm
        rw [Bool.and_eq_true, Bool.and_eq_true] at hm
        have b1 := of_decide_eq_true hm.1
        have b2 := of_decide_eq_true hm.2.1
        have b3 := of_decide_eq_true hm.2.2
        obtain ⟨a, vs, rfl, h1, h2, h3⟩ := r1
        exact .inr (.inl ⟨a, k, vs, rfl, r2, vis_sql h1, b1, b2, by rw [← h2.length]; exact b3, fun p hp => q _ _ (same_upd hp) (new_lst od (repL_rep h2 _) (rep_len b2 b3) hp)⟩)
      · cases e
    | _ => cases e
  | tup l =>
    cases d2 with
    | int k =>
      simp only [fMulG] at e
      split at e
      · rename_i hm
        cases e
        rw [Bool.and_eq_true] at hm
        obtain ⟨hm, ns⟩ := hm
        unfold repOk at hm
        rw [Bool.and_eq_true, Bool.and_eq_true] at hm
        have b1 := of_decide_eq_true hm.1
        have b2 := of_decide_eq_true hm.2.1
        have b3 := of_decide_eq_true hm.2.2
        obtain ⟨a, vs, rfl, h1, h2, h3⟩ := r1
        have ns' : strV (List.replicate k.toNat vs).flatten = false := by
          have z := strD_eq h2
          cases y : strV (List.replicate k.toNat vs).flatten with
          | false => rfl
          | true =>
            rw [z, strV_rep y] at ns
            cases ns
        refine .inr (.inr ⟨a, k, vs, rfl, r2, vis_sqt h1, b1, b2, by rw [← h2.length]; exact b3, fun hs => q _ H (Same.refl H) ?_, fun p hp => q _ _ (same_upd hp) (new_tup od (repL_rep h2 _) (rep_len b2 b3) hp ns')⟩)
        have el : (List.replicate k.toNat l).flatten = l := by
          rcases hs with z | z
          · have : l = [] := List.eq_nil_of_length_eq_zero (by rw [h2.length, z]; rfl)
            rw [this]
            simp
          · rw [z]
            simp
        show Rep R _ (.tup _) _
        rw [el]
        exact ⟨a, vs, rfl, h1, h2, h3⟩
      · cases e
    | _ => cases e
  | _ => cases e
where
  repL_rep {R : RC} {H : Hp} {ds : List D} {vs : List V} (h : RepL R H ds vs) : ∀ k : Nat, RepL R H (List.replicate k ds).flatten (List.replicate k vs).flatten
  | 0 => rfl
  | k + 1 => by
    rw [List.replicate_succ, List.replicate_succ, List.flatten_cons, List.flatten_cons]
    exact RepL.append h (repL_rep h k)
section
variable {B : BP} {X : Cx} {a c e : Expr} {ea eb : Ev} {pos p p2 : Pos}
theorem de_addG (ha : DE B X a ea) (hb : DE B X c eb) (hK : B.R.K = X.K := by rfl) : DE B X (.BinOp a .Add c pos) (dOp2 fAddG ea eb) := de_bin op_addG (hK ▸ h_addG) ha hb
theorem de_mulG (ha : DE B X a ea) (hb : DE B X c eb) (hK : B.R.K = X.K := by rfl) : DE B X (.BinOp a .Mult c pos) (dOp2 fMulG ea eb) := de_bin op_mulG (hK ▸ h_mulG) ha hb
end
end DL

set_option Elab.async false
set_option linter.all false
set_option maxRecDepth 100000
set_option maxHeartbeats 4000000
namespace DL
open PySem PySem.Spec PyProof.Rows L2

/-! ### own lists written -/
theorem tabs_upd {T : List NdefX.NTab} {H : Hp} {a : Addr} {o o' : HO} (t : NdefX.TabsN T H) (h : H a = some o) (n1 : ∀ ps, o ≠ .tbl ps) (n2 : ∀ cv nm, o ≠ LamX.CodeO cv nm) : NdefX.TabsN T (upd H a o') := by
  intro p hp
  obtain ⟨ps, e1, e2, e3⟩ := t p hp
  have up : ∀ b u, H b = some u → u ≠ o → upd H a o' b = some u := fun b u e n => by
    have ne : b ≠ a := fun z => by
      rw [z, h] at e
      exact n (Option.some.inj e).symm
    rw [upd_ne ne]
    exact e
  refine ⟨ps, up _ _ e1 (fun z => n1 ps z.symm), e2, fun pos cv hc => ?_⟩
  obtain ⟨c, z1, z2⟩ := e3 pos cv hc
  exact ⟨c, z1, up _ _ z2 fun z => n2 _ _ z.symm⟩
section
variable {B : BP} {X : Cx} {env : Sls} {b : Bw} {σ : L2.St} {H : Hp}
theorem own_put {O : Addr → Prop} {i : Nat} {d d' : D} (e : env[i]? = some (.own d)) (a : Addr) : ownO O (env.set i (.own d')) σ a ↔ ownO O env σ a := by
  have hi := (List.getElem?_eq_some_iff.mp e).1
  constructor
  · rintro (h | ⟨j, x, h1, h2⟩)
    · exact .inl h
    · by_cases q : i = j
      · subst q
        exact .inr ⟨i, d, e, h2⟩
      · rw [List.getElem?_set_ne q] at h1
        exact .inr ⟨j, x, h1, h2⟩
  · rintro (h | ⟨j, x, h1, h2⟩)
    · exact .inl h
    · by_cases q : i = j
      · subst q
        exact .inr ⟨i, d', List.getElem?_set_self hi, h2⟩
      · exact .inr ⟨j, x, by rw [List.getElem?_set_ne q]; exact h1, h2⟩
theorem rep_codes {R : RC} {Hv : Hp} {d : D} {a : Addr} (h : RepTop R H Hv d a) : ∃ o, H a = some o ∧ (∀ ps, o ≠ .tbl ps) ∧ ∀ cv nm, o ≠ LamX.CodeO cv nm := by
  cases d with
  | lst l =>
    obtain ⟨vs, h1, _⟩ := h
    exact ⟨_, h1, (fun _ z => by cases z), fun cv nm z => by unfold LamX.CodeO at z; cases z⟩
  | dct ks ds =>
    obtain ⟨vs, _, _, ⟨kk, q, _⟩ | ⟨kk, q, _⟩⟩ := h
    · exact ⟨_, q, (fun _ z => by cases z), fun cv nm z => by unfold LamX.CodeO at z; cases z⟩
    · exact ⟨_, q, (fun _ z => by cases z), fun cv nm z => by unfold LamX.CodeO at z; cases z⟩
  | _ => exact h.elim
theorem Rel.up {i : Nat} {d d' : D} {a : Addr} {o : HO} (I : Rel B env b σ H) (e : env[i]? = some (.own d)) (s : σ[i]? = some (some (.ref a))) (t : RepTop B.R (upd H a o) (vis H (ownO B.O env σ)) d' a) : Rel B (env.set i (.own d')) b σ (upd H a o) := by
  have own : ownO B.O env σ a := .inr ⟨i, d, e, s⟩
  obtain ⟨a', s', na, he, rt⟩ := I.own i d e
  rw [s] at s'
  cases s'
  obtain ⟨o0, ho, n1, n2⟩ := rep_codes rt
  have sub : Sub (vis H (ownO B.O env σ)) (vis (upd H a o) (ownO B.O (env.set i (.own d')) σ)) := fun c u z n => by
    obtain ⟨z1, z2⟩ := of_vis z
    have ne : c ≠ a := fun q => z2 (q ▸ own)
    exact vis_of (by rw [upd_ne ne]; exact z1) fun q => z2 ((own_put e c).mp q)
  have hi := (List.getElem?_eq_some_iff.mp e).1
  refine ⟨by simpa using I.len, fun j x z => ?_, fun j x z => ?_, fun j k x y c h1 h2 h3 h4 => ?_, ?_, I.bO, fun c h => ?_, tabs_upd I.tab ho n1 n2, ⟨fun c u z n m => ?_, fun c z => ?_⟩, I.pin.trans sub⟩
  · by_cases q : i = j
    · subst q
      rw [List.getElem?_set_self hi] at z
      cases z
    · rw [List.getElem?_set_ne q] at z
      obtain ⟨v, h1, h2⟩ := I.val j x z
      exact ⟨v, h1, h2.mono sub⟩
  · by_cases q : i = j
    · subst q
      rw [List.getElem?_set_self hi] at z
      cases z
      exact ⟨a, s, na, he, t.hv sub⟩
    · rw [List.getElem?_set_ne q] at z
      obtain ⟨c, h1, h2, h3, h4⟩ := I.own j x z
      have ne : c ≠ a := fun w => q (I.sep i j d x a e z s (w ▸ h1))
      refine ⟨c, h1, h2, h3, RepTop.hv sub ?_⟩
      cases x with
      | lst l =>
        obtain ⟨vs, q1, q2⟩ := h4
        exact ⟨vs, by rw [upd_ne ne]; exact q1, q2⟩
      | dct ks ds =>
        obtain ⟨vs, q1, q2, q3⟩ := h4
        refine ⟨vs, q1, q2, ?_⟩
        rw [upd_ne ne]
        exact q3
      | _ => exact h4.elim
  · have back : ∀ (j : Nat) (x : D), (env.set i (.own d'))[j]? = some (.own x) → ∃ x', env[j]? = some (.own x') := fun j x z => by
      by_cases q : i = j
      · subst q
        exact ⟨d, e⟩
      · rw [List.getElem?_set_ne q] at z
        exact ⟨x, z⟩
    obtain ⟨x', g1⟩ := back j x h1
    obtain ⟨y', g2⟩ := back k y h2
    exact I.sep j k x' y' c g1 g2 h3 h4
  · have := I.bow
    cases hb : B.R.bo with
    | none =>
      rw [hb] at this
      cases b <;> exact this
    | some c =>
      rw [hb] at this
      cases b with
      | none => exact this
      | some l =>
        have ne : c ≠ a := fun z => na (I.bO a (by rw [hb, z]))
        show upd H a o c = _
        rw [upd_ne ne]
        exact this
  · by_cases q : c = a
    · exact ⟨o, by rw [q]; exact upd_same⟩
    · obtain ⟨u, z⟩ := I.odom c h
      exact ⟨u, by rw [upd_ne q]; exact z⟩
  · have ne : c ≠ a := fun q => by
      rw [q, he] at z
      cases z
    rw [upd_ne ne]
    exact I.ext.keep c u z n m
  · by_cases q : c = a
    · rw [q]
      exact he
    · rw [upd_ne q] at z
      exact I.ext.dom c z
/-- the bowl written -/
theorem Rel.upB {a : Addr} {l l' : List Int} (I : Rel B env (some l) σ H) (hb : B.R.bo = some a) : Rel B env (some l') σ (upd H a (.lst (l'.map V.int))) := by
  have h0 : H a = some (.lst (l.map V.int)) := by
    have := I.bow
    rw [hb] at this
    exact this
  refine I.go ⟨fun c u z n m => ?_, fun c z => ?_⟩ ?_ (tabs_upd I.tab h0 (fun _ z => by cases z) fun cv nm z => by unfold LamX.CodeO at z; cases z)
  · have ne : c ≠ a := fun q => n (by rw [hb, q])
    rw [upd_ne ne]
    exact z
  · by_cases q : c = a
    · rw [q, upd_same] at z
      cases z
    · rw [upd_ne q] at z
      exact z
  · rw [hb]
    exact upd_same
variable {e : Expr} {ea ei : Ev} {x : Str} {p ap cp pos : Pos}
/-- x.append(e) -/
def dApp (i : Nat) (ea : Ev) : Sv := fun env b => match env[i]? with
  | some (.own (.lst l)) => (ea env b).toS fun w b1 => if l.length < LIM then .nx (env.set i (.own (.lst (l ++ [w.d])))) b1 else .bad
  | _ => .bad
theorem rd_app {i : Nat} {D : Ends} (h : rdS B (dApp i ea) D σ H) : tBM B.R.K "list" rAppend (tVar i) (tCons (rdE B ea) tNil) σ H fun _ H' => D.nx σ H' := by
  obtain ⟨env, b, I, w⟩ := h
  unfold dApp at w
  cases e : env[i]? with
  | none =>
    rw [e] at w
    exact False.elim w
  | some s =>
    rw [e] at w
    cases s with
    | un => exact False.elim w
    | val d => exact False.elim w
    | own d =>
      cases d with
      | lst l =>
        obtain ⟨a, s1, na, he, rt⟩ := I.own i _ e
        have rt' := rt
        obtain ⟨vs, h1, h2, h3⟩ := rt'
        refine ⟨.ref a, s1, .inl ⟨rfl, vs, .inl (.inl h1)⟩, env, b, I, ?_⟩
        have w : wpS B ((ea env b).toS fun w b1 => if l.length < LIM then .nx (env.set i (.own (.lst (l ++ [w.d])))) b1 else .bad) D := w
        cases q : ea env b with
        | bad =>
          rw [q] at w
          exact False.elim w
        | err c fs b1 =>
          rw [q] at w
          exact err_of I w
        | ok v b1 =>
          rw [q] at w
          intro y H1 e1 e2 e3 e4
          have w : wpS B (if l.length < LIM then .nx (env.set i (.own (.lst (l ++ [v.d])))) b1 else .bad) D := w
          by_cases hl : l.length < LIM
          · rw [if_pos hl] at w
            have J := I.go e1 e2 e3
            obtain ⟨a', s2, na', he', rt2⟩ := J.own i _ e
            rw [s1] at s2
            cases s2
            obtain ⟨vs', g1, g2, g3⟩ := rt2
            refine ⟨a, vs', y, rfl, rfl, g1, by rw [← g2.length]; exact Nat.lt_trans hl lim_line, w _ _ (J.up e s1 ⟨vs' ++ [y], upd_same, ?_, ?_⟩)⟩
            · exact g2.append (RepL.cons e4.rep RepL.nil)
            · rw [List.length_append]
              exact hl
          · rw [if_neg hl] at w
            exact False.elim w
      | _ => exact False.elim w
theorem ds_app (i : Nat) (ha : DE B X e ea) (hK : B.R.K = X.K := by rfl) (hN : X.N[i]? = some x := by rfl) (hv : Vis X.env.scope x := by first | exact Or.inl rfl | exact Or.inr (Or.inl rfl) | exact Or.inr (Or.inr rfl)) (hd : (x == ("__debug__" : Str)) = false := by decide)
    (hcd : (x == ("__classdict__" : Str)) = false := by decide) (hsw : swapsWith (.Call (.Attribute (.Name x p) "append" ap) [e] [] cp) none pos.line X.env = pure false := by rfl) (hb : attributeBase (.Name x p) "append" X.env (eval (.Name x p) X.env) = eval (.Name x p) X.env := by rfl)
    (hfew : ((backTo cp (starEach [e] X.env)).all (fun x => !x.1) && (backToKw cp (keywordEach [] X.env)).all (fun x => x.1.isSome)
      && decide ([e].length + ([] : List Keyword).length + (if ([] : List Keyword).isEmpty then 0 else 1) < 30)) = true := by rfl)
    (hline : (ap.endLine == cp.line) = true := by rfl) (hs : starEach [e] X.env = (false, eval e X.env) :: starEach [] X.env := by rfl) (hplain : (backTo cp (starEach [] X.env)).any (·.1) = false := by rfl) : DS B X (.Expr (.Call (.Attribute (.Name x p) "append" ap) [e] [] cp) pos) (dApp i ea) :=
  imp_PS (ps_expr (pe_bm PySem.F.plainAttrs_list PySem.F.slot_list_append type_list_append mt_append (pe_var hN hv hd hcd) (pa_cons ha pa_nil hs) hb hfew hline hs hplain) hsw) fun D σ H h => by
    have := rd_app h
    rw [hK] at this
    exact this

/-! ### subscripts: a list, a tuple, a text, the bowl -/
def ixB (x y : D) (b : Bw) : Res Wv := match x with
  | .bowl => match y, b with
    | .int i, some l => match L2.atI l i with
      | some v => .ok (.val (.int v)) b
      | none => .bad
    | _, _ => .bad
  | _ => optR (fIx x y) b
def dIx (ea ei : Ev) : Ev := fun env b => (ea env b).bind fun a1 b1 => (ei env b1).bind fun a2 b2 => ixB a1.d a2.d b2
theorem atI_map {l : List Int} {i v : Int} (h : L2.atI l i = some v) : L2.atI (l.map V.int) i = some (.int v) := by
  unfold L2.atI at h ⊢
  rw [List.length_map]
  cases q : ixN l.length i with
  | none => simp [q] at h
  | some j =>
    simp [q] at h
    simp [h]
variable {c : Expr}
theorem de_sub_ix (ha : DE B X e ea) (hi : DE B X c ei) (hK : B.R.K = X.K := by rfl) (hs : PlainIx c := by exact fun _ _ => rfl) : DE B X (.Subscript e c pos) (dIx ea ei) :=
  imp_PE (pe_ix ix_seq ha hi hs) fun σ H Q h => by
    rw [← hK]
    refine rd_bind2 (k := fun (a1 a2 : Wv) _ b2 => ixB a1.d a2.d b2) staysW staysW h fun env a1 a2 b2 x y H2 I2 x2 r1 r2 w => ?_
    have r1 := r1.rep
    have r2 := r2.rep
    have gen : wpG B RepW (ownO B.O env σ) H (optR (fIx a1.d a2.d) b2) σ Q → rIx B.R.K x y H2 Q := fun w => by
      cases z : fIx a1.d a2.d with
      | none =>
        rw [z] at w
        exact False.elim w
      | some v =>
        rw [z] at w
        exact h_ix _ _ v x y H2 _ Q z I2.nod r1 r2 (nw_of I2 x2 w)
    cases z1 : a1.d with
    | bowl =>
      rw [z1] at w r1
      cases z2 : a2.d with
      | int i =>
        rw [z2] at w r2
        cases (show y = .int i from r2)
        cases b2 with
        | none => exact False.elim w
        | some l =>
          have w : wpG B RepW (ownO B.O env σ) H (match L2.atI l i with | some v => .ok (.val (.int v)) (some l) | none => .bad) σ Q := w
          cases z3 : L2.atI l i with
          | none =>
            rw [z3] at w
            exact False.elim w
          | some v =>
            rw [z3] at w
            obtain ⟨a, rfl, hb⟩ := r1
            have hbow := I2.bow
            rw [hb] at hbow
            exact .inl ⟨a, l.map V.int, i, .int v, rfl, rfl, .inl (.inl hbow), atI_map z3, wpG_ok (x := V.int v) w x2 I2.bow I2.tab rfl⟩
      | _ =>
        rw [z2] at w
        cases b2 <;> exact False.elim w
    | _ =>
      rw [z1] at w
      refine gen ?_
      rw [z1]
      exact w
/-- x[i] = e: a list of the body's own, the bowl -/
def setB (i : Nat) (env : Sls) (y w : D) (b : Bw) : RS := match env[i]? with
  | some (.own (.lst l)) => match y with
    | .int k => match ixN l.length k with
      | some n => .nx (env.set i (.own (.lst (l.set n w)))) b
      | none => .bad
    | _ => .bad
  | some (.val .bowl) => match y, w, b with
    | .int k, .int v, some l => match ixN l.length k with
      | some n => .nx env (some (l.set n v))
      | none => .bad
    | _, _, _ => .bad
  | _ => .bad
def isHold (s : Option Slot) : Bool := match s with
  | some (.own (.lst _)) | some (.val .bowl) => true
  | _ => false
def dSetIx (i : Nat) (ei ev : Ev) : Sv := fun env b => (ev env b).toS fun w b1 => if isHold env[i]? then (ei env b1).toS fun y b2 => setB i env y.d w.d b2 else .bad
theorem setB_ok {i : Nat} {y w : D} {u v : V} {D : Ends} (I : Rel B env b σ H) (r1 : Rep B.R (vis H (ownO B.O env σ)) y u) (r2 : Rep B.R (vis H (ownO B.O env σ)) w v) {o : V} (ho : σ[i]? = some (some o)) (wp : wpS B (setB i env y w b) D) : rSetL o u v H fun H' => D.nx σ H' := by
  unfold setB at wp
  cases e : env[i]? with
  | none =>
    rw [e] at wp
    exact False.elim wp
  | some s =>
    rw [e] at wp
    cases s with
    | un => exact False.elim wp
    | own d =>
      cases d with
      | lst l =>
        cases y with
        | int k =>
          have wp : wpS B (match ixN l.length k with | some n => .nx (env.set i (.own (.lst (l.set n w)))) b | none => .bad) D := wp
          cases q : ixN l.length k with
          | none =>
            rw [q] at wp
            exact False.elim wp
          | some n =>
            rw [q] at wp
            obtain ⟨a, s1, na, he, vs, g1, g2, g3⟩ := I.own i _ e
            rw [ho] at s1
            cases s1
            exact ⟨a, vs, k, n, rfl, r1, g1, by rw [← g2.length]; exact q, wp _ _ (I.up e ho ⟨vs.set n v, upd_same, RepL.set r2 n g2, by rw [List.length_set]; exact g3⟩)⟩
        | _ => exact False.elim wp
      | _ => exact False.elim wp
    | val d =>
      cases d with
      | bowl =>
        cases y with
        | int k =>
          cases w with
          | int z =>
            cases b with
            | none => exact False.elim wp
            | some l =>
              have wp : wpS B (match ixN l.length k with | some n => .nx env (some (l.set n z)) | none => .bad) D := wp
              cases q : ixN l.length k with
              | none =>
                rw [q] at wp
                exact False.elim wp
              | some n =>
                rw [q] at wp
                obtain ⟨o', s1, rb⟩ := I.val i _ e
                obtain ⟨a, rfl, hb⟩ := rb
                rw [ho] at s1
                cases s1
                have hbow := I.bow
                rw [hb] at hbow
                cases (show v = .int z from r2)
                refine ⟨a, l.map V.int, k, n, rfl, r1, hbow, by rw [List.length_map]; exact q, ?_⟩
                have := I.upB (l' := l.set n z) hb
                rw [List.map_set] at this
                exact wp _ _ this
          | _ => cases b <;> exact False.elim wp
        | _ => cases b <;> exact False.elim wp
      | _ => exact False.elim wp
theorem hold_var {i : Nat} (I : Rel B env b σ H) (h : isHold env[i]? = true) : ∃ o, σ[i]? = some (some o) := by
  unfold isHold at h
  cases e : env[i]? with
  | none =>
    rw [e] at h
    cases h
  | some s =>
    cases s with
    | un =>
      rw [e] at h
      cases h
    | val d =>
      obtain ⟨v, h1, _⟩ := I.val i d e
      exact ⟨v, h1⟩
    | own d =>
      obtain ⟨a, h1, _⟩ := I.own i d e
      exact ⟨_, h1⟩
theorem rd_setIx {i : Nat} {D : Ends} (h : rdS B (dSetIx i ei ea) D σ H) : tAsg (rdE B ea) (gSub (tVar i) (rdE B ei) rSetL) D σ H := by
  obtain ⟨env, b, I, w⟩ := h
  refine ⟨env, b, I, ?_⟩
  unfold dSetIx at w
  cases e : ea env b with
  | bad =>
    rw [e] at w
    exact False.elim w
  | err c fs b1 =>
    rw [e] at w
    exact err_of I w
  | ok v b1 =>
    rw [e] at w
    intro x H1 e1 e2 e3 e4
    have J := I.go e1 e2 e3
    have w : wpS B (if isHold env[i]? = true then (ei env b1).toS fun y b2 => setB i env y.d v.d b2 else .bad) D := w
    by_cases hh : isHold env[i]? = true
    · rw [if_pos hh] at w
      obtain ⟨o, ho⟩ := hold_var J hh
      refine ⟨o, ho, env, b1, J, ?_⟩
      cases e' : ei env b1 with
      | bad =>
        rw [e'] at w
        exact False.elim w
      | err c fs b2 =>
        rw [e'] at w
        exact err_of J w
      | ok y b2 =>
        rw [e'] at w
        intro u H2 f1 f2 f3 f4
        have J2 := J.go f1 f2 f3
        exact setB_ok J2 f4.rep ((RepW.go e4 f1 fun a q => I.bOO q).rep) ho w
    · rw [if_neg hh] at w
      exact False.elim w
theorem ds_setIx (i : Nat) {ip : Pos} (he : DE B X e ea) (hi : DE B X c ei) (hN : X.N[i]? = some x := by rfl) (hv : Vis X.env.scope x := by first | exact Or.inl rfl | exact Or.inr (Or.inl rfl) | exact Or.inr (Or.inr rfl)) (hd : (x == ("__debug__" : Str)) = false := by decide)
    (hcd : (x == ("__classdict__" : Str)) = false := by decide)
    (ha : ∀ v, assign (.Subscript (.Name x p) c ip) X.env v = (do
      let ov ← holding [v] (eval (.Name x p) X.env)
      let iv ← holding [v, ov] (eval c X.env)
      standAt ip
      holding [v, ov, iv] (setItem ov iv v)
      release [v, ov, iv] []) := by intro _; rfl)
    (hs : swapsWithSole [.Subscript (.Name x p) c ip] e pos.line X.env = pure false := by rfl) (hw : swappedStores [.Subscript (.Name x p) c ip] e X.env = pure none := by rfl)
    (h1 : (assignEach [.Subscript (.Name x p) c ip] X.env).map (·.2) = [assign (.Subscript (.Name x p) c ip) X.env] := by rfl) : DS B X (.Assign [.Subscript (.Name x p) c ip] e pos) (dSetIx i ei ea) :=
  imp_PS (ps_asg he (pg_sub (pe_var hN hv hd hcd) hi set_list ha) hs hw h1) fun D σ H h => rd_setIx h
/-- x[i], y = e: the bowl, a name -/
def dSetIx2 (i j : Nat) (ei ev : Ev) : Sv := fun env b => (ev env b).toS fun w b1 => match w.d with
  | .tup [d1, d2] => if isHold env[i]? then (ei env b1).toS fun y b2 => match setB i env y.d d1 b2 with
    | .nx env' b3 => .nx (env'.set j (.val d2)) b3
    | _ => .bad
    else .bad
  | _ => .bad
end
end DL

set_option Elab.async false
set_option linter.all false
set_option maxRecDepth 100000
set_option maxHeartbeats 4000000
namespace DL
open PySem PySem.Spec PyProof.Rows L2
section
variable {B : BP} {X : Cx} {env : Sls} {b : Bw} {σ : L2.St} {H : Hp} {e c tg : Expr} {ea ei : Ev} {x y : Str} {p p2 ap cp pos : Pos}
/-! ### target = value, the target any -/
def dAsgG (bd : Bd) (ev : Ev) : Sv := fun env b => (ev env b).toS fun w b1 => match bd w.d env with
  | some env' => .nx env' b1
  | none => .bad
theorem rd_asgG {is : List Nat} {bd : Bd} {D : Ends} (h : rdS B (dAsgG bd ea) D σ H) : tAsg (rdE B ea) (rdG B is bd) D σ H := by
  refine rd_toS (k := fun w env b1 => match bd w.d env with | some env' => .nx env' b1 | none => .bad) h fun env b w b1 x H1 I e1 e2 e3 e4 q => ?_
  cases z : bd w.d env with
  | none =>
    rw [z] at q
    exact False.elim q
  | some env' =>
    rw [z] at q
    exact ⟨env, b1, w.d, env', I.go e1 e2 e3, Rep.mono (vis_sub fun a h => h) e4.rep, z, fun σ' I' _ _ _ _ => q σ' H1 I'⟩
theorem ds_asg {is : List Nat} {bd : Bd} (he : DE B X e ea) (hg : DG B X tg is bd) (hs : swapsWithSole [tg] e pos.line X.env = pure false := by rfl) (hw : swappedStores [tg] e X.env = pure none := by rfl)
    (h1 : (assignEach [tg] X.env).map (·.2) = [assign tg X.env] := by rfl) : DS B X (.Assign [tg] e pos) (dAsgG bd ea) := imp_PS (ps_asg he hg hs hw h1) fun D σ H h => rd_asgG h

/-! ### bowl[i], y = e -/
theorem rd_setIx2 {i j : Nat} {D : Ends} (h : rdS B (dSetIx2 i j ei ea) D σ H) : tAsg (rdE B ea) (gTup B.R.K 2 (gCons (gSub (tVar i) (rdE B ei) rSetL) (gCons (gName j) gNil))) D σ H := by
  obtain ⟨env, b, I, w⟩ := h
  refine ⟨env, b, I, ?_⟩
  unfold dSetIx2 at w
  cases e : ea env b with
  | bad =>
    rw [e] at w
    exact False.elim w
  | err c fs b1 =>
    rw [e] at w
    exact err_of I w
  | ok v b1 =>
    rw [e] at w
    intro x H1 e1 e2 e3 e4
    have J := I.go e1 e2 e3
    have r := e4.rep
    have r : Rep B.R (vis H1 (ownO B.O env σ)) v.d x := r
    have w : wpS B (match v.d with
      | .tup [d1, d2] => if isHold env[i]? = true then (ei env b1).toS fun y b2 => match setB i env y.d d1 b2 with
        | .nx env' b3 => .nx (env'.set j (.val d2)) b3
        | _ => .bad
        else .bad
      | _ => .bad) D := w
    split at w
    · rename_i d1 d2 hv
      rw [hv] at r
      obtain ⟨a, vs, rfl, h1, h2, _⟩ := r
      obtain ⟨v1, v2, rfl, r1, r2⟩ := rep2 h2
      refine ⟨a, [v1, v2], rfl, vis_sqt h1, rfl, v1, [v2], rfl, ?_⟩
      by_cases hh : isHold env[i]? = true
      · rw [if_pos hh] at w
        obtain ⟨o, ho⟩ := hold_var J hh
        refine ⟨o, ho, env, b1, J, ?_⟩
        cases e' : ei env b1 with
        | bad =>
          rw [e'] at w
          exact False.elim w
        | err c fs b2 =>
          rw [e'] at w
          exact err_of J w
        | ok y b2 =>
          rw [e'] at w
          intro u H2 f1 f2 f3 f4
          have J2 := J.go f1 f2 f3
          have s2 : Sub (vis H1 (ownO B.O env σ)) (vis H2 (ownO B.O env σ)) := vis_ext f1 fun a q => I.bOO q
          have w : wpS B (match setB i env y.d d1 b2 with
            | .nx env' b3 => .nx (env'.set j (.val d2)) b3
            | _ => .bad) D := w
          -- the store's own end
          let D' : Ends := { D with nx := fun σ3 H3 => σ3 = σ ∧ ∃ env' b3, setB i env y.d d1 b2 = .nx env' b3 ∧ Rel B env' b3 σ H3 ∧ Rep B.R (vis H3 (ownO B.O env' σ)) d2 v2 }
          have key : rSetL o u v1 H2 fun H3 => D'.nx σ H3 := by
            have hsb : ∃ env' b3, setB i env y.d d1 b2 = .nx env' b3 := by
              cases q : setB i env y.d d1 b2 with
              | nx env' b3 => exact ⟨env', b3, rfl⟩
              | _ =>
                rw [q] at w
                exact False.elim w
            obtain ⟨env', b3, hsb⟩ := hsb
            unfold setB at hsb
            cases ee : env[i]? with
            | none => simp [ee] at hsb
            | some s =>
              cases s with
              | un => simp [ee] at hsb
              | own d =>
                cases d with
                | lst l =>
                  simp only [ee] at hsb
                  split at hsb
                  · rename_i k hk
                    split at hsb
                    · rename_i n hn
                      cases hsb
                      have f5 := f4.rep
                      rw [hk] at f5
                      obtain ⟨a', s1, na, he, vs, g1, g2, g3⟩ := J2.own i _ ee
                      rw [ho] at s1
                      cases s1
                      have up := J2.up (d' := .lst (l.set n d1)) (o := .lst (vs.set n v1)) ee ho ⟨vs.set n v1, upd_same, RepL.set (r1.mono s2) n g2, by rw [List.length_set]; exact g3⟩
                      refine ⟨a', vs, k, n, rfl, f5, g1, by rw [← g2.length]; exact hn, rfl, _, _, by unfold setB; simp only [ee, hk, hn], up, (r2.mono s2).mono fun c o z _ => ?_⟩
                      obtain ⟨z1, z2⟩ := of_vis z
                      have ne : c ≠ a' := fun q => z2 (.inr ⟨i, _, ee, by rw [q]; exact ho⟩)
                      exact vis_of (by rw [upd_ne ne]; exact z1) fun q => z2 ((own_put ee c).mp q)
                    · cases hsb
                  · cases hsb
                | _ => simp [ee] at hsb
              | val d =>
                cases d with
                | bowl =>
                  cases hy : y.d with
                  | int k =>
                    cases d1 with
                    | int z =>
                      cases b2 with
                      | none => simp [ee, hy] at hsb
                      | some l =>
                        simp only [ee, hy] at hsb
                        cases hn : ixN l.length k with
                        | none => simp [hn] at hsb
                        | some n =>
                          simp only [hn] at hsb
                          cases hsb
                          have f5 := f4.rep
                          rw [hy] at f5
                          obtain ⟨o', s1, rb⟩ := J2.val i _ ee
                          obtain ⟨a', rfl, hb⟩ := rb
                          rw [ho] at s1
                          cases s1
                          have hbow := J2.bow
                          rw [hb] at hbow
                          cases (show v1 = .int z from r1)
                          have up := J2.upB (l' := l.set n z) hb
                          refine ⟨a', l.map V.int, k, n, rfl, f5, hbow, by rw [List.length_map]; exact hn, ?_⟩
                          rw [show (l.map V.int).set n (.int z) = (l.set n z).map V.int from List.map_set.symm]
                          refine ⟨rfl, env, some (l.set n z), by unfold setB; simp only [ee, hy, hn], up, (r2.mono s2).mono fun c o z _ => ?_⟩
                          obtain ⟨z1, z2⟩ := of_vis z
                          have ne : c ≠ a' := fun q => z2 (.inl (by rw [q]; exact J2.bO a' hb))
                          exact vis_of (by rw [upd_ne ne]; exact z1) z2
                    | _ => cases b2 <;> simp [ee, hy] at hsb
                  | _ => cases b2 <;> simp [ee, hy] at hsb
                | _ => simp [ee] at hsb
          obtain ⟨p1, xs, k, n, q1, q2, q3, q4, _, env', b3, q5, q6, q7⟩ := key
          refine ⟨p1, xs, k, n, q1, q2, q3, q4, v2, [], rfl, rfl, ?_⟩
          rw [q5] at w
          exact w _ _ (q6.setV q7)
      · rw [if_neg hh] at w
        exact False.elim w
    · exact False.elim w
theorem ds_setIx2 (i j : Nat) {ip tp : Pos} {kt : Nat} (hc : X.calm = true) (hNd : X.N.Nodup) (he : DE B X e ea) (hi : DE B X c ei) (hK : B.R.K = X.K := by rfl) (hN : X.N[i]? = some x := by rfl) (hv : Vis X.env.scope x := by first | exact Or.inl rfl | exact Or.inr (Or.inl rfl) | exact Or.inr (Or.inr rfl)) (hd : (x == ("__debug__" : Str)) = false := by decide)
    (hcd : (x == ("__classdict__" : Str)) = false := by decide) (hN2 : X.N[j]? = some y := by rfl) (hy : Loc X.env.scope y := by first | exact Or.inl rfl | exact Or.inr rfl) (hf : X.fn y = true ∨ X.env.scope.names.lookup y = some .local := by first | exact .inl rfl | exact .inr rfl)
    (ha : ∀ v, assign (.Subscript (.Name x p) c ip) X.env v = (do
      let ov ← holding [v] (eval (.Name x p) X.env)
      let iv ← holding [v, ov] (eval c X.env)
      standAt ip
      holding [v, ov, iv] (setItem ov iv v)
      release [v, ov, iv] []) := by intro _; rfl)
    (hs : swapsWithSole [.Tuple [.Subscript (.Name x p) c ip, .Name y p2] kt tp] e pos.line X.env = pure false := by rfl) (hw : swappedStores [.Tuple [.Subscript (.Name x p) c ip, .Name y p2] kt tp] e X.env = pure none := by rfl)
    (h1 : (assignEach [.Tuple [.Subscript (.Name x p) c ip, .Name y p2] kt tp] X.env).map (·.2) = [assign (.Tuple [.Subscript (.Name x p) c ip, .Name y p2] kt tp) X.env] := by rfl)
    (hn : (assignEach [.Subscript (.Name x p) c ip, .Name y p2] X.env).length = 2 := by rfl) (hst : (assignEach [.Subscript (.Name x p) c ip, .Name y p2] X.env).findIdx? (·.1) = none := by rfl)
    (hs1 : (assignEach [.Subscript (.Name x p) c ip, .Name y p2] X.env).map (·.2) = assign (.Subscript (.Name x p) c ip) X.env :: (assignEach [.Name y p2] X.env).map (·.2) := by rfl)
    (hs2 : (assignEach [.Name y p2] X.env).map (·.2) = assign (.Name y p2) X.env :: (assignEach [] X.env).map (·.2) := by rfl) :
    DS B X (.Assign [.Tuple [.Subscript (.Name x p) c ip, .Name y p2] kt tp] e pos) (dSetIx2 i j ei ea) :=
  imp_PS (ps_asg he (pg_tup hc (pgs_cons (pg_sub (pe_var hN hv hd hcd) hi set_list ha) (pgs_cons (pg_name hNd hN2 hy hf) pgs_nil hs2) hs1) hn hst) hs hw h1) fun D σ H h => by
    have := rd_setIx2 h
    rw [hK] at this
    exact this

/-! ### several values at once, own ones among them -/
def hid (O : Addr → Prop) (w : Wv) (v : V) : Addr → Prop := fun a => O a ∨ ((∃ d, w = .own d) ∧ v = .ref a)
abbrev BP.wO (B : BP) (O : Addr → Prop) : BP := { B with O := O }
/-- a value told, not yet stored: its own address is hidden in hid O w v -/
def Pend (B : BP) (O : Addr → Prop) (env : Sls) (σ : L2.St) (H : Hp) (w : Wv) (v : V) : Prop := match w with
  | .val d => Rep B.R (vis H (ownO O env σ)) d v
  | .own d => ∃ a, v = .ref a ∧ ¬ ownO O env σ a ∧ B.He a = none ∧ B.R.bo ≠ some a ∧ RepTop B.R H (vis H (plus (ownO O env σ) a)) d a
theorem hid_own {O : Addr → Prop} {w : Wv} {v : V} {a : Addr} (h : ownO (hid O w v) env σ a) : ownO O env σ a ∨ ((∃ d, w = .own d) ∧ v = .ref a) := by
  rcases h with (h | h) | h
  · exact .inl (.inl h)
  · exact .inr h
  · exact .inl (.inr h)
/-- a value told: its state, all own of it hidden -/
theorem Rel.hide {O : Addr → Prop} {w : Wv} {v : V} {b1 : Bw} {H1 : Hp} (I : Rel (B.wO O) env b σ H) (x : Ext B.R.bo H H1) (hb : BwOk B.R.bo b1 H1) (t : NdefX.TabsN B.T H1) (r : RepW B.R (ownO O env σ) H H1 w v) : Rel (B.wO (hid O w v)) env b1 σ H1 ∧ Pend B O env σ H1 w v := by
  have J : Rel (B.wO O) env b1 σ H1 := I.go x hb t
  cases w with
  | val d =>
    have e : hid O (.val d) v = O := funext fun a => propext ⟨fun h => h.elim id (fun h => by obtain ⟨⟨d, z⟩, _⟩ := h; cases z), .inl⟩
    rw [e]
    exact ⟨J, r⟩
  | own d =>
    obtain ⟨a, rfl, h0, hO, rt⟩ := r
    have newO : ∀ c o, H c = some o → ownO (hid O (.own d) (.ref a)) env σ c → ownO O env σ c := fun c o e h => (hid_own h).elim id fun ⟨_, z⟩ => by
      have : a = c := by injection z
      rw [← this, h0] at e
      cases e
    have bO' : ∀ c, B.R.bo = some c → ownO O env σ c := fun c q => .inl (I.bO c q)
    have sub : Sub (vis H (ownO O env σ)) (vis H1 (ownO (hid O (.own d) (.ref a)) env σ)) := vis_more x bO' newO
    refine ⟨⟨J.len, fun i d' e => ?_, fun i d' e => ?_, J.sep, hb, fun c q => .inl (I.bO c q), fun c h => ?_, t, J.ext, I.pin.trans sub⟩, a, rfl, hO, I.ext.dom a h0, fun q => hO (bO' a q), rt⟩
    · obtain ⟨u, h1, h2⟩ := I.val i d' e
      exact ⟨u, h1, h2.mono sub⟩
    · obtain ⟨c, h1, h2, h3, h4⟩ := I.own i d' e
      have hc : ∃ o, H c = some o := by
        obtain ⟨o, q, _⟩ := h4.there
        exact ⟨o, q⟩
      obtain ⟨o, hc⟩ := hc
      have ne : ¬ hid O (.own d) (.ref a) c := fun q => q.elim h2 fun ⟨_, z⟩ => by
        have : a = c := by injection z
        rw [← this, h0] at hc
        cases hc
      exact ⟨c, h1, ne, h3, h4.ext x (fun z => h2 (I.bO c z)) sub⟩
    · rcases h with h | ⟨_, z⟩
      · exact J.odom c h
      · have : a = c := by injection z
        obtain ⟨o, q, _⟩ := rt.there
        exact ⟨o, this ▸ q⟩
/-- told, then another one told and stored -/
theorem Pend.over {O : Addr → Prop} {w w2 : Wv} {v v2 : V} {H1 : Hp} {j : Nat} (I : Rel (B.wO (hid O w v)) env b σ H) (p : Pend B O env σ H w v) (x : Ext B.R.bo H H1) (r : RepW B.R (ownO (hid O w v) env σ) H H1 w2 v2) : Pend B O (env.set j w2.slot) (σ.set j (some v2)) H1 w v := by
  have newO : ∀ (O' : Addr → Prop) c o, H c = some o → ownO O' (env.set j w2.slot) (σ.set j (some v2)) c → ownO O' env σ c := fun O' c o e h => by
    rcases own_set h with h | ⟨d, z1, z2⟩
    · exact h
    · cases w2 with
      | val d2 => cases z1
      | own d2 =>
        obtain ⟨a, z3, h0, _⟩ := r
        rw [z2] at z3
        have : c = a := by injection z3
        rw [← this, e] at h0
        cases h0
  cases w with
  | val d =>
    have e : hid O (.val d) v = O := funext fun a => propext ⟨fun h => h.elim id (fun h => by obtain ⟨⟨d, z⟩, _⟩ := h; cases z), .inl⟩
    rw [e] at I
    exact Rep.mono (vis_more x (fun c q => .inl (I.bO c q)) (newO O)) p
  | own d =>
    obtain ⟨a, rfl, hO, he, hb, rt⟩ := p
    obtain ⟨o, ho, _⟩ := rt.there
    have hB : ∀ c, B.R.bo = some c → O c := fun c q => by
      rcases I.bO c q with h | ⟨_, z⟩
      · exact h
      · have : a = c := by injection z
        exact absurd (this ▸ q) hb
    refine ⟨a, rfl, fun q => hO (newO O a o ho q), he, hb, rt.ext x hb (vis_more x (fun c q => .inl (.inl (hB c q))) fun c o e h => ?_)⟩
    rcases h with h | h
    · exact .inl (newO O c o e h)
    · exact .inr h
/-- told, now stored -/
theorem Rel.place {O : Addr → Prop} {w : Wv} {v : V} {i : Nat} (I : Rel (B.wO (hid O w v)) env b σ H) (p : Pend B O env σ H w v) : Rel (B.wO O) (env.set i w.slot) b (σ.set i (some v)) H := by
  cases w with
  | val d =>
    have e : hid O (.val d) v = O := funext fun a => propext ⟨fun h => h.elim id (fun h => by obtain ⟨⟨d, z⟩, _⟩ := h; cases z), .inl⟩
    rw [e] at I
    exact Rel.setV (B := B.wO O) I p
  | own d =>
    obtain ⟨a, rfl, hO, he, hb, rt⟩ := p
    have less : ∀ c, ownO O (env.set i (.own d)) (σ.set i (some (.ref a))) c → ownO (hid O (.own d) (.ref a)) env σ c := fun c h => by
      rcases own_set h with h | ⟨d', z1, z2⟩
      · exact h.elim (fun h => .inl (.inl h)) .inr
      · exact .inl (.inr ⟨⟨d, rfl⟩, z2⟩)
    have sub : Sub (vis H (ownO (hid O (.own d) (.ref a)) env σ)) (vis H (ownO O (env.set i (.own d)) (σ.set i (some (.ref a))))) := vis_sub less
    refine ⟨by simpa using I.len, fun j x z => ?_, fun j x z => ?_, fun j k x y c h1 h2 h3 h4 => ?_, I.bow, fun c q => ?_, fun c h => I.odom c (.inl h), I.tab, I.ext, I.pin.trans sub⟩
    · by_cases q : i = j
      · subst q
        have l : i < env.length := by
          have z := (List.getElem?_eq_some_iff.mp z).1
          simpa using z
        have z : (env.set i (.own d))[i]? = some (.val x) := z
        rw [List.getElem?_set_self l] at z
        cases z
      · have z : (env.set i (.own d))[j]? = some (.val x) := z
        rw [List.getElem?_set_ne q] at z
        rw [List.getElem?_set_ne q]
        obtain ⟨u, h1, h2⟩ := I.val j x z
        exact ⟨u, h1, h2.mono sub⟩
    · by_cases q : i = j
      · subst q
        have l : i < env.length := by
          have z := (List.getElem?_eq_some_iff.mp z).1
          simpa using z
        have z : (env.set i (.own d))[i]? = some (.own x) := z
        rw [List.getElem?_set_self l] at z
        cases z
        refine ⟨a, by rw [List.getElem?_set_self (by rw [← I.len]; exact l)], fun z => hO (.inl z), he, RepTop.hv (vis_sub fun c h => ?_) rt⟩
        rcases own_set h with h | ⟨d', _, z2⟩
        · exact .inl h
        · have : a = c := by injection z2
          exact .inr this.symm
      · have z : (env.set i (.own d))[j]? = some (.own x) := z
        rw [List.getElem?_set_ne q] at z
        rw [List.getElem?_set_ne q]
        obtain ⟨c, h1, h2, h3, h4⟩ := I.own j x z
        exact ⟨c, h1, fun z => h2 (.inl z), h3, h4.hv sub⟩
    · have h1 : (env.set i (.own d))[j]? = some (.own x) := h1
      have h2 : (env.set i (.own d))[k]? = some (.own y) := h2
      have no : ∀ (j : Nat) (x : DL.D), i ≠ j → (env.set i (.own d))[j]? = some (.own x) → (σ.set i (some (.ref a)))[j]? = some (some (.ref a)) → False := fun j x q h1 h3 => by
        rw [List.getElem?_set_ne q] at h1 h3
        exact hO (.inr ⟨j, x, h1, h3⟩)
      have at_i : ∀ (x : DL.D), (env.set i (.own d))[i]? = some (.own x) → (σ.set i (some (.ref a)))[i]? = some (some (.ref c)) → a = c := fun x h1 h3 => by
        have l : i < env.length := by
          have z := (List.getElem?_eq_some_iff.mp h1).1
          simpa using z
        rw [List.getElem?_set_self (by rw [← I.len]; exact l)] at h3
        injection h3 with h3
        injection h3 with h3
        injection h3
      by_cases q1 : i = j
      · by_cases q2 : i = k
        · rw [← q1, ← q2]
        · subst q1
          have e := at_i x h1 h3
          rw [← e] at h4
          exact (no k y q2 h2 h4).elim
      · by_cases q2 : i = k
        · subst q2
          have e := at_i y h2 h4
          rw [← e] at h3
          exact (no j x q1 h1 h3).elim
        · rw [List.getElem?_set_ne q1] at h1 h3
          rw [List.getElem?_set_ne q2] at h2 h4
          exact I.sep j k x y c h1 h2 h3 h4
    · rcases I.bO c q with h | ⟨_, z⟩
      · exact h
      · have : a = c := by injection z
        exact absurd (this ▸ q) hb
/-- two values, then two names -/
def dPar2 (i j : Nat) (e1 e2 : Ev) : Sv := fun env b => (e1 env b).toS fun w1 b1 => (e2 env b1).toS fun w2 b2 => .nx ((env.set j w2.slot).set i w1.slot) b2
def dPar3 (i j l : Nat) (e1 e2 e3 : Ev) : Sv := fun env b => (e1 env b).toS fun w1 b1 => (e2 env b1).toS fun w2 b2 => (e3 env b2).toS fun w3 b3 => .nx (((env.set l w3.slot).set j w2.slot).set i w1.slot) b3
theorem err_hid {O : Addr → Prop} {c : Str} {fs : List DL.D} {b' : Bw} {D : Ends} (hO : ∀ a, B.O a → O a) (I : Rel (B.wO O) env b σ H) (w : wpS B (.err c fs b') D) {Q : VK} : wpG (B.wO O) RepW (ownO O env σ) H (.err c fs b' : Res Wv) σ Q :=
  fun cls d H' e1 e2 e3 e4 => w cls d σ H' (I.ext.trans e1) e2 e3 (e4.mono (vis_sub fun a q => .inl (hO a q)))
def rdW (B : BP) (ev : Ev) : TE := fun σ H Q => ∃ O, rdE (B.wO O) ev σ H Q
theorem pe_wO {ev : Ev} (h : ∀ O, DE (B.wO O) X e ev) : PE X e (rdW B ev) := ⟨fun pins s σ H Q I ⟨O, w⟩ => (h O).run pins s σ H Q I w⟩
theorem rd_par2 {i j : Nat} (hij : i ≠ j) {e1 e2 : Ev} {D : Ends} (h : rdS B (dPar2 i j e1 e2) D σ H) : tPar i j (tCons (rdE B e1) (tCons (rdW B e2) tNil)) D σ H := by
  obtain ⟨env, b, I, w⟩ := h
  refine ⟨env, b, I, ?_⟩
  unfold dPar2 at w
  cases q1 : e1 env b with
  | bad =>
    rw [q1] at w
    exact False.elim w
  | err c fs b1 =>
    rw [q1] at w
    exact err_of I w
  | ok w1 b1 =>
    rw [q1] at w
    intro v1 H1 x1 y1 t1 r1
    obtain ⟨I1, p1⟩ := Rel.hide (B := B) (O := B.O) I x1 y1 t1 r1
    refine ⟨hid B.O w1 v1, env, b1, I1, ?_⟩
    have w : wpS B ((e2 env b1).toS fun w2 b2 => .nx ((env.set j w2.slot).set i w1.slot) b2) D := w
    cases q2 : e2 env b1 with
    | bad =>
      rw [q2] at w
      exact False.elim w
    | err c fs b2 =>
      rw [q2] at w
      exact err_hid (fun a z => .inl z) I1 w
    | ok w2 b2 =>
      rw [q2] at w
      intro v2 H2 x2 y2 t2 r2
      obtain ⟨I2, p2⟩ := Rel.hide (B := B) I1 x2 y2 t2 r2
      have J2 := I2.place (i := j) p2
      have J1 := Rel.place (B := B) (i := i) J2 (p1.over (j := j) I1 x2 r2)
      refine ⟨v1, v2, rfl, ?_⟩
      rw [List.set_comm _ _ hij]
      exact w _ _ J1
theorem rd_par3 {i j l : Nat} (hij : i ≠ j) (hil : i ≠ l) (hjl : j ≠ l) {e1 e2 e3 : Ev} {D : Ends} (h : rdS B (dPar3 i j l e1 e2 e3) D σ H) : tPar3 i j l (tCons (rdE B e1) (tCons (rdW B e2) (tCons (rdW B e3) tNil))) D σ H := by
  obtain ⟨env, b, I, w⟩ := h
  refine ⟨env, b, I, ?_⟩
  unfold dPar3 at w
  cases q1 : e1 env b with
  | bad =>
    rw [q1] at w
    exact False.elim w
  | err c fs b1 =>
    rw [q1] at w
    exact err_of I w
  | ok w1 b1 =>
    rw [q1] at w
    intro v1 H1 x1 y1 t1 r1
    obtain ⟨I1, p1⟩ := Rel.hide (B := B) (O := B.O) I x1 y1 t1 r1
    refine ⟨hid B.O w1 v1, env, b1, I1, ?_⟩
    have w : wpS B ((e2 env b1).toS fun w2 b2 => (e3 env b2).toS fun w3 b3 => .nx (((env.set l w3.slot).set j w2.slot).set i w1.slot) b3) D := w
    cases q2 : e2 env b1 with
    | bad =>
      rw [q2] at w
      exact False.elim w
    | err c fs b2 =>
      rw [q2] at w
      exact err_hid (fun a z => .inl z) I1 w
    | ok w2 b2 =>
      rw [q2] at w
      intro v2 H2 x2 y2 t2 r2
      obtain ⟨I2, p2⟩ := Rel.hide (B := B) I1 x2 y2 t2 r2
      refine ⟨hid (hid B.O w1 v1) w2 v2, env, b2, I2, ?_⟩
      have w : wpS B ((e3 env b2).toS fun w3 b3 => .nx (((env.set l w3.slot).set j w2.slot).set i w1.slot) b3) D := w
      cases q3 : e3 env b2 with
      | bad =>
        rw [q3] at w
        exact False.elim w
      | err c fs b3 =>
        rw [q3] at w
        exact err_hid (fun a z => .inl (.inl z)) I2 w
      | ok w3 b3 =>
        rw [q3] at w
        intro v3 H3 x3 y3 t3 r3
        obtain ⟨I3, p3⟩ := Rel.hide (B := B) I2 x3 y3 t3 r3
        have J3 := I3.place (i := l) p3
        have p2' := p2.over (j := l) I2 x3 r3
        have J2 := Rel.place (B := B) (i := j) J3 p2'
        -- the first one, over both
        have p1a : Pend B B.O (env.set j w2.slot) (σ.set j (some v2)) H2 w1 v1 := p1.over (j := j) I1 x2 r2
        have I2' := I2.place (i := j) p2
        have r3' : RepW B.R (ownO (hid B.O w1 v1) (env.set j w2.slot) (σ.set j (some v2))) H2 H3 w3 v3 := by
          have less : ∀ c, ownO (hid B.O w1 v1) (env.set j w2.slot) (σ.set j (some v2)) c → ownO (hid (hid B.O w1 v1) w2 v2) env σ c := fun c h => by
            rcases own_set h with h | ⟨d', z1, z2⟩
            · exact h.elim (fun h => .inl (.inl h)) .inr
            · cases w2 with
              | val d => cases z1
              | own d => exact .inl (.inr ⟨⟨d, rfl⟩, z2⟩)
          cases w3 with
          | val d => exact Rep.mono (vis_sub less) r3
          | own d =>
            obtain ⟨a, z1, z2, z3, z4⟩ := r3
            exact ⟨a, z1, z2, fun q => z3 (less a q), z4.hv (vis_sub fun c h => h.elim (fun h => .inl (less c h)) .inr)⟩
        have p1b := p1a.over (j := l) I2' x3 r3'
        have ec : (env.set j w2.slot).set l w3.slot = (env.set l w3.slot).set j w2.slot := List.set_comm _ _ hjl
        have es : (σ.set j (some v2)).set l (some v3) = (σ.set l (some v3)).set j (some v2) := List.set_comm _ _ hjl
        rw [ec, es] at p1b
        have J1 := Rel.place (B := B) (i := i) J2 p1b
        refine ⟨v1, v2, v3, rfl, ?_⟩
        have z : (((σ.set i (some v1)).set j (some v2)).set l (some v3)) = (((σ.set l (some v3)).set j (some v2)).set i (some v1)) := by
          rw [List.set_comm _ _ hij, List.set_comm _ _ hil, List.set_comm _ _ hjl]
        rw [z]
        exact w _ _ J1
variable {a1 a2 a3 : Expr} {z : Str} {px py pz pt pt2 : Pos} {kt k2 : Nat}
theorem ds_par2 (i j : Nat) {e1 e2 : Ev} (hc : X.calm = true) (hN : X.N.Nodup) (h1 : DE B X a1 e1) (h2 : ∀ O, DE (B.wO O) X a2 e2) (hi : X.N[i]? = some x := by rfl) (hj : X.N[j]? = some y := by rfl) (hij : i ≠ j := by decide)
    (hx : X.env.scope.names.lookup x = some .local := by rfl) (hy : X.env.scope.names.lookup y = some .local := by rfl) (hw : swappedStores [.Tuple [.Name x px, .Name y py] kt pt] (.Tuple [a1, a2] k2 pt2) X.env = pure (some [x, y]) := by rfl)
    (hs : swapsWithSole [.Tuple [.Name x px, .Name y py] kt pt] (.Tuple [a1, a2] k2 pt2) pos.line X.env = pure false := by rfl)
    (s1 : starEach [a1, a2] X.env = (false, eval a1 X.env) :: starEach [a2] X.env := by rfl) (s2 : starEach [a2] X.env = (false, eval a2 X.env) :: starEach [] X.env := by rfl) :
    DS B X (.Assign [.Tuple [.Name x px, .Name y py] kt pt] (.Tuple [a1, a2] k2 pt2) pos) (dPar2 i j e1 e2) :=
  imp_PS (ps_par hc hN hi hj hij hx hy (pa_cons h1 (pa_cons (pe_wO h2) pa_nil s2) s1) hw hs) fun D σ H h => rd_par2 hij h
theorem ds_par3 (i j l : Nat) {e1 e2 e3 : Ev} (hc : X.calm = true) (hN : X.N.Nodup) (h1 : DE B X a1 e1) (h2 : ∀ O, DE (B.wO O) X a2 e2) (h3 : ∀ O, DE (B.wO O) X a3 e3) (hi : X.N[i]? = some x := by rfl) (hj : X.N[j]? = some y := by rfl) (hl : X.N[l]? = some z := by rfl) (hij : i ≠ j := by decide) (hil : i ≠ l := by decide) (hjl : j ≠ l := by decide)
    (hx : X.env.scope.names.lookup x = some .local := by rfl) (hy : X.env.scope.names.lookup y = some .local := by rfl) (hz : X.env.scope.names.lookup z = some .local := by rfl) (hw : swappedStores [.Tuple [.Name x px, .Name y py, .Name z pz] kt pt] (.Tuple [a1, a2, a3] k2 pt2) X.env = pure (some [x, y, z]) := by rfl)
    (hs : swapsWithSole [.Tuple [.Name x px, .Name y py, .Name z pz] kt pt] (.Tuple [a1, a2, a3] k2 pt2) pos.line X.env = pure false := by rfl)
    (s1 : starEach [a1, a2, a3] X.env = (false, eval a1 X.env) :: starEach [a2, a3] X.env := by rfl) (s2 : starEach [a2, a3] X.env = (false, eval a2 X.env) :: starEach [a3] X.env := by rfl) (s3 : starEach [a3] X.env = (false, eval a3 X.env) :: starEach [] X.env := by rfl) :
    DS B X (.Assign [.Tuple [.Name x px, .Name y py, .Name z pz] kt pt] (.Tuple [a1, a2, a3] k2 pt2) pos) (dPar3 i j l e1 e2 e3) :=
  imp_PS (ps_par3 hc hN hi hj hl hij hil hjl hx hy hz (pa_cons h1 (pa_cons (pe_wO h2) (pa_cons (pe_wO h3) pa_nil s3) s2) s1) hw hs) fun D σ H h => rd_par3 hij hil hjl h
end
end DL

set_option Elab.async false
set_option linter.all false
set_option maxRecDepth 100000
set_option maxHeartbeats 4000000
/-! functions as values: lambdas handed on, names of defs handed on -/
namespace DL
open PySem PySem.Spec PyProof.Rows L2 LamX

/-! ### data without closures -/
mutual
def noClo : D → Bool
  | .clo _ => false
  | .tup l => noClos l
  | .lst l => noClos l
  | .dct _ vs => noClos vs
  | .obj _ fs => noClos fs
  | _ => true
def noClos : List D → Bool
  | [] => true
  | d :: ds => noClo d && noClos ds
end
section
variable {K : PySem.W.Frag} {mg : Str → Option Value} {f1 f2 : List Addr} {bo : Option Addr} {H : Hp}
mutual
theorem Rep.fns : ∀ {d : D} {v : V}, noClo d = true → Rep ⟨K, mg, f1, bo⟩ H d v → Rep ⟨K, mg, f2, bo⟩ H d v
  | .non, _, _, h => h
  | .bl _, _, _, h => h
  | .int _, _, _, h => h
  | .str _, _, _, h => h
  | .glo _, _, _, h => h
  | .ty _, _, _, h => h
  | .clo _, _, e, _ => by simp [noClo] at e
  | .bowl, _, _, h => h
  | .tup l, v, e, h => by
    obtain ⟨a, vs, e1, h1, h2, h3⟩ := h
    exact ⟨a, vs, e1, h1, RepL.fns (by simpa [noClo] using e) h2, h3⟩
  | .lst l, v, e, h => by
    obtain ⟨a, vs, e1, h1, h2, h3⟩ := h
    exact ⟨a, vs, e1, h1, RepL.fns (by simpa [noClo] using e) h2, h3⟩
  | .dct ks ds, v, e, h => by
    obtain ⟨a, vs, e1, h1, h2, h3⟩ := h
    exact ⟨a, vs, e1, RepL.fns (by simpa [noClo] using e) h1, h2, h3⟩
  | .obj c fs, v, e, h => by
    obtain ⟨a, C, dx, vs, e1, h1, h2, h3, h4⟩ := h
    exact ⟨a, C, dx, vs, e1, h1, h2, RepL.fns (by simpa [noClo] using e) h3, h4⟩
theorem RepL.fns : ∀ {ds : List D} {vs : List V}, noClos ds = true → RepL ⟨K, mg, f1, bo⟩ H ds vs → RepL ⟨K, mg, f2, bo⟩ H ds vs
  | [], _, _, h => h
  | d :: ds, vs, e, h => by
    obtain ⟨v, r, e1, h1, h2⟩ := h
    simp only [noClos, Bool.and_eq_true] at e
    exact ⟨v, r, e1, Rep.fns e.1 h1, RepL.fns e.2 h2⟩
end
mutual
theorem Rep.up0 : ∀ {d : D} {v : V}, Rep ⟨K, mg, [], bo⟩ H d v → Rep ⟨K, mg, f2, bo⟩ H d v
  | .non, _, h => h
  | .bl _, _, h => h
  | .int _, _, h => h
  | .str _, _, h => h
  | .glo _, _, h => h
  | .ty _, _, h => h
  | .clo _, _, h => by
    obtain ⟨f, _, z⟩ := h
    simp at z
  | .bowl, _, h => h
  | .tup l, v, h => by
    obtain ⟨a, vs, e1, h1, h2, h3⟩ := h
    exact ⟨a, vs, e1, h1, RepL.up0 h2, h3⟩
  | .lst l, v, h => by
    obtain ⟨a, vs, e1, h1, h2, h3⟩ := h
    exact ⟨a, vs, e1, h1, RepL.up0 h2, h3⟩
  | .dct ks ds, v, h => by
    obtain ⟨a, vs, e1, h1, h2, h3⟩ := h
    exact ⟨a, vs, e1, RepL.up0 h1, h2, h3⟩
  | .obj c fs, v, h => by
    obtain ⟨a, C, dx, vs, e1, h1, h2, h3, h4⟩ := h
    exact ⟨a, C, dx, vs, e1, h1, h2, RepL.up0 h3, h4⟩
theorem RepL.up0 : ∀ {ds : List D} {vs : List V}, RepL ⟨K, mg, [], bo⟩ H ds vs → RepL ⟨K, mg, f2, bo⟩ H ds vs
  | [], _, h => h
  | d :: ds, vs, h => by
    obtain ⟨v, r, e1, h1, h2⟩ := h
    exact ⟨v, r, e1, Rep.up0 h1, RepL.up0 h2⟩
end
theorem RepTop.fns {Hv : Hp} {d : D} {a : Addr} (e : noClo d = true) (h : RepTop ⟨K, mg, f1, bo⟩ H Hv d a) : RepTop ⟨K, mg, f2, bo⟩ H Hv d a := by
  cases d with
  | lst l =>
    obtain ⟨vs, h1, h2, h3⟩ := h
    exact ⟨vs, h1, RepL.fns (by simpa [noClo] using e) h2, h3⟩
  | dct ks ds =>
    obtain ⟨vs, h1, h2⟩ := h
    exact ⟨vs, RepL.fns (by simpa [noClo] using e) h1, h2⟩
  | _ => exact h.elim
theorem RepW.fns {O : Addr → Prop} {H0 : Hp} {w : Wv} {v : V} (e : noClo w.d = true) (h : RepW ⟨K, mg, f1, bo⟩ O H0 H w v) : RepW ⟨K, mg, f2, bo⟩ O H0 H w v := by
  cases w with
  | val d => exact Rep.fns e h
  | own d =>
    obtain ⟨a, e1, h0, h1, h2⟩ := h
    exact ⟨a, e1, h0, h1, RepTop.fns e h2⟩
theorem RepX.fns {c : Str} {fs : List D} {cls : Value} {d : Option Addr} (e : noClos fs = true) (h : RepX ⟨K, mg, f1, bo⟩ H c fs cls d) : RepX ⟨K, mg, f2, bo⟩ H c fs cls d := by
  obtain ⟨C, h1, h2, h3⟩ := h
  refine ⟨C, h1, h2, ?_⟩
  cases fs with
  | nil => exact h3
  | cons f r =>
    obtain ⟨dd, vs, e1, e2, e3, e4⟩ := h3
    exact ⟨dd, vs, e1, e2, e3, RepL.fns e e4⟩
end
def clean (r : Res Wv) : Res Wv := match r with
  | .ok w b => if noClo w.d then .ok w b else .bad
  | .err c fs b => if noClos fs then .err c fs b else .bad
  | .bad => .bad
/-- what a call's result is asked -/
def resQ (T : List NdefX.NTab) (R : RC) (O : Addr → Prop) (H : Hp) (Q : VK) (E : XK) (r : Res Wv) : Prop := match r with
  | .ok w b' => ∀ v H', Ext R.bo H H' → BwOk R.bo b' H' → NdefX.TabsN T H' → RepW R O H H' w v → Q v H'
  | .err c fs b' => ∀ cls d H', Ext R.bo H H' → BwOk R.bo b' H' → NdefX.TabsN T H' → RepX R (vis H' O) c fs cls d → E cls d H'
  | .bad => False
theorem resQ_clean {T : List NdefX.NTab} {K : PySem.W.Frag} {mg : Str → Option Value} {f1 f2 : List Addr} {bo : Option Addr} {O : Addr → Prop} {H : Hp} {Q : VK} {E : XK} {r : Res Wv} (h : resQ T ⟨K, mg, f1, bo⟩ O H Q E (clean r)) : resQ T ⟨K, mg, f2, bo⟩ O H Q E r := by
  cases r with
  | bad => exact h
  | ok w b =>
    unfold clean at h
    by_cases e : noClo w.d = true
    · simp only [e, if_true] at h
      exact fun v H' e1 e2 e3 e4 => h v H' e1 e2 e3 (RepW.fns e e4)
    · simp only [e] at h
      exact False.elim h
  | err c fs b =>
    unfold clean at h
    by_cases e : noClos fs = true
    · simp only [e, if_true] at h
      exact fun cls d H' e1 e2 e3 e4 => h cls d H' e1 e2 e3 (RepX.fns e e4)
    · simp only [e] at h
      exact False.elim h

/-! ### the promise of a function at hand -/
def Held (S : Addr → Prop) (h : Heap) (H' : Hp) (h' : Heap) : Prop := ∀ b, S b → H' b = none ∧ ∀ o, h.get? b = some o → ∃ sl, h'.get? b = some { o with slots := sl }
theorem held_of {S : Addr → Prop} {fr : List Addr} {H H1 : Hp} {h h1 : Heap} (hS : ∀ b, S b → H b = none ∧ ∃ o, h.get? b = some o) (u : Un fr [] H H1 h h1) : Held S h H1 h1 := fun b sb => by
  obtain ⟨n, o, ho⟩ := hS b sb
  exact ⟨u.free b o ho n (by simp), fun o' ho' => u.any ho' n (by simp)⟩
structure CloAt (Pg : Program) (w : World) (K : PySem.W.Frag) (mg : Str → Option Value) (base : Heap) (T : List NdefX.NTab) (k : Nat) (bo : Option Addr) (f : Addr) (n : Nat) (m : Mir) (O : Addr → Prop) (h : Heap) (H : Hp) : Prop where
  ex : ∃ S : Addr → Prop, (∀ b, S b → H b = none ∧ ∃ o, h.get? b = some o) ∧ S f ∧ (∃ o fd, h.get? f = some o ∧ o.data = .func fd) ∧
    ∀ (A : Around) (outer : List Env) (s1 : Shared) (H1 : Hp) (O1 : Addr → Prop) (us : List Value) (vs : List V) (ds : List D) (b : Bw) (Q : VK) (E : XK),
      Room k A → Env0 Pg w K mg base A outer s1 H1 → Held S h H1 s1.heap → Ext bo H H1 → (∀ a o, H a = some o → O1 a → O a) → (∀ a, bo = some a → O1 a) → (∀ a, O1 a → ∃ o, H1 a = some o) → NdefX.TabsN T H1 → BwOk bo b H1 → ds.length = n → Vals vs us → RepL ⟨K, mg, [], bo⟩ (vis H1 O1) ds vs →
      resQ T ⟨K, mg, [], bo⟩ O1 H1 Q E (m ds b) → codeAny (model Pg w) A (.call (.ref f) ⟨us, []⟩) (CR (L2.CX Pg w) outer Pg w H1 s1 Q E) s1
section
variable {Pg : Program} {w : World} {K : PySem.W.Frag} {mg : Str → Option Value} {base : Heap} {T : List NdefX.NTab} {k : Nat} {bo : Option Addr} {f : Addr} {n : Nat} {m : Mir} {O O2 : Addr → Prop} {h h2 : Heap} {H H2 : Hp}
theorem some_of {a : Option HO} (h : a ≠ none) : ∃ o, a = some o := by
  cases a with
  | none => exact absurd rfl h
  | some o => exact ⟨o, rfl⟩
theorem CloAt.later {fr : List Addr} (c : CloAt Pg w K mg base T k bo f n m O h H) (u : Un fr [] H H2 h h2) (x : Ext bo H H2) (vo : ∀ a o, H a = some o → O2 a → O a) : CloAt Pg w K mg base T k bo f n m O2 h2 H2 := by
  obtain ⟨S, hS, sf, ⟨o, fd, ho, hd⟩, run⟩ := c.ex
  refine ⟨S, fun b sb => ?_, sf, ?_, fun A outer s1 H1 O1 us vs ds b Q E hr e0 hh x1 v1 b1 od t bw hl rv rl q => run A outer s1 H1 O1 us vs ds b Q E hr e0 ?_ (x.trans x1) ?_ b1 od t bw hl rv rl q⟩
  · obtain ⟨n1, o1, ho1⟩ := hS b sb
    obtain ⟨sl, z⟩ := u.any ho1 n1 (by simp)
    exact ⟨u.free b o1 ho1 n1 (by simp), _, z⟩
  · obtain ⟨sl, z⟩ := u.any ho (hS f sf).1 (by simp)
    exact ⟨_, fd, z, hd⟩
  · intro b sb
    obtain ⟨n1, o1, ho1⟩ := hS b sb
    refine ⟨(hh b sb).1, fun o' ho' => ?_⟩
    obtain ⟨sl, z⟩ := u.any ho' n1 (by simp)
    obtain ⟨sl2, z2⟩ := (hh b sb).2 _ z
    exact ⟨sl2, z2⟩
  · intro a o' ha ho1
    obtain ⟨o2, z⟩ := some_of (a := H2 a) (fun z => by
      have := x.dom a z
      rw [ha] at this
      cases this)
    exact vo a o' ha (v1 a o2 z ho1)
end
abbrev CM := Nat × Mir
/-- the promise for the function that the parameters name by clo 0 -/
def Pro (Pg : Program) (w : World) (K : PySem.W.Frag) (mg : Str → Option Value) (base : Heap) (T : List NdefX.NTab) (kc : Nat) (cm : Option CM) (R : RC) (O : Addr → Prop) (h : Heap) (H : Hp) : Prop :=
  ∀ n m, cm = some (n, m) → ∀ f, R.fns[0]? = some f → CloAt Pg w K mg base T kc R.bo f n m O h H

/-! ### a name that holds a function, called -/
def vGlo (o : Option CM) (A : EvA) : Ev := fun env b => match o with
  | some (n, m) => (A env b).bind fun ds b1 => if ds.length = n then m ds b1 else .bad
  | none => .bad
def vClo (o : Option CM) (A : EvA) : Ev := fun env b => match o with
  | some (n, m) => (A env b).bind fun ds b1 => if ds.length = n && noClos ds then m ds b1 else .bad
  | none => .bad
def dCallV (i : Nat) (gm : Str → Option CM) (cm : Option CM) (A : EvA) : Ev := fun env b => match env[i]? with
  | some (.val (.glo g)) => vGlo (gm g) A env b
  | some (.val (.clo 0)) => vClo cm A env b
  | _ => .bad
/-- the names of defs that may be handed on -/
def GM (Pg : Program) (w : World) (K : PySem.W.Frag) (mg : Str → Option Value) (base : Heap) (T : List NdefX.NTab) (k : Nat) (gm : Str → Option CM) : Prop := ∀ g n m, gm g = some (n, m) → ∃ ps, ps.length = n ∧ Cal Pg w K mg base T k g ps m
section
variable {B : BP} {X : Cx} {env : Sls} {b : Bw} {σ : L2.St} {H : Hp} {Q : VK} {pins : List (Addr × Obj)} {s : Shared}
theorem Rel.vo (I : Rel B env b σ H) : ∀ a o, B.He a = some o → ownO B.O env σ a → B.O a := fun a o e h => by
  rcases h with h | ⟨i, d, h1, h2⟩
  · exact h
  · obtain ⟨a', z1, _, z2, _⟩ := I.own i d h1
    rw [h2] at z1
    cases z1
    rw [z2] at e
    cases e
/-- a call of the promised function -/
theorem run_clo {kc k : Nat} {f : Addr} {n : Nat} {m : Mir} {us : List Value} {vs : List V} {ds : List D} {H0 : Hp} {b1 : Bw} (c : CloAt X.prog X.w X.K X.mg X.base B.T kc B.R.bo f n m B.O X.s_0.heap X.H_0) (hr : Room k X.A) (hk : kc ≤ k) (tk : Takes X B.W) (hK : B.R.K = X.K) (hM : B.R.mg = X.mg) (hHe : B.He = X.H_0) (hex : X.ex = [])
    (I : Inv X pins σ H s) (J : Rel B env b1 σ H) (r : Vals vs us) (hl : ds.length = n) (hn : noClos ds = true) (rl : RepL B.R (vis H (ownO B.O env σ)) ds vs) (x1 : Ext B.R.bo H0 H) (q : wpG B RepW (ownO B.O env σ) H0 (m ds b1) σ Q) :
    wpAny (model X.prog X.w) X.A (call (.ref f) us) (EP X pins σ Q) X.xe s := by
  have un : Un X.fs [] X.H_0 H X.s_0.heap s.heap := by
    have := I.base
    rw [hex] at this
    exact this
  obtain ⟨S, hS, sf, _, run⟩ := c.ex
  have hx := L2.passAt tk σ
  have hR : B.R = ⟨X.K, X.mg, B.R.fns, B.R.bo⟩ := by rw [← hK, ← hM]
  refine wpAny_call (codeAny_mono (run X.A X.stack s H (ownO B.O env σ) us vs ds b1 Q (WE B.W σ) (hr.mono hk) I.env0 (held_of hS un) (hHe ▸ J.ext) (fun a o e h => J.vo a o (by rw [hHe]; exact e) h) (fun a z => J.bOO z) (fun a z => J.od z) J.tab J.bow hl r ?_ ?_) fun r s' hq => ?_)
  · rw [hR] at rl
    exact RepL.fns hn rl
  · cases e : m ds b1 with
    | bad =>
      rw [e] at q
      exact q
    | ok w b2 =>
      rw [e] at q
      intro v H' e1 e2 e3 e4
      refine q v H' (x1.trans e1) e2 e3 (RepW.back ?_ x1.dom)
      rw [hR]
      cases w with
      | val d => exact Rep.up0 e4
      | own d =>
        obtain ⟨a, z1, z2, z3, z4⟩ := e4
        refine ⟨a, z1, z2, z3, ?_⟩
        cases d with
        | lst l =>
          obtain ⟨us, q1, q2, q3⟩ := z4
          exact ⟨us, q1, RepL.up0 q2, q3⟩
        | dct ks dd =>
          obtain ⟨us, q1, q2⟩ := z4
          exact ⟨us, RepL.up0 q1, q2⟩
        | _ => exact z4.elim
    | err c fs b2 =>
      rw [e] at q
      intro cls d H' e1 e2 e3 e4
      refine q cls d H' (x1.trans e1) e2 e3 ?_
      rw [hR]
      obtain ⟨C, h1, h2, h3⟩ := e4
      refine ⟨C, h1, h2, ?_⟩
      cases fs with
      | nil => exact h3
      | cons f0 r0 =>
        obtain ⟨dd, us, z1, z2, z3, z4⟩ := h3
        exact ⟨dd, us, z1, z2, z3, RepL.up0 z4⟩
  · cases r with
    | error e => exact hx pins H s e s' I hq
    | ok fl =>
      cases fl with
      | ret u => exact I.after hq
      | next => exact False.elim hq
      | brk => exact False.elim hq
      | cont => exact False.elim hq
variable {i : Nat} {x : Str} {e : Expr} {es : List Expr} {A : EvA} {p pos : Pos} {gm : Str → Option CM} {cm : Option CM} {k kc : Nat}
theorem de_callV (i : Nat) (hG : GM X.prog X.w X.K X.mg X.base B.T k gm) (hP : Pro X.prog X.w X.K X.mg X.base B.T kc cm B.R B.O X.s_0.heap X.H_0) (hr : Room k X.A) (hk : kc ≤ k) (tk : Takes X B.W) (ha : DA B X (e :: es) A) (hK : B.R.K = X.K := by rfl) (hM : B.R.mg = X.mg := by rfl) (hHe : B.He = X.H_0 := by rfl) (hex : X.ex = [] := by rfl)
    (hN : X.N[i]? = some x := by rfl) (hv : Vis X.env.scope x := by first | exact Or.inl rfl | exact Or.inr (Or.inl rfl) | exact Or.inr (Or.inr rfl)) (hd : (x == ("__debug__" : Str)) = false := by decide)
    (hcd : (x == ("__classdict__" : Str)) = false := by decide) (he : starEach (e :: es) X.env = (false, eval e X.env) :: starEach es X.env := by rfl) (hpl : (backTo pos (starEach es X.env)).any (·.1) = false := by rfl) :
    DE B X (.Call (.Name x p) (e :: es) [] pos) (dCallV i gm cm A) := by
  refine ⟨fun pins s σ H Q I h => ?_⟩
  obtain ⟨env, b, J, w⟩ := h
  unfold dCallV at w
  cases ei : env[i]? with
  | none =>
    rw [ei] at w
    exact False.elim w
  | some sl =>
    rw [ei] at w
    cases sl with
    | un => exact False.elim w
    | own d => exact False.elim w
    | val d =>
      obtain ⟨v, hs, rv⟩ := J.val i d ei
      cases d with
      | glo g =>
        obtain ⟨f, rfl, hmg⟩ := rv
        have w : wpG B RepW (ownO B.O env σ) H (vGlo (gm g) A env b) σ Q := w
        cases eg : gm g with
        | none =>
          rw [eg] at w
          exact False.elim w
        | some nm =>
          obtain ⟨n, m⟩ := nm
          rw [eg] at w
          have w : wpG B RepW (ownO B.O env σ) H ((A env b).bind fun ds b1 => if ds.length = n then m ds b1 else .bad) σ Q := w
          obtain ⟨ps, hn, c⟩ := hG g n m eg
          obtain ⟨f', fd, F, hm, hk', hb⟩ := c.ex
          have ef : f' = f := by
            rw [hM, hm] at hmg
            cases hmg
            rfl
          subst ef
          refine wpAny_Call_Name_kw (thn ((pe_var (pos := p) hN hv hd hcd).run pins s σ H (fun v H1 => v = .ref f' ∧ H1 = H) I ⟨.ref f', hs, rfl, rfl⟩) fun u s1 ⟨v, H1, I1, r1, q1⟩ => ?_)
          obtain ⟨ev, eH⟩ := q1
          subst ev
          rw [eH] at I1
          obtain rfl : u = Value.ref f' := r1
          refine PySem.W.callWith_K (h₀ := X.base) I1.ok.mod.kin hk' (thn (ha.run pos pins s1 σ H (fun vs H1 => spD X.K X.mg B.T ps.length (fun ds b1 => if ds.length = n then m ds b1 else .bad) vs H1 Q (WE B.W σ)) I1 ?_) fun us s2 ⟨vs, H2, I2, r, q⟩ => ⟨I2.kIn, ?_⟩) he hpl
          · have z := rd_call (B := B) (σ := σ) (H := H) (Q := Q) (m := fun ds b1 => if ds.length = n then m ds b1 else .bad) (A := A) (n := ps.length) (fun ds b h => if_neg (by rw [← hn]; exact h)) ⟨env, b, J, w⟩
            rw [hK, hM] at z
            exact z
          · have q' : spD X.K X.mg B.T ps.length m vs H2 Q (WE B.W σ) := by
              obtain ⟨fns, bo, O, ds, b1, z1, z⟩ := q
              refine ⟨fns, bo, O, ds, b1, z1, ?_⟩
              simp only [show ds.length = n from z1.trans hn, if_true] at z
              exact z
            show wpAny _ _ (call (.ref f') us) _ _ _
            exact L2.run_fnS (E := fun σ => WE B.W σ) F hr hb (L2.passAt tk σ) I2 r q'
      | clo j =>
        cases j with
        | succ j => exact False.elim w
        | zero =>
          obtain ⟨f, rfl, hfn⟩ := rv
          have w : wpG B RepW (ownO B.O env σ) H (vClo cm A env b) σ Q := w
          cases ec : cm with
          | none =>
            rw [ec] at w
            exact False.elim w
          | some nm =>
            obtain ⟨n, m⟩ := nm
            rw [ec] at w
            have w : wpG B RepW (ownO B.O env σ) H ((A env b).bind fun ds b1 => if (ds.length = n && noClos ds) = true then m ds b1 else .bad) σ Q := w
            have c := hP n m ec f hfn
            obtain ⟨S, hS, sf, hfo, _⟩ := id c.ex
            have fnAt : ∀ {H2 : Hp} {s2 : Shared}, Inv X pins σ H2 s2 → PySem.W.FnAt f s2.heap := fun {H2 s2} I2 => by
              obtain ⟨o, fd, ho, hdd⟩ := hfo
              have un : Un X.fs [] X.H_0 H2 X.s_0.heap s2.heap := by
                have := I2.base
                rw [hex] at this
                exact this
              obtain ⟨sl, z⟩ := un.any ho (hS f sf).1 (by simp)
              obtain ⟨oc, od, odt, osl⟩ := o
              have hdd : odt = .func fd := hdd
              subst hdd
              exact ⟨_, _, _, _, z⟩
            refine wpAny_Call_Name_kw (thn ((pe_var (pos := p) hN hv hd hcd).run pins s σ H (fun v H1 => v = .ref f ∧ H1 = H) I ⟨.ref f, hs, rfl, rfl⟩) fun u s1 ⟨v, H1, I1, r1, q1⟩ => ?_)
            obtain ⟨ev, eH⟩ := q1
            subst ev
            rw [eH] at I1
            obtain rfl : u = Value.ref f := r1
            refine PySem.W.callWith_F (first := []) (fnAt I1) (thn (ha.run pos pins s1 σ H (fun vs H1 => ∃ ds b1, Rel B env b1 σ H1 ∧ Ext B.R.bo H H1 ∧ RepL B.R (vis H1 (ownO B.O env σ)) ds vs ∧ wpG B RepW (ownO B.O env σ) H (if (ds.length = n && noClos ds) = true then m ds b1 else .bad) σ Q) I1 ?_) fun us s2 ⟨vs, H2, I2, r, q⟩ => ⟨fnAt I2, ?_⟩) he hpl
            · refine ⟨env, b, J, ?_⟩
              cases ea : A env b with
              | bad =>
                rw [ea] at w
                exact False.elim w
              | err c fs b1 =>
                rw [ea] at w
                exact wpG_err (ρ1 := rhoL) w (Ext.refl H)
              | ok ds b1 =>
                rw [ea] at w
                exact fun vs H1 e1 e2 e3 e4 => ⟨ds, b1, J.go e1 e2 e3, e1, e4, w⟩
            · obtain ⟨ds, b1, J2, x1, rl, q⟩ := q
              show wpAny _ _ (call (.ref f) us) _ _ _
              by_cases hc : (ds.length = n && noClos ds) = true
              · rw [if_pos hc] at q
                rw [Bool.and_eq_true] at hc
                exact run_clo c hr hk tk hK hM hHe hex I2 J2 r (of_decide_eq_true hc.1) hc.2 rl x1 q
              · rw [if_neg hc] at q
                exact False.elim q
      | _ => exact False.elim w
end
end DL

set_option Elab.async false
set_option linter.all false
set_option maxRecDepth 100000
set_option maxHeartbeats 4000000
/-! lambdas made, defs that take a function -/
namespace DL
open PySem PySem.Spec PyProof.Rows L2 LamX
section
variable {X : Cx} {pins : List (Addr × Obj)} {σ : L2.St} {H : Hp} {s : Shared}
def nt (L : List (Addr × Str)) : List NdefX.NTab := L.map fun p => (p.1, fun _ _ => p.2)
theorem nt_tabs {L : List (Addr × Str)} {H : Hp} : NdefX.TabsN (nt L) H ↔ Tabs L H := by
  constructor
  · intro h p hp
    exact h (p.1, fun _ _ => p.2) (List.mem_map.mpr ⟨p, hp, rfl⟩)
  · intro h p hp
    obtain ⟨q, hq, rfl⟩ := List.mem_map.mp hp
    exact h q hq
/-- what is known of a lambda just made -/
structure LamAt (X : Cx) (L : List (Addr × Str)) (params : Arguments) (body : Expr) (scope : Scope) (H H1 : Hp) (f c' : Addr) (s' : Shared) : Prop where
  obj : ∃ pm ctv, s'.heap.get? f = some (PySem.W.kla_obj "<lambda>" (X.env.qual ++ "<lambda>") params body scope (cloFrom X.env.cells scope.names []) pm c' ctv)
  new : H1 f = none
  co : H1 c' = some (CodeO c' (X.env.qual ++ "<lambda>"))
  keep : ExtN H H1
  dom : ∀ b, H1 b = none → H b = none
  tabs : Tabs L H1
theorem upd_dom {H : Hp} {a b : Addr} {o : HO} (e : upd H a o b = none) : H b = none := by
  unfold upd at e
  split at e
  · cases e
  · exact e
theorem lam_mk {L : List (Addr × Str)} {c P : Addr} {params : Arguments} {body : Expr} {scope : Scope} {pos : Pos} {E : Value → Shared → Prop} {Q : Value → Shared → Prop} (I : Inv X pins σ H s) (TB : TabB X.base X.mg c P) (hcode : X.env.code = .ref c)
    (hm : (P, X.env.qual ++ "<lambda>") ∈ L) (hu : ∀ p ∈ L, p.1 = P → p.2 = X.env.qual ++ "<lambda>") (hT : Tabs L H) (hdef : defaultsOf params X.env = ([], [])) (hfree : ∀ y ∈ scope.names, y.2 = .free → ∃ c, X.env.cells.lookup y.1 = some c)
    (h : ∀ (f c' : Addr) (H1 : Hp) (s' : Shared), Inv X pins σ H1 s' → LamAt X L params body scope H H1 f c' s' → Q (.ref f) s') :
    wpAny (model X.prog X.w) X.A (eval (.Lambda params body scope pos) X.env) Q E s := by
  obtain ⟨ps, hP, ht, ha⟩ := hT _ hm
  have hP' : s.heap.get? P = some { cls := .none, data := .fields ps } := I.hok P _ hP
  refine PySem.W.kla_eval hdef ?_
  cases hc : codeAmong pos ps.toList with
  | some cv =>
    obtain ⟨c', e, hco⟩ := ha pos cv hc
    subst e
    refine PySem.W.kla_makeFunctionHit (mg := X.mg) (c := c) (P := P) (ps := ps) (closure_ok hfree) I.ok.glob (I.mod.glob.keeps I.bk) hcode (TB.code.keeps I.bk) hP' ht hc (TB.bm.keeps I.bk) fun ctv h' tk hx hsz => ?_
    exact h h'.objs.size c' H _ (I.kept (t' := tk) fun b o e => Heap.get?_push_of_some _ (hx b o e)) ⟨⟨_, ctv, Heap.get?_push_size _ rfl⟩, I.hok.fresh hsz, hco, ExtN.refl H, fun _ z => z, hT⟩
  | none =>
    refine PySem.W.kla_makeFunction (mg := X.mg) (c := c) (P := P) (ps := ps) (closure_ok hfree) I.ok.glob (I.mod.glob.keeps I.bk) hcode (TB.code.keeps I.bk) hP' ht hc TB.gP (TB.bm.keeps I.bk) fun c' ctv h' tk hx hge hlt hrec htb => ?_
    obtain ⟨c2, oc, vs, t, e2, hoc, hd, hv⟩ := hrec
    cases e2
    have nC : H c' = none := I.hok.fresh hge
    have nF : H h'.objs.size = none := I.hok.fresh (Nat.le_trans hge (Nat.le_of_lt hlt))
    have keep : ExtN H (upd (upd H P (.tbl (ps ++ #[rawInt pos.line, rawInt pos.col, .ref c']))) c' (CodeO c' (X.env.qual ++ "<lambda>"))) := fun b o e n => by
      rw [upd_ne (ne_of_none e nC), upd_ne (fun z => n ps (Option.some.inj (e.symm.trans (by rw [z]; exact hP))))]
      exact e
    refine h h'.objs.size c' _ _ (inv_table (t' := tk) (more := #[rawInt pos.line, rawInt pos.col, .ref c']) (h' := h'.push _) I hP (fun b o hb e => Heap.get?_push_of_some _ (hx b o hb e)) (Heap.get?_push_of_some _ htb) hge ⟨oc, vs, t, Heap.get?_push_of_some _ hoc, hd, hv⟩)
      ⟨⟨_, ctv, Heap.get?_push_size _ rfl⟩, ?_, upd_same, keep, fun b e => upd_dom (upd_dom e), fun p hp => ?_⟩
    · rw [upd_ne (Nat.ne_of_gt hlt), upd_ne (Nat.ne_of_gt (Nat.lt_of_lt_of_le (Heap.lt_size hP') (Nat.le_trans hge (Nat.le_of_lt hlt))))]
      exact nF
    · by_cases hb : p.1 = P
      · have eL : (ps ++ #[rawInt pos.line, rawInt pos.col, .ref c']).toList = ps.toList ++ [rawInt pos.line, rawInt pos.col, .ref c'] := by simp
        rw [hu p hp hb, hb]
        refine ⟨_, by rw [upd_ne (ne_of_none hP nC), upd_same], by rw [eL]; exact PySem.TriplesOk_snoc _ _ _ _ ht, fun p' cv hcv => ?_⟩
        rw [eL] at hcv
        rcases among_app _ ht hcv with z | z
        · obtain ⟨c0, e1, e2⟩ := ha p' cv z
          exact ⟨c0, e1, keep _ _ e2 codeO_ne⟩
        · exact ⟨c', z, upd_same⟩
      · obtain ⟨ps', a1, a2, a3⟩ := hT p hp
        refine ⟨ps', by rw [upd_ne (ne_of_none a1 nC), upd_ne hb]; exact a1, a2, fun p' cv hcv => ?_⟩
        obtain ⟨c0, e1, e2⟩ := a3 p' cv hcv
        exact ⟨c0, e1, keep _ _ e2 codeO_ne⟩
end
/-! ### arguments, the last one a lambda -/
structure LamE (X : Cx) (L : List (Addr × Str)) (params : Arguments) (scope : Scope) : Prop where
  ex : ∃ c P, TabB X.base X.mg c P ∧ X.env.code = .ref c ∧ (P, X.env.qual ++ "<lambda>") ∈ L ∧ ∀ p ∈ L, p.1 = P → p.2 = X.env.qual ++ "<lambda>"
  dflt : defaultsOf params X.env = ([], [])
  free : ∀ y ∈ scope.names, y.2 = .free → X.env.scope.names.lookup y.1 = some .cell ∨ X.env.scope.names.lookup y.1 = some .free
structure PLam (X : Cx) (L : List (Addr × Str)) (params : Arguments) (body : Expr) (scope : Scope) (as : List Expr) (t : TA) : Prop where
  run : ∀ (pos : Pos) (pins : List (Addr × Obj)) (s : Shared) (σ : L2.St) (H : Hp) (Q : List V → Hp → Prop), Inv X pins σ H s → t σ H (fun vs H' => Tabs L H' ∧ Q vs H') →
    wpAny (model X.prog X.w) X.A (spliced (backTo pos (starEach as X.env))) (fun us s' => ∃ vs us0 f c' H2 H1, us = us0 ++ [.ref f] ∧ Vals vs us0 ∧ Q vs H2 ∧ Inv X pins σ H1 s' ∧ LamAt X L params body scope H2 H1 f c' s') X.xe s
section
variable {X : Cx} {L : List (Addr × Str)} {params : Arguments} {body : Expr} {scope : Scope} {lpos : Pos} {e : Expr} {es : List Expr} {te : TE} {t : TA}
theorem plam_one (E : LamE X L params scope) (hs : starEach [.Lambda params body scope lpos] X.env = [(false, eval (.Lambda params body scope lpos) X.env)] := by rfl) : PLam X L params body scope [.Lambda params body scope lpos] tNil := by
  refine ⟨fun pos pins s σ H Q I h => ?_⟩
  obtain ⟨c, P, TB, hcode, hm, hu⟩ := E.ex
  rw [hs]
  show wpAny _ _ (spliced ((false, eval (.Lambda params body scope lpos) X.env) :: [])) _ _ s
  refine Calls.spliced_cons (lam_mk I TB hcode hm hu h.1 E.dflt (fun y hy z => (E.free y hy z).elim (fun k => I.ok.has _ (.inl k)) fun k => I.ok.has _ (.inr k)) fun f c' H1 s' I1 l => ?_)
  exact Calls.spliced_nil ⟨[], [], f, c', H, H1, rfl, .nil, h.2, I1, l⟩
theorem plam_cons (he : PE X e te) (hr : PLam X L params body scope es t) (hs : starEach (e :: es) X.env = (false, eval e X.env) :: starEach es X.env := by rfl) : PLam X L params body scope (e :: es) (tCons te t) := by
  refine ⟨fun pos pins s σ H Q I h => ?_⟩
  rw [hs]
  show wpAny _ _ (spliced ((false, eval e X.env) :: backTo pos (starEach es X.env))) _ _ s
  refine Calls.spliced_cons (thn (he.run pins s σ H _ I h) fun v s1 ⟨x, H1, I1, r1, q1⟩ => ?_)
  refine thn (hr.run pos pins s1 σ H1 (fun xs H2 => Q (x :: xs) H2) I1 q1) fun us s2 ⟨vs, us0, f, c', H2, H3, e1, r2, q2, I2, l⟩ => ?_
  exact ⟨x :: vs, v :: us0, f, c', H2, H3, by rw [e1]; rfl, .cons r1 r2, q2, I2, l⟩
end
abbrev DL' (B : BP) (X : Cx) (L : List (Addr × Str)) (params : Arguments) (body : Expr) (scope : Scope) (as : List Expr) (ev : EvA) : Prop := PLam X L params body scope as (rdA B ev)
section
variable {B : BP} {X : Cx} {L : List (Addr × Str)} {params : Arguments} {body : Expr} {scope : Scope} {lpos : Pos} {e : Expr} {es : List Expr} {ea : Ev} {A : EvA}
theorem dl_one (E : LamE X L params scope) (hs : starEach [.Lambda params body scope lpos] X.env = [(false, eval (.Lambda params body scope lpos) X.env)] := by rfl) : DL' B X L params body scope [.Lambda params body scope lpos] dNil :=
  ⟨fun pos pins s σ H Q I h => (plam_one E hs).run pos pins s σ H Q I (by
    obtain ⟨env, b, J, w⟩ := h
    exact wpG_ok (x := ([] : List V)) w (Ext.refl H) J.bow J.tab rfl)⟩
theorem dl_cons (ha : DE B X e ea) (hr : DL' B X L params body scope es A) (hs : starEach (e :: es) X.env = (false, eval e X.env) :: starEach es X.env := by rfl) : DL' B X L params body scope (e :: es) (dCons ea A) :=
  ⟨fun pos pins s σ H Q I h => (plam_cons ha hr hs).run pos pins s σ H Q I
    (rd_bind2 (k := fun a1 r _ b2 => .ok (a1.d :: r) b2) staysW staysL h fun env a1 a2 b2 x y H2 I2 x2 r1 r2 w => wpG_ok (x := x :: y) w x2 I2.bow I2.tab (RepL.cons r1.rep r2))⟩
end
/-! ### defs that take a function (their last argument) -/
/-- what is asked at the call, told of the very state -/
def spH (Pg : Program) (w : World) (K : PySem.W.Frag) (mg : Str → Option Value) (base : Heap) (T : List NdefX.NTab) (kc n : Nat) (m : CM → Mir) (s : Shared) (vs : List V) (H : Hp) (Q : VK) (E : XK) : Prop :=
  ∃ (bo : Option Addr) (O : Addr → Prop) (ds : List D) (b : Bw) (f : Addr) (vs0 : List V) (nc : Nat) (mc : Mir), vs = vs0 ++ [.ref f] ∧ ds.length + 1 = n ∧ RepL ⟨K, mg, [], bo⟩ (vis H O) ds vs0 ∧ BwOk bo b H ∧ (∀ a, bo = some a → O a) ∧ (∀ a, O a → ∃ o, H a = some o) ∧ NdefX.TabsN T H ∧
    CloAt Pg w K mg base T kc bo f nc mc O s.heap H ∧ resQ T ⟨K, mg, [], bo⟩ O H Q E (m (nc, mc) (ds ++ [.clo 0]) b)
structure HFn (Pg : Program) (w : World) (K : PySem.W.Frag) (mg : Str → Option Value) (base : Heap) (T : List NdefX.NTab) (k : Nat) (x : Str) (n kc : Nat) (m : CM → Mir) : Prop where
  ex : ∃ (f : Addr), mg x = some (.ref f) ∧ PySem.W.keepIn K (.ref f) = true ∧
    ∀ (A : Around) (outer : List Env) (s : Shared) (H : Hp) (us : List Value) (vs : List V) (Q : VK) (E : XK), Room k A → Env0 Pg w K mg base A outer s H → K.In s.heap → Vals vs us → spH Pg w K mg base T kc n m s vs H Q E →
      codeAny (model Pg w) A (.call (.ref f) ⟨us, []⟩) (CR (L2.CX Pg w) outer Pg w H s Q E) s
theorem RepL.snoc {R : RC} {H : Hp} {ds : List D} {vs : List V} {d : D} {v : V} (h : RepL R H ds vs) (r : Rep R H d v) : RepL R H (ds ++ [d]) (vs ++ [v]) := RepL.append h (RepL.cons r RepL.nil)
section
variable {Pg : Program} {w : World} {K : PySem.W.Frag} {mg : Str → Option Value} {base : Heap} {T : List NdefX.NTab}
theorem hfn_of {x qual : Str} {params : Arguments} {body : List Stmt} {scope : Scope} {f : Addr} {fd : FuncData} {N ps : List Str} {k kc : Nat} {dv : CM → Sv} (F : FunD K x qual params body scope [] [] f fd) (S : FnScope N ps scope) (hm : mg x = some (.ref f)) (hbi : L2.Binds K fd ps [])
    (hb : ∀ (bo : Option Addr) (O : Addr → Prop) (P : Hp) (cdv : Value) (A : Around) (outer : List PySem.Env) (s : Shared) (H : Hp) (E : XK) (f' : Addr) (cm : CM), fd.code = cdv → Pro Pg w K mg base T kc (some cm) ⟨K, mg, [f'], bo⟩ O s.heap H → Room k (A.deeper (envOfC qual scope s.heap.objs.size f cdv)) →
      DSs (bpOf K mg T [f'] bo O H E P) (cxOf (L2.CX Pg w) Pg w K mg base N qual scope f cdv A outer s H E) body (dv cm)) :
    HFn Pg w K mg base T (k + 1) x ps.length kc fun cm ds b => clean (mir (dv cm) ps.length N.length ds b) := by
  obtain ⟨oc, od, dV, kV, doc, pm, an, cdv, ct, osl, efd, lk, hcd, _, _⟩ := F.ex
  subst efd
  refine ⟨f, hm, F.kp, fun A outer s H us vs Q E hr e0 kin rv h => ?_⟩
  obtain ⟨bo, O, ds, b, f', vs0, nc, mc, rfl, hn, h2, h3, h4, h5, h6, hc, hq⟩ := h
  have hN : ps.length ≤ N.length := by
    have q := congrArg List.length S.pre
    rw [List.length_take] at q
    omega
  have h2' : RepL ⟨K, mg, [f'], bo⟩ (vis H O) (ds ++ [.clo 0]) (vs0 ++ [.ref f']) := RepL.snoc (RepL.up0 h2) ⟨f', rfl, rfl⟩
  have hl : (vs0 ++ [V.ref f']).length = ps.length := by rw [← h2'.length, List.length_append]; exact hn
  have bi := hbi s us kin (by rw [List.append_nil, ← rv.length]; exact hl)
  rw [List.append_nil] at bi
  refine run_ofS lk hcd S hr e0 bi rv hl fun hr' => ?_
  refine ⟨_, hb bo O (fun _ => none) cdv A outer s H E f' (nc, mc) rfl ?_ hr', ent N.length (ds ++ [.clo 0]), b, ent_rel (by rw [hl]; exact hN) h2' h3 h4 h5 h6, ?_⟩
  · intro n m e f'' ef
    cases e
    have ef : some f' = some f'' := ef
    cases ef
    exact hc
  · have hq' := resQ_clean (f2 := [f']) hq
    have hq'' : resQ T ⟨K, mg, [f'], bo⟩ O H Q E (mir (dv (nc, mc)) ps.length N.length (ds ++ [.clo 0]) b) := hq'
    unfold mir at hq''
    rw [if_pos (by rw [List.length_append]; exact hn)] at hq''
    exact end_of hq''
/-- a def whose code object is known (it makes lambdas) -/
theorem fn_okC {x qual : Str} {params : Arguments} {body : List Stmt} {scope : Scope} {f : Addr} {fd : FuncData} {N ps : List Str} {k : Nat} {dv : Sv} (F : FunD K x qual params body scope [] [] f fd) (S : FnScope N ps scope)
    (hb : ∀ (fns : List Addr) (bo : Option Addr) (O : Addr → Prop) (P : Hp) (cdv : Value) (A : Around) (outer : List PySem.Env) (s : Shared) (H : Hp) (E : XK), fd.code = cdv → Room k (A.deeper (envOfC qual scope s.heap.objs.size f cdv)) →
      DSs (bpOf K mg T fns bo O H E P) (cxOf (L2.CX Pg w) Pg w K mg base N qual scope f cdv A outer s H E) body dv) :
    FnOk Pg w K mg base (L2.CX Pg w) (k + 1) f fd ps (spD K mg T ps.length (mir dv ps.length N.length)) := by
  obtain ⟨oc, od, dV, kV, doc, pm, an, cdv, ct, osl, efd, lk, hcd, _, _⟩ := F.ex
  subst efd
  have hN : ps.length ≤ N.length := by
    have q := congrArg List.length S.pre
    rw [List.length_take] at q
    omega
  refine fn_of lk hcd S (fun vs H Q E h => ?_) (fun A outer s H vs Q E hr h => ?_)
  · obtain ⟨_, _, _, ds, _, h1, h2, _⟩ := h
    rw [← h2.length]
    exact h1
  · obtain ⟨fns, bo, O, ds, b, h1, h2, h3, h4, h5, h6, h7⟩ := h
    refine ⟨_, hb fns bo O (fun _ => none) cdv A outer s H E rfl hr, ent N.length ds, b, ent_rel (by rw [← h2.length, h1]; exact hN) h2 h3 h4 h5 h6, ?_⟩
    unfold mir at h7
    rw [if_pos h1] at h7
    exact end_of h7
end
end DL

set_option Elab.async false
set_option linter.all false
set_option maxRecDepth 100000
set_option maxHeartbeats 4000000
/-! a def called with a lambda -/
namespace DL
open PySem PySem.Spec PyProof.Rows L2 LamX NdefX
section
variable {Pg : Program} {w : World} {K : PySem.W.Frag} {mg : Str → Option Value} {base : Heap} {T : List NdefX.NTab} {k : Nat} {bo : Option Addr} {f : Addr} {n : Nat} {m : Mir} {O O2 : Addr → Prop} {h h2 : Heap} {H H2 : Hp}
theorem CloAt.held (c : CloAt Pg w K mg base T k bo f n m O h H) (hh : Held c.ex.choose h H2 h2) (x : Ext bo H H2) (vo : ∀ a o, H a = some o → O2 a → O a) : CloAt Pg w K mg base T k bo f n m O2 h2 H2 := by
  obtain ⟨hS, sf, ⟨o, fd, ho, hd⟩, run⟩ := c.ex.choose_spec
  refine ⟨c.ex.choose, fun b sb => ?_, sf, ?_, fun A outer s1 H1 O1 us vs ds b Q E hr e0 hh1 x1 v1 b1 od t bw hl rv rl q => run A outer s1 H1 O1 us vs ds b Q E hr e0 ?_ (x.trans x1) ?_ b1 od t bw hl rv rl q⟩
  · obtain ⟨n1, o1, ho1⟩ := hS b sb
    obtain ⟨sl, z⟩ := (hh b sb).2 o1 ho1
    exact ⟨(hh b sb).1, _, z⟩
  · obtain ⟨sl, z⟩ := (hh f sf).2 o ho
    exact ⟨_, fd, z, hd⟩
  · intro b sb
    refine ⟨(hh1 b sb).1, fun o' ho' => ?_⟩
    obtain ⟨sl, z⟩ := (hh b sb).2 o' ho'
    obtain ⟨sl2, z2⟩ := (hh1 b sb).2 _ z
    exact ⟨sl2, z2⟩
  · intro a o' ha ho1
    obtain ⟨o2, z⟩ := some_of (a := H2 a) (fun z => by
      have := x.dom a z
      rw [ha] at this
      cases this)
    exact vo a o' ha (v1 a o2 z ho1)
end
def capSlot (env : Sls) (j : Nat) : Slot := match env[j]? with
  | some (.val d) => .val d
  | _ => .un
/-- the names of a lambda's body at its entry: parameters, captured ones -/
def lamEnt (n N : Nat) (js : List Nat) (env : Sls) (ds : List D) : Sls := ds.map Slot.val ++ (js.map (capSlot env) ++ List.replicate (N - n - js.length) Slot.un)
def lamM (ev : Ev) (n N : Nat) (js : List Nat) (env : Sls) : Mir := fun ds b => if ds.length = n then clean (ev (lamEnt n N js env ds) b) else .bad
def dCallH (mh : CM → Mir) (A : EvA) (n : Nat) (lm : Sls → Mir) : Ev := fun env b => (A env b).bind fun ds b1 => if noClos ds then mh (n, lm env) (ds ++ [.clo 0]) b1 else .bad
abbrev lamF (X : Cx) (params : Arguments) (scope : Scope) (c' : Addr) : NF := ⟨"<lambda>", X.env.qual ++ "<lambda>", params, [], scope, cloFrom X.env.cells scope.names [], c'⟩
section
variable {B : BP} {X : Cx} {L : List (Addr × Str)} {params : Arguments} {body : Expr} {scope : Scope} {N2 ps2 fr2 : List Str} {js : List Nat} {env : Sls} {b1 : Bw} {σ : L2.St} {H1 : Hp} {s1 : Shared} {pins : List (Addr × Obj)} {ev : Ev} {cm : Option CM} {kp kl kc : Nat}
theorem lamEnt_noown {n N : Nat} {ds : List D} (i : Nat) (d : D) : (lamEnt n N js env ds)[i]? ≠ some (.own d) := fun e => by
  unfold lamEnt at e
  have z := List.mem_of_getElem? e
  rw [List.mem_append, List.mem_append] at z
  rcases z with z | z | z
  · obtain ⟨x, _, q⟩ := List.mem_map.mp z
    cases q
  · obtain ⟨x, _, q⟩ := List.mem_map.mp z
    unfold capSlot at q
    split at q <;> cases q
  · have := List.eq_of_mem_replicate z
    cases this
/-- the promise of a lambda just made -/
theorem clo_made {f c' : Addr} {H2 : Hp} (I : Inv X pins σ H1 s1) (l : LamAt X L params body scope H2 H1 f c' s1) (J : Rel B env b1 σ H1) (hT : B.T = nt L) (hK : B.R.K = X.K) (hM : B.R.mg = X.mg) (S2 : NScope N2 ps2 fr2 scope) (hfree : ∀ y ∈ scope.names, y.2 = .free → X.env.scope.names.lookup y.1 = some .cell ∨ X.env.scope.names.lookup y.1 = some .free)
    (hfr : ∀ y ∈ fr2, (y, NameKind.free) ∈ scope.names) (hjs : js.map (fun j => X.N[j]?) = fr2.map some)
    (hbind : ∀ (q : Str) (cl : List (Str × Addr)) (pm cv ctv : Value) (us : List Value), us.length = ps2.length → bindArgs (PySem.W.kla_fn "<lambda>" q params body scope cl pm cv ctv) ⟨us, []⟩ = pure (ps2.zip us)) (hkl : kl + 1 ≤ kc)
    (hP : Pro X.prog X.w X.K X.mg X.base B.T kp cm B.R (ownO B.O env σ) s1.heap H1)
    (hbody : ∀ (O : Addr → Prop) (P' : Hp) (A : Around) (outer : List Env) (s : Shared) (H : Hp) (E : XK) (f c' : Addr), Pro X.prog X.w X.K X.mg X.base B.T kp cm B.R O s.heap H → Room kl (A.deeper (envF (lamF X params scope c') f s.heap.objs.size)) →
      DE ⟨B.R, B.T, O, H, fun cls d _ H' => E cls d H', P'⟩ (ncx (L2.CX X.prog X.w) X.prog X.w X.K X.mg X.base N2 (lamF X params scope c') f A outer s H E) body ev) :
    CloAt X.prog X.w X.K X.mg X.base B.T kc B.R.bo f ps2.length (lamM ev ps2.length N2.length js env) (ownO B.O env σ) s1.heap H1 := by
  have C := cells_of I (Caps.made I.ok hfree hfr hjs)
  obtain ⟨pm, ctv, hf⟩ := l.obj
  let S0 : Addr → Prop := fun b => ∃ (n : Nat) (m : Mir) (hcm : cm = some (n, m)) (g : Addr) (hg : B.R.fns[0]? = some g), (hP n m hcm g hg).ex.choose b
  refine ⟨fun b => b = f ∨ (∃ y, (cloFrom X.env.cells scope.names []).lookup y = some b) ∨ S0 b, fun b sb => ?_, .inl rfl, ⟨_, _, hf, rfl⟩, fun A outer s2 H3 O1 us vs ds b Q E hr e0 hh x1 v1 bO1 od1 t1 bw1 hl rv rl q => ?_⟩
  · rcases sb with rfl | ⟨y, e⟩ | ⟨n, m, hcm, g, hg, sb⟩
    · exact ⟨l.new, _, hf⟩
    · obtain ⟨z, v, o, ho, _⟩ := C.all y b e
      exact ⟨z, o, ho⟩
    · exact (hP n m hcm g hg).ex.choose_spec.1 b sb
  · obtain ⟨sl, of⟩ := (hh f (.inl rfl)).2 _ hf
    have cN : ∀ y c, (cloFrom X.env.cells scope.names []).lookup y = some c → H3 c = none := fun y c e => (hh c (.inr (.inl ⟨y, e⟩))).1
    have cC : ∀ y c, (cloFrom X.env.cells scope.names []).lookup y = some c → ∀ v, s1.heap.IsCell c v → s2.heap.IsCell c v := fun y c e v ⟨o, ho, hd⟩ => by
      obtain ⟨sl, z⟩ := (hh c (.inr (.inl ⟨y, e⟩))).2 o ho
      exact ⟨_, z, hd⟩
    have C3 : CellsAt (lamF X params scope c').cl fr2 (js.map (slotAt σ)) s2.heap H3 := ⟨C.len, fun y c e => ⟨cN y c e, by
      obtain ⟨_, v, z⟩ := C.all y c e
      exact ⟨v, cC y c e v z⟩⟩, C.inj, fun i y e => by
      obtain ⟨c, hc, hv⟩ := C.has i y e
      refine ⟨c, hc, fun v ev => ?_⟩
      obtain ⟨u, r, z⟩ := hv v ev
      exact ⟨u, r, cC y c hc _ z⟩⟩
    have nbo : B.R.bo ≠ some c' := fun z => by
      have bw := J.bow
      rw [z] at bw
      cases b1 with
      | none => exact bw
      | some l' =>
        have z2 : H1 c' = some (.lst (l'.map V.int)) := bw
        rw [l.co] at z2
        unfold CodeO at z2
        cases z2
    have hco : H3 c' = some (CodeO c' (X.env.qual ++ "<lambda>")) := x1.keep c' _ l.co nbo (fun ps => codeO_ne ps)
    have lim : s2.heap.NoLimit := e0.mod.nolimit.keeps fun b o e => (e0.bs b o e).1
    have hlv : vs.length = ps2.length := by rw [← rl.length, hl]
    have hlu : us.length = ps2.length := by rw [← rv.length, hlv]
    have hr' : Room kl (A.deeper (envF (lamF X params scope c') f s2.heap.objs.size)) := (hr.mono hkl).deeper _
    refine PySem.W.kla_callFunE hr.depth of rfl S2.co S2.gen rfl (codeO_at e0.hok hco) ?_
    rw [hbind _ _ _ _ _ us hlu]
    refine wpAny_pure (wpAny_newFunctionEnv S2.nocell (fun ⟨n, _⟩ hy => S2.par n (List.of_mem_zip hy).1) (fun h₁ hns hsb => ⟨lim.fresh _ hsb, ?_⟩) S2.kind)
    show codeAny _ _ (.expr body (envF (lamF X params scope c') f s2.heap.objs.size)) _ _
    have kpp : ∀ b o, s2.heap.get? b = some o → h₁.get? b = some o := fun b o e => hsb.extBut b o (Nat.ne_of_lt (Heap.lt_size e)) (Heap.get?_push_of_some _ e)
    have J3 : Inv (ncx (L2.CX X.prog X.w) X.prog X.w X.K X.mg X.base N2 (lamF X params scope c') f A outer s2 H3 E) [] (startF N2 vs (js.map (slotAt σ))) H3 { s2 with heap := h₁, toks := s2.toks + (ps2.zip us).length } := inv_startN S2 hr.hd e0 hlv rv C3 hns kpp
    have hP3 : Pro X.prog X.w X.K X.mg X.base B.T kp cm B.R O1 s2.heap H3 := fun n m hcm g hg => (hP n m hcm g hg).held (fun b sb => hh b (.inr (.inr ⟨n, m, hcm, g, hg, sb⟩))) x1 v1
    have hR : B.R = ⟨X.K, X.mg, B.R.fns, B.R.bo⟩ := by rw [← hK, ← hM]
    -- the state at the body's entry
    have noown : ∀ a, ownO O1 (lamEnt ps2.length N2.length js env ds) (startF N2 vs (js.map (slotAt σ))) a → O1 a := fun a h => h.elim id fun ⟨i, d, z, _⟩ => absurd z (lamEnt_noown i d)
    have eO : ownO O1 (lamEnt ps2.length N2.length js env ds) (startF N2 vs (js.map (slotAt σ))) = O1 := funext fun a => propext ⟨noown a, .inl⟩
    have rl' : RepL B.R (vis H3 O1) ds vs := by
      rw [hR]
      exact RepL.up0 rl
    have lens : js.length = fr2.length := by
      have q := congrArg List.length hjs
      rw [List.length_map, List.length_map] at q
      exact q
    have vmore : Sub (vis H1 (ownO B.O env σ)) (vis H3 O1) := vis_more x1 (fun a z => J.bOO z) v1
    have rel : Rel ⟨B.R, B.T, O1, H3, fun cls d _ H' => E cls d H', fun _ => none⟩ (lamEnt ps2.length N2.length js env ds) b (startF N2 vs (js.map (slotAt σ))) H3 := by
      refine ⟨?_, fun i d e => ?_, fun i d e => absurd e (lamEnt_noown i d), fun i j d e a z => absurd z (lamEnt_noown i d), bw1, bO1, od1, t1, Ext.refl H3, fun a o e => by cases e⟩
      · unfold lamEnt startF
        simp only [List.length_append, List.length_map, List.length_replicate]
        rw [rl.length, hlv]
      · show ∃ v, (startF N2 vs (js.map (slotAt σ)))[i]? = some (some v) ∧ Rep B.R (vis H3 (ownO O1 (lamEnt ps2.length N2.length js env ds) (startF N2 vs (js.map (slotAt σ))))) d v
        rw [eO]
        unfold lamEnt at e
        unfold startF
        by_cases hi : i < ds.length
        · rw [List.getElem?_append_left (by rw [List.length_map]; exact hi), List.getElem?_map] at e
          cases z : ds[i]? with
          | none =>
            rw [z] at e
            cases e
          | some d' =>
            rw [z] at e
            cases e
            obtain ⟨v, e1, r1⟩ := rl'.get z
            exact ⟨v, by rw [List.getElem?_append_left (by rw [List.length_map, ← rl.length]; exact hi), List.getElem?_map, e1]; rfl, r1⟩
        · rw [List.getElem?_append_right (by rw [List.length_map]; omega), List.length_map] at e
          by_cases hj : i - ds.length < js.length
          · rw [List.getElem?_append_left (by rw [List.length_map]; exact hj), List.getElem?_map] at e
            cases z : js[i - ds.length]? with
            | none =>
              rw [z] at e
              cases e
            | some j =>
              rw [z] at e
              have e : capSlot env j = .val d := Option.some.inj e
              unfold capSlot at e
              split at e
              · rename_i d' hd'
                cases e
                have el : (List.map some vs).length = ds.length := by rw [List.length_map, ← rl.length]
                obtain ⟨v, e1, r1⟩ := J.val j _ hd'
                refine ⟨v, ?_, r1.mono vmore⟩
                rw [List.getElem?_append_right (by rw [el]; omega), el, List.getElem?_append_left (by rw [List.length_map]; exact hj), List.getElem?_map, z]
                exact congrArg some (slotAt_of e1)
              · cases e
          · rw [List.getElem?_append_right (by rw [List.length_map]; omega)] at e
            have := List.eq_of_mem_replicate (List.mem_of_getElem? e)
            cases this
    refine PySem.W.kla_codeExpr (wpAny_mono ((hbody O1 (fun _ => none) A outer s2 H3 E f c' hP3 hr').run [] _ _ H3 Q J3 ⟨_, b, rel, ?_⟩) (fun v s' hq => ?_) fun e s' hq => hq)
    · rw [eO]
      unfold lamM at q
      rw [if_pos hl] at q
      have q2 := resQ_clean (f2 := B.R.fns) q
      rw [← hR] at q2
      cases z : ev (lamEnt ps2.length N2.length js env ds) b with
      | bad =>
        rw [z] at q2
        exact False.elim q2
      | ok w' b' =>
        rw [z] at q2
        exact q2
      | err c fs b' =>
        rw [z] at q2
        exact q2
    · obtain ⟨w', H', J', rv', q'⟩ := hq
      exact ⟨w', H', J'.os, J'.bare, J'.base, J'.hok, rv', q'⟩
end
end DL

set_option Elab.async false
set_option linter.all false
set_option maxRecDepth 100000
set_option maxHeartbeats 4000000
namespace DL
open PySem PySem.Spec PyProof.Rows L2 LamX NdefX
section
variable {B : BP} {X : Cx} {L : List (Addr × Str)} {params : Arguments} {body : Expr} {scope : Scope} {N2 ps2 fr2 : List Str} {js : List Nat} {ev : Ev} {cm : Option CM} {kp kl kc k n : Nat} {x : Str} {e0 : Expr} {es : List Expr} {p pos : Pos} {A : EvA} {mh : CM → Mir}
/-- what a lambda's words tell -/
structure LamW (X : Cx) (params : Arguments) (body : Expr) (scope : Scope) (N2 ps2 fr2 : List Str) (js : List Nat) : Prop where
  sc : NScope N2 ps2 fr2 scope
  fr : ∀ y ∈ fr2, (y, NameKind.free) ∈ scope.names
  js : js.map (fun j => X.N[j]?) = fr2.map some
  bind : ∀ (q : Str) (cl : List (Str × Addr)) (pm cv ctv : Value) (us : List Value), us.length = ps2.length → bindArgs (PySem.W.kla_fn "<lambda>" q params body scope cl pm cv ctv) ⟨us, []⟩ = pure (ps2.zip us)
theorem de_callH (c : HFn X.prog X.w X.K X.mg X.base B.T k x n kc mh) (hfit : ∀ cm ds b, ds.length ≠ n → mh cm ds b = .bad) (hr : Room k X.A) (tk : Takes X B.W) (hg : Gl X x) (E : LamE X L params scope) (Wd : LamW X params body scope N2 ps2 fr2 js) (ha : DL' B X L params body scope (e0 :: es) A) (hT : B.T = nt L) (hkl : kl + 1 ≤ kc)
    (hP : Pro X.prog X.w X.K X.mg X.base B.T kp cm B.R B.O X.s_0.heap X.H_0)
    (hbody : ∀ (O : Addr → Prop) (P' : Hp) (A : Around) (outer : List Env) (s : Shared) (H : Hp) (E : XK) (f c' : Addr), Pro X.prog X.w X.K X.mg X.base B.T kp cm B.R O s.heap H → Room kl (A.deeper (envF (lamF X params scope c') f s.heap.objs.size)) →
      DE ⟨B.R, B.T, O, H, fun cls d _ H' => E cls d H', P'⟩ (ncx (L2.CX X.prog X.w) X.prog X.w X.K X.mg X.base N2 (lamF X params scope c') f A outer s H E) body ev)
    (hK : B.R.K = X.K := by rfl) (hM : B.R.mg = X.mg := by rfl) (hHe : B.He = X.H_0 := by rfl) (hex : X.ex = [] := by rfl)
    (hdb : (x == ("__debug__" : Str)) = false := by decide) (he : starEach (e0 :: es) X.env = (false, eval e0 X.env) :: starEach es X.env := by rfl) (hpl : (backTo pos (starEach es X.env)).any (·.1) = false := by rfl) :
    DE B X (.Call (.Name x p) (e0 :: es) [] pos) (dCallH mh A ps2.length (lamM ev ps2.length N2.length js)) := by
  refine ⟨fun pins s σ H Q I h => ?_⟩
  obtain ⟨fa, hm, hk, run⟩ := c.ex
  obtain ⟨env, b, J, w⟩ := h
  have w : wpG B RepW (ownO B.O env σ) H ((A env b).bind fun ds b1 => if noClos ds = true then mh (ps2.length, lamM ev ps2.length N2.length js env) (ds ++ [.clo 0]) b1 else .bad) σ Q := w
  refine wpAny_Call_Name_kw (ld_glob I hg hm ?_ hdb)
  refine PySem.W.callWith_K (h₀ := X.base) I.ok.mod.kin hk (thn (ha.run pos pins s σ H (fun vs H2 => ∃ ds b1, Rel B env b1 σ H2 ∧ Ext B.R.bo H H2 ∧ RepL B.R (vis H2 (ownO B.O env σ)) ds vs ∧ wpG B RepW (ownO B.O env σ) H (if noClos ds = true then mh (ps2.length, lamM ev ps2.length N2.length js env) (ds ++ [.clo 0]) b1 else .bad) σ Q) I ?_)
    fun us s1 ⟨vs, us0, f, c', H2, H1, eus, rv, q, I1, l⟩ => ⟨I1.kIn, ?_⟩) he hpl
  · refine ⟨env, b, J, ?_⟩
    cases ea : A env b with
    | bad =>
      rw [ea] at w
      exact False.elim w
    | err c fs b1 =>
      rw [ea] at w
      exact wpG_err (ρ1 := rhoL) w (Ext.refl H)
    | ok ds b1 =>
      rw [ea] at w
      exact fun vs H1 e1 e2 e3 e4 => ⟨nt_tabs.mp (hT ▸ e3), ds, b1, J.go e1 e2 e3, e1, e4, w⟩
  · subst eus
    obtain ⟨ds, b1, J2, x1, rl, q⟩ := q
    by_cases hc : noClos ds = true
    · rw [if_pos hc] at q
      have nbo : ∀ a, B.R.bo = some a → ∃ o, H2 a = some o ∧ ∀ ps, o ≠ .tbl ps := fun a z => by
        have bw := J2.bow
        rw [z] at bw
        cases b1 with
        | none => exact False.elim bw
        | some l' => exact ⟨_, bw, fun _ z => by cases z⟩
      have x2 : Ext B.R.bo H2 H1 := ⟨fun a o e _ n => l.keep a o e n, l.dom⟩
      have bw1 : BwOk B.R.bo b1 H1 := by
        have bw := J2.bow
        cases hbo : B.R.bo with
        | none =>
          rw [hbo] at bw
          cases b1 <;> exact bw
        | some a =>
          rw [hbo] at bw
          cases b1 with
          | none => exact bw
          | some l' => exact l.keep a _ bw fun _ z => by cases z
      have J1 : Rel B env b1 σ H1 := J2.go x2 bw1 (by rw [hT]; exact nt_tabs.mpr l.tabs)
      have un : Un X.fs [] X.H_0 H1 X.s_0.heap s1.heap := by
        have := I1.base
        rw [hex] at this
        exact this
      have hP1 : Pro X.prog X.w X.K X.mg X.base B.T kp cm B.R (ownO B.O env σ) s1.heap H1 := fun n m hcm g hg => (hP n m hcm g hg).later un (hHe ▸ J1.ext) fun a o e h => J1.vo a o (by rw [hHe]; exact e) h
      have clo := clo_made I1 l J1 hT hK hM Wd.sc E.free Wd.fr Wd.js Wd.bind hkl hP1 hbody
      have hR : B.R = ⟨X.K, X.mg, B.R.fns, B.R.bo⟩ := by rw [← hK, ← hM]
      have rl1 : RepL B.R (vis H1 (ownO B.O env σ)) ds vs := rl.mono (vis_ext x2 fun a z => J2.bOO z)
      have hx := L2.passAt tk σ
      have hn : ds.length + 1 = n := by
        by_cases z : (ds ++ [D.clo 0]).length = n
        · rw [List.length_append] at z
          exact z
        · rw [hfit _ _ _ z] at q
          exact False.elim q
      show wpAny _ _ (call (.ref fa) (us0 ++ [.ref f])) _ _ _
      refine wpAny_call (codeAny_mono (run X.A X.stack s1 H1 (us0 ++ [.ref f]) (vs ++ [.ref f]) Q (WE B.W σ) hr I1.env0 I1.kIn (rv.append (.cons (show RelV (V.ref f) (Value.ref f) from rfl) .nil)) ⟨B.R.bo, ownO B.O env σ, ds, b1, f, vs, _, _, rfl, hn, ?_, bw1, (fun a z => J1.bOO z), (fun a z => J1.od z), J1.tab, clo, ?_⟩) fun r s' hq => ?_)
      · rw [hR] at rl1
        exact RepL.fns hc rl1
      · cases z : mh (ps2.length, lamM ev ps2.length N2.length js env) (ds ++ [.clo 0]) b1 with
        | bad =>
          rw [z] at q
          exact q
        | ok w' b2 =>
          rw [z] at q
          intro v H' e1 e2 e3 e4
          refine q v H' ((x1.trans x2).trans e1) e2 e3 (RepW.back ?_ (x1.trans x2).dom)
          rw [hR]
          cases w' with
          | val d => exact Rep.up0 e4
          | own d =>
            obtain ⟨a, z1, z2, z3, z4⟩ := e4
            refine ⟨a, z1, z2, z3, ?_⟩
            cases d with
            | lst l =>
              obtain ⟨us, q1, q2, q3⟩ := z4
              exact ⟨us, q1, RepL.up0 q2, q3⟩
            | dct ks dd =>
              obtain ⟨us, q1, q2⟩ := z4
              exact ⟨us, RepL.up0 q1, q2⟩
            | _ => exact z4.elim
        | err c fs b2 =>
          rw [z] at q
          intro cls d H' e1 e2 e3 e4
          refine q cls d H' ((x1.trans x2).trans e1) e2 e3 ?_
          rw [hR]
          obtain ⟨C, h1, h2, h3⟩ := e4
          refine ⟨C, h1, h2, ?_⟩
          cases fs with
          | nil => exact h3
          | cons f0 r0 =>
            obtain ⟨dd, us, z1, z2, z3, z4⟩ := h3
            exact ⟨dd, us, z1, z2, z3, RepL.up0 z4⟩
      · cases r with
        | error e => exact hx pins H1 s1 e s' I1 hq
        | ok fl =>
          cases fl with
          | ret u => exact I1.after hq
          | next => exact False.elim hq
          | brk => exact False.elim hq
          | cont => exact False.elim hq
    · rw [if_neg hc] at q
      exact False.elim q
/-! ### a name that holds a function, called with nothing -/
theorem de_callV0 (i : Nat) (hP : Pro X.prog X.w X.K X.mg X.base B.T kc cm B.R B.O X.s_0.heap X.H_0) (hr : Room k X.A) (hk : kc ≤ k) (tk : Takes X B.W) (hK : B.R.K = X.K := by rfl) (hM : B.R.mg = X.mg := by rfl) (hHe : B.He = X.H_0 := by rfl) (hex : X.ex = [] := by rfl)
    (hN : X.N[i]? = some x := by rfl) (hv : Vis X.env.scope x := by first | exact Or.inl rfl | exact Or.inr (Or.inl rfl) | exact Or.inr (Or.inr rfl)) (hd : (x == ("__debug__" : Str)) = false := by decide)
    (hcd : (x == ("__classdict__" : Str)) = false := by decide) :
    DE B X (.Call (.Name x p) [] [] pos) (dCallV i (fun _ => none) cm dNil) := by
  refine ⟨fun pins s σ H Q I h => ?_⟩
  obtain ⟨env, b, J, w⟩ := h
  unfold dCallV at w
  cases ei : env[i]? with
  | none =>
    rw [ei] at w
    exact False.elim w
  | some sl =>
    rw [ei] at w
    cases sl with
    | un => exact False.elim w
    | own d => exact False.elim w
    | val d =>
      obtain ⟨v, hs, rv⟩ := J.val i d ei
      cases d with
      | clo j =>
        cases j with
        | succ j => exact False.elim w
        | zero =>
          obtain ⟨f, rfl, hfn⟩ := rv
          have w : wpG B RepW (ownO B.O env σ) H (vClo cm dNil env b) σ Q := w
          cases ec : cm with
          | none =>
            rw [ec] at w
            exact False.elim w
          | some nm =>
            obtain ⟨n, m⟩ := nm
            rw [ec] at w
            have w : wpG B RepW (ownO B.O env σ) H (if (decide (([] : List DL.D).length = n) && noClos []) = true then m [] b else .bad) σ Q := w
            have c := hP n m ec f hfn
            obtain ⟨S, hS, sf, hfo, _⟩ := id c.ex
            refine wpAny_Call_Name_kw (thn ((pe_var (pos := p) hN hv hd hcd).run pins s σ H (fun v H1 => v = .ref f ∧ H1 = H) I ⟨.ref f, hs, rfl, rfl⟩) fun u s1 ⟨v, H1, I1, r1, q1⟩ => ?_)
            obtain ⟨ev, eH⟩ := q1
            subst ev
            rw [eH] at I1
            obtain rfl : u = Value.ref f := r1
            have fnAt : PySem.W.FnAt f s1.heap := by
              obtain ⟨o, fd, ho, hdd⟩ := hfo
              have un : Un X.fs [] X.H_0 H X.s_0.heap s1.heap := by
                have := I1.base
                rw [hex] at this
                exact this
              obtain ⟨sl, z⟩ := un.any ho (hS f sf).1 (by simp)
              obtain ⟨oc, od, odt, osl⟩ := o
              have hdd : odt = .func fd := hdd
              subst hdd
              exact ⟨_, _, _, _, z⟩
            refine PySem.W.callWith_F0 fnAt ?_
            show wpAny _ _ (call (.ref f) []) _ _ _
            by_cases hc : (decide (([] : List DL.D).length = n) && noClos []) = true
            · rw [if_pos hc] at w
              rw [Bool.and_eq_true] at hc
              exact run_clo c hr hk tk hK hM hHe hex I1 J .nil (of_decide_eq_true hc.1) hc.2 RepL.nil (Ext.refl H) w
            · rw [if_neg hc] at w
              exact False.elim w
      | glo g => exact False.elim w
      | _ => exact False.elim w
end
end DL

set_option Elab.async false
set_option linter.all false
set_option maxRecDepth 100000
set_option maxHeartbeats 4000000
/-! chained comparisons, calls by name, a bowl of the body's own -/
namespace DL
open PySem PySem.Spec PyProof.Rows L2
section
variable {B : BP} {X : Cx} {a c e : Expr} {ea eb ec : Ev} {pos p : Pos}
/-! ### a < b < c -/
def dChain (f f' : D → D → Option Wv) (ea eb ec : Ev) : Ev := fun env b => (ea env b).bind fun a1 b1 => (eb env b1).bind fun a2 b2 => match f a1.d a2.d with
  | some (.val (.bl k)) => if k = true then (ec env b2).bind fun a3 b3 => optR (f' a2.d a3.d) b3 else .ok (.val (.bl false)) b2
  | _ => .bad
theorem rd_chain {f f' : D → D → Option Wv} {r r' : R2} (hk : H2ok B.R f r) (hk' : H2ok B.R f' r') {σ : L2.St} {H : Hp} {Q : VK} (h : rdE B (dChain f f' ea eb ec) σ H Q) : tChain r r' (rdE B ea) (rdE B eb) (rdE B ec) σ H Q := by
  refine rd_bind2 (k := fun (a1 a2 : Wv) env b2 => match f a1.d a2.d with | some (.val (.bl k)) => if k = true then (ec env b2).bind fun a3 b3 => optR (f' a2.d a3.d) b3 else .ok (.val (.bl false)) b2 | _ => .bad) staysW staysW h fun env a1 a2 b2 x y H2 I2 x2 r1 r2 w => ?_
  split at w
  · rename_i k e
    refine hk _ _ _ x y H2 _ _ e I2.nod r1.rep r2.rep fun v H3 s3 r3 => ?_
    have ev : v = .bl k := r3
    refine ⟨k, ev, ?_⟩
    have I3 := I2.go (same_ext s3) (bw_same I2.bow s3) (tabs_same I2.tab s3)
    cases k with
    | false =>
      rw [if_neg Bool.false_ne_true]
      exact wpG_ok (x := V.bl false) w (x2.trans (same_ext s3)) I3.bow I3.tab rfl
    | true =>
      have w : wpG B RepW (ownO B.O env σ) H ((ec env b2).bind fun a3 b3 => optR (f' a2.d a3.d) b3) σ Q := w
      refine ⟨env, b2, I3, ?_⟩
      cases z : ec env b2 with
      | bad =>
        rw [z] at w
        exact False.elim w
      | err c fs b3 =>
        rw [z] at w
        exact wpG_err (ρ1 := RepW) w (x2.trans (same_ext s3))
      | ok a3 b3 =>
        rw [z] at w
        intro u H4 e1 e2 e3 e4
        have I4 := I3.go e1 e2 e3
        have w : wpG B RepW (ownO B.O env σ) H (optR (f' a2.d a3.d) b3) σ Q := w
        cases q : f' a2.d a3.d with
        | none =>
          rw [q] at w
          exact False.elim w
        | some v' =>
          rw [q] at w
          have r2' := (RepW.go (RepW.go r2 (same_ext s3) fun a q => I2.bOO q) e1 fun a q => I3.bOO q).rep
          exact hk' _ _ _ y u H4 _ Q q I4.nod r2' e4.rep (nw_of I4 ((x2.trans (same_ext s3)).trans e1) w)
  · exact False.elim w
theorem de_chain {op op' : CmpOp} {f f' : D → D → Option Wv} {r r' : R2} (ho : OpR X (compareOp op) r) (ho' : OpR X (compareOp op') r') (hk : H2ok B.R f r) (hk' : H2ok B.R f' r') (ha : DE B X a ea) (hb : DE B X c eb) (hc : DE B X e ec)
    (hm : lastMarks [op, op'] [c, e] = false := by with_unfolding_all rfl) : DE B X (.Compare a [op, op'] [c, e] pos) (dChain f f' ea eb ec) :=
  imp_PE (pe_chain ho ho' ha hb hc hm) fun σ H Q h => rd_chain hk hk' h
theorem dt_chain {op op' : CmpOp} {f f' : D → D → Option Wv} {r r' : R2} (ho : OpR X (compareOp op) r) (ho' : OpR X (compareOp op') r') (hk : H2ok B.R f r) (hk' : H2ok B.R f' r') (ha : DE B X a ea) (hb : DE B X c eb) (hc : DE B X e ec)
    (hm : lastMarks [op, op'] [c, e] = false := by with_unfolding_all rfl) : DT B X (.Compare a [op, op'] [c, e] pos) (dTst (dChain f f' ea eb ec)) :=
  imp_PT (pt_chain ho ho' ha hb hc hm) fun σ H Q h => rd_chain hk hk' (rd_tst h)
end
/-! ### calls by name -/
def permL {α : Type} (p : List Nat) (l : List α) : List α := p.filterMap (l[·]?)
theorem RepL.perm {R : RC} {H : Hp} {ds : List D} {vs : List V} (h : RepL R H ds vs) : ∀ p : List Nat, RepL R H (permL p ds) (permL p vs)
  | [] => rfl
  | i :: p => by
    have ih := RepL.perm h p
    unfold permL at ih ⊢
    cases e : ds[i]? with
    | none =>
      have e2 : vs[i]? = none := by
        rw [List.getElem?_eq_none_iff] at e ⊢
        rw [← h.length]
        exact e
      rw [List.filterMap_cons_none e, List.filterMap_cons_none e2]
      exact ih
    | some d =>
      obtain ⟨v, e2, r⟩ := h.get e
      rw [List.filterMap_cons_some e, List.filterMap_cons_some e2]
      exact RepL.cons r ih
theorem vals_perm {vs : List V} {us : List Value} (h : Vals vs us) : ∀ p : List Nat, Vals (permL p vs) (permL p us)
  | [] => .nil
  | i :: p => by
    have ih := vals_perm h p
    unfold permL at ih ⊢
    cases e : vs[i]? with
    | none =>
      have e2 : us[i]? = none := by
        rw [List.getElem?_eq_none_iff] at e ⊢
        rw [← h.length]
        exact e
      rw [List.filterMap_cons_none e, List.filterMap_cons_none e2]
      exact ih
    | some v =>
      obtain ⟨u, e2, r⟩ := h.get e
      rw [List.filterMap_cons_some e, List.filterMap_cons_some e2]
      exact .cons r ih
/-- n values by place, the rest by the names ks -/
def KB (K : PySem.W.Frag) (fd : FuncData) (ps : List Str) (n : Nat) (ks : List Str) (p : List Nat) : Prop :=
  ∀ (s : Shared) (us ws : List Value), K.In s.heap → us.length = n → ws.length = ks.length → BindsTo s fd ⟨us, ks.zip ws⟩ (ps.zip (permL p (us ++ ws)))
theorem kb_of {K : PySem.W.Frag} {x qual : Str} {params : Arguments} {body : List Stmt} {scope : Scope} {f : Addr} {fd : FuncData} {ps : List Str} (F : FunD K x qual params body scope [] [] f fd) {n : Nat} {ks : List Str} {p : List Nat}
    (h : ∀ (kV doc pm : Value) (an : Option Addr) (cdv ct : Value) (us ws : List Value), us.length = n → ws.length = ks.length → bindArgs (PySem.W.fnOf x qual params body scope .none kV doc pm an cdv ct) ⟨us, ks.zip ws⟩ = pure (ps.zip (permL p (us ++ ws)))) : KB K fd ps n ks p := by
  obtain ⟨oc, od, dV, kV, doc, pm, an, cdv, ct, osl, rfl, lk, hcd, hD, hK⟩ := F.ex
  rcases hD with ⟨_, rfl⟩ | ⟨e, _⟩
  · exact fun s us ws _ l1 l2 => .of_eq (h kV doc pm an cdv ct us ws l1 l2)
  · exact absurd rfl e
/-- a def of the module, called by name -/
structure CalK (Pg : Program) (w : World) (K : PySem.W.Frag) (mg : Str → Option Value) (base : Heap) (T : List NdefX.NTab) (k : Nat) (x : Str) (nps n : Nat) (ks : List Str) (p : List Nat) (m : Mir) : Prop where
  ex : ∃ (f : Addr) (fd : FuncData) (ps : List Str), ps.length = nps ∧ FnOk Pg w K mg base (L2.CX Pg w) k f fd ps (spD K mg T ps.length m) ∧ mg x = some (.ref f) ∧ PySem.W.keepIn K (.ref f) = true ∧ KB K fd ps n ks p
abbrev DK (B : BP) (X : Cx) (kws : List Keyword) (ev : EvA) : Prop := PK X kws (rdA B ev)
section
variable {B : BP} {X : Cx} {e : Expr} {es : List Expr} {ea : Ev} {A Ak : EvA} {kws : List Keyword} {x : Str} {p pos kpos : Pos} {nm : Option Str} {k n nps : Nat} {ks : List Str} {pm : List Nat} {m : Mir}
theorem dk_nil : DK B X [] dNil := ⟨fun pos pins s σ H Q I h => pk_nil.run pos pins s σ H Q I (by
  obtain ⟨env, b, J, w⟩ := h
  exact wpG_ok (x := ([] : List V)) w (Ext.refl H) J.bow J.tab rfl)⟩
theorem dk_cons (ha : DE B X e ea) (hr : DK B X kws A) : DK B X (⟨nm, e, kpos⟩ :: kws) (dCons ea A) := ⟨fun pos pins s σ H Q I h => (pk_cons ha hr).run pos pins s σ H Q I
  (rd_bind2 (k := fun a1 r _ b2 => .ok (a1.d :: r) b2) staysW staysL h fun env a1 a2 b2 x y H2 I2 x2 r1 r2 w => wpG_ok (x := x :: y) w x2 I2.bow I2.tab (RepL.cons r1.rep r2))⟩
def dCallK (m : Mir) (n nk : Nat) (pm : List Nat) (A Ak : EvA) : Ev := fun env b => (A env b).bind fun ds b1 => (Ak env b1).bind fun es b2 => if ds.length = n ∧ es.length = nk then m (permL pm (ds ++ es)) b2 else .bad
theorem run_fnK {pins : List (Addr × Obj)} {σ : L2.St} {H : Hp} {s : Shared} {Q : VK} {us ws : List Value} {vs zs : List V} {f : Addr} {fd : FuncData} {ps : List Str} {sp : Sp} {E : XK} (F : FnOk X.prog X.w X.K X.mg X.base (L2.CX X.prog X.w) k f fd ps sp) (hr : Room k X.A) (hb : KB X.K fd ps n ks pm)
    (hx : PassesAt (L2.CX X.prog X.w) X σ E) (I : Inv X pins σ H s) (r : Vals vs us) (rz : Vals zs ws) (l1 : vs.length = n) (l2 : zs.length = ks.length) (h : sp (permL pm (vs ++ zs)) H Q E) : wpAny (model X.prog X.w) X.A (call (.ref f) us (ks.zip ws)) (EP X pins σ Q) X.xe s := by
  refine wpAny_call (codeAny_mono (F.run X.A X.stack s H ⟨us, ks.zip ws⟩ (permL pm (us ++ ws)) (permL pm (vs ++ zs)) Q E hr I.env0 (hb s us ws I.kIn (r.length.symm.trans l1) (rz.length.symm.trans l2)) (vals_perm (r.append rz) pm) h) fun r s' hq => ?_)
  cases r with
  | error e => exact hx pins H s e s' I hq
  | ok fl =>
    cases fl with
    | ret u => exact I.after hq
    | next => exact False.elim hq
    | brk => exact False.elim hq
    | cont => exact False.elim hq
theorem callK_sp {σ : L2.St} {H0 H : Hp} {Q : VK} {env : Sls} {b : Bw} {ds es : List D} {vs zs : List V} (hf : Fits nps m) (I : Rel B env b σ H) (x1 : Ext B.R.bo H0 H) (r1 : RepL B.R (vis H (ownO B.O env σ)) ds vs) (r2 : RepL B.R (vis H (ownO B.O env σ)) es zs) {nk : Nat}
    (w : wpG B RepW (ownO B.O env σ) H0 (if ds.length = n ∧ es.length = nk then m (permL pm (ds ++ es)) b else .bad) σ Q) : vs.length = n ∧ zs.length = nk ∧ spD B.R.K B.R.mg B.T nps m (permL pm (vs ++ zs)) H Q (WE B.W σ) := by
  by_cases hc : ds.length = n ∧ es.length = nk
  · rw [if_pos hc] at w
    refine ⟨by rw [← r1.length]; exact hc.1, by rw [← r2.length]; exact hc.2, sp_of ?_ I x1 ((r1.append r2).perm pm) w⟩
    by_cases q : (permL pm (ds ++ es)).length = nps
    · exact .inl q
    · exact .inr (hf _ b q)
  · rw [if_neg hc] at w
    exact False.elim w
/-- f(k = v, ..) -/
theorem de_callK0 (c : CalK X.prog X.w X.K X.mg X.base B.T k x nps 0 ks pm m) (hf : Fits nps m) (hr : Room k X.A) (tk : Takes X B.W) (hg : Gl X x) (hkw : DK B X kws Ak) (hK : B.R.K = X.K := by rfl) (hM : B.R.mg = X.mg := by rfl)
    (hall : (backToKw pos (keywordEach kws X.env)).all (·.1.isSome) = true := by rfl) (hks : (backToKw pos (keywordEach kws X.env)).filterMap (·.1) = ks := by rfl) (hdb : (x == ("__debug__" : Str)) = false := by decide)
    (hpl : ((backTo pos (starEach [] X.env)).any (·.1) || (backToKw pos (keywordEach kws X.env)).any (·.1.isNone)) = false := by rfl) :
    DE B X (.Call (.Name x p) [] kws pos) (dCallK m 0 ks.length pm dNil Ak) := by
  refine ⟨fun pins s σ H Q I h => ?_⟩
  obtain ⟨f, fd, ps, hn, F, hm, hk, hb⟩ := c.ex
  obtain ⟨env, b, J, w⟩ := h
  refine wpAny_Call_Name_kw (ld_glob I hg hm ?_ hdb)
  refine PySem.W.callWith_KW0 (h₀ := X.base) I.ok.mod.kin hk hall ?_ hpl
  have w : wpG B RepW (ownO B.O env σ) H ((Ak env b).bind fun es b2 => if ([] : List D).length = 0 ∧ es.length = ks.length then m (permL pm ([] ++ es)) b2 else .bad) σ Q := w
  refine thn (hkw.run pos pins s σ H (fun zs H2 => zs.length = ks.length ∧ spD X.K X.mg B.T nps m (permL pm ([] ++ zs)) H2 Q (WE B.W σ)) I ?_) fun ws s2 ⟨zs, H2, I2, rz, l2, q2⟩ => ⟨I2.kIn, ?_⟩
  · refine ⟨env, b, J, ?_⟩
    cases z : Ak env b with
    | bad =>
      rw [z] at w
      exact False.elim w
    | err c fs b2 =>
      rw [z] at w
      exact wpG_err (ρ1 := rhoL) w (Ext.refl H)
    | ok es b2 =>
      rw [z] at w
      intro zs H2 e1 e2 e3 e4
      have J2 := J.go e1 e2 e3
      have := callK_sp (vs := []) hf J2 e1 RepL.nil e4 w
      rw [hK, hM] at this
      exact this.2
  · rw [hks]
    exact run_fnK (us := []) (vs := []) F hr hb (L2.passAt tk σ) I2 .nil rz rfl l2 (by rw [hn]; exact q2)
/-- f(e, .., k = v, ..) -/
theorem de_callK (c : CalK X.prog X.w X.K X.mg X.base B.T k x nps n ks pm m) (hf : Fits nps m) (hr : Room k X.A) (tk : Takes X B.W) (hg : Gl X x) (ha : DA B X (e :: es) A) (hkw : DK B X kws Ak) (hK : B.R.K = X.K := by rfl) (hM : B.R.mg = X.mg := by rfl)
    (hall : (backToKw pos (keywordEach kws X.env)).all (·.1.isSome) = true := by rfl) (hks : (backToKw pos (keywordEach kws X.env)).filterMap (·.1) = ks := by rfl) (hdb : (x == ("__debug__" : Str)) = false := by decide) (he : starEach (e :: es) X.env = (false, eval e X.env) :: starEach es X.env := by rfl)
    (hpl : ((backTo pos (starEach (e :: es) X.env)).any (·.1) || (backToKw pos (keywordEach kws X.env)).any (·.1.isNone)) = false := by rfl) :
    DE B X (.Call (.Name x p) (e :: es) kws pos) (dCallK m n ks.length pm A Ak) := by
  refine ⟨fun pins s σ H Q I h => ?_⟩
  obtain ⟨f, fd, ps, hn, F, hm, hk, hb⟩ := c.ex
  refine wpAny_Call_Name_kw (ld_glob I hg hm ?_ hdb)
  have z : rdA B A σ H fun vs H1 => rdA B Ak σ H1 fun zs H2 => vs.length = n ∧ zs.length = ks.length ∧ spD B.R.K B.R.mg B.T nps m (permL pm (vs ++ zs)) H2 Q (WE B.W σ) :=
    rd_bind2 (k := fun (ds es : List D) _ b2 => if ds.length = n ∧ es.length = ks.length then m (permL pm (ds ++ es)) b2 else .bad) staysL staysL h fun env ds es b2 vs zs H2 I2 x2 r1 r2 w => callK_sp hf I2 x2 r1 r2 w
  rw [hK, hM] at z
  refine PySem.W.callWith_KW (h₀ := X.base) I.ok.mod.kin hk hall (thn (ha.run pos pins s σ H _ I z) fun us s1 ⟨vs, H1, I1, r, q⟩ => ?_) hpl he
  refine thn (hkw.run pos pins s1 σ H1 _ I1 q) fun ws s2 ⟨zs, H2, I2, rz, l1, l2, q2⟩ => ⟨I2.kIn, ?_⟩
  rw [hks]
  exact run_fnK F hr hb (L2.passAt tk σ) I2 r rz l1 l2 (by rw [hn]; exact q2)
end
end DL
namespace DL
open PySem PySem.Spec PyProof.Rows L2
theorem CalK.mono {Pg : Program} {w : World} {K : PySem.W.Frag} {mg : Str → Option Value} {base : Heap} {T : List NdefX.NTab} {j k nps n : Nat} {x : Str} {ks : List Str} {p : List Nat} {m : Mir} (c : CalK Pg w K mg base T j x nps n ks p m) (h : j ≤ k) : CalK Pg w K mg base T k x nps n ks p m := by
  obtain ⟨f, fd, ps, hn, F, r⟩ := c.ex
  exact ⟨f, fd, ps, hn, F.mono h, r⟩
end DL

set_option Elab.async false
set_option linter.all false
set_option maxRecDepth 100000
set_option maxHeartbeats 4000000
/-! a new list of ints as the bowl -/
namespace DL
open PySem PySem.Spec PyProof.Rows L2
mutual
def noBow : D → Bool
  | .bowl => false
  | .tup l => noBows l
  | .lst l => noBows l
  | .dct _ vs => noBows vs
  | .obj _ fs => noBows fs
  | _ => true
def noBows : List D → Bool
  | [] => true
  | d :: ds => noBow d && noBows ds
end
section
variable {K : PySem.W.Frag} {mg : Str → Option Value} {fns : List Addr} {b1 b2 : Option Addr} {H : Hp}
mutual
theorem Rep.bw : ∀ {d : D} {v : V}, noBow d = true → Rep ⟨K, mg, fns, b1⟩ H d v → Rep ⟨K, mg, fns, b2⟩ H d v
  | .non, _, _, h => h
  | .bl _, _, _, h => h
  | .int _, _, _, h => h
  | .str _, _, _, h => h
  | .glo _, _, _, h => h
  | .ty _, _, _, h => h
  | .clo _, _, _, h => h
  | .bowl, _, e, _ => by simp [noBow] at e
  | .tup l, v, e, h => by
    obtain ⟨a, vs, e1, h1, h2, h3⟩ := h
    exact ⟨a, vs, e1, h1, RepL.bw (by simpa [noBow] using e) h2, h3⟩
  | .lst l, v, e, h => by
    obtain ⟨a, vs, e1, h1, h2, h3⟩ := h
    exact ⟨a, vs, e1, h1, RepL.bw (by simpa [noBow] using e) h2, h3⟩
  | .dct ks ds, v, e, h => by
    obtain ⟨a, vs, e1, h1, h2, h3⟩ := h
    exact ⟨a, vs, e1, RepL.bw (by simpa [noBow] using e) h1, h2, h3⟩
  | .obj c fs, v, e, h => by
    obtain ⟨a, C, dx, vs, e1, h1, h2, h3, h4⟩ := h
    exact ⟨a, C, dx, vs, e1, h1, h2, RepL.bw (by simpa [noBow] using e) h3, h4⟩
theorem RepL.bw : ∀ {ds : List D} {vs : List V}, noBows ds = true → RepL ⟨K, mg, fns, b1⟩ H ds vs → RepL ⟨K, mg, fns, b2⟩ H ds vs
  | [], _, _, h => h
  | d :: ds, vs, e, h => by
    obtain ⟨v, r, e1, h1, h2⟩ := h
    simp only [noBows, Bool.and_eq_true] at e
    exact ⟨v, r, e1, Rep.bw e.1 h1, RepL.bw e.2 h2⟩
end
mutual
theorem Rep.bw0 : ∀ {d : D} {v : V}, Rep ⟨K, mg, fns, none⟩ H d v → Rep ⟨K, mg, fns, b2⟩ H d v
  | .non, _, h => h
  | .bl _, _, h => h
  | .int _, _, h => h
  | .str _, _, h => h
  | .glo _, _, h => h
  | .ty _, _, h => h
  | .clo _, _, h => h
  | .bowl, _, h => by
    obtain ⟨a, _, z⟩ := h
    cases z
  | .tup l, v, h => by
    obtain ⟨a, vs, e1, h1, h2, h3⟩ := h
    exact ⟨a, vs, e1, h1, RepL.bw0 h2, h3⟩
  | .lst l, v, h => by
    obtain ⟨a, vs, e1, h1, h2, h3⟩ := h
    exact ⟨a, vs, e1, h1, RepL.bw0 h2, h3⟩
  | .dct ks ds, v, h => by
    obtain ⟨a, vs, e1, h1, h2, h3⟩ := h
    exact ⟨a, vs, e1, RepL.bw0 h1, h2, h3⟩
  | .obj c fs, v, h => by
    obtain ⟨a, C, dx, vs, e1, h1, h2, h3, h4⟩ := h
    exact ⟨a, C, dx, vs, e1, h1, h2, RepL.bw0 h3, h4⟩
theorem RepL.bw0 : ∀ {ds : List D} {vs : List V}, RepL ⟨K, mg, fns, none⟩ H ds vs → RepL ⟨K, mg, fns, b2⟩ H ds vs
  | [], _, h => h
  | d :: ds, vs, h => by
    obtain ⟨v, r, e1, h1, h2⟩ := h
    exact ⟨v, r, e1, Rep.bw0 h1, RepL.bw0 h2⟩
end
theorem RepTop.bw {Hv : Hp} {d : D} {a : Addr} (e : noBow d = true) (h : RepTop ⟨K, mg, fns, b1⟩ H Hv d a) : RepTop ⟨K, mg, fns, b2⟩ H Hv d a := by
  cases d with
  | lst l =>
    obtain ⟨vs, h1, h2, h3⟩ := h
    exact ⟨vs, h1, RepL.bw (by simpa [noBow] using e) h2, h3⟩
  | dct ks ds =>
    obtain ⟨vs, h1, h2⟩ := h
    exact ⟨vs, RepL.bw (by simpa [noBow] using e) h1, h2⟩
  | _ => exact h.elim
theorem RepTop.bw0 {Hv : Hp} {d : D} {a : Addr} (h : RepTop ⟨K, mg, fns, none⟩ H Hv d a) : RepTop ⟨K, mg, fns, b2⟩ H Hv d a := by
  cases d with
  | lst l =>
    obtain ⟨vs, h1, h2, h3⟩ := h
    exact ⟨vs, h1, RepL.bw0 h2, h3⟩
  | dct ks ds =>
    obtain ⟨vs, h1, h2⟩ := h
    exact ⟨vs, RepL.bw0 h1, h2⟩
  | _ => exact h.elim
theorem RepW.bw {O : Addr → Prop} {H0 : Hp} {w : Wv} {v : V} (e : noBow w.d = true) (h : RepW ⟨K, mg, fns, b1⟩ O H0 H w v) : RepW ⟨K, mg, fns, b2⟩ O H0 H w v := by
  cases w with
  | val d => exact Rep.bw e h
  | own d =>
    obtain ⟨a, e1, h0, h1, h2⟩ := h
    exact ⟨a, e1, h0, h1, RepTop.bw e h2⟩
theorem RepX.bw {c : Str} {fs : List D} {cls : Value} {d : Option Addr} (e : noBows fs = true) (h : RepX ⟨K, mg, fns, b1⟩ H c fs cls d) : RepX ⟨K, mg, fns, b2⟩ H c fs cls d := by
  obtain ⟨C, h1, h2, h3⟩ := h
  refine ⟨C, h1, h2, ?_⟩
  cases fs with
  | nil => exact h3
  | cons f r =>
    obtain ⟨dd, vs, e1, e2, e3, e4⟩ := h3
    exact ⟨dd, vs, e1, e2, e3, RepL.bw e e4⟩
end
/-- all but the bowl: what a part with a bowl of its own leaves -/
theorem ext_bow {a : Addr} {H0 H H' : Hp} (x0 : Ext none H0 H) (x : Ext (some a) H H') (n : H0 a = none) : Ext none H0 H' := ⟨fun c o e _ m => by
    have ne : c ≠ a := fun z => by
      rw [z, n] at e
      cases e
    exact x.keep c o (x0.keep c o e (fun z => by cases z) m) (fun z => ne (by cases z; rfl)) m, fun c z => x0.dom c (x.dom c z)⟩
theorem RepW.less {R : RC} {O O' : Addr → Prop} {H0 H1 H : Hp} {w : Wv} {v : V} (hO : ∀ a, O' a → O a) (d : ∀ a, H1 a = none → H0 a = none) (h : RepW R O H1 H w v) : RepW R O' H0 H w v := by
  cases w with
  | val d => exact Rep.mono (vis_sub hO) h
  | own d' =>
    obtain ⟨a, e, h0, h1, h2⟩ := h
    exact ⟨a, e, d a h0, fun z => h1 (hO a z), h2.hv (vis_sub fun c q => q.elim (fun z => .inl (hO c z)) .inr)⟩
section
variable {B : BP} {X : Cx} {e : Expr} {ea : Ev} {x : Str} {p pos : Pos} {k : Nat} {m : Mir} {ps : List Str}
/-- f(e), e a new list of ints, f's bowl -/
def bowR (r : Res Wv) (b1 : Bw) : Res Wv := match r with
  | .ok w _ => if noBow w.d then .ok w b1 else .bad
  | .err c fs _ => if noBows fs then .err c fs b1 else .bad
  | .bad => .bad
def bowC (m : Mir) (w : Wv) (b1 : Bw) : Res Wv := match w, b1 with
  | .own (.lst ds), none => match asInts ds with
    | some l => bowR (m [.bowl] (some l)) none
    | none => .bad
  | _, _ => .bad
def dCallB (m : Mir) (ea : Ev) : Ev := fun env b => (ea env b).bind fun w b1 => bowC m w b1
theorem de_callBw (c : Cal X.prog X.w X.K X.mg X.base B.T k x ps m) (hl : ps.length = 1) (hr : Room k X.A) (tk : Takes X B.W) (hg : Gl X x) (ha : DE B X e ea) (hb : B.R.bo = none) (hK : B.R.K = X.K := by rfl) (hM : B.R.mg = X.mg := by rfl)
    (hdb : (x == ("__debug__" : Str)) = false := by decide) (he : starEach [e] X.env = (false, eval e X.env) :: starEach [] X.env := by rfl) (hpl : (backTo pos (starEach [] X.env)).any (·.1) = false := by rfl) :
    DE B X (.Call (.Name x p) [e] [] pos) (dCallB m ea) := by
  obtain ⟨f, fd, F, hm, hk, hbi⟩ := c.ex
  refine imp_PE (pe_callSD F hr hg hm hk hbi .nil (fun σ => passAt tk σ) (pa_cons ha pa_nil he) hdb he hpl) fun σ H Q h => ?_
  show rdE B ea σ H fun y H1 => spD X.K X.mg B.T ps.length m ([y] ++ []) H1 Q (WE B.W σ)
  refine rd_bind (ρ := RepW) (k := fun (w : Wv) _ b1 => bowC m w b1) h fun env w1 b1 y H1 I1 x1 r1 w => ?_
  unfold bowC at w
  split at w
  · rename_i ds
    split at w
    · rename_i l hl2
      obtain ⟨a, rfl, h0, hO, vs, g1, g2, g3⟩ := r1
      obtain ⟨rfl, _⟩ := asInts_rep hl2 g2
      have hR : B.R = ⟨X.K, X.mg, B.R.fns, none⟩ := by rw [← hK, ← hM, ← hb]
      refine ⟨B.R.fns, some a, plus (ownO B.O env σ) a, [.bowl], some l, hl.symm, RepL.cons ⟨a, rfl, rfl⟩ RepL.nil, g1, fun c z => .inr (by cases z; rfl), fun c z => z.elim (fun z => I1.od z) (fun z => ⟨_, z ▸ g1⟩), I1.tab, ?_⟩
      have fin : ∀ {H' : Hp}, Ext (some a) H1 H' → Ext B.R.bo H H' := fun {H'} e1 => by
        rw [hb]
        exact ext_bow (by rw [← hb]; exact x1) e1 h0
      cases z : m [.bowl] (some l) with
      | bad =>
        rw [z] at w
        exact w
      | ok w' b' =>
        rw [z] at w
        unfold bowR at w
        by_cases nb : noBow w'.d = true
        · simp only [nb, if_true] at w
          intro v H' e1 e2 e3 e4
          refine w v H' (fin e1) (by rw [hb]; trivial) e3 ?_
          rw [hR]
          exact RepW.less (fun c z => .inl z) (fun c z => x1.dom c z) (RepW.bw nb e4)
        · simp only [nb] at w
          exact False.elim w
      | err c fs b' =>
        rw [z] at w
        unfold bowR at w
        by_cases nb : noBows fs = true
        · simp only [nb, if_true] at w
          intro cls d H' e1 e2 e3 e4
          refine w cls d H' (fin e1) (by rw [hb]; trivial) e3 ?_
          rw [hR]
          exact RepX.bw nb (e4.mono (vis_sub fun c z => .inl z))
        · simp only [nb] at w
          exact False.elim w
    · exact False.elim w
  · exact False.elim w
/-! ### a name's own list as the bowl of a statement -/
abbrev BP.bw (B : BP) (a : Addr) : BP := { B with R := { B.R with bo := some a }, O := plus B.O a }
def slotNB : Slot → Bool
  | .val d => noBow d
  | .own d => noBow d
  | .un => true
def poolE (i : Nat) (r : RS) : RS := match r with
  | .nx env' (some _) => if (env'.set i .un).all slotNB then .nx (env'.set i .un) none else .bad
  | .rt w _ => if noBow w.d then .rt w none else .bad
  | .err c fs _ => if noBows fs then .err c fs none else .bad
  | _ => .bad
def dPool (i : Nat) (d : Sv) : Sv := fun env b => match b, env[i]? with
  | none, some (.own (.lst ds)) => match asInts ds with
    | some l => poolE i (d (env.set i (.val .bowl)) (some l))
    | none => .bad
  | _, _ => .bad
variable {st : Stmt} {d : Sv} {env : Sls} {σ : L2.St} {H : Hp}
theorem pool_in {i : Nat} {ds : List D} {l : List Int} {a : Addr} (hb : B.R.bo = none) (I : Rel B env none σ H) (e : env[i]? = some (.own (.lst ds))) (hl : asInts ds = some l) (s : σ[i]? = some (some (.ref a))) : Rel (B.bw a) (env.set i (.val .bowl)) (some l) σ H ∧ B.He a = none := by
  obtain ⟨a', s', na, he, vs, g1, g2, g3⟩ := I.own i _ e
  rw [s] at s'
  cases s'
  obtain ⟨rfl, _⟩ := asInts_rep hl g2
  have hi := (List.getElem?_eq_some_iff.mp e).1
  have hR : B.R = ⟨B.R.K, B.R.mg, B.R.fns, none⟩ := by rw [← hb]
  have less : ∀ c, ownO (plus B.O a) (env.set i (.val .bowl)) σ c → ownO B.O env σ c := fun c h => by
    rcases h with (h | h) | ⟨j, x, h1, h2⟩
    · exact .inl h
    · exact .inr ⟨i, _, e, h ▸ s⟩
    · by_cases q : i = j
      · subst q
        rw [List.getElem?_set_self hi] at h1
        cases h1
      · rw [List.getElem?_set_ne q] at h1
        exact .inr ⟨j, x, h1, h2⟩
  have sub : Sub (vis H (ownO B.O env σ)) (vis H (ownO (plus B.O a) (env.set i (.val .bowl)) σ)) := vis_sub less
  refine ⟨⟨by simpa using I.len, fun j x z => ?_, fun j x z => ?_, fun j k x y c h1 h2 h3 h4 => ?_, g1, fun c z => .inr (by cases z; rfl), fun c z => z.elim (fun z => I.odom c z) (fun z => ⟨_, z ▸ g1⟩), I.tab, ?_, I.pin.trans sub⟩, he⟩
  · by_cases q : i = j
    · subst q
      have z : (env.set i (.val .bowl))[i]? = some (.val x) := z
      rw [List.getElem?_set_self hi] at z
      cases z
      exact ⟨.ref a, s, a, rfl, rfl⟩
    · have z : (env.set i (.val .bowl))[j]? = some (.val x) := z
      rw [List.getElem?_set_ne q] at z
      obtain ⟨v, h1, h2⟩ := I.val j x z
      rw [hR] at h2
      exact ⟨v, h1, Rep.mono sub (Rep.bw0 h2)⟩
  · by_cases q : i = j
    · subst q
      have z : (env.set i (.val .bowl))[i]? = some (.own x) := z
      rw [List.getElem?_set_self hi] at z
      cases z
    · have z : (env.set i (.val .bowl))[j]? = some (.own x) := z
      rw [List.getElem?_set_ne q] at z
      obtain ⟨c, h1, h2, h3, h4⟩ := I.own j x z
      have ne : c ≠ a := fun w => q (I.sep i j _ x a e z s (w ▸ h1))
      rw [hR] at h4
      exact ⟨c, h1, fun z => z.elim h2 ne, h3, RepTop.hv sub (RepTop.bw0 h4)⟩
  · have h1 : (env.set i (.val .bowl))[j]? = some (.own x) := h1
    have h2 : (env.set i (.val .bowl))[k]? = some (.own y) := h2
    have back : ∀ (j : Nat) (x : D), (env.set i (.val .bowl))[j]? = some (.own x) → env[j]? = some (.own x) := fun j x z => by
      by_cases q : i = j
      · subst q
        rw [List.getElem?_set_self hi] at z
        cases z
      · rwa [List.getElem?_set_ne q] at z
    exact I.sep j k x y c (back j x h1) (back k y h2) h3 h4
  · have := I.ext
    rw [hb] at this
    exact ⟨fun c o e _ m => this.keep c o e (fun z => by cases z) m, this.dom⟩
theorem pool_out {i : Nat} {a : Addr} {b' : Bw} (hb : B.R.bo = none) (he : B.He a = none) (I : Rel (B.bw a) env b' σ H) (hc : (env.set i .un).all slotNB = true) : Rel B (env.set i .un) none σ H := by
  have hR : B.R = ⟨B.R.K, B.R.mg, B.R.fns, none⟩ := by rw [← hb]
  have back : ∀ (j : Nat) (s : Slot), s ≠ .un → (env.set i .un)[j]? = some s → env[j]? = some s := fun j s n z => by
    by_cases q : i = j
    · subst q
      by_cases hi : i < env.length
      · rw [List.getElem?_set_self hi] at z
        cases z
        exact absurd rfl n
      · rw [List.getElem?_eq_none (by simpa using hi)] at z
        cases z
    · rwa [List.getElem?_set_ne q] at z
  have nb : ∀ (j : Nat) (s : Slot), (env.set i .un)[j]? = some s → slotNB s = true := fun j s z => List.all_eq_true.mp hc s (List.mem_of_getElem? z)
  have less : ∀ c, ownO B.O (env.set i .un) σ c → ownO (plus B.O a) env σ c := fun c h => by
    rcases h with h | ⟨j, x, h1, h2⟩
    · exact .inl (.inl h)
    · exact .inr ⟨j, x, back j _ (by simp) h1, h2⟩
  have sub : Sub (vis H (ownO (plus B.O a) env σ)) (vis H (ownO B.O (env.set i .un) σ)) := vis_sub less
  refine ⟨by simpa using I.len, fun j x z => ?_, fun j x z => ?_, fun j k x y c h1 h2 h3 h4 => I.sep j k x y c (back j _ (by simp) h1) (back k _ (by simp) h2) h3 h4, by rw [hb]; trivial, fun c z => (by rw [hb] at z; cases z), fun c z => I.odom c (.inl z), I.tab, ?_, I.pin.trans sub⟩
  · obtain ⟨v, h1, h2⟩ := I.val j x (back j _ (by simp) z)
    refine ⟨v, h1, ?_⟩
    rw [hR]
    exact Rep.mono sub (Rep.bw (nb j _ z) h2)
  · obtain ⟨c, h1, h2, h3, h4⟩ := I.own j x (back j _ (by simp) z)
    refine ⟨c, h1, fun z => h2 (.inl z), h3, ?_⟩
    rw [hR]
    exact RepTop.hv sub (RepTop.bw (nb j _ z) h4)
  · rw [hb]
    exact ext_bow (Ext.refl _) I.ext he
theorem rd_pool {i : Nat} {D : Ends} (hb : B.R.bo = none) (h : rdS B (dPool i d) D σ H) : ∃ a, rdS (B.bw a) d D σ H := by
  obtain ⟨env, b, I, w⟩ := h
  unfold dPool at w
  split at w
  · rename_i ds e
    split at w
    · rename_i l hl
      obtain ⟨a, s, _⟩ := I.own i _ e
      obtain ⟨J, he⟩ := pool_in hb I e hl s
      have hR : B.R = ⟨B.R.K, B.R.mg, B.R.fns, none⟩ := by rw [← hb]
      refine ⟨a, _, _, J, ?_⟩
      cases z : d (env.set i (.val .bowl)) (some l) with
      | bad =>
        rw [z] at w
        exact w
      | bk e' b' =>
        rw [z] at w
        exact False.elim w
      | ct e' b' =>
        rw [z] at w
        exact False.elim w
      | nx e' b' =>
        rw [z] at w
        cases b' with
        | none => exact False.elim w
        | some l' =>
          unfold poolE at w
          by_cases hc : (e'.set i .un).all slotNB = true
          · simp only [hc, if_true] at w
            exact fun σ' H' I' => w σ' H' (pool_out hb he I' hc)
          · simp only [hc] at w
            exact False.elim w
      | rt w' b' =>
        rw [z] at w
        unfold poolE at w
        by_cases nb : noBow w'.d = true
        · simp only [nb, if_true] at w
          intro v H' e1 e2 e3 e4
          refine w v H' (by rw [hb]; exact ext_bow (Ext.refl _) e1 he) (by rw [hb]; trivial) e3 ?_
          rw [hR]
          exact RepW.less (fun c z => .inl z) (fun c z => z) (RepW.bw nb e4)
        · simp only [nb] at w
          exact False.elim w
      | err c fs b' =>
        rw [z] at w
        unfold poolE at w
        by_cases nb : noBows fs = true
        · simp only [nb, if_true] at w
          intro cls dd σ' H' e1 e2 e3 e4
          refine w cls dd σ' H' (by rw [hb]; exact ext_bow (Ext.refl _) e1 he) (by rw [hb]; trivial) e3 ?_
          rw [hR]
          exact RepX.bw nb (e4.mono (vis_sub fun c z => .inl z))
        · simp only [nb] at w
          exact False.elim w
    · exact False.elim w
  · exact False.elim w
theorem ds_pool (i : Nat) (hb : B.R.bo = none) (h : ∀ a, DS (B.bw a) X st d) : DS B X st (dPool i d) :=
  ⟨fun pins s σ H D I q => by
    obtain ⟨a, w⟩ := rd_pool hb q
    exact (h a).run pins s σ H D I w⟩
end
end DL

set_option Elab.async false
set_option linter.all false
set_option maxRecDepth 100000
set_option maxHeartbeats 4000000
/-! odds and ends of the printed derivations -/
namespace DL
open PySem PySem.Spec PyProof.Rows L2 LamX NdefX
abbrev FnP (K : PySem.W.Frag) (x : Str) (st : Stmt) (f : Addr) (fd : FuncData) : Prop := FunD K x x (defArgs st) (defBody st) (defScope st) [] [] f fd
structure FP (K : PySem.W.Frag) (mg : Str → Option Value) (x : Str) (st : Stmt) : Prop where
  ex : ∃ a fd, FnP K x st a fd ∧ mg x = some (.ref a)
structure FT (K : PySem.W.Frag) (mg : Str → Option Value) (base : Heap) (L : List (Addr × Str)) (x : Str) (st : Stmt) : Prop where
  ex : ∃ a fd, FnP K x st a fd ∧ mg x = some (.ref a) ∧ ∃ c P, TabB base mg c P ∧ fd.code = .ref c ∧ (P, (x ++ ".<locals>." : Str) ++ "<lambda>") ∈ L ∧ ∀ p ∈ L, p.1 = P → p.2 = (x ++ ".<locals>." : Str) ++ "<lambda>"
theorem FP.mg {K : PySem.W.Frag} {mg : Str → Option Value} {x : Str} {st : Stmt} (h : FP K mg x st) : mg x = some (.ref h.ex.choose) := h.ex.choose_spec.choose_spec.2
section
variable {Pg : Program} {w : World} {K : PySem.W.Frag} {mg : Str → Option Value} {base : Heap} {T : List NTab} {k : Nat}
theorem gm_none : GM Pg w K mg base T k (fun _ => none) := fun g n m h => by cases h
theorem pro_none {R : RC} {O : Addr → Prop} {h : Heap} {H : Hp} : Pro Pg w K mg base T k none R O h H := fun n m h => by cases h
theorem u64 {A : Around} (r : Room k A) : A.units + 64 < cLine := by
  have := r.un
  omega
theorem u65 {A : Around} (r : Room k A) : A.units + 65 < cLine := by
  have := r.un
  omega
theorem fn_bad {x qual : Str} {params : Arguments} {body : List Stmt} {scope : Scope} {f : Addr} {fd : FuncData} {N ps : List Str} {n : Nat} (F : FunD K x qual params body scope [] [] f fd) (S : FnScope N ps scope) : FnOk Pg w K mg base (L2.CX Pg w) k f fd ps (spD K mg T n fun _ _ => .bad) :=
  ⟨fun vs H Q E h => by
    obtain ⟨_, _, _, ds, _, _, _, _, _, _, _, h7⟩ := h
    exact h7.elim, fun A outer s H args us vs Q E _ _ _ _ h => by
    obtain ⟨_, _, _, ds, _, _, _, _, _, _, _, h7⟩ := h
    exact h7.elim⟩
/-- .. with no bowl of the caller's (the law itself) -/
def spD0 (K : PySem.W.Frag) (mg : Str → Option Value) (T : List NTab) (n : Nat) (m : Mir) : Sp := fun vs H Q E =>
  ∃ (fns : List Addr) (O : Addr → Prop) (ds : List D), ds.length = n ∧ RepL ⟨K, mg, fns, none⟩ (vis H O) ds vs ∧ (∀ a, O a → ∃ o, H a = some o) ∧ TabsN T H ∧
    match m ds none with
    | .ok w b' => ∀ v H', Ext none H H' → BwOk none b' H' → TabsN T H' → RepW ⟨K, mg, fns, none⟩ O H H' w v → Q v H'
    | .err c fs b' => ∀ cls d H', Ext none H H' → BwOk none b' H' → TabsN T H' → RepX ⟨K, mg, fns, none⟩ (vis H' O) c fs cls d → E cls d H'
    | .bad => False
theorem fn_ok0 {x qual : Str} {params : Arguments} {body : List Stmt} {scope : Scope} {f : Addr} {fd : FuncData} {N ps : List Str} {dv : Sv} (F : FunD K x qual params body scope [] [] f fd) (S : FnScope N ps scope)
    (hb : ∀ (fns : List Addr) (O : Addr → Prop) (P : Hp) (cdv : Value) (A : Around) (outer : List PySem.Env) (s : Shared) (H : Hp) (E : XK), Room k (A.deeper (envOfC qual scope s.heap.objs.size f cdv)) →
      DSs (bpOf K mg T fns none O H E P) (cxOf (L2.CX Pg w) Pg w K mg base N qual scope f cdv A outer s H E) body dv) :
    FnOk Pg w K mg base (L2.CX Pg w) (k + 1) f fd ps (spD0 K mg T ps.length (mir dv ps.length N.length)) := by
  have hN : ps.length ≤ N.length := by
    have q := congrArg List.length S.pre
    rw [List.length_take] at q
    omega
  refine F.ok S (fun vs H Q E h => ?_) (fun cdv A outer s H vs Q E hr h => ?_)
  · obtain ⟨_, _, ds, h1, h2, _⟩ := h
    rw [← h2.length]
    exact h1
  · obtain ⟨fns, O, ds, h1, h2, h5, h6, h7⟩ := h
    refine ⟨_, hb fns O (fun _ => none) cdv A outer s H E hr, ent N.length ds, none, ent_rel (by rw [← h2.length, h1]; exact hN) h2 trivial (fun a z => by cases z) h5 h6, ?_⟩
    unfold mir at h7
    rw [if_pos h1] at h7
    exact end_of h7
end
/-! ### own things given up -/
theorem Rel.frz {B : BP} {env : Sls} {b : Bw} {σ : L2.St} {H : Hp} {i : Nat} {d : D} (I : Rel B env b σ H) (e : env[i]? = some (.own d)) : Rel B (env.set i (.val d)) b σ H := by
  obtain ⟨a, s, na, he, rt⟩ := I.own i d e
  have hi := (List.getElem?_eq_some_iff.mp e).1
  have back : ∀ (j : Nat) (x : D), (env.set i (.val d))[j]? = some (.own x) → i ≠ j ∧ env[j]? = some (.own x) := fun j x z => by
    by_cases q : i = j
    · subst q
      rw [List.getElem?_set_self hi] at z
      cases z
    · rw [List.getElem?_set_ne q] at z
      exact ⟨q, z⟩
  have less : ∀ c, ownO B.O (env.set i (.val d)) σ c → ownO B.O env σ c := fun c h => h.elim .inl fun ⟨j, x, h1, h2⟩ => .inr ⟨j, x, (back j x h1).2, h2⟩
  have sub : Sub (vis H (ownO B.O env σ)) (vis H (ownO B.O (env.set i (.val d)) σ)) := vis_sub less
  have free : ¬ ownO B.O (env.set i (.val d)) σ a := fun h => h.elim na fun ⟨j, x, h1, h2⟩ => (back j x h1).1 (I.sep i j d x a e (back j x h1).2 s h2)
  refine ⟨by simpa using I.len, fun j x z => ?_, fun j x z => ?_, fun j k x y c h1 h2 h3 h4 => I.sep j k x y c (back j x h1).2 (back k y h2).2 h3 h4, I.bow, I.bO, I.odom, I.tab, I.ext, I.pin.trans sub⟩
  · by_cases q : i = j
    · subst q
      rw [List.getElem?_set_self hi] at z
      cases z
      exact ⟨.ref a, s, rt.rep sub (vis_at free)⟩
    · rw [List.getElem?_set_ne q] at z
      obtain ⟨v, h1, h2⟩ := I.val j x z
      exact ⟨v, h1, h2.mono sub⟩
  · obtain ⟨c, h1, h2, h3, h4⟩ := I.own j x (back j x z).2
    exact ⟨c, h1, h2, h3, h4.hv sub⟩
def frzS (i : Nat) (env : Sls) : Sls := match env[i]? with
  | some (.own d) => env.set i (.val d)
  | _ => env
theorem Rel.frzS {B : BP} {env : Sls} {b : Bw} {σ : L2.St} {H : Hp} {i : Nat} (I : Rel B env b σ H) : Rel B (frzS i env) b σ H := by
  unfold DL.frzS
  split
  · rename_i d e
    exact I.frz e
  · exact I
def dFrz (i : Nat) (d : Sv) : Sv := fun env b => d (frzS i env) b
theorem dss_frz {B : BP} {X : Cx} {sts : List Stmt} {d : Sv} (i : Nat) (h : DSs B X sts d) : DSs B X sts (dFrz i d) := imp_PSs h fun D σ H q => by
  obtain ⟨env, b, I, w⟩ := q
  exact ⟨DL.frzS i env, b, I.frzS, w⟩
/-! ### new things as plain values -/
def dVal (ev : Ev) : Ev := fun env b => (ev env b).bind fun w b1 => .ok (.val w.d) b1
section
variable {B : BP} {X : Cx} {e : Expr} {ev : Ev} {σ : L2.St} {H : Hp} {Q : VK}
theorem rd_val (h : rdE B (dVal ev) σ H Q) : rdE B ev σ H Q := by
  obtain ⟨env, b, I, w⟩ := h
  refine ⟨env, b, I, ?_⟩
  have w : wpG B RepW (ownO B.O env σ) H ((ev env b).bind fun w b1 => .ok (.val w.d) b1) σ Q := w
  cases z : ev env b with
  | ok a b1 =>
    rw [z] at w
    exact fun v H' e1 e2 e3 e4 => w v H' e1 e2 e3 e4.rep
  | err c fs b1 =>
    rw [z] at w
    exact w
  | bad =>
    rw [z] at w
    exact w
theorem de_val (h : DE B X e ev) : DE B X e (dVal ev) := imp_PE h fun _ _ _ => rd_val
theorem ds_vl {st : Stmt} {i : Nat} (h : DS B X st (dAsg i ev)) : DS B X st (dAsg i (dVal ev)) := imp_PS h fun D σ H q => by
  obtain ⟨env, b, I, w⟩ := q
  refine ⟨env, b, I, ?_⟩
  unfold dAsg dVal at w
  unfold dAsg
  cases z : ev env b with
  | bad =>
    rw [z] at w
    exact w
  | err c fs b1 =>
    rw [z] at w
    exact w
  | ok v b1 =>
    rw [z] at w
    intro σ' H' J
    cases v with
    | val d => exact w σ' H' J
    | own d =>
      have w : wpS B (.nx (env.set i (.val d)) b1) D := w
      by_cases hi : i < env.length
      · have q := J.frz (i := i) (d := d) (List.getElem?_set_self hi)
        rw [List.set_set] at q
        exact w σ' H' q
      · have J : Rel B (env.set i (.own d)) b1 σ' H' := J
        rw [List.set_eq_of_length_le (by omega)] at J
        refine w σ' H' ?_
        rw [List.set_eq_of_length_le (by omega)]
        exact J
end
end DL
namespace DL
open PySem PySem.Spec PyProof.Rows L2 LamX NdefX
section
variable {B : BP} {X : Cx} {tg iter elt : Expr} {ifs : List Expr} {evi : EvI} {bd : Bd} {is : List Nat} {tt : EvT} {te : Ev} {scope : Scope} {own : List (Str × Nat)} {pos : Pos}
theorem ds_setLcV {i : Nat} {y : Str} {py spos : Pos} (hc : X.calm = true) (hN : X.N.Nodup) (hi : DJ B X tg iter evi) (ok : BlkOk X.N X.env.scope scope own) (his : ∀ j ∈ is, j ∈ own.map (·.2))
    (hg : ∀ (O : Addr → Prop) (P : Hp) (s : Shared) (H : Hp) (C : Addr) (cl : List (Str × Addr)) (fp : List Addr), DG (B.cmp O P) (X.blk s H scope (compEnvC scope cl C X.env) fp) tg is bd)
    (ht : ∀ (O : Addr → Prop) (P : Hp) (s : Shared) (H : Hp) (C : Addr) (cl : List (Str × Addr)) (fp : List Addr), DTs (B.cmp O P) (X.blk s H scope (compEnvC scope cl C X.env) fp) ifs tt)
    (he : ∀ (O : Addr → Prop) (P : Hp) (s : Shared) (H : Hp) (C : Addr) (cl : List (Str × Addr)) (fp : List Addr), DE (B.cmp O P) (X.blk s H scope (compEnvC scope cl C X.env) fp) elt te)
    (hy : X.N[i]? = some y := by rfl) (hyl : X.env.scope.names.lookup y = some .local := by rfl) (hsw : swapsWith (.ListComp elt [⟨tg, iter, ifs, 0⟩] scope pos) (some (.Name y py)) spos.line X.env = pure true := by refine sw_true ?_ ?_ ?_ ?_ <;> rfl)
    (hs : ∀ x, foldedSetIterable iter X.env x = pure x := by intro _; rfl) :
    DS B X (.Assign [.Name y py] (.ListComp elt [⟨tg, iter, ifs, 0⟩] scope pos) spos) (dAsg i (dVal (dComp evi bd tt te (own.map (·.2))))) :=
  ds_vl (ds_setLc hc hN hi ok his hg ht he hy hyl hsw hs)
end
end DL
namespace DL
open PySem PySem.Spec
def freeB (sc scope : Scope) : Bool := scope.names.all fun y => match y.2 with
  | .free => (match sc.names.lookup y.1 with | some .cell => true | some .free => true | _ => false)
  | _ => true
theorem free_by {sc scope : Scope} (h : freeB sc scope = true) : ∀ y ∈ scope.names, y.2 = .free → sc.names.lookup y.1 = some .cell ∨ sc.names.lookup y.1 = some .free := fun y hy e => by
  have q := List.all_eq_true.mp h y hy
  rw [e] at q
  have q : (match sc.names.lookup y.1 with | some .cell => true | some .free => true | _ => false) = true := q
  split at q
  · rename_i z
    exact .inl z
  · rename_i z
    exact .inr z
  · cases q
end DL

set_option Elab.async false
set_option linter.all false
set_option maxRecDepth 100000
set_option maxHeartbeats 4000000
/-! the law's end -/
namespace DL
open PySem PySem.Spec PyProof.Rows L2 LamX NdefX
theorem walk_ofET {l : PySem.W.OpenLaw} {n k : Nat} {q : Program} {loose : List Str} {XP : (Str → Option Value) → Heap → Prop} {YP : World → Heap → Prop} {d : DefRec} {CX : World → CXT} {x : Str}
    (hn : l.most = some n) (hn2 : n ≤ sizeLine) (hdf : d.params.defaults = []) (hr : Room k callerA)
    (F : ∀ (w : World) (mg : Str → Option Value) (fa : Addr) (h : Heap), YP w h → h.Ns mainGlobals mg → mg d.name = some (.ref fa) → ∃ K : PySem.W.Frag, K.In h ∧ LawAtS l w K (CX w) k n x mg fa h)
    (hCX : ∀ (w : World) (H : Hp) (s : Shared) (e : Value) (s' : Shared), CX w [] H s (fun _ _ _ => False) e s' → False) :
    PySem.W.WalkO q loose XP YP l.row.toRowW d [] (fun f vs => PySem.call f vs) := by
  refine Att.attach_callB hn hdf fun w s₀ s₁ mg mb fa o pm cd doc a vs ns G Y ho hd hcd hmg hobj hints hlen hbits hg => ?_
  obtain ⟨K, KX, fd, cs, sp, hT, nT, C, hb, hsp, hF⟩ := F w mg fa _ Y G.T.g hmg
  exact law_callTs KX G.T.g G.T.b G.T.builtins G.T.nolimit hg hT nT C G.T.bmain hobj hints (Nat.le_trans hlen hn2) hr hF hb (fun H hH hS => hsp H a ns hlen hbits hH hS) fun H e s' => hCX w H s₁ e s'
theorem cx_false {P : Program} {w : World} {outer : List Env} {H : Hp} {s : Shared} {u : Value} {s' : Shared} (h : L2.CX P w outer H s (fun _ _ _ => False) u s') : False := by
  obtain ⟨_, _, _, _, _, _, _, _, _, _, _, _, z⟩ := h
  exact z
/-- the law's script as it comes -/
theorem sp_law {K : PySem.W.Frag} {mg : Str → Option Value} {L : List (Addr × Str)} {m : Mir} {H : Hp} {a : Addr} {ns : List Int} (hl : ns.length ≤ 63) (hT : Tabs L H) (hS : SqL K H a (ns.map V.int)) (hm : ∃ b, m [.lst (ns.map D.int)] none = .ok (.val (.bl true)) b) :
    spD0 K mg (nt L) 1 m [.ref a] H (fun v _ => v = .bl true) (fun _ _ _ => False) := by
  have ev : vis H (fun _ => False) = H := funext fun a => vis_at (fun z => z)
  obtain ⟨b, hm⟩ := hm
  refine ⟨[], fun _ => False, [.lst (ns.map D.int)], rfl, ⟨.ref a, [], rfl, ⟨a, ns.map V.int, rfl, by rw [ev]; exact hS, repL_ints, by rw [List.length_map]; exact Nat.le_trans hl (by decide)⟩, rfl⟩, fun a z => z.elim, nt_tabs.mpr hT, ?_⟩
  rw [hm]
  exact fun v H' _ _ _ r => r
theorem code_of {K : PySem.W.Frag} {x : Str} {st : Stmt} {fd : FuncData} (F : FnP K x st (He.fAd K (x, none)) fd) : fd.code = .ref (He.codeOf K (x, none)) := by
  obtain ⟨oc, od, dV, kV, doc, pm, an, cdv, ct, osl, rfl, lk, hcd, _, _⟩ := F.ex
  cases cdv with
  | ref c =>
    rw [He.codeOf_eq lk rfl]
  | _ => cases hcd
end DL

set_option Elab.async false
set_option linter.all false
set_option maxRecDepth 100000
set_option maxHeartbeats 400000
/-! instances of own classes: fields, properties -/
namespace DL
open PySem PySem.Spec PyProof.Rows L2 LamX
/-- a property of the instances of an own class -/
structure Prp (Pg : Program) (w : World) (K : PySem.W.Frag) (mg : Str → Option Value) (base : Heap) (T : List NdefX.NTab) (k : Nat) (x f : Str) (m : Mir) : Prop where
  ex : ∃ (C p g : Addr) (fd : FuncData), mg x = some (.ref C) ∧ L2.Cls K C ∧ L2.PropOf K C f p g ∧ FnOk Pg w K mg base (L2.CX Pg w) k g fd ["self"] (spD K mg T 1 m) ∧ Binds K fd ["self"] []
theorem Prp.mono {Pg : Program} {w : World} {K : PySem.W.Frag} {mg : Str → Option Value} {base : Heap} {T : List NdefX.NTab} {j k : Nat} {x f : Str} {m : Mir} (c : Prp Pg w K mg base T j x f m) (h : j ≤ k) : Prp Pg w K mg base T k x f m := by
  obtain ⟨C, p, g, fd, a1, a2, a3, a4, a5⟩ := c.ex
  exact ⟨C, p, g, fd, a1, a2, a3, a4.mono h, a5⟩
def okR (r : Res Wv) : Res Wv := match r with
  | .ok w b => .ok w b
  | _ => .bad
def dProp (x : Str) (m : Mir) (ea : Ev) : Ev := fun env b => (ea env b).bind fun w b1 => match w.d with
  | .obj c fs => if c = x then okR (m [.obj c fs] b1) else .bad
  | _ => .bad
section
variable {B : BP} {X : Cx} {e : Expr} {x f : Str} {pos : Pos} {ea : Ev} {k : Nat} {m : Mir}
theorem de_prop (c : Prp X.prog X.w X.K X.mg X.base B.T k x f m) (hr : Room (k + 1) X.A) (ha : DE B X e ea) (hab : attributeBase e f X.env (eval e X.env) = eval e X.env := by rfl) (hK : B.R.K = X.K := by rfl) (hM : B.R.mg = X.mg := by rfl) : DE B X (.Attribute e f pos) (dProp x m ea) := by
  obtain ⟨C, p, g, fd, hC, hc, hp, F, hb⟩ := c.ex
  refine imp_PE (pe_prop ha hc hp F hr hb .nil (E := fun _ _ _ => False) (fun _ _ _ _ _ _ _ z => False.elim (cx_false z)) hab) fun σ H Q h => ?_
  refine rd_bind (k := fun (w : Wv) _ b1 => match w.d with
    | .obj c fs => if c = x then okR (m [.obj c fs] b1) else .bad
    | _ => .bad) h fun env w1 b1 v H1 I1 x1 r1 wp => ?_
  have r2 := r1.rep
  cases ed : w1.d with
  | obj c' fs =>
    rw [ed] at r2
    simp only [ed] at wp
    by_cases z : c' = x
    · subst z
      rw [if_pos rfl] at wp
      obtain ⟨a, C', dx, vs, rfl, hC', hH, rl, hlen⟩ := r2
      obtain ⟨hH1, hO⟩ := of_vis hH
      have eC : C' = C := by
        rw [hM, hC] at hC'
        cases hC'
        rfl
      subst eC
      refine ⟨a, dx, _, rfl, hH1, ?_⟩
      have rep : RepL B.R (vis H1 (ownO B.O env σ)) [.obj c' fs] [.ref a] := ⟨_, _, rfl, ⟨a, C', dx, vs, rfl, hC', hH, rl, hlen⟩, rfl⟩
      cases em : m [.obj c' fs] b1 with
      | ok w2 b2 =>
        rw [em] at wp
        refine ⟨B.R.fns, B.R.bo, ownO B.O env σ, [.obj c' fs], b1, rfl, ?_, I1.bow, fun a q => I1.bOO q, fun a q => I1.od q, I1.tab, ?_⟩
        · rw [← hK, ← hM]
          exact rep
        · rw [em, ← hK, ← hM]
          exact fun u H' e1 e2 e3 e4 => wp u H' (x1.trans e1) e2 e3 (RepW.back e4 x1.dom)
      | err c fs b2 =>
        rw [em] at wp
        exact False.elim wp
      | bad =>
        rw [em] at wp
        exact False.elim wp
    · rw [if_neg z] at wp
      exact False.elim wp
  | _ =>
    simp only [ed] at wp
    exact False.elim wp
/-- the class has one attribute, no class of it has the name -/
structure Fld1 (K : PySem.W.Frag) (mg : Str → Option Value) (x f : Str) : Prop where
  ex : ∃ C : Addr, mg x = some (.ref C) ∧ L2.Cls K C ∧ L2.NoAttr K C f
  at_ : attrsOf x = [f]
def fldD (x : Str) (d : D) : Option Wv := match d with
  | .obj c [d] => if c = x then some (.val d) else none
  | _ => none
def dFld (x : Str) (ea : Ev) : Ev := dOp1 (fldD x) ea
theorem fldD_inv {d : D} {w : Wv} (h : fldD x d = some w) : ∃ d1, d = .obj x [d1] ∧ w = .val d1 := by
  unfold fldD at h
  split at h
  · rename_i c d1
    by_cases z : c = x
    · rw [if_pos z] at h
      exact ⟨d1, by rw [z], (Option.some.inj h).symm⟩
    · rw [if_neg z] at h
      cases h
  · cases h
theorem de_fld (c : Fld1 X.K X.mg x f) (ha : DE B X e ea) (hab : attributeBase e f X.env (eval e X.env) = eval e X.env := by rfl) (hM : B.R.mg = X.mg := by rfl) : DE B X (.Attribute e f pos) (dFld x ea) := by
  obtain ⟨C, hC, hc, hn⟩ := c.ex
  have hat := c.at_
  refine imp_PE (pe_fld ha hab) fun σ H Q h => ?_
  refine rd_bind (k := fun (w : Wv) _ b1 => optR (fldD x w.d) b1) h fun env w1 b1 v H1 I1 x1 r1 wp => ?_
  have r2 := r1.rep
  cases q : fldD x w1.d with
  | none =>
    simp only [q] at wp
    exact False.elim wp
  | some u =>
    obtain ⟨d1, e1, rfl⟩ := fldD_inv q
    simp only [q] at wp
    rw [e1] at r2
    obtain ⟨a, C', dx, vs, rfl, hC', hH, rl, hlen⟩ := r2
    obtain ⟨hH1, hO⟩ := of_vis hH
    have eC : C' = C := by
      rw [hM, hC] at hC'
      cases hC'
      rfl
    subst eC
    obtain ⟨u, r, rfl, ru, e2⟩ := rl
    cases e2
    rw [hat] at hH1
    exact ⟨a, C', dx, _, u, rfl, hH1, hc, hn, by simp [List.lookup], wp u H1 x1 I1.bow I1.tab ru⟩
end
end DL

set_option Elab.async false
set_option linter.all false
set_option maxRecDepth 100000
set_option maxHeartbeats 400000
/-! instances made -/
namespace DL
open PySem PySem.Spec PyProof.Rows L2 LamX
/-- an instance being made: where it stands, the heap ahead of it, the caller's functions, what it hides -/
structure IP where
  x : Addr
  H0 : Hp
  fns : List Addr
  O : Addr → Prop
def wpN (B : BP) (J : IP) (r : RS) (D : Ends) : Prop := match r with
  | .rt w b => ∀ σ H', Ext B.R.bo J.H0 H' → BwOk B.R.bo b H' → NdefX.TabsN B.T H' → RepW ⟨B.R.K, B.R.mg, J.fns, B.R.bo⟩ J.O J.H0 H' w (.ref J.x) → D.nx σ H'
  | .err c fs b => ∀ cls d σ H, Ext B.R.bo B.He H → BwOk B.R.bo b H → NdefX.TabsN B.T H → RepX B.R (vis H B.O) c fs cls d → B.W cls d σ H
  | _ => False
def rdN (B : BP) (J : IP) (dv : Sv) : TS := fun D σ H => ∃ env b, Rel B env b σ H ∧ wpN B J (dv env b) D
abbrev DNs (B : BP) (J : IP) (X : Cx) (sts : List Stmt) (dv : Sv) : Prop := PSs X sts (rdN B J dv)
def dSeqN (d1 d2 : Sv) : Sv := fun env b => match d1 env b with
  | .nx e b' => d2 e b'
  | .err c fs b' => .err c fs b'
  | _ => .bad
def dSelf (c : Str) (ev : Ev) : Sv := fun env b => match env[(0 : Nat)]? with
  | some (.val (.clo 0)) => (ev env b).toS fun w b1 => if noClo w.d then .rt (.val (.obj c [w.d])) b1 else .bad
  | _ => .bad
section
variable {B : BP} {J : IP} {X : Cx} {st : Stmt} {rest : List Stmt} {d1 d2 : Sv} {σ : L2.St} {H : Hp} {D : Ends} {e : Expr} {ev : Ev} {c f x : Str} {pos p p' : Pos}
theorem rd_seqN (h : rdN B J (dSeqN d1 d2) D σ H) : tSeq (rdS B d1) (rdN B J d2) D σ H := by
  obtain ⟨env, b, I, w⟩ := h
  refine ⟨env, b, I, ?_⟩
  have w : wpN B J (match d1 env b with
    | .nx e b' => d2 e b'
    | .err c fs b' => .err c fs b'
    | _ => .bad) D := w
  cases q : d1 env b with
  | nx e b' =>
    rw [q] at w
    exact fun σ' H' I' => ⟨e, b', I', w⟩
  | err c fs b' =>
    rw [q] at w
    exact w
  | rt v b' =>
    rw [q] at w
    exact False.elim w
  | bk e b' =>
    rw [q] at w
    exact False.elim w
  | ct e b' =>
    rw [q] at w
    exact False.elim w
  | bad =>
    rw [q] at w
    exact False.elim w
theorem imp_PSsN {X : Cx} {e : List Stmt} {t u : TS} (h : PSs X e t) (hi : ∀ D σ H, u D σ H → t D σ H) : PSs X e u := imp_PSs h hi
theorem dsn_cons (h1 : DS B X st d1) (h2 : DNs B J X rest d2) : DNs B J X (st :: rest) (dSeqN d1 d2) := imp_PSs (pss_cons h1 h2) fun _ _ _ h => rd_seqN h
/-- what is known where self stands -/
structure SelfOk (B : BP) (J : IP) (K : PySem.W.Frag) (c f : Str) : Prop where
  fns : B.R.fns[0]? = some J.x
  new : J.H0 J.x = none
  he : Ext B.R.bo J.H0 B.He
  nO : ¬ J.O J.x
  sub : ∀ a, J.O a → B.O a
  ox : B.O J.x
  at_ : ∃ C dx, B.R.mg c = some (.ref C) ∧ B.He J.x = some (.ins C dx []) ∧ Cls K C ∧ NoAttr K C f
  one : attrsOf c = [f]
  nb : B.R.bo ≠ some J.x
theorem dsn_last (S : SelfOk B J X.K c f) (he : DE B X e ev) (hN : X.N[(0 : Nat)]? = some "self" := by rfl) (hv : Vis X.env.scope "self" := by first | exact Or.inl rfl | exact Or.inr (Or.inl rfl) | exact Or.inr (Or.inr rfl))
    (hs : swapsWith e (some (.Attribute (.Name "self" p) f p')) pos.line X.env = pure false := by rfl) : DNs B J X [.Assign [.Attribute (.Name "self" p) f p'] e pos] (dSelf c ev) := by
  refine imp_PSs (pss_one (ps_fld (pe_var (i := 0) hN hv) he hs)) fun D σ H h => ?_
  obtain ⟨env, b, I, w⟩ := h
  refine ⟨env, b, I, ?_⟩
  have w : wpN B J (match env[(0 : Nat)]? with
    | some (.val (.clo 0)) => (ev env b).toS fun w b1 => if noClo w.d then .rt (.val (.obj c [w.d])) b1 else .bad
    | _ => .bad) D := w
  split at w
  · rename_i e0
    cases q : ev env b with
    | ok a b1 =>
      rw [q] at w
      intro y H1 x1 x2 x3 x4
      have I1 := I.go x1 x2 x3
      have w : wpN B J (if noClo a.d then .rt (.val (.obj c [a.d])) b1 else .bad) D := w
      by_cases nc : noClo a.d = true
      · rw [if_pos nc] at w
        obtain ⟨v, hv0, g, hg, hg2⟩ := I1.val 0 _ e0
        rw [S.fns] at hg2
        obtain rfl : J.x = g := Option.some.inj hg2
        obtain ⟨C, dx, hC, hHe, hcl, hno⟩ := S.at_
        have hx : H1 J.x = some (.ins C dx []) := I1.ext.keep _ _ hHe S.nb fun _ z => by cases z
        refine ⟨v, hv0, J.x, C, dx, [], hg, hx, hcl, hno, by simp, ?_⟩
        refine w σ _ ⟨fun a o ea nb nt => ?_, fun a ea => ?_⟩ ?_ (tabs_upd x3 hx (fun _ z => by cases z) (fun _ _ z => by cases z)) ?_
        · rw [upd_ne (ne_of_none ea S.new)]
          exact I1.ext.keep _ _ (S.he.keep _ _ ea nb nt) nb nt
        · by_cases z : a = J.x
          · rw [z, upd_same] at ea
            cases ea
          · rw [upd_ne z] at ea
            exact S.he.dom _ (I1.ext.dom _ ea)
        · have nb := S.nb
          revert x2 nb
          generalize B.R.bo = bo
          cases bo with
          | none => exact fun z _ => by cases b1 <;> exact z
          | some l =>
            intro z nb
            cases b1 with
            | none => exact z
            | some ls =>
              have z : H1 l = some (.lst (ls.map V.int)) := z
              show upd H1 J.x _ l = _
              rw [upd_ne (fun e => nb (by rw [e]))]
              exact z
        · have r := x4.rep
          have r1 : Rep B.R (vis (upd H1 J.x (.ins C dx (putF f y []))) J.O) a.d y := r.mono fun l o el _ => by
            obtain ⟨e1, e2⟩ := of_vis el
            have nl : l ≠ J.x := fun z => e2 (.inl (z ▸ S.ox))
            exact vis_of (by rw [upd_ne nl]; exact e1) fun z => e2 (.inl (S.sub _ z))
          refine ⟨J.x, C, dx, [y], rfl, hC, vis_of (by rw [upd_same, S.one]; rfl) S.nO, RepL.cons (Rep.fns nc r1) RepL.nil, by rw [S.one]; rfl⟩
      · rw [if_neg nc] at w
        exact False.elim w
    | err c fs b1 =>
      rw [q] at w
      exact err_of (ρ := RepW) (D := { nx := fun _ _ => True, rt := fun _ _ => True, bk := fun _ _ => True, ct := fun _ _ => True }) I w
    | bad =>
      rw [q] at w
      exact False.elim w
  · exact False.elim w
end
/-! ### the promise of an __init__ -/
def spI (K : PySem.W.Frag) (mg : Str → Option Value) (T : List NdefX.NTab) (c : Str) (n : Nat) (m : Mir) : Sp := fun vs H Q E =>
  ∃ (fns : List Addr) (bo : Option Addr) (O : Addr → Prop) (ds : List D) (b : Bw) (H0 : Hp) (x dx C : Addr) (vs0 : List V), vs = .ref x :: vs0 ∧ mg c = some (.ref C) ∧ H = upd (upd H0 dx (.own x)) x (.ins C dx []) ∧ H0 x = none ∧ H0 dx = none ∧ dx ≠ x ∧
    ds.length = n ∧ RepL ⟨K, mg, fns, bo⟩ (vis H0 O) ds vs0 ∧ BwOk bo b H0 ∧ (∀ a, bo = some a → O a) ∧ (∀ a, O a → ∃ o, H0 a = some o) ∧ NdefX.TabsN T H0 ∧
    match m ds b with
    | .ok w b' => ∀ H', Ext bo H0 H' → BwOk bo b' H' → NdefX.TabsN T H' → RepW ⟨K, mg, fns, bo⟩ O H0 H' w (.ref x) → Q .non H'
    | .err c fs b' => ∀ cls d H', Ext bo H0 H' → BwOk bo b' H' → NdefX.TabsN T H' → RepX ⟨K, mg, fns, bo⟩ (vis H' O) c fs cls d → E cls d H'
    | .bad => False
def RS.toI (r : RS) : Res Wv := match r with
  | .rt w b => .ok w b
  | .err c fs b => if noClos fs then .err c fs b else .bad
  | _ => .bad
def mirI (dv : Sv) (n N : Nat) : Mir := fun ds b => if ds.length = n ∧ noClos ds = true then (dv (ent N (.clo 0 :: ds)) b).toI else .bad
section
variable {Pg : Program} {w : World} {K : PySem.W.Frag} {mg : Str → Option Value} {base : Heap} {T : List NdefX.NTab}
theorem tabs_new {H : Hp} {p : Addr} {o : HO} (t : NdefX.TabsN T H) (h : H p = none) : NdefX.TabsN T (upd H p o) := tabs_same t (same_upd h)
theorem fn_okI {x0 qual : Str} {params : Arguments} {body : List Stmt} {scope : Scope} {fa : Addr} {fd : FuncData} {N ps : List Str} {k n : Nat} {dv : Sv} {c f : Str} (F : FunD K x0 qual params body scope [] [] fa fd) (S : FnScope N ps scope) (hn : ps.length = n + 1)
    (hcl : ∀ C, mg c = some (.ref C) → Cls K C ∧ NoAttr K C f) (h1 : attrsOf c = [f])
    (hb : ∀ (x : Addr) (bo : Option Addr) (O : Addr → Prop) (P : Hp) (J : IP) (cdv : Value) (A : Around) (outer : List PySem.Env) (s : Shared) (H : Hp) (E : XK), SelfOk (bpOf K mg T [x] bo O H E P) J K c f → Room k (A.deeper (envOfC qual scope s.heap.objs.size fa cdv)) →
      DNs (bpOf K mg T [x] bo O H E P) J (cxOf (L2.CX Pg w) Pg w K mg base N qual scope fa cdv A outer s H E) body dv) :
    FnOk Pg w K mg base (L2.CX Pg w) (k + 1) fa fd ps (spI K mg T c n (mirI dv n N.length)) := by
  have hN : ps.length ≤ N.length := by
    have q := congrArg List.length S.pre
    rw [List.length_take] at q
    omega
  refine F.ok S (fun vs H Q E h => ?_) (fun cdv A outer s H vs Q E hr h => ?_)
  · obtain ⟨_, _, _, ds, _, _, _, _, _, _, rfl, _, _, _, _, _, z, h2, _⟩ := h
    rw [List.length_cons, ← h2.length, z, hn]
  · obtain ⟨fns, bo, O, ds, b, H0, x, dx, C, vs0, rfl, hC, rfl, nx, ndx, hne, z, h2, h3, h4, h5, h6, h7⟩ := h
    unfold mirI at h7
    by_cases q : ds.length = n ∧ noClos ds = true
    · rw [if_pos q] at h7
      obtain ⟨cl, na⟩ := hcl C hC
      have nO : ¬ O x := fun z => by
        obtain ⟨o, e⟩ := h5 x z
        rw [nx] at e
        cases e
      have nB : bo ≠ some x := fun e => nO (h4 x e)
      have ndx2 : (upd H0 dx (.own x)) x = none := by
        rw [upd_ne (Ne.symm hne)]
        exact nx
      have xt : Ext bo H0 (upd (upd H0 dx (.own x)) x (.ins C dx [])) := (Ext.new ndx).trans (Ext.new ndx2)
      have sb : Sub (vis H0 O) (vis (upd (upd H0 dx (.own x)) x (.ins C dx [])) (plus O x)) := fun a o e _ => by
        obtain ⟨e1, e2⟩ := of_vis e
        have n1 : a ≠ x := ne_of_none e1 nx
        have n2 : a ≠ dx := ne_of_none e1 ndx
        exact vis_of (by rw [upd_ne n1, upd_ne n2]; exact e1) fun z => z.elim e2 n1
      have rl : RepL ⟨K, mg, [x], bo⟩ (vis (upd (upd H0 dx (.own x)) x (.ins C dx [])) (plus O x)) (.clo 0 :: ds) (.ref x :: vs0) := RepL.cons ⟨x, rfl, rfl⟩ (RepL.fns q.2 (RepL.mono sb h2))
      have I := ent_rel (R := ⟨K, mg, [x], bo⟩) (O := plus O x) (W := fun cls d _ H' => E cls d H') (N := N) (T := T) (b := b) (by rw [List.length_cons, ← h2.length, z, ← hn]; exact hN) rl
        (by
          revert h3
          cases bo with
          | none => exact fun z => by cases b <;> exact z
          | some l =>
            intro z
            cases b with
            | none => exact z
            | some ls =>
              have z : H0 l = some (.lst (ls.map V.int)) := z
              show (upd (upd H0 dx (.own x)) x (.ins C dx [])) l = _
              rw [upd_ne (ne_of_none z nx), upd_ne (ne_of_none z ndx)]
              exact z) (fun a e => .inl (h4 a e)) (fun a e => by
          rcases e with e | e
          · obtain ⟨o, eo⟩ := h5 a e
            exact ⟨o, by rw [upd_ne (ne_of_none eo nx), upd_ne (ne_of_none eo ndx)]; exact eo⟩
          · exact ⟨_, by rw [e, upd_same]⟩) (tabs_new (tabs_new h6 ndx) ndx2)
      refine ⟨_, hb x bo (plus O x) (fun _ => none) ⟨x, H0, fns, O⟩ cdv A outer s _ E ⟨rfl, nx, xt, nO, fun a z => .inl z, .inr rfl, ⟨C, dx, hC, upd_same, cl, na⟩, h1, nB⟩ hr, _, b, I, ?_⟩
      cases e : dv (ent N.length (.clo 0 :: ds)) b with
      | rt w b' =>
        rw [e] at h7
        exact fun σ H' e1 e2 e3 e4 => h7 H' e1 e2 e3 e4
      | err c' fs b' =>
        rw [e] at h7
        have h7 : match (if noClos fs = true then (.err c' fs b' : Res Wv) else .bad) with
          | .ok w b' => ∀ H', Ext bo H0 H' → BwOk bo b' H' → NdefX.TabsN T H' → RepW ⟨K, mg, fns, bo⟩ O H0 H' w (.ref x) → Q .non H'
          | .err c fs b' => ∀ cls d H', Ext bo H0 H' → BwOk bo b' H' → NdefX.TabsN T H' → RepX ⟨K, mg, fns, bo⟩ (vis H' O) c fs cls d → E cls d H'
          | .bad => False := h7
        by_cases nf : noClos fs = true
        · rw [if_pos nf] at h7
          exact fun cls d σ H' e1 e2 e3 e4 => h7 cls d H' (xt.trans e1) e2 e3 (RepX.fns nf (RepX.mono (vis_sub fun a z => .inl z) e4))
        · rw [if_neg nf] at h7
          exact False.elim h7
      | nx e' b' =>
        rw [e] at h7
        exact False.elim h7
      | bk e' b' =>
        rw [e] at h7
        exact False.elim h7
      | ct e' b' =>
        rw [e] at h7
        exact False.elim h7
      | bad =>
        rw [e] at h7
        exact False.elim h7
    · rw [if_neg q] at h7
      exact False.elim h7
/-- a class, as a caller makes instances of it -/
structure MkC (Pg : Program) (w : World) (K : PySem.W.Frag) (mg : Str → Option Value) (base : Heap) (T : List NdefX.NTab) (k : Nat) (x : Str) (n : Nat) (m : Mir) : Prop where
  ex : ∃ (C f : Addr) (fd : FuncData) (ps : List Str), mg x = some (.ref C) ∧ Mk K C f ∧ FnOk Pg w K mg base (L2.CX Pg w) k f fd ps (spI K mg T x n m) ∧ Binds K fd ps [] ∧ ps.length = n + 1
structure MkK (Pg : Program) (w : World) (K : PySem.W.Frag) (mg : Str → Option Value) (base : Heap) (T : List NdefX.NTab) (k : Nat) (x : Str) (n n1 : Nat) (ks : List Str) (pm : List Nat) (m : Mir) : Prop where
  ex : ∃ (C f : Addr) (fd : FuncData) (ps : List Str), mg x = some (.ref C) ∧ Mk K C f ∧ FnOk Pg w K mg base (L2.CX Pg w) k f fd ps (spI K mg T x n m) ∧ KB K fd ps (n1 + 1) ks (0 :: pm.map (· + 1)) ∧ ps.length = n + 1
theorem MkC.mono {j k n : Nat} {x : Str} {m : Mir} (c : MkC Pg w K mg base T j x n m) (h : j ≤ k) : MkC Pg w K mg base T k x n m := by
  obtain ⟨C, f, fd, ps, a1, a2, a3, a4⟩ := c.ex
  exact ⟨C, f, fd, ps, a1, a2, a3.mono h, a4⟩
theorem MkK.mono {j k n n1 : Nat} {x : Str} {ks : List Str} {pm : List Nat} {m : Mir} (c : MkK Pg w K mg base T j x n n1 ks pm m) (h : j ≤ k) : MkK Pg w K mg base T k x n n1 ks pm m := by
  obtain ⟨C, f, fd, ps, a1, a2, a3, a4⟩ := c.ex
  exact ⟨C, f, fd, ps, a1, a2, a3.mono h, a4⟩
end
section
variable {B : BP} {X : Cx} {e : Expr} {es : List Expr} {x : Str} {p pos : Pos} {σ : L2.St} {H : Hp} {Q : VK} {k n n1 : Nat} {m : Mir} {A Ak : EvA} {kws : List Keyword} {ks : List Str} {pm : List Nat}
theorem permL_self {α : Type} (a : α) (l : List α) : ∀ p : List Nat, permL (0 :: p.map (· + 1)) (a :: l) = a :: permL p l := fun p => by
  show (List.filterMap _ _) = _
  rw [List.filterMap_cons]
  show a :: List.filterMap (fun i => (a :: l)[i]?) (p.map (· + 1)) = a :: permL p l
  rw [List.filterMap_map]
  rfl
/-- what a making asks -/
theorem spI_of {env : Sls} {b1 : Bw} {H1 : Hp} {ds : List D} {vs : List V} {a dx C : Addr} (hn : ds.length = n) (hC : B.R.mg x = some (.ref C)) (I : Rel B env b1 σ H1) (x1 : Ext B.R.bo H H1) (r : RepL B.R (vis H1 (ownO B.O env σ)) ds vs) (w : wpG B RepW (ownO B.O env σ) H (m ds b1) σ Q)
    (na : H1 a = none) (nd : H1 dx = none) (hne : dx ≠ a) : spI B.R.K B.R.mg B.T x n m (.ref a :: vs) (upd (upd H1 dx (.own a)) a (.ins C dx [])) (fun v H2 => v = .non ∧ Q (.ref a) H2) (WE B.W σ) := by
  refine ⟨B.R.fns, B.R.bo, ownO B.O env σ, ds, b1, H1, a, dx, C, vs, rfl, hC, rfl, na, nd, hne, hn, r, I.bow, fun a q => I.bOO q, fun a q => I.od q, I.tab, ?_⟩
  cases e : m ds b1 with
  | ok v b2 =>
    rw [e] at w
    exact fun H' e1 e2 e3 e4 => ⟨rfl, w _ H' (x1.trans e1) e2 e3 (RepW.back e4 x1.dom)⟩
  | err c fs b2 =>
    rw [e] at w
    exact fun cls d H' e1 e2 e3 e4 => w cls d H' (x1.trans e1) e2 e3 e4
  | bad =>
    rw [e] at w
    exact w
theorem run_makeS {pins : List (Addr × Obj)} {s : Shared} {us : List Value} {vs : List V} {C f : Addr} {fd : FuncData} {ps : List Str} {sp : Sp} {E : XK} (M : Mk X.K C f) (F : FnOk X.prog X.w X.K X.mg X.base (L2.CX X.prog X.w) k f fd ps sp) (hr : Room (k + 1) X.A) (hb : Binds X.K fd ps [])
    (hx : PassesAt (L2.CX X.prog X.w) X σ E) (I : Inv X pins σ H s) (r : Vals vs us)
    (h : ∀ x dx, H x = none → H dx = none → dx ≠ x → sp (.ref x :: vs) (upd (upd H dx (.own x)) x (.ins C dx [])) (fun v H2 => v = .non ∧ Q (.ref x) H2) E) :
    wpAny (model X.prog X.w) X.A (call (.ref C) us) (EP X pins σ Q) X.xe s := by
  have hq := h (s.heap.objs.size + 1) s.heap.objs.size (I.hok.fresh (Nat.le_succ _)) (I.hok.fresh (Nat.le_refl _)) (Nat.ne_of_lt (Nat.lt_succ_self _))
  have I2 := Inv.made (C := C) I
  have r2 : Vals (V.ref (s.heap.objs.size + 1) :: vs) (Value.ref (s.heap.objs.size + 1) :: us) := .cons rfl r
  have hl : (Value.ref (s.heap.objs.size + 1) :: us).length = ps.length := by
    have e := r2.length
    rw [F.len _ _ _ _ hq] at e
    exact e.symm
  have hb2 := hb (s := _) (Value.ref (s.heap.objs.size + 1) :: us) I2.kIn (by simpa using hl)
  rw [List.append_nil] at hb2
  refine wpAny_call (make_map (f := f) I.kIn M.makes M.init (beq_iff_eq.mp M.fn) (codeAny_mono (F.run _ X.stack _ _ ⟨Value.ref (s.heap.objs.size + 1) :: us, []⟩ (Value.ref (s.heap.objs.size + 1) :: us) _ _ E (hr.make C us [])
    (I2.env0.make C us []) hb2 r2 hq) fun r s' hq' => ?_))
  cases r with
  | error e => exact hx pins _ _ e s' I2 hq'
  | ok fl =>
    cases fl with
    | ret u =>
      obtain ⟨v, H', I3, rv, ev, q3⟩ := I2.after hq'
      subst ev
      exact ⟨rv, ⟨V.ref (s.heap.objs.size + 1), H', I3, rfl, q3⟩⟩
    | next => exact False.elim hq'
    | brk => exact False.elim hq'
    | cont => exact False.elim hq'
theorem run_makeKS {pins : List (Addr × Obj)} {s : Shared} {us ws : List Value} {vs zs : List V} {C f : Addr} {fd : FuncData} {ps : List Str} {sp : Sp} {E : XK} (M : Mk X.K C f) (F : FnOk X.prog X.w X.K X.mg X.base (L2.CX X.prog X.w) k f fd ps sp) (hr : Room (k + 1) X.A) (hb : KB X.K fd ps (n1 + 1) ks (0 :: pm.map (· + 1)))
    (hx : PassesAt (L2.CX X.prog X.w) X σ E) (I : Inv X pins σ H s) (r : Vals vs us) (rz : Vals zs ws) (l1 : vs.length = n1) (l2 : zs.length = ks.length)
    (h : ∀ x dx, H x = none → H dx = none → dx ≠ x → sp (.ref x :: permL pm (vs ++ zs)) (upd (upd H dx (.own x)) x (.ins C dx [])) (fun v H2 => v = .non ∧ Q (.ref x) H2) E) :
    wpAny (model X.prog X.w) X.A (call (.ref C) us (ks.zip ws)) (EP X pins σ Q) X.xe s := by
  have hq := h (s.heap.objs.size + 1) s.heap.objs.size (I.hok.fresh (Nat.le_succ _)) (I.hok.fresh (Nat.le_refl _)) (Nat.ne_of_lt (Nat.lt_succ_self _))
  have I2 := Inv.made (C := C) I
  have r1 : Vals (V.ref (s.heap.objs.size + 1) :: vs) (Value.ref (s.heap.objs.size + 1) :: us) := .cons rfl r
  have r2 := vals_perm (r1.append rz) (0 :: pm.map (· + 1))
  rw [List.cons_append, List.cons_append, permL_self, permL_self] at r2
  have hb2 := hb _ (Value.ref (s.heap.objs.size + 1) :: us) ws I2.kIn (by rw [List.length_cons, ← r.length, l1]) (rz.length.symm.trans l2)
  rw [List.cons_append, permL_self] at hb2
  refine wpAny_call (make_map (f := f) I.kIn M.makes M.init (beq_iff_eq.mp M.fn) (codeAny_mono (F.run _ X.stack _ _ ⟨Value.ref (s.heap.objs.size + 1) :: us, ks.zip ws⟩ _ _ _ E (hr.make C us (ks.zip ws))
    (I2.env0.make C us (ks.zip ws)) hb2 r2 hq) fun r s' hq' => ?_))
  cases r with
  | error e => exact hx pins _ _ e s' I2 hq'
  | ok fl =>
    cases fl with
    | ret u =>
      obtain ⟨v, H', I3, rv, ev, q3⟩ := I2.after hq'
      subst ev
      exact ⟨rv, ⟨V.ref (s.heap.objs.size + 1), H', I3, rfl, q3⟩⟩
    | next => exact False.elim hq'
    | brk => exact False.elim hq'
    | cont => exact False.elim hq'
def fitM (n : Nat) (m : Mir) : Mir := fun ds b => if ds.length = n then m ds b else .bad
/-- C(e, ..) -/
theorem de_make (c : MkC X.prog X.w X.K X.mg X.base B.T k x n m) (hr : Room (k + 1) X.A) (tk : Takes X B.W) (hg : Gl X x) (ha : DA B X (e :: es) A) (hK : B.R.K = X.K := by rfl) (hM : B.R.mg = X.mg := by rfl)
    (hdb : (x == ("__debug__" : Str)) = false := by decide) (he : starEach (e :: es) X.env = (false, eval e X.env) :: starEach es X.env := by rfl) (hpl : (backTo pos (starEach es X.env)).any (·.1) = false := by rfl) :
    DE B X (.Call (.Name x p) (e :: es) [] pos) (dCall (fitM n m) A) := by
  refine ⟨fun pins s σ H Q I h => ?_⟩
  obtain ⟨C, f, fd, ps, hm, M, F, hb, hn⟩ := c.ex
  refine wpAny_Call_Name_kw (ld_glob I hg hm ?_ hdb)
  have h2 : rdA B A σ H fun vs H1 => ∀ a dx, H1 a = none → H1 dx = none → dx ≠ a → spI X.K X.mg B.T x n m (.ref a :: vs) (upd (upd H1 dx (.own a)) a (.ins C dx [])) (fun v H2 => v = .non ∧ Q (.ref a) H2) (WE B.W σ) := by
    refine rd_bind (k := fun ds _ b1 => fitM n m ds b1) h fun env ds b1 vs H1 I1 x1 r1 w => ?_
    unfold fitM at w
    by_cases q : ds.length = n
    · rw [if_pos q] at w
      rw [← hK, ← hM]
      exact fun a dx na nd ne => spI_of q (by rw [hM]; exact hm) I1 x1 r1 w na nd ne
    · rw [if_neg q] at w
      exact False.elim w
  refine PySem.W.callWith_K (h₀ := X.base) I.ok.mod.kin M.kp (thn (ha.run pos pins s σ H _ I h2) fun us s1 ⟨vs, H1, I1, r, q⟩ => ⟨I1.kIn, ?_⟩) he hpl
  exact run_makeS M F hr hb (passAt tk σ) I1 r q
/-- C(k = v, ..) -/
theorem de_makeK0 (c : MkK X.prog X.w X.K X.mg X.base B.T k x n 0 ks pm m) (hr : Room (k + 1) X.A) (tk : Takes X B.W) (hg : Gl X x) (hkw : DK B X kws Ak) (hK : B.R.K = X.K := by rfl) (hM : B.R.mg = X.mg := by rfl)
    (hall : (backToKw pos (keywordEach kws X.env)).all (·.1.isSome) = true := by rfl) (hks : (backToKw pos (keywordEach kws X.env)).filterMap (·.1) = ks := by rfl) (hdb : (x == ("__debug__" : Str)) = false := by decide)
    (hpl : ((backTo pos (starEach [] X.env)).any (·.1) || (backToKw pos (keywordEach kws X.env)).any (·.1.isNone)) = false := by rfl) :
    DE B X (.Call (.Name x p) [] kws pos) (dCallK (fitM n m) 0 ks.length pm dNil Ak) := by
  refine ⟨fun pins s σ H Q I h => ?_⟩
  obtain ⟨C, f, fd, ps, hm, M, F, hb, hn⟩ := c.ex
  obtain ⟨env, b, J, w⟩ := h
  refine wpAny_Call_Name_kw (ld_glob I hg hm ?_ hdb)
  refine PySem.W.callWith_KW0 (h₀ := X.base) I.ok.mod.kin M.kp hall ?_ hpl
  have w : wpG B RepW (ownO B.O env σ) H ((Ak env b).bind fun es b2 => if ([] : List D).length = 0 ∧ es.length = ks.length then fitM n m (permL pm ([] ++ es)) b2 else .bad) σ Q := w
  refine thn (hkw.run pos pins s σ H (fun zs H2 => zs.length = ks.length ∧ ∀ a dx, H2 a = none → H2 dx = none → dx ≠ a → spI X.K X.mg B.T x n m (.ref a :: permL pm ([] ++ zs)) (upd (upd H2 dx (.own a)) a (.ins C dx [])) (fun v H3 => v = .non ∧ Q (.ref a) H3) (WE B.W σ)) I ?_) fun ws s2 ⟨zs, H2, I2, rz, l2, q2⟩ => ⟨I2.kIn, ?_⟩
  · refine ⟨env, b, J, ?_⟩
    cases z : Ak env b with
    | bad =>
      rw [z] at w
      exact False.elim w
    | err c fs b2 =>
      rw [z] at w
      exact wpG_err (ρ1 := rhoL) w (Ext.refl H)
    | ok es b2 =>
      rw [z] at w
      intro zs H1 x1 x2 x3 x4
      have w : wpG B RepW (ownO B.O env σ) H (if ([] : List D).length = 0 ∧ es.length = ks.length then fitM n m (permL pm ([] ++ es)) b2 else .bad) σ Q := w
      by_cases q : ([] : List D).length = 0 ∧ es.length = ks.length
      · rw [if_pos q] at w
        unfold fitM at w
        by_cases q2 : (permL pm ([] ++ es)).length = n
        · rw [if_pos q2] at w
          refine ⟨by rw [← x4.length]; exact q.2, fun a dx na nd ne => ?_⟩
          rw [← hK, ← hM]
          exact spI_of q2 (by rw [hM]; exact hm) (J.go x1 x2 x3) x1 (RepL.perm (RepL.append RepL.nil x4) pm) w na nd ne
        · rw [if_neg q2] at w
          exact False.elim w
      · rw [if_neg q] at w
        exact False.elim w
  · rw [hks]
    exact run_makeKS (us := []) (vs := []) M F hr hb (passAt tk σ) I2 .nil rz rfl l2 q2
end
end DL

set_option Elab.async false
set_option linter.all false
set_option maxRecDepth 100000
set_option maxHeartbeats 400000
/-! own lists read while they are built; own classes in isinstance; zip; texts -/
namespace DL
open PySem PySem.Spec PyProof.Rows L2 LamX
/-! ### borrowing -/
mutual
def noLst : D → Bool
  | .non => true
  | .bl _ => true
  | .int _ => true
  | .str _ => true
  | .glo _ => true
  | .ty _ => true
  | .tup l => noLsts l
  | _ => false
def noLsts : List D → Bool
  | [] => true
  | d :: ds => noLst d && noLsts ds
end
/-- what is visible stays, tuples apart from nothing -/
def SubT (Hv Hw : Hp) : Prop := (∀ p xs, Rd Hv p (.tup xs) → Rd Hw p (.tup xs)) ∧ ∀ p o xs, Hv p = some (.frz o (.tup xs)) → Hw p = some (.frz o (.tup xs))
theorem SubT.tup {K : PySem.W.Frag} {H H' : Hp} {a : Addr} {xs : List V} (e : SubT H H') (h : SqX K H a xs) : SqX K H' a xs := ⟨h.1.elim (fun h => .inl (e.1 _ _ h)) .inr, fun q => (h.2 q).elim (fun ⟨o, u, z, d⟩ => .inl ⟨o, u, e.2 _ _ _ z, d⟩) .inr⟩
mutual
theorem Rep.skip {R : RC} {Hv Hw : Hp} (s : SubT Hv Hw) : ∀ {d : D} {v : V}, noLst d = true → Rep R Hv d v → Rep R Hw d v
  | .non, _, _, h => h
  | .bl _, _, _, h => h
  | .int _, _, _, h => h
  | .str _, _, _, h => h
  | .glo _, _, _, h => h
  | .ty _, _, _, h => h
  | .clo _, _, n, _ => by simp [noLst] at n
  | .bowl, _, n, _ => by simp [noLst] at n
  | .lst _, _, n, _ => by simp [noLst] at n
  | .dct _ _, _, n, _ => by simp [noLst] at n
  | .obj _ _, _, n, _ => by simp [noLst] at n
  | .tup l, v, n, h => by
    obtain ⟨a, vs, e, h1, h2, h3⟩ := h
    exact ⟨a, vs, e, s.tup h1, RepL.skip s (by simpa [noLst] using n) h2, h3⟩
theorem RepL.skip {R : RC} {Hv Hw : Hp} (s : SubT Hv Hw) : ∀ {ds : List D} {vs : List V}, noLsts ds = true → RepL R Hv ds vs → RepL R Hw ds vs
  | [], _, _, h => h
  | d :: ds, vs, n, h => by
    obtain ⟨v, r, e, h1, h2⟩ := h
    have n : noLst d = true ∧ noLsts ds = true := by simpa [noLsts] using n
    exact ⟨v, r, e, Rep.skip s n.1 h1, RepL.skip s n.2 h2⟩
end
def borW : Wv → Bool
  | .val d => noLst d
  | .own (.lst l) => noLsts l
  | _ => false
def borR (r : Res Wv) : Res Wv := match r with
  | .ok w b => if borW w then .ok w b else .bad
  | .err c fs b => if noLsts fs then .err c fs b else .bad
  | .bad => .bad
def dBor (i : Nat) (ev : Ev) : Ev := fun env b => match env[i]? with
  | some (.own d) => borR (ev (env.set i (.val d)) b)
  | _ => ev env b
def dBorT (i : Nat) (t : EvT) : EvT := fun env b => match env[i]? with
  | some (.own d) => (match t (env.set i (.val d)) b with
    | .ok c b1 => .ok c b1
    | _ => .bad)
  | _ => t env b
section
variable {B : BP} {X : Cx} {e : Expr} {ev : Ev} {t : EvT} {env : Sls} {b : Bw} {σ : L2.St} {H : Hp} {i : Nat} {d : D}
theorem own_frz (I : Rel B env b σ H) (e : env[i]? = some (.own d)) : ∃ a, σ[i]? = some (some (.ref a)) ∧ (∃ o, H a = some o ∧ (∀ ps, o ≠ .tbl ps) ∧ (∀ xs, o ≠ .tup xs) ∧ ∀ o' xs, o ≠ .frz o' (.tup xs)) ∧ (B.R.bo ≠ some a) ∧ B.He a = none ∧ ∀ c, ownO B.O env σ c → ownO B.O (env.set i (.val d)) σ c ∨ c = a := by
  obtain ⟨a, h1, h2, h3, h4⟩ := I.own i d e
  refine ⟨a, h1, ?_, fun q => h2 (I.bO a q), h3, fun c h => ?_⟩
  · cases d with
    | lst l =>
      obtain ⟨vs, h1, _⟩ := h4
      exact ⟨_, h1, (fun _ z => by cases z), (fun _ z => by cases z), (fun _ _ z => by cases z)⟩
    | dct ks l =>
      obtain ⟨vs, _, _, ⟨kk, q, _⟩ | ⟨kk, q, _⟩⟩ := h4
      · exact ⟨_, q, (fun _ z => by cases z), (fun _ z => by cases z), (fun _ _ z => by cases z)⟩
      · exact ⟨_, q, (fun _ z => by cases z), (fun _ z => by cases z), (fun _ _ z => by cases z)⟩
    | _ => exact h4.elim
  · rcases h with h | ⟨j, d', e1, e2⟩
    · exact .inl (.inl h)
    · by_cases z : j = i
      · subst z
        rw [h1] at e2
        cases e2
        exact .inr rfl
      · exact .inl (.inr ⟨j, d', by rw [List.getElem?_set_ne (Ne.symm z)]; exact e1, e2⟩)
theorem vis_skip {H : Hp} {O O' : Addr → Prop} {a : Addr} {o : HO} (ho : ∀ c, O c → O' c ∨ c = a) (e : H a = some o) (n1 : ∀ xs, o ≠ .tup xs) (n2 : ∀ o' xs, o ≠ .frz o' (.tup xs)) : SubT (vis H O') (vis H O) := by
  have key : ∀ p u, vis H O' p = some u → ((∃ xs, u = .tup xs) ∨ ∃ o' xs, u = .frz o' (.tup xs)) → vis H O p = some u := fun p u hu hk => by
    obtain ⟨e1, e2⟩ := of_vis hu
    refine vis_of e1 fun z => ?_
    rcases ho p z with z | z
    · exact e2 z
    · subst z
      rw [e] at e1
      cases e1
      rcases hk with ⟨xs, rfl⟩ | ⟨o', xs, rfl⟩
      · exact n1 _ rfl
      · exact n2 _ _ rfl
  refine ⟨fun p xs h => ?_, fun p o xs h => key _ _ h (.inr ⟨_, _, rfl⟩)⟩
  rcases h with h | ⟨o', h⟩
  · exact .inl (key _ _ h (.inl ⟨_, rfl⟩))
  · exact .inr ⟨o', key _ _ h (.inr ⟨_, _, rfl⟩)⟩
theorem borW_ok {R : RC} {O O' : Addr → Prop} {H0 H' : Hp} {a : Addr} {o o0 : HO} {w : Wv} {v : V} (hw : borW w = true) (h0 : H0 a = some o0) (ho : ∀ c, O c → O' c ∨ c = a) (e : H' a = some o) (n1 : ∀ xs, o ≠ .tup xs) (n2 : ∀ o' xs, o ≠ .frz o' (.tup xs)) (r : RepW R O' H0 H' w v) : RepW R O H0 H' w v := by
  cases w with
  | val d => exact Rep.skip (vis_skip ho e n1 n2) hw r
  | own d =>
    cases d with
    | lst l =>
      obtain ⟨p, rfl, hp, hO, vs, h1, h2, h3⟩ := r
      refine ⟨p, rfl, hp, fun z => ?_, vs, h1, RepL.skip (vis_skip (fun c z => ?_) e n1 n2) hw h2, h3⟩
      · rcases ho p z with z | z
        · exact hO z
        · rw [z, h0] at hp
          cases hp
      · rcases z with z | z
        · rcases ho c z with z | z
          · exact .inl (.inl z)
          · exact .inr z
        · exact .inl (.inr z)
    | _ => cases hw
theorem de_bor (i : Nat) (h : DE B X e ev) : DE B X e (dBor i ev) := imp_PE h fun σ H Q w => by
  obtain ⟨env, b, I, w⟩ := w
  have w : wpG B RepW (ownO B.O env σ) H (match env[i]? with
    | some (.own d) => borR (ev (env.set i (.val d)) b)
    | _ => ev env b) σ Q := w
  split at w
  · rename_i d e0
    obtain ⟨a, hs, ⟨o, ha, nt, n1, n2⟩, nb, he, ho⟩ := own_frz I e0
    refine ⟨_, b, I.frz e0, ?_⟩
    cases q : ev (env.set i (.val d)) b with
    | ok u b1 =>
      rw [q] at w
      intro x H' x1 x2 x3 x4
      have w : wpG B RepW (ownO B.O env σ) H (if borW u then .ok u b1 else .bad) σ Q := w
      by_cases z : borW u = true
      · rw [if_pos z] at w
        exact w x H' x1 x2 x3 (borW_ok z ha ho (x1.keep _ _ ha nb nt) n1 n2 x4)
      · rw [if_neg z] at w
        exact False.elim w
    | err c fs b1 =>
      rw [q] at w
      intro cls dd H' x1 x2 x3 x4
      have w : wpG B RepW (ownO B.O env σ) H (if noLsts fs then .err c fs b1 else .bad) σ Q := w
      by_cases z : noLsts fs = true
      · rw [if_pos z] at w
        refine w cls dd H' x1 x2 x3 ?_
        obtain ⟨C, hC, e1, r⟩ := x4
        refine ⟨C, hC, e1, ?_⟩
        cases fs with
        | nil => exact r
        | cons f fr =>
          obtain ⟨d2, vs, e2, e3, e4, e5⟩ := r
          have hH := x1.keep _ _ ha nb nt
          refine ⟨d2, vs, e2, ?_, e4, RepL.skip (vis_skip ho hH n1 n2) z e5⟩
          obtain ⟨e6, e7⟩ := of_vis e3
          refine vis_of e6 fun z => ?_
          rcases ho _ z with z | z
          · exact e7 z
          · rw [z, hH] at e6
            cases d with
            | lst l =>
              obtain ⟨a', s1, s2, s3, vs', s4, _⟩ := I.own i _ e0
              rw [hs] at s1
              cases s1
              rw [ha] at s4
              cases s4
              cases e6
            | dct ks l =>
              obtain ⟨a', s1, s2, s3, vs', _, _, ⟨kk, s4, _⟩ | ⟨kk, s4, _⟩⟩ := I.own i _ e0
              all_goals
                rw [hs] at s1
                cases s1
                rw [ha] at s4
                cases s4
                cases e6
            | _ =>
              obtain ⟨a', s1, s2, s3, s4⟩ := I.own i _ e0
              exact s4.elim
      · rw [if_neg z] at w
        exact False.elim w
    | bad =>
      rw [q] at w
      exact False.elim w
  · exact ⟨env, b, I, w⟩
theorem dt_bor (i : Nat) (h : DT B X e t) : DT B X e (dBorT i t) := imp_PT h fun σ H Q w => by
  obtain ⟨env, b, I, w⟩ := w
  have w : wpG B rhoB (ownO B.O env σ) H (match env[i]? with
    | some (.own d) => (match t (env.set i (.val d)) b with
      | .ok c b1 => .ok c b1
      | _ => .bad)
    | _ => t env b) σ Q := w
  split at w
  · rename_i d e0
    refine ⟨_, b, I.frz e0, ?_⟩
    cases q : t (env.set i (.val d)) b with
    | ok u b1 =>
      rw [q] at w
      exact fun x H' x1 x2 x3 x4 => w x H' x1 x2 x3 x4
    | err c fs b1 =>
      rw [q] at w
      exact False.elim w
    | bad =>
      rw [q] at w
      exact False.elim w
  · exact ⟨env, b, I, w⟩
end
/-! ### isinstance, own classes too -/
structure ClsF (K : PySem.W.Frag) (mg : Str → Option Value) (cs : List Str) : Prop where
  one : ∀ c ∈ cs, ∃ C, mg c = some (.ref C) ∧ ClsI K C ∧ ∀ n ∈ baseTys, PySem.W.kitOne K (.type n) (.ref C) = some false
  two : ∀ c ∈ cs, ∀ c' ∈ cs, c ≠ c' → ∀ C C', mg c = some (.ref C) → mg c' = some (.ref C') → PySem.W.kitOne K (.ref C') (.ref C) = some false
def fIsiC (cs : List Str) (x y : D) : Option Wv := match y with
  | .glo c => if cs.contains c then (match x with
    | .obj c' _ => if cs.contains c' then vB (c' == c) else none
    | _ => match tyN x with
      | some _ => vB false
      | none => none) else none
  | _ => fIsi x y
theorem tyN_base {d : D} {t : String} (h : tyN d = some t) : t ∈ baseTys := by
  cases d <;> simp [tyN] at h <;> subst h <;> decide
theorem hl_isiC {R : RC} {cs : List Str} (F : ClsF R.K R.mg cs) : HLok R (f2 (fIsiC cs)) (rIsi R.K) := fun ds w vs H O Q h od r q => by
  obtain ⟨d, e, rfl, h⟩ := f2_inv h
  cases e with
  | glo c =>
    have h : (if cs.contains c then (match d with
      | .obj c' _ => if cs.contains c' then vB (c' == c) else none
      | _ => match tyN d with
        | some _ => vB false
        | none => none) else none) = some w := h
    by_cases hc : cs.contains c = true
    · rw [if_pos hc] at h
      obtain ⟨v, u, rfl, r1, r2⟩ := rep2 r
      obtain ⟨C, hC, ci, hb⟩ := F.one c (List.contains_iff_mem.mp hc)
      obtain ⟨f, rfl, hf⟩ := r2
      rw [hC] at hf
      cases hf
      have fin : ∀ t b, TyX R.K H v t → PySem.W.kitOne R.K t (.ref C) = some b → vB b = some w → rIsi R.K [v, .ref C] H Q := fun t b ty kk e => by
        cases e
        exact ⟨v, .ref C, t, .ref C, b, rfl, .own C, ty, kk, q _ _ (Same.refl _) rfl⟩
      have base : ∀ t, tyN d = some t → vB false = some w → rIsi R.K [v, .ref C] H Q := fun t ht e =>
        fin _ _ (tyX_of (R := R) rfl ht (Rep.mono vis_all r1)) (hb t (tyN_base ht)) e
      cases d with
      | obj c' fs =>
        have h : (if cs.contains c' then vB (c' == c) else none) = some w := h
        by_cases hc' : cs.contains c' = true
        · rw [if_pos hc'] at h
          obtain ⟨a, C', dx, vs, rfl, hC', hH, _, _⟩ := r1
          obtain ⟨_, _, ci', _⟩ := F.one c' (List.contains_iff_mem.mp hc')
          rename_i C2 hC2 _
          rw [hC'] at hC2
          cases hC2
          obtain ⟨hH1, _⟩ := of_vis hH
          refine fin (.ref C') (c' == c) (.base (.ins hH1 ci'.cl ci'.ha ci'.hn ci'.htk ci'.hm)) ?_ h
          by_cases z : c' = c
          · subst z
            rw [hC] at hC'
            cases hC'
            rw [beq_self_eq_true]
            unfold PySem.W.kitOne
            rw [if_pos (by simp)]
          · rw [beq_eq_false_iff_ne.mpr z]
            exact F.two c (List.contains_iff_mem.mp hc) c' (List.contains_iff_mem.mp hc') (Ne.symm z) C C' hC hC'
        · rw [if_neg hc'] at h
          cases h
      | non => exact base _ rfl h
      | bl b => exact base _ rfl h
      | int b => exact base _ rfl h
      | str b => exact base _ rfl h
      | lst b => exact base _ rfl h
      | tup b => exact base _ rfl h
      | _ => cases h
    · rw [if_neg hc] at h
      cases h
  | _ => exact hl_isi _ _ _ H O Q (by rw [f2]; exact h) od r q
/-! ### zip of two tuples or two lists -/
def zipD : List D → List D → List D
  | x :: xs, y :: ys => .tup [x, y] :: zipD xs ys
  | _, _ => []
theorem zipD_get : ∀ {xs ys : List D} {i : Nat} {d : D}, (zipD xs ys)[i]? = some d → ∃ x y, xs[i]? = some x ∧ ys[i]? = some y ∧ d = .tup [x, y]
  | [], _, _, _, h => by simp [zipD] at h
  | _ :: _, [], _, _, h => by simp [zipD] at h
  | x :: xs, y :: ys, 0, d, h => by
    simp [zipD] at h
    exact ⟨x, y, rfl, rfl, h.symm⟩
  | x :: xs, y :: ys, i + 1, d, h => by
    simp only [zipD, List.getElem?_cons_succ] at h
    obtain ⟨a, b, h1, h2, h3⟩ := zipD_get h
    exact ⟨a, b, by simpa using h1, by simpa using h2, h3⟩
theorem zipD_len : ∀ {xs ys : List D}, (zipD xs ys).length = min xs.length ys.length
  | [], _ => by simp [zipD]
  | _ :: _, [] => by simp [zipD]
  | x :: xs, y :: ys => by simp [zipD, zipD_len]
def noStr (l : List D) : Bool := l.all fun d => !isStrD d
theorem noStr_at {R : RC} {H : Hp} {l : List D} {i : Nat} {d : D} {v : V} (n : noStr l = true) (e : l[i]? = some d) (r : Rep R H d v) : isSV v = false := by
  have z := List.all_eq_true.mp n d (List.mem_of_getElem? e)
  rw [isStr_eq r] at z
  simpa using z
theorem strV_cons2 {x y : V} {xs : List V} (h : isSV y = false) : strV (x :: y :: xs) = false := by
  simp [strV, h]
theorem zip_str {R : RC} {H : Hp} {ds es : List D} {i : Nat} {x y : D} {v u : V} (n : (noStr ds || noStr es) = true) (e1 : ds[i]? = some x) (e2 : es[i]? = some y) (r1 : Rep R H x v) (r2 : Rep R H y u) : strV [v, u] = false := by
  rw [Bool.or_eq_true] at n
  rcases n with n | n
  · exact strV_cons (noStr_at n e1 r1)
  · exact strV_cons2 (noStr_at n e2 r2)
theorem it_zipT {R : RC} {Pi Pv : Hp} {a b : Addr} {vs us : List V} {ds es : List D} (h : SqX R.K Pi a vs) (g : SqX R.K Pi b us) (r : RepL R Pv ds vs) (r' : RepL R Pv es us) (n : (noStr ds || noStr es) = true) : ItRep R Pi Pv (RZ.ItzT R.K a b) (zipD ds es) := fun H O s1 s2 od => by
  have hH := s1.tup h.1
  have gH := s1.tup g.1
  refine ⟨fun i d e => ?_, ⟨vs, us, hH, gH, by rw [zipD_len, r.length, r'.length]; omega⟩⟩
  obtain ⟨x, y, ex, ey, ed⟩ := zipD_get e
  obtain ⟨v, e1, r1⟩ := r.get ex
  obtain ⟨u, e2, r2⟩ := r'.get ey
  refine ⟨⟨vs, us, v, u, hH, gH, e1, e2⟩, fun z H' q => ?_⟩
  obtain ⟨T, x', y', rfl, hT, hH', hx, hy⟩ := q
  have z1 := hx vs hH
  have z2 := hy us gH
  rw [e1] at z1
  rw [e2] at z2
  cases z1
  cases z2
  subst ed
  exact ⟨by rw [hH']; exact same_upd hT, pair_rep hT od hH' (r1.mono s2) (r2.mono s2) (zip_str n ex ey r1 r2)⟩
theorem it_zipL {R : RC} {Pi Pv : Hp} {a b : Addr} {vs us : List V} {ds es : List D} (h : SqL R.K Pi a vs) (g : SqL R.K Pi b us) (r : RepL R Pv ds vs) (r' : RepL R Pv es us) (n : (noStr ds || noStr es) = true) : ItRep R Pi Pv (Itz R.K a b) (zipD ds es) := fun H O s1 s2 od => by
  have hH := s1.seq h
  have gH := s1.seq g
  refine ⟨fun i d e => ?_, ⟨vs, us, hH, gH, by rw [zipD_len, r.length, r'.length]; omega⟩⟩
  obtain ⟨x, y, ex, ey, ed⟩ := zipD_get e
  obtain ⟨v, e1, r1⟩ := r.get ex
  obtain ⟨u, e2, r2⟩ := r'.get ey
  refine ⟨⟨vs, us, v, u, hH, gH, e1, e2⟩, fun z H' q => ?_⟩
  obtain ⟨T, x', y', rfl, hT, hH', hx, hy⟩ := q
  have z1 := hx vs hH
  have z2 := hy us gH
  rw [e1] at z1
  rw [e2] at z2
  cases z1
  cases z2
  subst ed
  exact ⟨by rw [hH']; exact same_upd hT, pair_rep hT od hH' (r1.mono s2) (r2.mono s2) (zip_str n ex ey r1 r2)⟩
def zip1 (ds : List D) (b : Bw) : Res (List D) := match ds with
  | [.tup xs, .tup ys] => if noStr xs || noStr ys then .ok (zipD xs ys) b else .bad
  | [.lst xs, .lst ys] => if noStr xs || noStr ys then .ok (zipD xs ys) b else .bad
  | _ => .bad
def dZip (A : EvA) : EvI := fun env b => (A env b).bind fun ds b1 => zip1 ds b1
section
variable {B : BP} {X : Cx} {e e2 : Expr} {A : EvA} {p pos tpos : Pos} {elts : List Expr} {kk : Nat} {ev : Ev} {tg : Expr}
theorem zip1_inv {ds : List D} {b : Bw} : (∃ xs ys, (ds = [.tup xs, .tup ys] ∨ ds = [.lst xs, .lst ys]) ∧ (noStr xs || noStr ys) = true ∧ zip1 ds b = .ok (zipD xs ys) b) ∨ zip1 ds b = .bad := by
  unfold zip1
  split
  · split
    · exact .inl ⟨_, _, .inl rfl, by assumption, rfl⟩
    · exact .inr rfl
  · split
    · exact .inl ⟨_, _, .inr rfl, by assumption, rfl⟩
    · exact .inr rfl
  · exact .inr rfl
theorem di_zip (hg : Gl X "zip") (hm : X.mg "zip" = none) (ha : DA B X [e, e2] A) (hK : B.R.K = X.K := by rfl)
    (hs : starEach [e, e2] X.env = (false, eval e X.env) :: starEach [e2] X.env := by rfl) (hpl : (backTo pos (starEach [e2] X.env)).any (·.1) = false := by rfl) : DI B X (.Tuple elts kk tpos) (.Call (.Name "zip" p) [e, e2] [] pos) (dZip A) :=
  imp_PI (RZ.pi_zipA hg hm ha hs hpl) fun σ H R w => by
    refine rd_bind (ρ := rhoI) (k := fun (ds : List D) _ b1 => zip1 ds b1) w fun env ds b1 x H1 I1 x1 r w => ?_
    have r : RepL B.R (vis H1 (ownO B.O env σ)) ds x := r
    rcases zip1_inv (ds := ds) (b := b1) with ⟨xs, ys, hd, nn, e1⟩ | e1
    · rw [e1] at w
      rcases hd with rfl | rfl
      · obtain ⟨v, u, rfl, r1, r2⟩ := rep2 r
        obtain ⟨a, vs, rfl, h1, h2, h3⟩ := r1
        obtain ⟨c, us, rfl, g1, g2, g3⟩ := r2
        refine ⟨a, c, vs, us, rfl, .inr ⟨by rw [← hK]; exact vis_sqt h1, by rw [← hK]; exact vis_sqt g1, ?_⟩⟩
        rw [← hK]
        exact wpG_ok (x := RZ.ItzT B.R.K a c) w x1 I1.bow I1.tab ⟨it_zipT h1 g1 h2 g2 nn, by rw [zipD_len]; omega⟩
      · obtain ⟨v, u, rfl, r1, r2⟩ := rep2 r
        obtain ⟨a, vs, rfl, h1, h2, h3⟩ := r1
        obtain ⟨c, us, rfl, g1, g2, g3⟩ := r2
        refine ⟨a, c, vs, us, rfl, .inl ⟨by rw [← hK]; exact vis_sql h1, by rw [← hK]; exact vis_sql g1, ?_⟩⟩
        rw [← hK]
        exact wpG_ok (x := Itz B.R.K a c) w x1 I1.bow I1.tab ⟨it_zipL h1 g1 h2 g2 nn, by rw [zipD_len]; omega⟩
    · rw [e1] at w
      exact False.elim w
/-! ### a text, sign by sign -/
def signs (z : Str) : List D := z.cps.toList.map fun c => .str ⟨#[c]⟩
def okSigns (z : Str) : Bool := okS z && z.cps.toList.all fun c => okS ⟨#[c]⟩
def str1 (d : D) (b : Bw) : Res (List D) := match d with
  | .str z => if okSigns z then .ok (signs z) b else .bad
  | _ => .bad
def dStrI (ea : Ev) : EvI := fun env b => (ea env b).bind fun w b1 => str1 w.d b1
theorem it_str {R : RC} {Pi Pv : Hp} {z : Str} (h : okSigns z = true) : ItRep R Pi Pv (Its z) (signs z) := fun H O _ _ _ => by
  refine ⟨fun i d e => ?_, by show z.cps.size ≤ _; simp [signs]⟩
  unfold signs at e
  rw [List.getElem?_map] at e
  cases q : z.cps.toList[i]? with
  | none =>
    rw [q] at e
    cases e
  | some c =>
    rw [q] at e
    cases e
    have q' : z.cps[i]? = some c := by simpa using q
    refine ⟨(Array.getElem?_eq_some_iff.mp q').1, fun x H' hx => ?_⟩
    obtain ⟨rfl, c', ec, rfl⟩ := hx
    rw [q'] at ec
    cases ec
    have h : okS z = true ∧ (z.cps.toList.all fun c => okS ⟨#[c]⟩) = true := by simpa [okSigns] using h
    exact ⟨Same.refl _, rfl, List.all_eq_true.mp h.2 c (List.mem_of_getElem? q)⟩
theorem di_str (h : DE B X e ev) : DI B X tg e (dStrI ev) := imp_PI (pi_str h) fun σ H R w => by
  refine rd_bind (ρ := rhoI) (k := fun (w : Wv) _ b1 => str1 w.d b1) w fun env w1 b1 x H1 I1 x1 r1 w => ?_
  have r := r1.rep
  cases z : w1.d with
  | str s =>
    rw [z] at r w
    have w : wpG B rhoI (ownO B.O env σ) H (if okSigns s then .ok (signs s) b1 else .bad) σ R := w
    by_cases q : okSigns s = true
    · rw [if_pos q] at w
      refine ⟨s, r.1, wpG_ok w x1 I1.bow I1.tab ⟨it_str q, ?_⟩⟩
      have h : okS s = true := by
        have : okS s = true ∧ (s.cps.toList.all fun c => okS ⟨#[c]⟩) = true := by simpa [okSigns] using q
        exact this.1
      have := (okS_len h).1
      unfold signs
      simpa [Str.length] using this
    · rw [if_neg q] at w
      exact False.elim w
  | _ =>
    rw [z] at w
    exact False.elim w
end
/-! ### a list, a tuple, a text -/
def seqS1 (d : D) (b : Bw) : Res (List D) := match d with
  | .lst l => .ok l b
  | .tup l => .ok l b
  | _ => .bad
/-! ### order of texts, a sign in a text -/
section
variable {X : Cx}
def rLtG : R2 := fun x y H Q => rI0 (fun i j => .bl (decide (i < j))) x y H Q ∨ ∃ i j, x = .str i ∧ y = .str j ∧ Q (.bl (decide (i.cps.toList < j.cps.toList))) H
theorem op_ltG : OpR X (compareOp .Lt) rLtG := OpR.or op_lt op_lt_str
def fLtG (x y : D) : Option Wv := match x, y with
  | .int i, .int j => vB (decide (i < j))
  | .str i, .str j => vB (decide (i.cps.toList < j.cps.toList))
  | _, _ => none
theorem h_ltG {R : RC} : H2ok R fLtG rLtG := fun d1 d2 w x y H O Q h od r1 r2 q => by
  match d1, d2, h with
  | .int i, .int j, h => 
    cases r1
    cases r2
    cases h
    exact .inl ⟨i, j, rfl, rfl, q _ _ (Same.refl _) rfl⟩
  | .str i, .str j, h =>
    obtain ⟨rfl, _⟩ := r1
    obtain ⟨rfl, _⟩ := r2
    cases h
    exact .inr ⟨i, j, rfl, rfl, q _ _ (Same.refl _) rfl⟩
def rInS : R2 := fun x y H Q => ∃ (c : Nat) (z : Str), x = .str ⟨#[c]⟩ ∧ y = .str z ∧ Q (.bl (decide (c ∈ z.cps.toList))) H
def fInS (x y : D) : Option Wv := match x, y with
  | .str a, .str z => (match a.cps.toList with
    | [c] => vB (decide (c ∈ z.cps.toList))
    | _ => none)
  | _, _ => fIn x y
def fNotInS (x y : D) : Option Wv := match x, y with
  | .str a, .str z => (match a.cps.toList with
    | [c] => vB (!decide (c ∈ z.cps.toList))
    | _ => none)
  | _, _ => fNotIn x y
theorem str1_of {a : Str} {c : Nat} (h : a.cps.toList = [c]) : a = ⟨#[c]⟩ := by
  obtain ⟨l⟩ := a
  have : l = #[c] := by
    apply Array.toList_inj.mp
    simpa using h
  rw [this]
theorem h_inS {R : RC} : H2ok R fInS (fun x y H Q => (rInD R.K x y H Q ∨ rInT R.K x y H Q) ∨ rInS x y H Q) := fun d1 d2 w x y H O Q h od r1 r2 q => by
  by_cases z : ∃ a s, d1 = .str a ∧ d2 = .str s
  · obtain ⟨a, s, rfl, rfl⟩ := z
    obtain ⟨rfl, _⟩ := r1
    obtain ⟨rfl, _⟩ := r2
    have h : (match a.cps.toList with
      | [c] => vB (decide (c ∈ s.cps.toList))
      | _ => none) = some w := h
    split at h
    · rename_i c hc
      cases h
      exact .inr ⟨c, s, by rw [str1_of hc], rfl, q _ _ (Same.refl _) rfl⟩
    · cases h
  · refine .inl (h_in d1 d2 w x y H O Q ?_ od r1 r2 q)
    unfold fInS at h
    split at h
    · exact absurd ⟨_, _, rfl, rfl⟩ z
    · exact h
theorem h_notInS {R : RC} : H2ok R fNotInS (fun x y H Q => (rNotInD R.K x y H Q ∨ rNotInT R.K x y H Q) ∨ (∃ (c : Nat) (z : Str), x = .str ⟨#[c]⟩ ∧ y = .str z ∧ Q (.bl (!decide (c ∈ z.cps.toList))) H)) := fun d1 d2 w x y H O Q h od r1 r2 q => by
  by_cases z : ∃ a s, d1 = .str a ∧ d2 = .str s
  · obtain ⟨a, s, rfl, rfl⟩ := z
    obtain ⟨rfl, _⟩ := r1
    obtain ⟨rfl, _⟩ := r2
    have h : (match a.cps.toList with
      | [c] => vB (!decide (c ∈ s.cps.toList))
      | _ => none) = some w := h
    split at h
    · rename_i c hc
      cases h
      exact .inr ⟨c, s, by rw [str1_of hc], rfl, q _ _ (Same.refl _) rfl⟩
    · cases h
  · refine .inl (h_notIn d1 d2 w x y H O Q ?_ od r1 r2 q)
    unfold fNotInS at h
    split at h
    · exact absurd ⟨_, _, rfl, rfl⟩ z
    · exact h
end
/-! ### text.split(sep) -/
section
variable {B : BP} {X : Cx} {e a : Expr} {ev ea : Ev} {pos apos : Pos}
def splD (x y : D) : Option Wv := match x, y with
  | .str a, .str b => if (b.length == 0) = false ∧ (Txt.split a b).all okS = true ∧ (Txt.split a b).length ≤ LIM then some (.own (.lst ((Txt.split a b).map .str))) else none
  | _, _ => none
def isStr : D → Bool
  | .str z => okS z
  | _ => false
def dSplit (ev ea : Ev) : Ev := fun env b => (ev env b).bind fun w b1 => if isStr w.d then (ea env b1).bind fun u b2 => optR (splD w.d u.d) b2 else .bad
theorem repL_strs' {R : RC} {H : Hp} {l : List Str} (h : l.all okS = true) : RepL R H (l.map D.str) (l.map V.str) := repL_strs fun x hx => List.all_eq_true.mp h x hx
theorem de_split (he : DE B X e ev) (ha : DE B X a ea)
    (hbase : attributeBase e "split" X.env (eval e X.env) = eval e X.env := by rfl)
    (hfew : ((backTo pos (starEach [a] X.env)).all (fun x => !x.1) && (backToKw pos (keywordEach [] X.env)).all (fun x => x.1.isSome)
      && decide ([a].length + ([] : List Keyword).length + (if ([] : List Keyword).isEmpty then 0 else 1) < 30)) = true := by rfl)
    (hline : (apos.endLine == pos.line) = true := by rfl) (hs : starEach [a] X.env = (false, eval a X.env) :: starEach [] X.env := by rfl) (hplain : (backTo pos (starEach [] X.env)).any (·.1) = false := by rfl) :
    DE B X (.Call (.Attribute e "split" apos) [a] [] pos) (dSplit ev ea) :=
  imp_PE (pe_bm PySem.F.plainAttrs_str PySem.F.slot_str_split PySem.F.type_str_split mt_split he (pa_cons ha pa_nil hs) hbase hfew hline hs hplain) fun σ H Q w => by
    refine rd_bind (k := fun (w : Wv) env b1 => if isStr w.d then (ea env b1).bind fun u b2 => optR (splD w.d u.d) b2 else .bad) w fun env w1 b1 x H1 I1 x1 r1 w => ?_
    have r1 := r1.rep
    by_cases z : isStr w1.d = true
    · rw [if_pos z] at w
      cases ed : w1.d with
      | str s =>
        rw [ed] at w r1 z
        obtain ⟨rfl, ok⟩ := r1
        refine ⟨rfl, ?_⟩
        refine ⟨env, b1, I1, ?_⟩
        cases q : ea env b1 with
        | ok u b2 =>
          rw [q] at w
          intro y H2 e1 e2 e3 e4
          have w : wpG B RepW (ownO B.O env σ) H (optR (splD (.str s) u.d) b2) σ Q := w
          have I2 := I1.go e1 e2 e3
          cases hq : splD (.str s) u.d with
          | none =>
            rw [hq] at w
            exact False.elim w
          | some w2 =>
            rw [hq] at w
            have r2 := e4.rep
            cases eu : u.d with
            | str t =>
              rw [eu] at r2 hq
              obtain ⟨rfl, ok2⟩ := r2
              have hq : (if (t.length == 0) = false ∧ (Txt.split s t).all okS = true ∧ (Txt.split s t).length ≤ LIM then some (Wv.own (.lst ((Txt.split s t).map .str))) else none) = some w2 := hq
              by_cases hc : (t.length == 0) = false ∧ (Txt.split s t).all okS = true ∧ (Txt.split s t).length ≤ LIM
              · rw [if_pos hc] at hq
                cases hq
                refine ⟨s, t, rfl, rfl, hc.1, ?_, fun p hp => ?_⟩
                · have := (okS_len ok).1
                  have : s.length + 2 ≤ sizeLine := Nat.le_trans (Nat.add_le_add_right this 2) (by decide)
                  exact this
                · exact nw_of I2 (x1.trans e1) w _ _ (same_upd hp) (new_lst (fun a h => I2.nod a h) (repL_strs' hc.2.1) (by rw [List.length_map]; exact hc.2.2) hp)
              · rw [if_neg hc] at hq
                cases hq
            | _ =>
              rw [eu] at hq
              cases hq
        | err c fs b2 =>
          rw [q] at w
          exact wpG_err (ρ1 := RepW) w x1
        | bad =>
          rw [q] at w
          exact False.elim w
      | _ =>
        rw [ed] at z
        cases z
    · rw [if_neg z] at w
      exact False.elim w
end
end DL

set_option Elab.async false
set_option linter.all false
set_option maxRecDepth 100000
set_option maxHeartbeats 400000
/-! own classes in the head's facts -/
namespace DL
open PySem PySem.Spec PyProof.Rows L2 LamX NdefX
/-- the class c: its instances have the one attribute f; its __init__ -/
structure ClsE (K : PySem.W.Frag) (mg : Str → Option Value) (c f : Str) (init : Stmt) (q : Str) : Prop where
  ex : ∃ (C fI : Addr) (fd : FuncData), mg c = some (.ref C) ∧ Mk K C fI ∧ Cls K C ∧ NoAttr K C f ∧ FunD K "__init__" q (defArgs init) (defBody init) (defScope init) [] [] fI fd
structure PropE (K : PySem.W.Frag) (mg : Str → Option Value) (c p : Str) (st : Stmt) (q : Str) : Prop where
  ex : ∃ (C pa g : Addr) (fd : FuncData), mg c = some (.ref C) ∧ Cls K C ∧ PropOf K C p pa g ∧ FunD K p q (defArgs st) (defBody st) (defScope st) [] [] g fd
theorem ClsE.mg {K : PySem.W.Frag} {mg : Str → Option Value} {c f q : Str} {init : Stmt} (h : ClsE K mg c f init q) : mg c = some (.ref h.ex.choose) := h.ex.choose_spec.choose_spec.choose_spec.1
theorem ClsE.fld {K : PySem.W.Frag} {mg : Str → Option Value} {c f q : Str} {init : Stmt} (h : ClsE K mg c f init q) (ha : attrsOf c = [f] := by rfl) : Fld1 K mg c f := by
  obtain ⟨C, fI, fd, h1, h2, h3, h4, h5⟩ := h.ex
  exact ⟨⟨C, h1, h3, h4⟩, ha⟩
theorem ClsE.own {K : PySem.W.Frag} {mg : Str → Option Value} {c f q : Str} {init : Stmt} (h : ClsE K mg c f init q) : ∀ C, mg c = some (.ref C) → Cls K C ∧ NoAttr K C f := by
  obtain ⟨C, fI, fd, h1, h2, h3, h4, h5⟩ := h.ex
  intro C' h'
  rw [h1] at h'
  cases h'
  exact ⟨h3, h4⟩
section
variable {fa : List He.Fa} {fn : List He.DefD} {gt : List GetD} {tf : List He.Defn} {ex : PySem.W.Frag → Bool} {w : World} {h : Heap} {K : PySem.W.Frag} {mg : Str → Option Value}
theorem SaysY.ex_ (c : SaysY fa fn gt tf ex w h K) : ex K = true := (He.ba (show (ex K && gt.all (getOk K)) = true from c.x.more)).1
theorem SaysY.get (c : SaysY fa fn gt tf ex w h K) (i : Nat) {t : GetD} (hi : gt[i]? = some t := by rfl) : PropOf K (He.ga K t.cls) t.prop (propAd K t) (getAd K t) ∧ ∃ fd, FunD K t.d.name t.d.qual t.d.params t.d.body t.d.scope (t.d.dvs K) (t.d.kws K) (getAd K t) fd := by
  have c2 := (He.ba (show (ex K && gt.all (getOk K)) = true from c.x.more)).2
  obtain ⟨h1, h2⟩ := He.ba (show (isProp K t && okAt K (getAd K t) t.d) = true from List.all_eq_true.mp c2 t (List.mem_of_getElem? hi))
  have e := congrArg (fun l => l[i]?) c.g
  simp only [List.getElem?_map, hi, Option.map_some] at e
  exact ⟨isProp_ok h1, funAt (Option.some.inj e) h2⟩
theorem clsF_of {cs : List Str} (hg : ∀ c ∈ cs, mg c = some (.ref (He.ga K c))) (hc : ∀ c ∈ cs, Cls K (He.ga K c)) (h : clsBs cs K = true) : ClsF K mg cs := by
  have h0 := fun c hm => He.ba (List.all_eq_true.mp h c hm)
  refine ⟨fun c hm => ⟨_, hg c hm, ?_, ?_⟩, fun c hm c' hm' ne C C' e e' => ?_⟩
  · obtain ⟨h1, a⟩ := He.ba (h0 c hm).1
    obtain ⟨h2, a⟩ := He.ba a
    obtain ⟨h3, a⟩ := He.ba a
    obtain ⟨h4, _⟩ := He.ba a
    exact ⟨hc c hm, He.eqO_ok h1, He.eqO_ok h2, of_decide_eq_true h3, of_decide_eq_true h4⟩
  · obtain ⟨h1, a⟩ := He.ba (h0 c hm).1
    obtain ⟨h2, a⟩ := He.ba a
    obtain ⟨h3, a⟩ := He.ba a
    obtain ⟨h4, h5⟩ := He.ba a
    exact fun n hn => of_decide_eq_true (List.all_eq_true.mp h5 n hn)
  · have z := List.all_eq_true.mp (h0 c hm).2 c' hm'
    rw [hg c hm] at e
    rw [hg c' hm'] at e'
    cases e
    cases e'
    rcases Bool.or_eq_true_iff.mp z with z | z
    · exact absurd (beq_iff_eq.mp z) ne
    · exact of_decide_eq_true z
end
end DL
namespace DL
open PySem
theorem tb_uniq {L : List (Addr × Str)} (nd : (L.map (·.1)).Nodup) {P : Addr} {z : Str} (h : (P, z) ∈ L) : ∀ p ∈ L, p.1 = P → p.2 = z := by
  induction L with
  | nil => cases h
  | cons x l ih =>
    rw [List.map_cons, List.nodup_cons] at nd
    intro p hp e
    rcases List.mem_cons.mp h with q | q
    · rcases List.mem_cons.mp hp with r | r
      · rw [r, ← q]
      · exact absurd (List.mem_map.mpr ⟨p, r, by rw [e, ← q]⟩) nd.1
    · rcases List.mem_cons.mp hp with r | r
      · exact absurd (List.mem_map.mpr ⟨_, q, by rw [← e, r]⟩) nd.1
      · exact ih nd.2 q p r e
end DL

set_option Elab.async false
set_option linter.all false
set_option maxRecDepth 100000
set_option maxHeartbeats 400000
/-! several names at once, cells among them -/
namespace DL
open PySem PySem.Spec PyProof.Rows L2 LamX
section
variable {B : BP} {X : Cx} {env : Sls} {b : Bw} {σ : L2.St} {H : Hp}
theorem rd_mono {α γ : Type} {ρ : Rho α γ} {ev : Sls → Bw → Res α} {Q Q' : γ → Hp → Prop} (h : rd B ρ ev σ H Q) (hq : ∀ x H, Q x H → Q' x H) : rd B ρ ev σ H Q' := by
  obtain ⟨env, b, I, w⟩ := h
  refine ⟨env, b, I, ?_⟩
  cases q : ev env b with
  | ok a b1 =>
    rw [q] at w
    exact fun x H' e1 e2 e3 e4 => hq _ _ (w x H' e1 e2 e3 e4)
  | err c fs b1 =>
    rw [q] at w
    exact w
  | bad =>
    rw [q] at w
    exact False.elim w
theorem rdW_mono {ev : Ev} {Q Q' : VK} (h : rdW B ev σ H Q) (hq : ∀ x H, Q x H → Q' x H) : rdW B ev σ H Q' := by
  obtain ⟨O, h⟩ := h
  exact ⟨O, rd_mono h hq⟩
/-- what comes behind holds whatever is new besides -/
abbrev nxT (D : Ends) : Ends := { D with nx := fun σ H => ∀ p xs, H p = none → D.nx σ (upd H p (.tup xs)) }
theorem rd_nxT {dv : Sv} {D : Ends} (h : rdS B dv D σ H) : rdS B dv (nxT D) σ H := by
  obtain ⟨env, b, I, w⟩ := h
  refine ⟨env, b, I, ?_⟩
  cases q : dv env b with
  | nx e b' =>
    rw [q] at w
    exact fun σ' H' J p xs hp => w _ _ (J.go (Ext.new hp) (bw_same J.bow (same_upd hp)) (tabs_same J.tab (same_upd hp)))
  | rt w' b' =>
    rw [q] at w
    exact w
  | bk e b' =>
    rw [q] at w
    exact w
  | ct e b' =>
    rw [q] at w
    exact w
  | err c fs b' =>
    rw [q] at w
    exact w
  | bad =>
    rw [q] at w
    exact False.elim w
theorem sqT_new {K : PySem.W.Frag} {H : Hp} {p : Addr} {xs : List V} : SqT K (upd H p (.tup xs)) p xs := .inl (.inl upd_same)
variable {a1 a2 a3 : Expr} {x y z : Str} {px py pz pt pt2 pos : Pos} {kt k2 : Nat}
theorem ds_parC2 (i j : Nat) {e1 e2 : Ev} (hc : X.calm = true) (hN : X.N.Nodup) (h1 : DE B X a1 e1) (h2 : ∀ O, DE (B.wO O) X a2 e2) (hi : X.N[i]? = some x := by rfl) (hj : X.N[j]? = some y := by rfl) (hij : i ≠ j := by decide)
    (hx : Loc X.env.scope x := by first | exact Or.inl rfl | exact Or.inr rfl) (hy : Loc X.env.scope y := by first | exact Or.inl rfl | exact Or.inr rfl)
    (fx : X.fn x = true ∨ X.env.scope.names.lookup x = some .local := by first | exact .inl rfl | exact .inr rfl) (fy : X.fn y = true ∨ X.env.scope.names.lookup y = some .local := by first | exact .inl rfl | exact .inr rfl)
    (hs : swapsWithSole [.Tuple [.Name x px, .Name y py] kt pt] (.Tuple [a1, a2] k2 pt2) pos.line X.env = pure false := by rfl) (hw : swappedStores [.Tuple [.Name x px, .Name y py] kt pt] (.Tuple [a1, a2] k2 pt2) X.env = pure none := by rfl)
    (g0 : (assignEach [.Tuple [.Name x px, .Name y py] kt pt] X.env).map (·.2) = [assign (.Tuple [.Name x px, .Name y py] kt pt) X.env] := by rfl)
    (g1 : (assignEach [.Name x px, .Name y py] X.env).map (·.2) = assign (.Name x px) X.env :: (assignEach [.Name y py] X.env).map (·.2) := by rfl)
    (g2 : (assignEach [.Name y py] X.env).map (·.2) = assign (.Name y py) X.env :: (assignEach [] X.env).map (·.2) := by rfl)
    (gn : (assignEach [.Name x px, .Name y py] X.env).length = 2 := by rfl) (gs : (assignEach [.Name x px, .Name y py] X.env).findIdx? (·.1) = none := by rfl)
    (s1 : starEach [a1, a2] X.env = (false, eval a1 X.env) :: starEach [a2] X.env := by rfl) (s2 : starEach [a2] X.env = (false, eval a2 X.env) :: starEach [] X.env := by rfl) :
    DS B X (.Assign [.Tuple [.Name x px, .Name y py] kt pt] (.Tuple [a1, a2] k2 pt2) pos) (dPar2 i j e1 e2) :=
  imp_PS (ps_asg (pe_tup (pa_cons h1 (pa_cons (pe_wO h2) pa_nil s2) s1)) (pg_tup hc (pgs_cons (pg_name hN hi hx fx) (pgs_cons (pg_name hN hj hy fy) pgs_nil g2) g1) gn gs) hs hw g0) fun D σ H h => by
    have z := rd_par2 hij (rd_nxT h)
    refine rd_mono (Q := fun v H1 => rdW B e2 σ H1 fun w H2 => ∃ v' w', [v, w] = [v', w'] ∧ (nxT D).nx ((σ.set i (some v')).set j (some w')) H2) z fun v H1 z1 => ?_
    refine rdW_mono z1 fun w H2 z2 => ?_
    obtain ⟨v', w', e, z3⟩ := z2
    cases e
    exact ⟨by show 2 ≤ sizeLine; decide, fun p hp => ⟨p, [v, w], rfl, sqT_new, rfl, v, [w], rfl, w, [], rfl, rfl, z3 p _ hp⟩⟩
theorem ds_parC3 (i j l : Nat) {e1 e2 e3 : Ev} (hc : X.calm = true) (hN : X.N.Nodup) (h1 : DE B X a1 e1) (h2 : ∀ O, DE (B.wO O) X a2 e2) (h3 : ∀ O, DE (B.wO O) X a3 e3) (hi : X.N[i]? = some x := by rfl) (hj : X.N[j]? = some y := by rfl) (hl : X.N[l]? = some z := by rfl) (hij : i ≠ j := by decide) (hil : i ≠ l := by decide) (hjl : j ≠ l := by decide)
    (hx : Loc X.env.scope x := by first | exact Or.inl rfl | exact Or.inr rfl) (hy : Loc X.env.scope y := by first | exact Or.inl rfl | exact Or.inr rfl) (hz : Loc X.env.scope z := by first | exact Or.inl rfl | exact Or.inr rfl)
    (fx : X.fn x = true ∨ X.env.scope.names.lookup x = some .local := by first | exact .inl rfl | exact .inr rfl) (fy : X.fn y = true ∨ X.env.scope.names.lookup y = some .local := by first | exact .inl rfl | exact .inr rfl) (fz : X.fn z = true ∨ X.env.scope.names.lookup z = some .local := by first | exact .inl rfl | exact .inr rfl)
    (hs : swapsWithSole [.Tuple [.Name x px, .Name y py, .Name z pz] kt pt] (.Tuple [a1, a2, a3] k2 pt2) pos.line X.env = pure false := by rfl) (hw : swappedStores [.Tuple [.Name x px, .Name y py, .Name z pz] kt pt] (.Tuple [a1, a2, a3] k2 pt2) X.env = pure none := by rfl)
    (g0 : (assignEach [.Tuple [.Name x px, .Name y py, .Name z pz] kt pt] X.env).map (·.2) = [assign (.Tuple [.Name x px, .Name y py, .Name z pz] kt pt) X.env] := by rfl)
    (g1 : (assignEach [.Name x px, .Name y py, .Name z pz] X.env).map (·.2) = assign (.Name x px) X.env :: (assignEach [.Name y py, .Name z pz] X.env).map (·.2) := by rfl)
    (g2 : (assignEach [.Name y py, .Name z pz] X.env).map (·.2) = assign (.Name y py) X.env :: (assignEach [.Name z pz] X.env).map (·.2) := by rfl)
    (g3 : (assignEach [.Name z pz] X.env).map (·.2) = assign (.Name z pz) X.env :: (assignEach [] X.env).map (·.2) := by rfl)
    (gn : (assignEach [.Name x px, .Name y py, .Name z pz] X.env).length = 3 := by rfl) (gs : (assignEach [.Name x px, .Name y py, .Name z pz] X.env).findIdx? (·.1) = none := by rfl)
    (s1 : starEach [a1, a2, a3] X.env = (false, eval a1 X.env) :: starEach [a2, a3] X.env := by rfl) (s2 : starEach [a2, a3] X.env = (false, eval a2 X.env) :: starEach [a3] X.env := by rfl) (s3 : starEach [a3] X.env = (false, eval a3 X.env) :: starEach [] X.env := by rfl) :
    DS B X (.Assign [.Tuple [.Name x px, .Name y py, .Name z pz] kt pt] (.Tuple [a1, a2, a3] k2 pt2) pos) (dPar3 i j l e1 e2 e3) :=
  imp_PS (ps_asg (pe_tup (pa_cons h1 (pa_cons (pe_wO h2) (pa_cons (pe_wO h3) pa_nil s3) s2) s1)) (pg_tup hc (pgs_cons (pg_name hN hi hx fx) (pgs_cons (pg_name hN hj hy fy) (pgs_cons (pg_name hN hl hz fz) pgs_nil g3) g2) g1) gn gs) hs hw g0) fun D σ H h => by
    have q := rd_par3 hij hil hjl (rd_nxT h)
    refine rd_mono (Q := fun u H1 => rdW B e2 σ H1 fun v H2 => rdW B e3 σ H2 fun w H3 => ∃ u' v' w', [u, v, w] = [u', v', w'] ∧ (nxT D).nx (((σ.set i (some u')).set j (some v')).set l (some w')) H3) q fun u H1 z1 => ?_
    refine rdW_mono z1 fun v H2 z2 => ?_
    refine rdW_mono z2 fun w H3 z3 => ?_
    obtain ⟨u', v', w', e, z4⟩ := z3
    cases e
    exact ⟨by show 3 ≤ sizeLine; decide, fun p hp => ⟨p, [u, v, w], rfl, sqT_new, rfl, u, [v, w], rfl, v, [w], rfl, w, [], rfl, rfl, z4 p _ hp⟩⟩
end
end DL

set_option Elab.async false
set_option linter.all false
set_option maxRecDepth 100000
set_option maxHeartbeats 4000000
/-! calls with nothing -/
namespace DL
open PySem PySem.Spec PyProof.Rows L2
section
variable {B : BP} {X : Cx} {x : Str} {p pos : Pos}
theorem de_call0 {k : Nat} {ps : List Str} {m : Mir} (c : Cal X.prog X.w X.K X.mg X.base B.T k x ps m) (hf : Fits ps.length m) (hr : Room k X.A) (tk : Takes X B.W) (hg : Gl X x) (hK : B.R.K = X.K := by rfl) (hM : B.R.mg = X.mg := by rfl)
    (hdb : (x == ("__debug__" : Str)) = false := by decide) :
    DE B X (.Call (.Name x p) [] [] pos) (dCall m dNil) := by
  obtain ⟨f, fd, F, hm, hk, hb⟩ := c.ex
  refine ⟨fun pins s σ H Q I h => ?_⟩
  refine wpAny_Call_Name_kw (ld_glob I hg hm ?_ hdb)
  refine PySem.W.callWith_K0 I.kIn hk ?_
  obtain ⟨env, b, J, w⟩ := h
  have w : wpG B RepW (ownO B.O env σ) H (m [] b) σ Q := w
  have z := sp_of (n := ps.length) (ds := []) (vs := []) (by
    by_cases q : ([] : List D).length = ps.length
    · exact .inl q
    · exact .inr (hf [] b q)) J (Ext.refl H) .nil w
  rw [hK, hM] at z
  exact run_fnSD (us := []) F hr hb .nil (passAt tk σ) I .nil z
end
/-! ### a text so many times -/
def rMulS : R2 := fun x y H Q => ∃ (a : Str) (n : Int), x = .str a ∧ y = .int n ∧ MulOk a n ∧ Q (.str (Txt.mul a n)) H
theorem op_mulS {X : Cx} : OpR X (binaryOp .Mult) rMulS := fun pins s σ H x y v u Q I r1 r2 h => by
  obtain ⟨a, n, rfl, rfl, ok, q⟩ := h
  obtain ⟨t1, rfl⟩ := r1
  obtain ⟨t2, rfl⟩ := r2
  exact SB.mul ok fun t' k => ⟨.str _, H, I.tok k, ⟨t', rfl⟩, q⟩
def fMulS (x y : D) : Option Wv := match x, y with
  | .str a, .int k => if (decide (a.length ≤ 100) && decide (-100 ≤ k)) && (decide (k ≤ 100) && okS (Txt.mul a k)) then some (.val (.str (Txt.mul a k))) else none
  | _, _ => none
theorem h_mulS {R : RC} : H2ok R fMulS rMulS := fun d1 d2 w x y H O Q e od r1 r2 q => by
  cases d1 with
  | str a =>
    cases d2 with
    | int k =>
      simp only [fMulS] at e
      split at e
      · rename_i hm
        cases e
        rw [Bool.and_eq_true, Bool.and_eq_true, Bool.and_eq_true] at hm
        have b1 := of_decide_eq_true hm.1.1
        have b2 := of_decide_eq_true hm.1.2
        have b3 := of_decide_eq_true hm.2.1
        obtain ⟨rfl, h1⟩ := r1
        exact ⟨a, k, rfl, r2, mulOk_of 100 100 b1 b3 (by omega) (by decide) (by decide), q _ H (Same.refl H) ⟨rfl, hm.2.2⟩⟩
      · cases e
    | _ => cases e
  | _ => cases e
section
variable {B : BP} {X : Cx} {a c : Expr} {ea eb : Ev} {pos : Pos}
theorem de_mulS (ha : DE B X a ea) (hb : DE B X c eb) : DE B X (.BinOp a .Mult c pos) (dOp2 fMulS ea eb) := de_bin op_mulS h_mulS ha hb
end
end DL

set_option Elab.async false
set_option linter.all false
set_option maxRecDepth 100000
set_option maxHeartbeats 4000000
/-! zip of three tuples of one length -/
namespace RZ3
open PySem RZ
open PySem.Sem (wp)
abbrev IsTrip (h : Heap) (T : Addr) (a b c : Value) : Prop := h.get? T = some { cls := .type "tuple", data := .seq #[a, b, c] }
structure Ap (z TI TO i1 i2 i3 l1 l2 l3 : Addr) : Prop where
  TIz : TI ≠ z
  TOz : TO ≠ z
  i1z : i1 ≠ z
  i2z : i2 ≠ z
  i3z : i3 ≠ z
  TITO : TI ≠ TO
  TIi1 : TI ≠ i1
  TIi2 : TI ≠ i2
  TIi3 : TI ≠ i3
  TOi1 : TO ≠ i1
  TOi2 : TO ≠ i2
  TOi3 : TO ≠ i3
  i12 : i1 ≠ i2
  i13 : i1 ≠ i3
  i23 : i2 ≠ i3
  l1z : l1 ≠ z
  l2z : l2 ≠ z
  l3z : l3 ≠ z
  l2TO : l2 ≠ TO
  l3TO : l3 ≠ TO
  l2i1 : l2 ≠ i1
  l3i1 : l3 ≠ i1
  l3i2 : l3 ≠ i2
theorem ap_new (I l1 l2 l3 : Nat) (h1 : l1 < I) (h2 : l2 < I) (h3 : l3 < I) : Ap (I + 5) (I + 3) (I + 4) I (I + 1) (I + 2) l1 l2 l3 := by
  constructor <;> (show (_ : Nat) ≠ _) <;> omega
section
variable {prog : Program} {w : World} {A : Around} {E : Value → Shared → Prop} {s : Shared}
theorem upd_trip {T : Addr} {a b c x : Value} {k : Nat} {Q : Unit → Shared → Prop} (hT : IsTrip s.heap T a b c)
    (h : ∀ h', h'.get? T = some { cls := .type "tuple", data := .seq ((#[a, b, c] : Array Value).setIfInBounds k x) } → Heap.SameBut T s.heap h' → Q () { s with heap := h' }) :
    wpAny (model prog w) A (updateSeq T (·.setIfInBounds k x)) Q E s := by
  refine wpAny_updateSeq hT rfl (h _ ?_ (Heap.SameBut.update ..))
  rw [Heap.get?_update_self _ hT rfl]
  simp [Obj.mapSeq]
theorem next3 {z TI TO i1 i2 i3 l1 l2 l3 : Addr} {k : Nat} {xs ys zs : Array Value} {x y v a b c : Value} {Q : Value → Shared → Prop} (D : Ap z TI TO i1 i2 i3 l1 l2 l3)
    (hz : IsZip s.heap z TI TO .none) (hTI : IsTrip s.heap TI (.ref i1) (.ref i2) (.ref i3)) (hTO : IsTrip s.heap TO a b c)
    (h1 : s.heap.IsTupleIter i1 l1 k) (h2 : s.heap.IsTupleIter i2 l2 k) (h3 : s.heap.IsTupleIter i3 l3 k) (hl1 : s.heap.IsTuple l1 xs) (hl2 : s.heap.IsTuple l2 ys) (hl3 : s.heap.IsTuple l3 zs) (hx : xs[k]? = some x) (hy : ys[k]? = some y) (hv : zs[k]? = some v)
    (hQ : ∀ h', IsZip h' z TI TO (rawInt s.heap.objs.size) → IsTrip h' TO x y v → h'.IsTupleIter i1 l1 (k + 1) → h'.IsTupleIter i2 l2 (k + 1) → h'.IsTupleIter i3 l3 (k + 1) → IsTrip h' s.heap.objs.size x y v → h'.objs.size = s.heap.objs.size + 1 →
      (∀ c o, c ≠ z → c ≠ TO → c ≠ i1 → c ≠ i2 → c ≠ i3 → s.heap.get? c = some o → h'.get? c = some o) → Q (.ref s.heap.objs.size) { s with heap := h' }) :
    wpAny (model prog w) A (Builtin.«zip.__next__» ⟨[.ref z], []⟩) (fun fin s' => ∃ v, fin = .done (.ret v) ∧ Q v s') E s := by
  show wpAny _ _ (field (.ref z) 2 >>= _) _ _ _
  refine wpAny_bind (wpAny_field hz rfl (x := .bool false) rfl ?_)
  show wpAny _ _ (field (.ref z) 3 >>= _) _ _ _
  refine wpAny_bind (wpAny_field hz rfl (x := .ref TI) rfl ?_)
  refine wpAny_bind (wpAny_seqItems hTI rfl ?_)
  show wpAny _ _ (Builtin.SmallTypes.ownedTupleIsFree (.ref z) >>= _) _ _ _
  refine wpAny_bind ?_
  unfold Builtin.SmallTypes.ownedTupleIsFree
  refine wpAny_bind (wpAny_field hz rfl (x := .none) rfl (wpAny_pure ?_))
  simp only [if_true]
  refine wpAny_bind (wpAny_rule ?_)
  refine wpAny_bind (wpAny_field hz rfl (x := .ref TO) rfl ?_)
  refine wpAny_bind (wpAny_setField_rec hz (by simp) fun h₁ hz₁ hs₁ => ?_)
  replace hz₁ : IsZip h₁ z TI TO .ellipsis := hz₁
  refine wpAny_bind ?_
  simp only [List.zipIdx_cons, List.zipIdx_nil, List.forIn_cons, List.forIn_nil]

  refine wpAny_bind (wpAny_bind (wpAny_onRaise ?_))
  show wpAny _ _ (Builtin.SmallTypes.nextOf (.ref i1) >>= _) _ _ _
  refine wpAny_bind (nextOf_tuple_item (h1.extBut hs₁.extBut D.i1z) (hl1.extBut hs₁.extBut D.l1z) hx fun h₂ h1₂ hs₂ => wpAny_pure ?_)
  have hTO₂ : IsTrip h₂ TO a b c := hs₂.extBut _ _ D.TOi1 (hs₁.extBut _ _ D.TOz hTO)
  refine wpAny_bind (wpAny_seqItems hTO₂ rfl ?_)
  refine wpAny_bind (upd_trip hTO₂ fun h₃ hTO₃ hs₃ => ?_)
  replace hTO₃ : IsTrip h₃ TO x b c := hTO₃
  refine wpAny_bind (wpAny_letGo (wpAny_pure ?_))

  refine wpAny_bind (wpAny_bind (wpAny_onRaise ?_))
  show wpAny _ _ (Builtin.SmallTypes.nextOf (.ref i2) >>= _) _ _ _
  refine wpAny_bind (nextOf_tuple_item (((h2.extBut hs₁.extBut D.i2z).extBut hs₂.extBut D.i12.symm).extBut hs₃.extBut D.TOi2.symm)
    (((hl2.extBut hs₁.extBut D.l2z).extBut hs₂.extBut D.l2i1).extBut hs₃.extBut D.l2TO) hy fun h₄ h2₄ hs₄ => wpAny_pure ?_)
  have hTO₄ : IsTrip h₄ TO x b c := hs₄.extBut _ _ D.TOi2 hTO₃
  refine wpAny_bind (wpAny_seqItems hTO₄ rfl ?_)
  refine wpAny_bind (upd_trip hTO₄ fun h₅ hTO₅ hs₅ => ?_)
  replace hTO₅ : IsTrip h₅ TO x y c := hTO₅
  refine wpAny_bind (wpAny_letGo (wpAny_pure ?_))

  refine wpAny_bind (wpAny_bind (wpAny_onRaise ?_))
  show wpAny _ _ (Builtin.SmallTypes.nextOf (.ref i3) >>= _) _ _ _
  refine wpAny_bind (nextOf_tuple_item (((((h3.extBut hs₁.extBut D.i3z).extBut hs₂.extBut D.i13.symm).extBut hs₃.extBut D.TOi3.symm).extBut hs₄.extBut D.i23.symm).extBut hs₅.extBut D.TOi3.symm)
    (((((hl3.extBut hs₁.extBut D.l3z).extBut hs₂.extBut D.l3i1).extBut hs₃.extBut D.l3TO).extBut hs₄.extBut D.l3i2).extBut hs₅.extBut D.l3TO) hv fun h₆ h3₆ hs₆ => wpAny_pure ?_)
  have hTO₆ : IsTrip h₆ TO x y c := hs₆.extBut _ _ D.TOi3 hTO₅
  refine wpAny_bind (wpAny_seqItems hTO₆ rfl ?_)
  refine wpAny_bind (upd_trip hTO₆ fun h₇ hTO₇ hs₇ => ?_)
  replace hTO₇ : IsTrip h₇ TO x y v := hTO₇
  refine wpAny_bind (wpAny_letGo (wpAny_pure (wpAny_pure ?_)))

  refine wpAny_bind (wpAny_seqItems hTO₇ rfl ?_)
  refine wpAny_bind (wpAny_newTuple ?_)
  have hsz : h₇.objs.size = s.heap.objs.size := by rw [hs₇.1, hs₆.1, hs₅.1, hs₄.1, hs₃.1, hs₂.1, hs₁.1]
  have hk₇ : ∀ c o, c ≠ z → c ≠ TO → c ≠ i1 → c ≠ i2 → c ≠ i3 → s.heap.get? c = some o → h₇.get? c = some o := fun c o c1 c2 c3 c4 c5 e =>
    hs₇.extBut _ _ c2 (hs₆.extBut _ _ c5 (hs₅.extBut _ _ c2 (hs₄.extBut _ _ c4 (hs₃.extBut _ _ c2 (hs₂.extBut _ _ c3 (hs₁.extBut _ _ c1 e))))))
  have hz₇ : IsZip h₇ z TI TO .ellipsis := hs₇.extBut _ _ D.TOz.symm (hs₆.extBut _ _ D.i3z.symm (hs₅.extBut _ _ D.TOz.symm (hs₄.extBut _ _ D.i2z.symm (hs₃.extBut _ _ D.TOz.symm (hs₂.extBut _ _ D.i1z.symm hz₁)))))
  have h1₇ : h₇.IsTupleIter i1 l1 (k + 1) := ((((h1₂.extBut hs₃.extBut D.TOi1.symm).extBut hs₄.extBut D.i12).extBut hs₅.extBut D.TOi1.symm).extBut hs₆.extBut D.i13).extBut hs₇.extBut D.TOi1.symm
  have h2₇ : h₇.IsTupleIter i2 l2 (k + 1) := ((h2₄.extBut hs₅.extBut D.TOi2.symm).extBut hs₆.extBut D.i23).extBut hs₇.extBut D.TOi2.symm
  have h3₇ : h₇.IsTupleIter i3 l3 (k + 1) := h3₆.extBut hs₇.extBut D.TOi3.symm
  have hzlt : z < h₇.objs.size := Heap.lt_size hz₇
  show wpAny _ _ (Builtin.SmallTypes.ownedTupleHandOut (.ref z) (.ref h₇.objs.size) >>= _) _ _ _
  refine wpAny_bind ?_
  unfold Builtin.SmallTypes.ownedTupleHandOut
  have hz₈ : IsZip (h₇.push { cls := .type "tuple", data := .seq #[x, y, v] }) z TI TO .ellipsis := Heap.get?_push_of_some _ hz₇
  refine wpAny_bind (wpAny_setField_rec hz₈ (by simp) fun h₉ hz₉ hs₉ => ?_)
  replace hz₉ : IsZip h₉ z TI TO (rawInt h₇.objs.size) := hz₉
  refine wpAny_setField_rec hz₉ (by simp) fun h₀ hz₀ hs₀ => ?_
  replace hz₀ : IsZip h₀ z TI TO (rawInt h₇.objs.size) := hz₀
  have up : ∀ c o, c ≠ z → h₇.get? c = some o → h₀.get? c = some o := fun c o c1 e => hs₀.extBut _ _ c1 (hs₉.extBut _ _ c1 (Heap.get?_push_of_some _ e))
  have hT₀ : IsTrip h₀ h₇.objs.size x y v := hs₀.extBut _ _ (Nat.ne_of_gt hzlt) (hs₉.extBut _ _ (Nat.ne_of_gt hzlt) (Heap.get?_push_size _ rfl))
  have hz0 : h₀.objs.size = h₇.objs.size + 1 := by rw [hs₀.1, hs₉.1, Heap.size_push]
  rw [hsz] at hz₀ hT₀ hz0
  refine wpAny_pure ⟨_, rfl, ?_⟩
  show Q (.ref h₇.objs.size) _
  rw [hsz]
  exact hQ h₀ hz₀ (up _ _ D.TOz hTO₇) (h1₇.at fun o e => up _ o D.i1z e) (h2₇.at fun o e => up _ o D.i2z e) (h3₇.at fun o e => up _ o D.i3z e) hT₀ hz0 fun c o c1 c2 c3 c4 c5 e => up c o c1 (hk₇ c o c1 c2 c3 c4 c5 e)
theorem end3 {z TI TO i1 i2 i3 l1 l2 l3 : Addr} {k : Nat} {xs : Array Value} {a b c : Value} {Q : Fin → Shared → Prop} (hh : A.handled = none) (D : Ap z TI TO i1 i2 i3 l1 l2 l3)
    (hz : IsZip s.heap z TI TO .none) (hTI : IsTrip s.heap TI (.ref i1) (.ref i2) (.ref i3)) (hTO : IsTrip s.heap TO a b c)
    (h1 : s.heap.IsTupleIter i1 l1 k) (hl1 : s.heap.IsTuple l1 xs) (hx : xs[k]? = none)
    (hE : ∀ h' e, (∀ c o, c ≠ z → c ≠ TO → c ≠ i1 → c ≠ i2 → c ≠ i3 → s.heap.get? c = some o → h'.get? c = some o) → (∃ o, h'.get? e = some o ∧ o.cls = .type "StopIteration") → E (.ref e) { s with heap := h' }) :
    wpAny (model prog w) A (Builtin.«zip.__next__» ⟨[.ref z], []⟩) Q E s := by
  show wpAny _ _ (field (.ref z) 2 >>= _) _ _ _
  refine wpAny_bind (wpAny_field hz rfl (x := .bool false) rfl ?_)
  show wpAny _ _ (field (.ref z) 3 >>= _) _ _ _
  refine wpAny_bind (wpAny_field hz rfl (x := .ref TI) rfl ?_)
  refine wpAny_bind (wpAny_seqItems hTI rfl ?_)
  show wpAny _ _ (Builtin.SmallTypes.ownedTupleIsFree (.ref z) >>= _) _ _ _
  refine wpAny_bind ?_
  unfold Builtin.SmallTypes.ownedTupleIsFree
  refine wpAny_bind (wpAny_field hz rfl (x := .none) rfl (wpAny_pure ?_))
  simp only [if_true]
  refine wpAny_bind (wpAny_rule ?_)
  refine wpAny_bind (wpAny_field hz rfl (x := .ref TO) rfl ?_)
  refine wpAny_bind (wpAny_setField_rec hz (by simp) fun h₁ hz₁ hs₁ => ?_)
  replace hz₁ : IsZip h₁ z TI TO .ellipsis := hz₁
  refine wpAny_bind ?_
  simp only [List.zipIdx_cons, List.zipIdx_nil, List.forIn_cons, List.forIn_nil]
  refine wpAny_bind (wpAny_bind (wpAny_onRaise ?_))
  show wpAny _ _ (Builtin.SmallTypes.nextOf (.ref i1) >>= _) _ _ _
  refine wpAny_bind (nextOf_tuple_end hh (h1.extBut hs₁.extBut D.i1z) (hl1.extBut hs₁.extBut D.l1z) hx fun h₂ e hs₂ he => ?_)
  obtain ⟨oe, hoe, hce⟩ := he
  have hz₂ : IsZip h₂ z TI TO .ellipsis := hs₂ _ _ D.i1z.symm hz₁
  have hez : e ≠ z := fun x => by subst x; rw [hz₂] at hoe; cases hoe; simp at hce
  refine wpAny_setField_rec hz₂ (by simp) fun h₃ _ hs₃ => hE h₃ e (fun c o c1 _ c3 _ _ x => hs₃.extBut _ _ c1 (hs₂ _ _ c3 (hs₁.extBut _ _ c1 x))) ⟨oe, hs₃.extBut _ _ hez hoe, hce⟩
theorem pyNext3 {z TI TO i1 i2 i3 l1 l2 l3 : Addr} {k : Nat} {xs ys zs : Array Value} {x y v a b c : Value} {Q : Option Value → Shared → Prop} (D : Ap z TI TO i1 i2 i3 l1 l2 l3)
    (hz : IsZip s.heap z TI TO .none) (hTI : IsTrip s.heap TI (.ref i1) (.ref i2) (.ref i3)) (hTO : IsTrip s.heap TO a b c)
    (h1 : s.heap.IsTupleIter i1 l1 k) (h2 : s.heap.IsTupleIter i2 l2 k) (h3 : s.heap.IsTupleIter i3 l3 k) (hl1 : s.heap.IsTuple l1 xs) (hl2 : s.heap.IsTuple l2 ys) (hl3 : s.heap.IsTuple l3 zs) (hx : xs[k]? = some x) (hy : ys[k]? = some y) (hv : zs[k]? = some v)
    (hQ : ∀ h', IsZip h' z TI TO (rawInt s.heap.objs.size) → IsTrip h' TO x y v → h'.IsTupleIter i1 l1 (k + 1) → h'.IsTupleIter i2 l2 (k + 1) → h'.IsTupleIter i3 l3 (k + 1) → IsTrip h' s.heap.objs.size x y v → h'.objs.size = s.heap.objs.size + 1 →
      (∀ c o, c ≠ z → c ≠ TO → c ≠ i1 → c ≠ i2 → c ≠ i3 → s.heap.get? c = some o → h'.get? c = some o) → Q (some (.ref s.heap.objs.size)) { s with heap := h' }) :
    wpAny (model prog w) A (pyNext (.ref z)) Q E s := by
  have hT : s.TypeIs (.ref z) "zip" := ⟨_, hz, rfl⟩
  unfold pyNext
  exact wpAny_bind (wpAny_attempt (wpAny_callSpecial?_slot (name := Str.ofString "__next__") hT F.slot_zip_next
    (wpAny_call_entry F.slot_zip_next hT F.entry_zip_next
      (next3 D hz hTI hTO h1 h2 h3 hl1 hl2 hl3 hx hy hv fun h' a1 a2 a3 a4 a5 a6 a7 a8 => wpAny_pure (hQ h' a1 a2 a3 a4 a5 a6 a7 a8)) (F.args_zip_next_1 _))))
theorem pyEnd3 {z TI TO i1 i2 i3 l1 l2 l3 : Addr} {k : Nat} {xs : Array Value} {a b c : Value} {Q : Option Value → Shared → Prop} (hh : A.handled = none) (D : Ap z TI TO i1 i2 i3 l1 l2 l3)
    (hz : IsZip s.heap z TI TO .none) (hTI : IsTrip s.heap TI (.ref i1) (.ref i2) (.ref i3)) (hTO : IsTrip s.heap TO a b c)
    (h1 : s.heap.IsTupleIter i1 l1 k) (hl1 : s.heap.IsTuple l1 xs) (hx : xs[k]? = none)
    (hQ : ∀ h', (∀ c o, c ≠ z → c ≠ TO → c ≠ i1 → c ≠ i2 → c ≠ i3 → s.heap.get? c = some o → h'.get? c = some o) → Q none { s with heap := h' }) : wpAny (model prog w) A (pyNext (.ref z)) Q E s := by
  have hT : s.TypeIs (.ref z) "zip" := ⟨_, hz, rfl⟩
  unfold pyNext
  refine wpAny_bind (wpAny_attempt (wpAny_callSpecial?_slot (name := Str.ofString "__next__") hT F.slot_zip_next
    (wpAny_call_entry F.slot_zip_next hT F.entry_zip_next (end3 hh D hz hTI hTO h1 hl1 hx fun h' e hk he => ?_) (F.args_zip_next_1 _))))
  obtain ⟨o, ho, hc⟩ := he
  refine wpAny_bind (wpAny_isInstance (T := "StopIteration") (b := true) ⟨o, ho, hc⟩ isSubtype_stop ?_)
  exact wpAny_pure (hQ _ hk)
end
abbrev H1 (h : Heap) (l1 : Addr) : Heap := h.push { cls := .type "tuple_iterator", data := .fields #[.ref l1, .int 0 0] }
abbrev H2 (h : Heap) (l1 l2 : Addr) : Heap := (H1 h l1).push { cls := .type "tuple_iterator", data := .fields #[.ref l2, .int 0 0] }
abbrev H3 (h : Heap) (l1 l2 l3 : Addr) : Heap := (H2 h l1 l2).push { cls := .type "tuple_iterator", data := .fields #[.ref l3, .int 0 0] }
abbrev H4 (h : Heap) (l1 l2 l3 : Addr) : Heap := (H3 h l1 l2 l3).push { cls := .type "tuple", data := .seq #[.ref h.objs.size, .ref (H1 h l1).objs.size, .ref (H2 h l1 l2).objs.size] }
abbrev H5 (h : Heap) (l1 l2 l3 : Addr) : Heap := (H4 h l1 l2 l3).push { cls := .type "tuple", data := .seq #[.none, .none, .none] }
abbrev H6 (h : Heap) (l1 l2 l3 : Addr) : Heap := (H5 h l1 l2 l3).push { cls := .type "zip", data := .fields #[.none, .bool false, .bool false, .ref (H3 h l1 l2 l3).objs.size, .ref (H4 h l1 l2 l3).objs.size] }
theorem meets3 (l1 l2 l3 : Addr) (xs ys zs : Array Value) :
    Meets (Builtin.«zip.__new__» ⟨[.type "zip", .ref l1, .ref l2, .ref l3], []⟩) (fun _ R s => s.heap.IsTuple l1 xs ∧ s.heap.IsTuple l2 ys ∧ s.heap.IsTuple l3 zs ∧
      R (.ok (.ret (.ref (H5 s.heap l1 l2 l3).objs.size))) { s with heap := H6 s.heap l1 l2 l3 }) :=
  .of_wp fun prog w A R s h => by
    obtain ⟨hp, g, d, tk, os⟩ := s; obtain ⟨hl1, hl2, hl3, h⟩ := h
    have hsub := sub_zip
    have hL1 : Heap.IsTuple (Shared.heap ⟨hp, g, d, tk, os⟩) l1 xs := hl1
    have hL2 : Heap.IsTuple (Shared.heap ⟨hp.push { cls := .type "tuple_iterator", data := .fields #[.ref l1, .int 0 0] }, g, d, tk, os⟩) l2 ys := Heap.IsTuple.push hl2 _
    have hL3 : Heap.IsTuple (Shared.heap ⟨(hp.push { cls := .type "tuple_iterator", data := .fields #[.ref l1, .int 0 0] }).push { cls := .type "tuple_iterator", data := .fields #[.ref l2, .int 0 0] }, g, d, tk, os⟩) l3 zs := Heap.IsTuple.push (Heap.IsTuple.push hl3 _) _
    wp_walk using wpAny_pyIter_tuple hL1, wpAny_pyIter_tuple hL2, wpAny_pyIter_tuple hL3
    exact ⟨_, rfl, h⟩
theorem typeCall3 (a b c : Value) : checkTypeCall "zip" ⟨[a, b, c], []⟩ = pure () := by kernel_rfl
theorem newCall3 (a b c : Value) : checkBuiltinCall "zip.__new__" ⟨[.type "zip", a, b, c], []⟩ = pure () := by kernel_rfl
theorem argsInit3 (a b c d : Value) : argsOk "object.__init__" ⟨[a, b, c, d], []⟩ := by
  unfold argsOk; rw [signature?_of (id := "object.__init__") (n := ['_', '_', 't', 'i', 'n', 'i', '_', '_']) (o := ['t', 'c', 'e', 'j', 'b', 'o']) (by kernel_rfl) F.owner_object]; kernel_rfl
section
variable {prog : Program} {w : World} {A : Around} {E : Value → Shared → Prop} {s : Shared}
theorem call3 {l1 l2 l3 : Addr} {xs ys zs : Array Value} {Q : Value → Shared → Prop} (hl1 : s.heap.IsTuple l1 xs) (hl2 : s.heap.IsTuple l2 ys) (hl3 : s.heap.IsTuple l3 zs)
    (h : ∀ h', IsZip h' (s.heap.objs.size + 5) (s.heap.objs.size + 3) (s.heap.objs.size + 4) .none → IsTrip h' (s.heap.objs.size + 3) (.ref s.heap.objs.size) (.ref (s.heap.objs.size + 1)) (.ref (s.heap.objs.size + 2)) →
      IsTrip h' (s.heap.objs.size + 4) .none .none .none → h'.IsTupleIter s.heap.objs.size l1 0 → h'.IsTupleIter (s.heap.objs.size + 1) l2 0 → h'.IsTupleIter (s.heap.objs.size + 2) l3 0 → h'.objs.size = s.heap.objs.size + 6 →
      (∀ c o, s.heap.get? c = some o → h'.get? c = some o) → Q (.ref (s.heap.objs.size + 5)) { s with heap := h' }) :
    wpAny (model prog w) A (call (.type "zip") [.ref l1, .ref l2, .ref l3]) Q E s := by
  refine callType_new F.called_zip (by decide) (typeCall3 _ _ _) (newCall3 _ _ _) (fun obj => argsInit3 obj _ _ _) F.entry_zip_new
    (meets3 l1 l2 l3 xs ys zs) ⟨hl1, hl2, hl3, ?_⟩
  have z1 : (H1 s.heap l1).objs.size = s.heap.objs.size + 1 := Heap.size_push ..
  have z2 : (H2 s.heap l1 l2).objs.size = s.heap.objs.size + 2 := by rw [Heap.size_push, z1]
  have z3 : (H3 s.heap l1 l2 l3).objs.size = s.heap.objs.size + 3 := by rw [Heap.size_push, z2]
  have z4 : (H4 s.heap l1 l2 l3).objs.size = s.heap.objs.size + 4 := by rw [Heap.size_push, z3]
  have z5 : (H5 s.heap l1 l2 l3).objs.size = s.heap.objs.size + 5 := by rw [Heap.size_push, z4]
  have z6 : (H6 s.heap l1 l2 l3).objs.size = s.heap.objs.size + 6 := by rw [Heap.size_push, z5]
  have g6 : (H6 s.heap l1 l2 l3).get? (H5 s.heap l1 l2 l3).objs.size = some _ := Heap.get?_push_size _ rfl
  have g5 : (H6 s.heap l1 l2 l3).get? (H4 s.heap l1 l2 l3).objs.size = some _ := Heap.get?_push_of_some _ (Heap.get?_push_size _ rfl)
  have g4 : (H6 s.heap l1 l2 l3).get? (H3 s.heap l1 l2 l3).objs.size = some _ := Heap.get?_push_of_some _ (Heap.get?_push_of_some _ (Heap.get?_push_size _ rfl))
  have g3 : (H6 s.heap l1 l2 l3).get? (H2 s.heap l1 l2).objs.size = some _ := Heap.get?_push_of_some _ (Heap.get?_push_of_some _ (Heap.get?_push_of_some _ (Heap.get?_push_size _ rfl)))
  have g2 : (H6 s.heap l1 l2 l3).get? (H1 s.heap l1).objs.size = some _ := Heap.get?_push_of_some _ (Heap.get?_push_of_some _ (Heap.get?_push_of_some _ (Heap.get?_push_of_some _ (Heap.get?_push_size _ rfl))))
  have g1 : (H6 s.heap l1 l2 l3).get? s.heap.objs.size = some _ := Heap.get?_push_of_some _ (Heap.get?_push_of_some _ (Heap.get?_push_of_some _ (Heap.get?_push_of_some _ (Heap.get?_push_of_some _ (Heap.get?_push_size _ rfl)))))
  show _ ∧ _
  rw [z3, z4, z5] at g6
  rw [z4] at g5
  rw [z1, z2, z3] at g4
  rw [z2] at g3
  rw [z1] at g2
  rw [z5]
  exact ⟨⟨_, g6, rfl⟩, h _ g6 g4 g5 ⟨_, g1, rfl, rfl⟩ ⟨_, g2, rfl, rfl⟩ ⟨_, g3, rfl, rfl⟩ z6 fun c o x =>
    Heap.get?_push_of_some _ (Heap.get?_push_of_some _ (Heap.get?_push_of_some _ (Heap.get?_push_of_some _ (Heap.get?_push_of_some _ (Heap.get?_push_of_some _ x)))))⟩
end
open PySem.Spec PyProof.Rows L2
/-- the tuples at a, b and c as they stand at each turn, the items in new triples -/
def It3 (K : PySem.W.Frag) (a b c : Addr) : It :=
  ⟨fun i H => ∃ (xs ys zs : List V) (x y z : V), SqT K H a xs ∧ SqT K H b ys ∧ SqT K H c zs ∧ xs[i]? = some x ∧ ys[i]? = some y ∧ zs[i]? = some z,
    fun i H v H' => ∃ T x y z, v = .ref T ∧ H T = none ∧ H' = upd H T (.tup [x, y, z]) ∧ (∀ xs, SqT K H a xs → xs[i]? = some x) ∧ (∀ ys, SqT K H b ys → ys[i]? = some y) ∧ ∀ zs, SqT K H c zs → zs[i]? = some z,
    fun i H => ∃ xs : List V, SqT K H a xs ∧ xs.length ≤ i⟩
theorem turn3 {P : Program} {w : World} {K : PySem.W.Frag} {elts : List Expr} {kk : Nat} {tpos : Pos} {a b c z TI TO i1 i2 i3 : Addr} (D : Ap z TI TO i1 i2 i3 a b c) :
    Turn P w K (.Tuple elts kk tpos) (It3 K a b c) [z, TI, TO, i1, i2, i3] z (fun i h => IsZip h z TI TO .none ∧ IsTrip h TI (.ref i1) (.ref i2) (.ref i3) ∧ (∃ x y v, IsTrip h TO x y v) ∧ h.IsTupleIter i1 a i ∧ h.IsTupleIter i2 b i ∧ h.IsTupleIter i3 c i) where
  mem := by simp
  obj := fun i h st d hd => by
    obtain ⟨hz, hTI, ⟨x, y, v, hTO⟩, ⟨o1, e1, _, d1⟩, ⟨o2, e2, _, d2⟩, ⟨o3, e3, _, d3⟩⟩ := st
    have e' : d = z ∨ d = TI ∨ d = TO ∨ d = i1 ∨ d = i2 ∨ d = i3 := by simpa using hd
    rcases e' with q | q | q | q | q | q
    · rw [q]; exact ⟨_, hz, fun v q => nomatch q⟩
    · rw [q]; exact ⟨_, hTI, fun v q => nomatch q⟩
    · rw [q]; exact ⟨_, hTO, fun v q => nomatch q⟩
    · rw [q]; exact ⟨o1, e1, fun v q => by rw [d1] at q; cases q⟩
    · rw [q]; exact ⟨o2, e2, fun v q => by rw [d2] at q; cases q⟩
    · rw [q]; exact ⟨o3, e3, fun v q => by rw [d3] at q; cases q⟩
  keep := fun i h h' st k => by
    obtain ⟨hz, hTI, ⟨x, y, v, hTO⟩, h1, h2, h3⟩ := st
    exact ⟨k z (by simp) _ hz, k TI (by simp) _ hTI, ⟨x, y, v, k TO (by simp) _ hTO⟩, h1.at fun o q => k i1 (by simp) o q, h2.at fun o q => k i2 (by simp) o q, h3.at fun o q => k i3 (by simp) o q⟩
  item := by
    intro X hP hw hK hc i pins s σ H E I hf st hg
    subst hP hw hK
    obtain ⟨hz, hTI, ⟨x0, y0, v0, hTO⟩, h1, h2, h3⟩ := st
    obtain ⟨xs, ys, zs, x, y, v, hqx, hqy, hqz, hx, hy, hv⟩ := hg
    obtain ⟨its, rv, p, _⟩ := I.tuple hqx
    obtain ⟨its2, rv2, p2, _⟩ := I.tuple hqy
    obtain ⟨its3, rv3, p3, _⟩ := I.tuple hqz
    obtain ⟨u, hu, ru⟩ := rv.get hx
    obtain ⟨u2, hu2, ru2⟩ := rv2.get hy
    obtain ⟨u3, hu3, ru3⟩ := rv3.get hv
    have hzl : z < s.heap.objs.size := Heap.lt_size hz
    refine pyNext3 D hz hTI hTO h1 h2 h3 p p2 p3 (x := u) (y := u2) (v := u3) (by simpa using hu) (by simpa using hu2) (by simpa using hu3) fun h' z' TO' h1' h2' h3' hT hsz hk => ?_
    refine ⟨_, rfl, wpAny_letOwnedTupleGo_zip (s := { s with heap := h' }) z' fun h'' z'' sb => ?_⟩
    have hT2 : h''.get? s.heap.objs.size = some { cls := .type "tuple", data := .seq #[u, u2, u3] } := (sb.2 _ (Nat.ne_of_gt hzl)).trans hT
    have new : ObjOk X.prog X.w (upd H s.heap.objs.size (.tup [x, y, v])) h'' s.heap.objs.size (.tup [x, y, v]) :=
      ⟨by show 3 ≤ sizeLine; decide, [u, u2, u3], .cons ru (.cons ru2 (.cons ru3 .nil)), ⟨_, hT2, rfl, _, rfl⟩⟩
    have I1 : Inv X pins σ (upd H s.heap.objs.size (.tup [x, y, v])) { s with heap := h'' } :=
      I.turnedNew (t' := s.toks) (ch := [z, TI, TO, i1, i2, i3]) (fun c o hb q => (sb.2 c (fun q' => hb (by simp [q']))).trans (hk c o (fun q' => hb (by simp [q'])) (fun q' => hb (by simp [q'])) (fun q' => hb (by simp [q'])) (fun q' => hb (by simp [q'])) (fun q' => hb (by simp [q'])) q)) hf (Nat.le_refl _) new
    refine ⟨.ref s.heap.objs.size, _, I1, rfl, ⟨_, x, y, v, rfl, I.hok.fresh (Nat.le_refl _), rfl, fun l hl => by rw [I.tuple_inj hl hqx]; exact hx, fun l hl => by rw [I.tuple_inj hl hqy]; exact hy, fun l hl => by rw [I.tuple_inj hl hqz]; exact hv⟩, ⟨z'', ?_, ⟨u, u2, u3, ?_⟩, ?_, ?_, ?_⟩, fun c hcm => ?_⟩
    · exact (sb.2 _ D.TIz).trans (hk _ _ D.TIz D.TITO D.TIi1 D.TIi2 D.TIi3 hTI)
    · exact (sb.2 _ D.TOz).trans TO'
    · exact h1'.at fun o q => (sb.2 _ D.i1z).trans q
    · exact h2'.at fun o q => (sb.2 _ D.i2z).trans q
    · exact h3'.at fun o q => (sb.2 _ D.i3z).trans q
    · have hlt : c < s.heap.objs.size := by
        have e' : c = z ∨ c = TI ∨ c = TO ∨ c = i1 ∨ c = i2 ∨ c = i3 := by simpa using hcm
        rcases e' with q | q | q | q | q | q
        · rw [q]; exact hzl
        · rw [q]; exact Heap.lt_size hTI
        · rw [q]; exact Heap.lt_size hTO
        · rw [q]; obtain ⟨_, e1, _⟩ := h1; exact Heap.lt_size e1
        · rw [q]; obtain ⟨_, e2, _⟩ := h2; exact Heap.lt_size e2
        · rw [q]; obtain ⟨_, e3, _⟩ := h3; exact Heap.lt_size e3
      rw [upd_ne (Nat.ne_of_lt hlt)]
      exact (hf c hcm).1
  done := by
    intro X hP hw hK hc i pins s σ H E I hf st hg
    subst hP hw hK
    obtain ⟨hz, hTI, ⟨x0, y0, v0, hTO⟩, h1, h2, h3⟩ := st
    obtain ⟨xs, hqx, hend⟩ := hg
    obtain ⟨its, rv, p, _⟩ := I.tuple hqx
    have l1 := rv.length
    have he : its.toArray[i]? = none := by
      simp
      omega
    exact pyEnd3 (I.ok.hd hc) D hz hTI hTO h1 p he fun h' hk => ⟨rfl, I.turnedL (t' := s.toks) (ch := [z, TI, TO, i1, i2, i3]) (fun c o hb q =>
      hk c o (fun q' => hb (by simp [q'])) (fun q' => hb (by simp [q'])) (fun q' => hb (by simp [q'])) (fun q' => hb (by simp [q'])) (fun q' => hb (by simp [q'])) q) hf⟩
  self := fun A i s Q E st h => wpAny_pyIter_zip st.1 h
def iZip3 (K : PySem.W.Frag) (ta : TA) : TI := fun σ H R => ta σ H fun vs H1 => ∃ a b c xs ys zs, vs = [.ref a, .ref b, .ref c] ∧ SqT K H1 a xs ∧ SqT K H1 b ys ∧ SqT K H1 c zs ∧ R (It3 K a b c) H1
theorem pi_zip3 {X : Cx} {e e2 e3 : Expr} {ta : TA} {p pos tpos : Pos} {elts : List Expr} {kk : Nat} (hg : Gl X "zip") (hm : X.mg "zip" = none) (ha : PA X [e, e2, e3] ta)
    (hs : starEach [e, e2, e3] X.env = (false, eval e X.env) :: starEach [e2, e3] X.env := by rfl) (hpl : (backTo pos (starEach [e2, e3] X.env)).any (·.1) = false := by rfl) :
    PI X (.Tuple elts kk tpos) (.Call (.Name "zip" p) [e, e2, e3] [] pos) (iZip3 X.K ta) := by
  refine ⟨fun pins s σ H R I h => ?_⟩
  refine Call_ (ld_blt I hg hm PyProof.Rows.boot_zip (PyProof.Rows.callWith_type1 (thn (ha.run pos pins s σ H _ I h) fun us s1 ⟨vs, H1, I1, r1, q1⟩ => ?_) hs hpl))
  obtain ⟨a, b, c, xs, ys, zs, ex, hqx, hqy, hqz, q⟩ := q1
  subst ex
  cases r1 with
  | cons r rr =>
    cases rr with
    | cons r' rr =>
      cases rr with
      | cons r'' rr =>
        cases rr
        cases r
        cases r'
        cases r''
        have fresh6 : ∀ c, c ∈ [s1.heap.objs.size + 5, s1.heap.objs.size + 3, s1.heap.objs.size + 4, s1.heap.objs.size, s1.heap.objs.size + 1, s1.heap.objs.size + 2] → FpOk X pins H1 c := fun c hcm => by
          have e' : c = s1.heap.objs.size + 5 ∨ c = s1.heap.objs.size + 3 ∨ c = s1.heap.objs.size + 4 ∨ c = s1.heap.objs.size ∨ c = s1.heap.objs.size + 1 ∨ c = s1.heap.objs.size + 2 := by simpa using hcm
          have hle : s1.heap.objs.size ≤ c := by
            rcases e' with z | z | z | z | z | z
            · rw [z]; exact Nat.le_add_right _ _
            · rw [z]; exact Nat.le_add_right _ _
            · rw [z]; exact Nat.le_add_right _ _
            · rw [z]; exact Nat.le_refl _
            · rw [z]; exact Nat.le_add_right _ _
            · rw [z]; exact Nat.le_add_right _ _
          exact I1.fpOk hle (I1.hok.fresh hle)
        obtain ⟨its, rv, p1, _⟩ := I1.tuple hqx
        obtain ⟨its2, rv2, p2, _⟩ := I1.tuple hqy
        obtain ⟨its3, rv3, p3, _⟩ := I1.tuple hqz
        obtain ⟨o1, ho1, _⟩ := id p1
        obtain ⟨o2, ho2, _⟩ := id p2
        obtain ⟨o3, ho3, _⟩ := id p3
        refine call3 (show s1.heap.IsTuple a its.toArray from p1) (show s1.heap.IsTuple b its2.toArray from p2) (show s1.heap.IsTuple c its3.toArray from p3) fun h' hz hTI hTO h1 h2 h3 hsz hk => wpAny_pyIter_zip hz ?_
        have I2 : Inv X pins σ H1 { s1 with heap := h' } := I1.kept (t' := s1.toks) hk
        exact ⟨s1.heap.objs.size + 5, [s1.heap.objs.size + 5, s1.heap.objs.size + 3, s1.heap.objs.size + 4, s1.heap.objs.size, s1.heap.objs.size + 1, s1.heap.objs.size + 2], _, _, H1, rfl, I2, turn3 (ap_new s1.heap.objs.size a b c (Heap.lt_size ho1) (Heap.lt_size ho2) (Heap.lt_size ho3)), ⟨hz, hTI, ⟨_, _, _, hTO⟩, h1, h2, h3⟩, fresh6, q⟩
end RZ3

set_option Elab.async false
set_option linter.all false
set_option maxRecDepth 100000
set_option maxHeartbeats 4000000
/-! zip of three tuples -/
namespace DL
open PySem PySem.Spec PyProof.Rows L2
theorem trip_rep {R : RC} {H1 H' : Hp} {O : Addr → Prop} {T : Addr} {v u t : V} {d e f : D} (hT : H1 T = none) (od : ∀ a, H1 a = none → ¬ O a) (e1 : H' = upd H1 T (.tup [v, u, t])) (r1 : Rep R (vis H1 O) d v) (r2 : Rep R (vis H1 O) e u) (r3 : Rep R (vis H1 O) f t) (hs : strV [v, u, t] = false) : Rep R (vis H' O) (.tup [d, e, f]) (.ref T) := by
  subst e1
  exact new_tup od (RepL.cons r1 (RepL.cons r2 (RepL.cons r3 RepL.nil))) (by show 3 ≤ LIM; decide) hT hs
theorem rep3 {R : RC} {H : Hp} {d e f : D} {vs : List V} (h : RepL R H [d, e, f] vs) : ∃ v u t, vs = [v, u, t] ∧ Rep R H d v ∧ Rep R H e u ∧ Rep R H f t := by
  obtain ⟨v, r, e1, h1, h2⟩ := h
  obtain ⟨u, t, rfl, h3, h4⟩ := rep2 h2
  exact ⟨v, u, t, e1, h1, h3, h4⟩
def zipD3 : List D → List D → List D → List D
  | x :: xs, y :: ys, z :: zs => .tup [x, y, z] :: zipD3 xs ys zs
  | _, _, _ => []
theorem zipD3_get : ∀ {xs ys zs : List D} {i : Nat} {d : D}, (zipD3 xs ys zs)[i]? = some d → ∃ x y z, xs[i]? = some x ∧ ys[i]? = some y ∧ zs[i]? = some z ∧ d = .tup [x, y, z]
  | [], _, _, _, _, h => by simp [zipD3] at h
  | _ :: _, [], _, _, _, h => by simp [zipD3] at h
  | _ :: _, _ :: _, [], _, _, h => by simp [zipD3] at h
  | x :: xs, y :: ys, z :: zs, 0, d, h => by
    simp [zipD3] at h
    exact ⟨x, y, z, rfl, rfl, rfl, h.symm⟩
  | x :: xs, y :: ys, z :: zs, i + 1, d, h => by
    simp only [zipD3, List.getElem?_cons_succ] at h
    obtain ⟨a, b, c, h1, h2, h3, h4⟩ := zipD3_get h
    exact ⟨a, b, c, by simpa using h1, by simpa using h2, by simpa using h3, h4⟩
theorem zipD3_len : ∀ {xs ys zs : List D}, xs.length = ys.length → xs.length = zs.length → (zipD3 xs ys zs).length = xs.length
  | [], _, _, _, _ => by simp [zipD3]
  | _ :: _, [], _, h, _ => by simp at h
  | _ :: _, _ :: _, [], _, h => by simp at h
  | x :: xs, y :: ys, z :: zs, h, g => by
    simp only [zipD3, List.length_cons]
    rw [zipD3_len (by simpa using h) (by simpa using g)]
theorem it_zip3 {R : RC} {Pi Pv : Hp} {a b c : Addr} {vs us ts : List V} {ds es fs : List D} (h : SqX R.K Pi a vs) (g : SqX R.K Pi b us) (k : SqX R.K Pi c ts) (r : RepL R Pv ds vs) (r' : RepL R Pv es us) (r'' : RepL R Pv fs ts) (l1 : ds.length = es.length) (l2 : ds.length = fs.length) (n : (noStr ds || noStr es) = true) : ItRep R Pi Pv (RZ3.It3 R.K a b c) (zipD3 ds es fs) := fun H O s1 s2 od => by
  have hH := s1.tup h.1
  have gH := s1.tup g.1
  have kH := s1.tup k.1
  refine ⟨fun i d e => ?_, ⟨vs, hH, by rw [zipD3_len l1 l2, r.length]; exact Nat.le_refl _⟩⟩
  obtain ⟨x, y, w, ex, ey, ew, ed⟩ := zipD3_get e
  obtain ⟨v, e1, r1⟩ := r.get ex
  obtain ⟨u, e2, r2⟩ := r'.get ey
  obtain ⟨t, e3, r3⟩ := r''.get ew
  refine ⟨⟨vs, us, ts, v, u, t, hH, gH, kH, e1, e2, e3⟩, fun z H' q => ?_⟩
  obtain ⟨T, x', y', w', rfl, hT, hH', hx, hy, hw⟩ := q
  have z1 := hx vs hH
  have z2 := hy us gH
  have z3 := hw ts kH
  rw [e1] at z1
  rw [e2] at z2
  rw [e3] at z3
  cases z1
  cases z2
  cases z3
  subst ed
  exact ⟨by rw [hH']; exact same_upd hT, trip_rep hT od hH' (r1.mono s2) (r2.mono s2) (r3.mono s2) (by
    rw [Bool.or_eq_true] at n
    rcases n with n | n
    · exact strV_cons (noStr_at n ex r1)
    · exact strV_cons2 (noStr_at n ey r2))⟩
def zip31 (ds : List D) (b : Bw) : Res (List D) := match ds with
  | [.tup xs, .tup ys, .tup zs] => if (xs.length = ys.length ∧ xs.length = zs.length) ∧ (noStr xs || noStr ys) = true then .ok (zipD3 xs ys zs) b else .bad
  | _ => .bad
def dZip3 (A : EvA) : EvI := fun env b => (A env b).bind fun ds b1 => zip31 ds b1
theorem zip31_inv {ds : List D} {b : Bw} : (∃ xs ys zs, ds = [.tup xs, .tup ys, .tup zs] ∧ xs.length = ys.length ∧ xs.length = zs.length ∧ (noStr xs || noStr ys) = true ∧ zip31 ds b = .ok (zipD3 xs ys zs) b) ∨ zip31 ds b = .bad := by
  unfold zip31
  split
  · split
    · rename_i h
      exact .inl ⟨_, _, _, rfl, h.1.1, h.1.2, h.2, rfl⟩
    · exact .inr rfl
  · exact .inr rfl
section
variable {B : BP} {X : Cx} {e e2 e3 : Expr} {A : EvA} {p pos tpos : Pos} {elts : List Expr} {kk : Nat}
theorem di_zip3 (hg : Gl X "zip") (hm : X.mg "zip" = none) (ha : DA B X [e, e2, e3] A) (hK : B.R.K = X.K := by rfl)
    (hs : starEach [e, e2, e3] X.env = (false, eval e X.env) :: starEach [e2, e3] X.env := by rfl) (hpl : (backTo pos (starEach [e2, e3] X.env)).any (·.1) = false := by rfl) : DI B X (.Tuple elts kk tpos) (.Call (.Name "zip" p) [e, e2, e3] [] pos) (dZip3 A) :=
  imp_PI (RZ3.pi_zip3 hg hm ha hs hpl) fun σ H R w => by
    refine rd_bind (ρ := rhoI) (k := fun (ds : List D) _ b1 => zip31 ds b1) w fun env ds b1 x H1 I1 x1 r w => ?_
    have r : RepL B.R (vis H1 (ownO B.O env σ)) ds x := r
    rcases zip31_inv (ds := ds) (b := b1) with ⟨xs, ys, zs, hd, l1, l2, nn, e1⟩ | e1
    · rw [e1] at w
      subst hd
      obtain ⟨v, u, t, rfl, r1, r2, r3⟩ := rep3 r
      obtain ⟨a, vs, rfl, h1, h2, h3⟩ := r1
      obtain ⟨c, us, rfl, g1, g2, g3⟩ := r2
      obtain ⟨d, ts, rfl, k1, k2, k3⟩ := r3
      refine ⟨a, c, d, vs, us, ts, rfl, by rw [← hK]; exact vis_sqt h1, by rw [← hK]; exact vis_sqt g1, by rw [← hK]; exact vis_sqt k1, ?_⟩
      rw [← hK]
      exact wpG_ok (x := RZ3.It3 B.R.K a c d) w x1 I1.bow I1.tab ⟨it_zip3 h1 g1 k1 h2 g2 k2 l1 l2 nn, by rw [zipD3_len l1 l2]; omega⟩
    · rw [e1] at w
      exact False.elim w
end
end DL

set_option Elab.async false
set_option linter.all false
set_option maxRecDepth 100000
set_option maxHeartbeats 4000000
/-! zip of any number of tuples of one length, made a list -/
namespace RZN
open PySem RZ
open PySem.Sem (wp)
section
variable {prog : Program} {w : World} {A : Around} {E : Value → Shared → Prop}
theorem wp_forIn {α β : Type} {f : α → β → Sem (ForInStep β)} {Q : β → Shared → Prop} (J : Nat → β → Shared → Prop) : ∀ (l : List α) (i : Nat) (b0 : β) (s : Shared), J i b0 s →
    (∀ j a b s, l[j]? = some a → J (i + j) b s → wpAny (model prog w) A (f a b) (fun r s' => ∃ b', r = .yield b' ∧ J (i + j + 1) b' s') E s) →
    (∀ b s', J (i + l.length) b s' → Q b s') → wpAny (model prog w) A (forIn l b0 f) Q E s
  | [], i, b0, s, h0, _, hQ => by
    rw [List.forIn_nil]
    exact wpAny_pure (hQ _ _ h0)
  | a :: l, i, b0, s, h0, hs, hQ => by
    rw [List.forIn_cons]
    refine wpAny_bind (wpAny_mono (hs 0 a b0 s rfl h0) (fun r s' h => ?_) fun _ _ e => e)
    obtain ⟨b', rfl, h1⟩ := h
    refine wp_forIn J l (i + 1) b' s' h1 (fun j a b s hj h => ?_) fun b s' h => hQ b s' ?_
    · have := hs (j + 1) a b s (by simpa using hj) (by rw [show i + (j + 1) = i + 1 + j by omega]; exact h)
      rw [show i + 1 + j + 1 = i + (j + 1) + 1 by omega]
      exact this
    · rw [List.length_cons, show i + (l.length + 1) = i + 1 + l.length by omega]
      exact h
/-- a zip record, its marks -/
abbrev IsZ (h : Heap) (z TI TO : Addr) (f0 : Value) (f1 : Bool) : Prop := h.get? z = some { cls := .type "zip", data := .fields #[f0, .bool f1, .bool false, .ref TI, .ref TO] }
abbrev IsT (h : Heap) (T : Addr) (l : List Value) : Prop := h.get? T = some { cls := .type "tuple", data := .seq l.toArray }
structure Apart (z TI TO : Addr) (is ls : List Addr) : Prop where
  TIz : TI ≠ z
  TOz : TO ≠ z
  TITO : TI ≠ TO
  zi : z ∉ is
  TIi : TI ∉ is
  TOi : TO ∉ is
  nd : is.Nodup
  lz : z ∉ ls
  lTO : TO ∉ ls
  li : ∀ l ∈ ls, l ∉ is
theorem upd_tup {s : Shared} {T : Addr} {l : List Value} {x : Value} {k : Nat} {Q : Unit → Shared → Prop} (hT : IsT s.heap T l) (hz : l.length ≤ 1000)
    (h : ∀ h', IsT h' T (l.set k x) → Heap.SameBut T s.heap h' → Q () { s with heap := h' }) :
    wpAny (model prog w) A (updateSeq T (·.setIfInBounds k x)) Q E s := by
  refine wpAny_updateSeq hT rfl (h _ ?_ (Heap.SameBut.update ..)) (by show l.toArray.size ≤ _; rw [List.size_toArray]; exact Nat.le_trans hz (by decide)) (by rw [Array.size_setIfInBounds, List.size_toArray]; exact Nat.le_trans hz (by decide))
  show Heap.get? _ _ = _
  rw [Heap.get?_update_self _ hT rfl]
  simp [Obj.mapSeq]
/-- what stands while the tuples are drawn from, i of them done -/
structure Dr (s : Shared) (z TI TO : Addr) (is ls : List Addr) (k : Nat) (col : List Value) (i : Nat) (h' : Heap) : Prop where
  it : ∀ (j : Nat) (a l : Addr), is[j]? = some a → ls[j]? = some l → h'.IsTupleIter a l (if j < i then k + 1 else k)
  sz : h'.objs.size = s.heap.objs.size
  fr : ∀ c o, c ≠ z → c ≠ TO → c ∉ is → s.heap.get? c = some o → h'.get? c = some o
theorem next_free {s : Shared} {z TI TO : Addr} {is ls : List Addr} {k : Nat} {col own : List Value} {Q : Value → Shared → Prop} (D : Apart z TI TO is ls) (n0 : is ≠ []) (n1 : is.length ≤ 1000)
    (hz : IsZ s.heap z TI TO .none false) (hTI : IsT s.heap TI (is.map .ref)) (hTO : IsT s.heap TO own) (lo : own.length = is.length) (ll : ls.length = is.length) (lc : col.length = is.length)
    (hi : ∀ (j : Nat) (a l : Addr), is[j]? = some a → ls[j]? = some l → s.heap.IsTupleIter a l k) (hl : ∀ (j : Nat) (l : Addr), ls[j]? = some l → ∃ c : Array Value, s.heap.IsTuple l c ∧ c[k]? = col[j]?)
    (hQ : ∀ h', IsZ h' z TI TO (rawInt s.heap.objs.size) false → (∃ own', IsT h' TO own') → (∀ (j : Nat) (a l : Addr), is[j]? = some a → ls[j]? = some l → h'.IsTupleIter a l (k + 1)) → IsT h' s.heap.objs.size col → h'.objs.size = s.heap.objs.size + 1 →
      (∀ c o, c ≠ z → c ≠ TO → c ∉ is → s.heap.get? c = some o → h'.get? c = some o) → Q (.ref s.heap.objs.size) { s with heap := h' }) :
    wpAny (model prog w) A (Builtin.«zip.__next__» ⟨[.ref z], []⟩) (fun fin s' => ∃ v, fin = .done (.ret v) ∧ Q v s') E s := by
  show wpAny _ _ (field (.ref z) 2 >>= _) _ _ _
  refine wpAny_bind (wpAny_field hz rfl (x := .bool false) rfl ?_)
  show wpAny _ _ (field (.ref z) 3 >>= _) _ _ _
  refine wpAny_bind (wpAny_field hz rfl (x := .ref TI) rfl ?_)
  refine wpAny_bind (wpAny_seqItems hTI rfl ?_)
  have ne : (is.map Value.ref).toArray.isEmpty = false := by
    cases is with
    | nil => exact absurd rfl n0
    | cons a r => rfl
  simp only [ne, Bool.false_eq_true, if_false]
  show wpAny _ _ (Builtin.SmallTypes.ownedTupleIsFree (.ref z) >>= _) _ _ _
  refine wpAny_bind ?_
  unfold Builtin.SmallTypes.ownedTupleIsFree
  refine wpAny_bind (wpAny_field hz rfl (x := .none) rfl (wpAny_pure ?_))
  simp only [if_true]
  refine wpAny_bind (wpAny_rule ?_)
  refine wpAny_bind (wpAny_field hz rfl (x := .ref TO) rfl ?_)
  refine wpAny_bind (wpAny_setField_rec hz (by simp) fun h₁ hz₁ hs₁ => ?_)
  replace hz₁ : IsZ h₁ z TI TO .ellipsis false := hz₁
  refine wpAny_bind ?_
  refine wp_forIn (fun i b s' => b = ⟨none, ⟨⟩⟩ ∧ ∃ h', s' = { s with heap := h' } ∧ IsZ h' z TI TO .ellipsis false ∧ (∃ own' : List Value, IsT h' TO own' ∧ own'.length = is.length ∧ ∀ j, j < i → own'[j]? = col[j]?) ∧ Dr s z TI TO is ls k col i h') _ 0 _ _ ⟨rfl, h₁, rfl, hz₁, ⟨own, hs₁.extBut _ _ D.TOz hTO, lo, fun j hj => absurd hj (Nat.not_lt_zero _)⟩, ⟨fun j a l ha hb => ?_, hs₁.1, fun c o c1 _ _ e => hs₁.extBut _ _ c1 e⟩⟩ (fun j a b s1 ha hj => ?_) fun b s1 hj => ?_
  · rw [if_neg (Nat.not_lt_zero _)]
    exact (hi j a l ha hb).extBut hs₁.extBut fun e => D.zi (e ▸ List.mem_of_getElem? ha)
  · obtain ⟨rfl, h2, rfl, z2, ⟨own2, t2, l2, c2⟩, d2⟩ := hj
    rw [Nat.zero_add] at c2 d2 ⊢
    obtain ⟨it, hit, rfl⟩ : ∃ it, is[j]? = some it ∧ a = (Value.ref it, j) := by
      rw [List.getElem?_zipIdx] at ha
      cases q : is[j]? with
      | none => simp [q] at ha
      | some it =>
        simp [q] at ha
        exact ⟨it, rfl, ha.symm⟩
    have hjl : j < is.length := (List.getElem?_eq_some_iff.mp hit).1
    have hjl2 : j < ls.length := by omega
    have hlj : ls[j]? = some ls[j] := List.getElem?_eq_getElem hjl2
    obtain ⟨c, hc, hck⟩ := hl j _ hlj
    have hcol : col[j]? = some col[j] := List.getElem?_eq_getElem (by omega)
    rw [hcol] at hck
    have mi : it ∈ is := List.mem_of_getElem? hit
    have ml : ls[j] ∈ ls := List.getElem_mem hjl2
    have iz : it ≠ z := fun e => D.zi (e ▸ mi)
    have iT : it ≠ TO := fun e => D.TOi (e ▸ mi)
    have i2 := d2.it j it _ hit hlj
    rw [if_neg (Nat.lt_irrefl _)] at i2
    have c2' : h2.IsTuple ls[j] c := by
      obtain ⟨o, ho, r⟩ := hc
      exact ⟨o, d2.fr _ _ (fun e => D.lz (e ▸ ml)) (fun e => D.lTO (e ▸ ml)) (D.li _ ml) ho, r⟩
    refine wpAny_bind (wpAny_onRaise ?_)
    show wpAny _ _ (Builtin.SmallTypes.nextOf (.ref it) >>= _) _ _ _
    refine wpAny_bind (nextOf_tuple_item (s := { s with heap := h2 }) i2 c2' hck fun h₃ i₃ hs₃ => wpAny_pure ?_)
    have t3 : IsT h₃ TO own2 := hs₃.extBut _ _ iT.symm t2
    refine wpAny_bind (wpAny_seqItems t3 rfl ?_)
    refine wpAny_bind (upd_tup t3 (by omega) fun h₄ t4 hs₄ => ?_)
    refine wpAny_bind (wpAny_letGo (wpAny_pure ⟨_, rfl, rfl, h₄, rfl, hs₄.extBut _ _ D.TOz.symm (hs₃.extBut _ _ iz.symm z2), ⟨_, t4, by simpa using l2, fun m hm => ?_⟩, ⟨fun m a' l' h1 h2' => ?_, by rw [hs₄.1, hs₃.1, d2.sz], fun c' o c1 c3 c4 e => hs₄.extBut _ _ c3 (hs₃.extBut _ _ (fun q => c4 (q ▸ mi)) (d2.fr c' o c1 c3 c4 e))⟩⟩))
    · by_cases e : m = j
      · subst e
        rw [List.getElem?_set_self (by omega), hcol]
      · rw [List.getElem?_set_ne (Ne.symm e)]
        exact c2 m (by omega)
    · have aT : a' ≠ TO := fun q => D.TOi (q ▸ List.mem_of_getElem? h1)
      by_cases e : m = j
      · subst e
        rw [hit] at h1
        rw [hlj] at h2'
        cases h1
        cases h2'
        rw [if_pos (Nat.lt_succ_self _)]
        exact i₃.extBut hs₄.extBut aT
      · have ne2 : a' ≠ it := fun q => by
          subst q
          obtain ⟨b1, e1⟩ := List.getElem?_eq_some_iff.mp h1
          obtain ⟨b2, e2⟩ := List.getElem?_eq_some_iff.mp hit
          exact e ((List.getElem_inj D.nd).mp (e1.trans e2.symm))
        have := ((d2.it m a' l' h1 h2').extBut hs₃.extBut ne2).extBut hs₄.extBut aT
        by_cases lt : m < j
        · rw [if_pos lt] at this
          rw [if_pos (by omega)]
          exact this
        · rw [if_neg lt] at this
          rw [if_neg (by omega)]
          exact this
  · obtain ⟨rfl, h2, rfl, z2, ⟨own2, t2, l2, c2⟩, d2⟩ := hj
    have len : 0 + (is.map Value.ref).toArray.toList.zipIdx.length = is.length := by simp
    rw [len] at c2 d2
    have own_col : own2 = col := by
      apply List.ext_getElem?
      intro j
      by_cases hj : j < is.length
      · exact c2 j hj
      · rw [List.getElem?_eq_none (by omega), List.getElem?_eq_none (by omega)]
    subst own_col
    refine wpAny_bind (wpAny_seqItems t2 rfl ?_)
    refine wpAny_bind (wpAny_newTuple ?_)
    have hzlt : z < h2.objs.size := Heap.lt_size z2
    show wpAny _ _ (Builtin.SmallTypes.ownedTupleHandOut (.ref z) (.ref h2.objs.size) >>= _) _ _ _
    refine wpAny_bind ?_
    unfold Builtin.SmallTypes.ownedTupleHandOut
    have z3 : IsZ (h2.push { cls := .type "tuple", data := .seq own2.toArray }) z TI TO .ellipsis false := Heap.get?_push_of_some _ z2
    refine wpAny_bind (wpAny_setField_rec z3 (by simp) fun h₃ z4 hs₃ => ?_)
    replace z4 : IsZ h₃ z TI TO (rawInt h2.objs.size) false := z4
    refine wpAny_setField_rec z4 (by simp) fun h₄ z5 hs₄ => ?_
    replace z5 : IsZ h₄ z TI TO (rawInt h2.objs.size) false := z5
    have up : ∀ c o, c ≠ z → h2.get? c = some o → h₄.get? c = some o := fun c o c1 e => hs₄.extBut _ _ c1 (hs₃.extBut _ _ c1 (Heap.get?_push_of_some _ e))
    have tn : IsT h₄ h2.objs.size own2 := hs₄.extBut _ _ (Nat.ne_of_gt hzlt) (hs₃.extBut _ _ (Nat.ne_of_gt hzlt) (Heap.get?_push_size _ rfl))
    have sz4 : h₄.objs.size = h2.objs.size + 1 := by rw [hs₄.1, hs₃.1, Heap.size_push]
    rw [d2.sz] at z5 tn sz4
    refine wpAny_pure ⟨_, rfl, ?_⟩
    show Q (.ref h2.objs.size) _
    rw [d2.sz]
    exact hQ h₄ z5 ⟨_, up _ _ D.TOz t2⟩ (fun j a l h1 h2' => by
      have := d2.it j a l h1 h2'
      rw [if_pos (List.getElem?_eq_some_iff.mp h1).1] at this
      exact this.at fun o e => up _ o (fun q => D.zi (q ▸ List.mem_of_getElem? h1)) e) tn sz4 fun c o c1 c3 c4 e => up c o c1 (d2.fr c o c1 c3 c4 e)
theorem next_held {s : Shared} {z TI TO T : Addr} {f : Bool} {oT : Obj} {is ls : List Addr} {k : Nat} {col : List Value} {Q : Value → Shared → Prop} (D : Apart z TI TO is ls) (n0 : is ≠ []) (n1 : is.length ≤ 1000)
    (hz : IsZ s.heap z TI TO (rawInt T) f) (hT : s.heap.get? T = some oT) (hTI : IsT s.heap TI (is.map .ref)) (ll : ls.length = is.length) (lc : col.length = is.length)
    (hi : ∀ (j : Nat) (a l : Addr), is[j]? = some a → ls[j]? = some l → s.heap.IsTupleIter a l k) (hl : ∀ (j : Nat) (l : Addr), ls[j]? = some l → ∃ c : Array Value, s.heap.IsTuple l c ∧ c[k]? = col[j]?)
    (hQ : ∀ h', IsZ h' z TI TO (rawInt T) true → (∀ (j : Nat) (a l : Addr), is[j]? = some a → ls[j]? = some l → h'.IsTupleIter a l (k + 1)) → IsT h' s.heap.objs.size col → h'.objs.size = s.heap.objs.size + 1 →
      (∀ c o, c ≠ z → c ≠ TO → c ∉ is → s.heap.get? c = some o → h'.get? c = some o) → Q (.ref s.heap.objs.size) { s with heap := h' }) :
    wpAny (model prog w) A (Builtin.«zip.__next__» ⟨[.ref z], []⟩) (fun fin s' => ∃ v, fin = .done (.ret v) ∧ Q v s') E s := by
  show wpAny _ _ (field (.ref z) 2 >>= _) _ _ _
  refine wpAny_bind (wpAny_field hz rfl (x := .bool false) rfl ?_)
  show wpAny _ _ (field (.ref z) 3 >>= _) _ _ _
  refine wpAny_bind (wpAny_field hz rfl (x := .ref TI) rfl ?_)
  refine wpAny_bind (wpAny_seqItems hTI rfl ?_)
  have ne : (is.map Value.ref).toArray.isEmpty = false := by
    cases is with
    | nil => exact absurd rfl n0
    | cons a r => rfl
  simp only [ne, Bool.false_eq_true, if_false]
  show wpAny _ _ (Builtin.SmallTypes.ownedTupleIsFree (.ref z) >>= _) _ _ _
  refine wpAny_bind (wpAny_tupleHeld_zip hz hT fun h₁ hz₁ hs₁ => ?_)
  replace hz₁ : IsZ h₁ z TI TO (rawInt T) true := hz₁
  simp only [Bool.false_eq_true, if_false]
  refine wpAny_bind ?_
  rw [← Array.forIn_toList]
  refine wp_forIn (fun i b s' => b = ⟨none, (col.take i).toArray⟩ ∧ ∃ h', s' = { s with heap := h' } ∧ IsZ h' z TI TO (rawInt T) true ∧ Dr s z TI TO is ls k col i h') _ 0 _ _ ⟨rfl, h₁, rfl, hz₁, ⟨fun j a l ha hb => ?_, hs₁.1, fun c o c1 _ _ e => hs₁.extBut _ _ c1 e⟩⟩ (fun j a b s1 ha hj => ?_) fun b s1 hj => ?_
  · rw [if_neg (Nat.not_lt_zero _)]
    exact (hi j a l ha hb).extBut hs₁.extBut fun e => D.zi (e ▸ List.mem_of_getElem? ha)
  · obtain ⟨rfl, h2, rfl, z2, d2⟩ := hj
    rw [Nat.zero_add] at d2 ⊢
    obtain ⟨it, hit, rfl⟩ : ∃ it, is[j]? = some it ∧ a = Value.ref it := by
      cases q : is[j]? with
      | none => simp [q] at ha
      | some it =>
        simp [q] at ha
        exact ⟨it, rfl, ha.symm⟩
    have hjl : j < is.length := (List.getElem?_eq_some_iff.mp hit).1
    have hjl2 : j < ls.length := by omega
    have hlj : ls[j]? = some ls[j] := List.getElem?_eq_getElem hjl2
    obtain ⟨c, hc, hck⟩ := hl j _ hlj
    have hcol : col[j]? = some col[j] := List.getElem?_eq_getElem (by omega)
    rw [hcol] at hck
    have mi : it ∈ is := List.mem_of_getElem? hit
    have ml : ls[j] ∈ ls := List.getElem_mem hjl2
    have iz : it ≠ z := fun e => D.zi (e ▸ mi)
    have i2 := d2.it j it _ hit hlj
    rw [if_neg (Nat.lt_irrefl _)] at i2
    have c2' : h2.IsTuple ls[j] c := by
      obtain ⟨o, ho, r⟩ := hc
      exact ⟨o, d2.fr _ _ (fun e => D.lz (e ▸ ml)) (fun e => D.lTO (e ▸ ml)) (D.li _ ml) ho, r⟩
    refine wpAny_bind (wpAny_holding ?_)
    show wpAny _ _ (Builtin.SmallTypes.nextOf (.ref it) >>= _) _ _ _
    refine wpAny_bind (nextOf_tuple_item (s := { s with heap := h2 }) i2 c2' hck fun h₃ i₃ hs₃ => wpAny_pure ?_)
    have tk : (col.take j).toArray.push col[j] = (col.take (j + 1)).toArray := by
      rw [List.take_add_one, hcol]
      simp
    refine wpAny_pure ⟨_, rfl, by rw [tk], h₃, rfl, hs₃.extBut _ _ iz.symm z2, ⟨fun m a' l' h1 h2' => ?_, by rw [hs₃.1, d2.sz], fun c' o c1 c3 c4 e => hs₃.extBut _ _ (fun q => c4 (q ▸ mi)) (d2.fr c' o c1 c3 c4 e)⟩⟩
    by_cases e : m = j
    · subst e
      rw [hit] at h1
      rw [hlj] at h2'
      cases h1
      cases h2'
      rw [if_pos (Nat.lt_succ_self _)]
      exact i₃
    · have ne2 : a' ≠ it := fun q => by
        subst q
        obtain ⟨b1, e1⟩ := List.getElem?_eq_some_iff.mp h1
        obtain ⟨b2, e2⟩ := List.getElem?_eq_some_iff.mp hit
        exact e ((List.getElem_inj D.nd).mp (e1.trans e2.symm))
      have := (d2.it m a' l' h1 h2').extBut hs₃.extBut ne2
      by_cases lt : m < j
      · rw [if_pos lt] at this
        rw [if_pos (by omega)]
        exact this
      · rw [if_neg lt] at this
        rw [if_neg (by omega)]
        exact this
  · obtain ⟨rfl, h2, rfl, z2, d2⟩ := hj
    have len : 0 + (is.map Value.ref).toArray.toList.length = is.length := by simp
    rw [len] at d2
    have tk : col.take (0 + (is.map Value.ref).toArray.toList.length) = col := by rw [len, ← lc, List.take_length]
    show wpAny _ _ (newTuple (col.take (0 + (is.map Value.ref).toArray.toList.length)).toArray.toList >>= _) _ _ _
    rw [tk]
    have hsz : col.toArray.toList.length ≤ sizeLine := Nat.le_trans (show _ ≤ 1000 by simp; omega) (by decide)
    refine wpAny_bind (wpAny_newTuple (hsz := hsz) ?_)
    refine wpAny_pure ⟨_, rfl, ?_⟩
    show Q (.ref h2.objs.size) _
    have up : ∀ c o, h2.get? c = some o → (h2.push { cls := .type "tuple", data := .seq col.toArray.toList.toArray }).get? c = some o := fun c o e => Heap.get?_push_of_some _ e
    have tn : IsT (h2.push { cls := .type "tuple", data := .seq col.toArray.toList.toArray }) h2.objs.size col := by
      show Heap.get? _ _ = _
      rw [Heap.get?_push_size _ rfl]
    have sz4 : (h2.push { cls := .type "tuple", data := .seq col.toArray.toList.toArray }).objs.size = h2.objs.size + 1 := Heap.size_push ..
    rw [d2.sz] at tn sz4 ⊢
    exact hQ _ (up _ _ z2) (fun j a l h1 h2' => by
      have := d2.it j a l h1 h2'
      rw [if_pos (List.getElem?_eq_some_iff.mp h1).1] at this
      exact this.at fun o e => up _ o e) tn sz4 fun c o c1 c3 c4 e => up c o (d2.fr c o c1 c3 c4 e)
theorem end_held {s : Shared} {z TI TO T i1 l1 : Addr} {f : Bool} {oT : Obj} {ir : List Addr} {k : Nat} {c1 : Array Value} {Q : Fin → Shared → Prop} (hh : A.handled = none) (i1z : i1 ≠ z) (l1z : l1 ≠ z)
    (hz : IsZ s.heap z TI TO (rawInt T) f) (hT : s.heap.get? T = some oT) (hTI : IsT s.heap TI ((i1 :: ir).map .ref))
    (hi : s.heap.IsTupleIter i1 l1 k) (hl : s.heap.IsTuple l1 c1) (hk : c1[k]? = none)
    (hE : ∀ h' e, (∀ c o, c ≠ z → c ≠ i1 → s.heap.get? c = some o → h'.get? c = some o) → (∃ o, h'.get? e = some o ∧ o.cls = .type "StopIteration") → E (.ref e) { s with heap := h' }) :
    wpAny (model prog w) A (Builtin.«zip.__next__» ⟨[.ref z], []⟩) Q E s := by
  show wpAny _ _ (field (.ref z) 2 >>= _) _ _ _
  refine wpAny_bind (wpAny_field hz rfl (x := .bool false) rfl ?_)
  show wpAny _ _ (field (.ref z) 3 >>= _) _ _ _
  refine wpAny_bind (wpAny_field hz rfl (x := .ref TI) rfl ?_)
  refine wpAny_bind (wpAny_seqItems hTI rfl ?_)
  have ne : ((i1 :: ir).map Value.ref).toArray.isEmpty = false := rfl
  simp only [ne, Bool.false_eq_true, if_false]
  show wpAny _ _ (Builtin.SmallTypes.ownedTupleIsFree (.ref z) >>= _) _ _ _
  refine wpAny_bind (wpAny_tupleHeld_zip hz hT fun h₁ hz₁ hs₁ => ?_)
  simp only [Bool.false_eq_true, if_false]
  refine wpAny_bind ?_
  rw [← Array.forIn_toList]
  simp only [List.map_cons, List.forIn_cons]
  refine wpAny_bind (wpAny_bind (wpAny_holding ?_))
  show wpAny _ _ (Builtin.SmallTypes.nextOf (.ref i1) >>= _) _ _ _
  refine wpAny_bind (nextOf_tuple_end (s := { s with heap := h₁ }) hh (hi.extBut hs₁.extBut i1z) (hl.extBut hs₁.extBut l1z) hk fun h₂ e hs₂ he => ?_)
  exact hE h₂ e (fun c o c1 c2 x => hs₂ _ _ c2 (hs₁.extBut _ _ c1 x)) he
theorem py_free {s : Shared} {z TI TO : Addr} {is ls : List Addr} {k : Nat} {col own : List Value} {Q : Option Value → Shared → Prop} (D : Apart z TI TO is ls) (n0 : is ≠ []) (n1 : is.length ≤ 1000)
    (hz : IsZ s.heap z TI TO .none false) (hTI : IsT s.heap TI (is.map .ref)) (hTO : IsT s.heap TO own) (lo : own.length = is.length) (ll : ls.length = is.length) (lc : col.length = is.length)
    (hi : ∀ (j : Nat) (a l : Addr), is[j]? = some a → ls[j]? = some l → s.heap.IsTupleIter a l k) (hl : ∀ (j : Nat) (l : Addr), ls[j]? = some l → ∃ c : Array Value, s.heap.IsTuple l c ∧ c[k]? = col[j]?)
    (hQ : ∀ h', IsZ h' z TI TO (rawInt s.heap.objs.size) false → (∀ (j : Nat) (a l : Addr), is[j]? = some a → ls[j]? = some l → h'.IsTupleIter a l (k + 1)) → IsT h' s.heap.objs.size col → h'.objs.size = s.heap.objs.size + 1 →
      (∀ c o, c ≠ z → c ≠ TO → c ∉ is → s.heap.get? c = some o → h'.get? c = some o) → Q (some (.ref s.heap.objs.size)) { s with heap := h' }) :
    wpAny (model prog w) A (pyNext (.ref z)) Q E s := by
  have hT : s.TypeIs (.ref z) "zip" := ⟨_, hz, rfl⟩
  unfold pyNext
  exact wpAny_bind (wpAny_attempt (wpAny_callSpecial?_slot (name := Str.ofString "__next__") hT F.slot_zip_next
    (wpAny_call_entry F.slot_zip_next hT F.entry_zip_next
      (next_free D n0 n1 hz hTI hTO lo ll lc hi hl fun h' a1 _ a3 a4 a5 a6 => wpAny_pure (hQ h' a1 a3 a4 a5 a6)) (F.args_zip_next_1 _))))
theorem py_held {s : Shared} {z TI TO T : Addr} {f : Bool} {oT : Obj} {is ls : List Addr} {k : Nat} {col : List Value} {Q : Option Value → Shared → Prop} (D : Apart z TI TO is ls) (n0 : is ≠ []) (n1 : is.length ≤ 1000)
    (hz : IsZ s.heap z TI TO (rawInt T) f) (hT : s.heap.get? T = some oT) (hTI : IsT s.heap TI (is.map .ref)) (ll : ls.length = is.length) (lc : col.length = is.length)
    (hi : ∀ (j : Nat) (a l : Addr), is[j]? = some a → ls[j]? = some l → s.heap.IsTupleIter a l k) (hl : ∀ (j : Nat) (l : Addr), ls[j]? = some l → ∃ c : Array Value, s.heap.IsTuple l c ∧ c[k]? = col[j]?)
    (hQ : ∀ h', IsZ h' z TI TO (rawInt T) true → (∀ (j : Nat) (a l : Addr), is[j]? = some a → ls[j]? = some l → h'.IsTupleIter a l (k + 1)) → IsT h' s.heap.objs.size col → h'.objs.size = s.heap.objs.size + 1 →
      (∀ c o, c ≠ z → c ≠ TO → c ∉ is → s.heap.get? c = some o → h'.get? c = some o) → Q (some (.ref s.heap.objs.size)) { s with heap := h' }) :
    wpAny (model prog w) A (pyNext (.ref z)) Q E s := by
  have hTy : s.TypeIs (.ref z) "zip" := ⟨_, hz, rfl⟩
  unfold pyNext
  exact wpAny_bind (wpAny_attempt (wpAny_callSpecial?_slot (name := Str.ofString "__next__") hTy F.slot_zip_next
    (wpAny_call_entry F.slot_zip_next hTy F.entry_zip_next
      (next_held D n0 n1 hz hT hTI ll lc hi hl fun h' a1 a3 a4 a5 a6 => wpAny_pure (hQ h' a1 a3 a4 a5 a6)) (F.args_zip_next_1 _))))
theorem py_end {s : Shared} {z TI TO T i1 l1 : Addr} {f : Bool} {oT : Obj} {ir : List Addr} {k : Nat} {c1 : Array Value} {Q : Option Value → Shared → Prop} (hh : A.handled = none) (i1z : i1 ≠ z) (l1z : l1 ≠ z)
    (hz : IsZ s.heap z TI TO (rawInt T) f) (hT : s.heap.get? T = some oT) (hTI : IsT s.heap TI ((i1 :: ir).map .ref))
    (hi : s.heap.IsTupleIter i1 l1 k) (hl : s.heap.IsTuple l1 c1) (hk : c1[k]? = none)
    (hQ : ∀ h', (∀ c o, c ≠ z → c ≠ i1 → s.heap.get? c = some o → h'.get? c = some o) → Q none { s with heap := h' }) :
    wpAny (model prog w) A (pyNext (.ref z)) Q E s := by
  have hTy : s.TypeIs (.ref z) "zip" := ⟨_, hz, rfl⟩
  unfold pyNext
  refine wpAny_bind (wpAny_attempt (wpAny_callSpecial?_slot (name := Str.ofString "__next__") hTy F.slot_zip_next
    (wpAny_call_entry F.slot_zip_next hTy F.entry_zip_next (end_held hh i1z l1z hz hT hTI hi hl hk fun h' e hk he => ?_) (F.args_zip_next_1 _))))
  obtain ⟨o, ho, hc⟩ := he
  refine wpAny_bind (wpAny_isInstance (T := "StopIteration") (b := true) ⟨o, ho, hc⟩ isSubtype_stop ?_)
  exact wpAny_pure (hQ _ hk)
theorem newClass_ev {s : Shared} {rest : List Value} {Q : Value × List Value → Shared → Prop} (h : Q (.type "zip", rest) s) : wpAny (model prog w) A (Builtin.SmallTypes.newClass "zip" ⟨.type "zip" :: rest, []⟩) Q E s := by
  unfold Builtin.SmallTypes.newClass
  have hsub := sub_zip
  obtain ⟨hp, g, d, tk, os⟩ := s
  wp_walk
  exact h
theorem iterAll_ev {s : Shared} {ls : List Addr} {Q : List Value → Shared → Prop} (hl : ∀ l ∈ ls, ∃ c, s.heap.IsTuple l c)
    (h : ∀ h', (∀ (j : Nat) (l : Addr), ls[j]? = some l → h'.IsTupleIter (s.heap.objs.size + j) l 0) → h'.objs.size = s.heap.objs.size + ls.length → (∀ c o, s.heap.get? c = some o → h'.get? c = some o) →
      Q ((List.range ls.length).map fun j => Value.ref (s.heap.objs.size + j)) { s with heap := h' }) : wpAny (model prog w) A (Builtin.SmallTypes.iterAll (ls.map .ref)) Q E s := by
  unfold Builtin.SmallTypes.iterAll
  refine wpAny_bind ?_
  refine wp_forIn (fun i b s' => b = ((List.range i).map fun j => Value.ref (s.heap.objs.size + j)).toArray ∧ ∃ h', s' = { s with heap := h' } ∧ (∀ (j : Nat) (l : Addr), j < i → ls[j]? = some l → h'.IsTupleIter (s.heap.objs.size + j) l 0) ∧ h'.objs.size = s.heap.objs.size + i ∧ (∀ c o, s.heap.get? c = some o → h'.get? c = some o)) _ 0 _ _ ⟨rfl, s.heap, rfl, fun j l hj => absurd hj (Nat.not_lt_zero _), rfl, fun _ _ e => e⟩ (fun j a b s1 ha hj => ?_) fun b s1 hj => ?_
  · obtain ⟨rfl, h2, rfl, i2, z2, k2⟩ := hj
    rw [Nat.zero_add] at i2 z2 ⊢
    obtain ⟨l, hlj, rfl⟩ : ∃ l, ls[j]? = some l ∧ a = Value.ref l := by
      cases q : ls[j]? with
      | none => simp [q] at ha
      | some l =>
        simp [q] at ha
        exact ⟨l, rfl, ha.symm⟩
    obtain ⟨c, o, ho, r⟩ := hl l (List.mem_of_getElem? hlj)
    refine wpAny_bind (wpAny_holding ?_)
    refine wpAny_pyIter_tuple (s := { s with heap := h2 }) (⟨o, k2 _ _ ho, r⟩ : h2.IsTuple l c) ?_
    refine wpAny_pure ⟨_, rfl, ?_, _, rfl, fun m l' hm e => ?_, ?_, fun c o e => Heap.get?_push_of_some _ (k2 c o e)⟩
    · show _ = ((List.range (j + 1)).map _).toArray
      rw [List.range_succ, List.map_append]
      simp [z2]
    · by_cases q : m = j
      · subst q
        rw [hlj] at e
        cases e
        refine ⟨{ cls := .type "tuple_iterator", data := .fields #[.ref l, .int 0 0] }, ?_, rfl, rfl⟩
        rw [← z2]
        exact Heap.get?_push_size _ rfl
      · exact (i2 m l' (by omega) e).at fun o e => Heap.get?_push_of_some _ e
    · show (Heap.push _ _).objs.size = _
      rw [Heap.size_push, z2]
      rfl
  · obtain ⟨rfl, h2, rfl, i2, z2, k2⟩ := hj
    have len : 0 + (ls.map Value.ref).length = ls.length := by simp
    rw [len] at i2 z2
    refine wpAny_pure ?_
    rw [len]
    exact h h2 (fun j l e => i2 j l (List.getElem?_eq_some_iff.mp e).1 e) z2 k2
theorem new_ev {s : Shared} {ls : List Addr} {Q : Value → Shared → Prop} (hl : ∀ l ∈ ls, ∃ c, s.heap.IsTuple l c) (n1 : ls.length ≤ 1000)
    (h : ∀ h', IsZ h' (s.heap.objs.size + ls.length + 2) (s.heap.objs.size + ls.length) (s.heap.objs.size + ls.length + 1) .none false → IsT h' (s.heap.objs.size + ls.length) ((List.range ls.length).map fun j => Value.ref (s.heap.objs.size + j)) →
      IsT h' (s.heap.objs.size + ls.length + 1) (List.replicate ls.length .none) → (∀ (j : Nat) (l : Addr), ls[j]? = some l → h'.IsTupleIter (s.heap.objs.size + j) l 0) → h'.objs.size = s.heap.objs.size + ls.length + 3 → (∀ c o, s.heap.get? c = some o → h'.get? c = some o) →
      Q (.ref (s.heap.objs.size + ls.length + 2)) { s with heap := h' }) :
    wpAny (model prog w) A (Builtin.«zip.__new__» ⟨.type "zip" :: ls.map .ref, []⟩) (fun fin s' => ∃ v, fin = .done (.ret v) ∧ Q v s') E s := by
  show wpAny _ _ (Builtin.SmallTypes.newClass "zip" ⟨.type "zip" :: ls.map .ref, []⟩ >>= _) _ _ _
  refine wpAny_bind (newClass_ev ?_)
  show wpAny _ _ (Builtin.SmallTypes.iterAll (ls.map .ref) >>= _) _ _ _
  refine wpAny_bind (iterAll_ev hl fun h2 i2 z2 k2 => ?_)
  have s1 : ((List.range ls.length).map fun j => Value.ref (s.heap.objs.size + j)).length ≤ sizeLine := Nat.le_trans (show _ ≤ 1000 by simpa using n1) (by decide)
  refine wpAny_bind (wpAny_newTuple (hsz := s1) ?_)
  have s2 : (((List.range ls.length).map fun j => Value.ref (s.heap.objs.size + j)).map fun _ => Value.none).length ≤ sizeLine := Nat.le_trans (show _ ≤ 1000 by simpa using n1) (by decide)
  refine wpAny_bind (wpAny_newTuple (hsz := s2) ?_)
  generalize hA : h2.push { cls := .type "tuple", data := .seq ((List.range ls.length).map fun j => Value.ref (s.heap.objs.size + j)).toArray } = hA'
  generalize hB : hA'.push { cls := .type "tuple", data := .seq (((List.range ls.length).map fun j => Value.ref (s.heap.objs.size + j)).map fun _ => Value.none).toArray } = hB'
  have zA : hA'.objs.size = s.heap.objs.size + ls.length + 1 := by rw [← hA, Heap.size_push, z2]
  have zB : hB'.objs.size = s.heap.objs.size + ls.length + 2 := by rw [← hB, Heap.size_push, zA]
  show wpAny _ _ (newObj (.type "zip") (.fields #[.none, .bool false, .bool false, .ref h2.objs.size, .ref hA'.objs.size]) >>= _) _ _ { s with heap := hB' }
  refine wpAny_bind (wpAny_newObj_type ?_ (by size_fits))
  refine wpAny_pure ⟨_, rfl, ?_⟩
  show Q (.ref hB'.objs.size) _
  have eA : ∀ c o, h2.get? c = some o → hA'.get? c = some o := fun c o e => by rw [← hA]; exact Heap.get?_push_of_some _ e
  have eB : ∀ c o, hA'.get? c = some o → hB'.get? c = some o := fun c o e => by rw [← hB]; exact Heap.get?_push_of_some _ e
  have gA : IsT hA' h2.objs.size ((List.range ls.length).map fun j => Value.ref (s.heap.objs.size + j)) := by
    show Heap.get? _ _ = _
    rw [← hA]
    exact Heap.get?_push_size _ rfl
  have gB : IsT hB' hA'.objs.size (List.replicate ls.length .none) := by
    show Heap.get? _ _ = _
    have mr : (((List.range ls.length).map fun j => Value.ref (s.heap.objs.size + j)).map fun _ => Value.none) = List.replicate ls.length Value.none := List.eq_replicate_iff.mpr ⟨by simp, fun b hb => by
      obtain ⟨_, _, rfl⟩ := List.mem_map.mp hb
      rfl⟩
    rw [← hB, Heap.get?_push_size _ rfl, mr]
  have g1 : (hB'.push { cls := .type "zip", data := .fields #[.none, .bool false, .bool false, .ref h2.objs.size, .ref hA'.objs.size] }).get? hB'.objs.size = some { cls := .type "zip", data := .fields #[.none, .bool false, .bool false, .ref h2.objs.size, .ref hA'.objs.size] } := Heap.get?_push_size _ rfl
  have g2 := Heap.get?_push_of_some { cls := .type "zip", data := .fields #[.none, .bool false, .bool false, .ref h2.objs.size, .ref hA'.objs.size] } (eB _ _ gA)
  have g3 := Heap.get?_push_of_some { cls := .type "zip", data := .fields #[.none, .bool false, .bool false, .ref h2.objs.size, .ref hA'.objs.size] } gB
  have gs : (hB'.push { cls := .type "zip", data := .fields #[.none, .bool false, .bool false, .ref h2.objs.size, .ref hA'.objs.size] }).objs.size = hB'.objs.size + 1 := Heap.size_push ..
  rw [zB, zA, z2] at g1 
  rw [zA, z2] at g2
  rw [zA, z2] at g3
  rw [zB, zA, z2] at gs
  rw [zB, zA, z2]
  exact h _ g1 g2 g3 (fun j l e => (i2 j l e).at fun o e => Heap.get?_push_of_some _ (eB _ _ (eA _ _ e))) gs fun c o e => Heap.get?_push_of_some _ (eB _ _ (eA _ _ (k2 c o e)))
theorem typeCallN : ∀ (a : List Value), 1 ≤ a.length → a.length ≤ 5 → checkTypeCall "zip" ⟨a, []⟩ = pure ()
  | [a], _, _ => by kernel_rfl
  | [a, b], _, _ => by kernel_rfl
  | [a, b, c], _, _ => by kernel_rfl
  | [a, b, c, d], _, _ => by kernel_rfl
  | [a, b, c, d, e], _, _ => by kernel_rfl
  | [], h, _ => by simp at h
  | _ :: _ :: _ :: _ :: _ :: _ :: _, _, h => by simp at h
theorem newCallN : ∀ (a : List Value), 1 ≤ a.length → a.length ≤ 5 → checkBuiltinCall "zip.__new__" ⟨.type "zip" :: a, []⟩ = pure ()
  | [a], _, _ => by kernel_rfl
  | [a, b], _, _ => by kernel_rfl
  | [a, b, c], _, _ => by kernel_rfl
  | [a, b, c, d], _, _ => by kernel_rfl
  | [a, b, c, d, e], _, _ => by kernel_rfl
  | [], h, _ => by simp at h
  | _ :: _ :: _ :: _ :: _ :: _ :: _, _, h => by simp at h
theorem argsInitN (x : Value) : ∀ (a : List Value), 1 ≤ a.length → a.length ≤ 5 → argsOk "object.__init__" ⟨x :: a, []⟩
  | [a], _, _ => by
    unfold argsOk; rw [signature?_of (id := "object.__init__") (n := ['_', '_', 't', 'i', 'n', 'i', '_', '_']) (o := ['t', 'c', 'e', 'j', 'b', 'o']) (by kernel_rfl) F.owner_object]; kernel_rfl
  | [a, b], _, _ => by
    unfold argsOk; rw [signature?_of (id := "object.__init__") (n := ['_', '_', 't', 'i', 'n', 'i', '_', '_']) (o := ['t', 'c', 'e', 'j', 'b', 'o']) (by kernel_rfl) F.owner_object]; kernel_rfl
  | [a, b, c], _, _ => by
    unfold argsOk; rw [signature?_of (id := "object.__init__") (n := ['_', '_', 't', 'i', 'n', 'i', '_', '_']) (o := ['t', 'c', 'e', 'j', 'b', 'o']) (by kernel_rfl) F.owner_object]; kernel_rfl
  | [a, b, c, d], _, _ => by
    unfold argsOk; rw [signature?_of (id := "object.__init__") (n := ['_', '_', 't', 'i', 'n', 'i', '_', '_']) (o := ['t', 'c', 'e', 'j', 'b', 'o']) (by kernel_rfl) F.owner_object]; kernel_rfl
  | [a, b, c, d, e], _, _ => by
    unfold argsOk; rw [signature?_of (id := "object.__init__") (n := ['_', '_', 't', 'i', 'n', 'i', '_', '_']) (o := ['t', 'c', 'e', 'j', 'b', 'o']) (by kernel_rfl) F.owner_object]; kernel_rfl
  | [], h, _ => by simp at h
  | _ :: _ :: _ :: _ :: _ :: _ :: _, _, h => by simp at h
theorem call_zipN {s : Shared} {ls : List Addr} {Q : Value → Shared → Prop} (hl : ∀ l ∈ ls, ∃ c, s.heap.IsTuple l c) (n0 : 1 ≤ ls.length) (n1 : ls.length ≤ 5)
    (h : ∀ h', IsZ h' (s.heap.objs.size + ls.length + 2) (s.heap.objs.size + ls.length) (s.heap.objs.size + ls.length + 1) .none false → IsT h' (s.heap.objs.size + ls.length) ((List.range ls.length).map fun j => Value.ref (s.heap.objs.size + j)) →
      IsT h' (s.heap.objs.size + ls.length + 1) (List.replicate ls.length .none) → (∀ (j : Nat) (l : Addr), ls[j]? = some l → h'.IsTupleIter (s.heap.objs.size + j) l 0) → h'.objs.size = s.heap.objs.size + ls.length + 3 → (∀ c o, s.heap.get? c = some o → h'.get? c = some o) →
      Q (.ref (s.heap.objs.size + ls.length + 2)) { s with heap := h' }) :
    wpAny (model prog w) A (call (.type "zip") (ls.map .ref)) Q E s := by
  have m : Meets (Builtin.«zip.__new__» ⟨.type "zip" :: ls.map .ref, []⟩) (fun _ R s => (∀ l ∈ ls, ∃ c, s.heap.IsTuple l c) ∧ ∀ h', IsZ h' (s.heap.objs.size + ls.length + 2) (s.heap.objs.size + ls.length) (s.heap.objs.size + ls.length + 1) .none false → IsT h' (s.heap.objs.size + ls.length) ((List.range ls.length).map fun j => Value.ref (s.heap.objs.size + j)) →
      IsT h' (s.heap.objs.size + ls.length + 1) (List.replicate ls.length .none) → (∀ (j : Nat) (l : Addr), ls[j]? = some l → h'.IsTupleIter (s.heap.objs.size + j) l 0) → h'.objs.size = s.heap.objs.size + ls.length + 3 → (∀ c o, s.heap.get? c = some o → h'.get? c = some o) →
      R (.ok (.ret (.ref (s.heap.objs.size + ls.length + 2)))) { s with heap := h' }) :=
    .of_wp fun prog w A R s h => new_ev (Q := fun v s' => R (.ok (.ret v)) s') h.1 (by omega) h.2
  exact callType_new F.called_zip (by decide) (typeCallN _ (by simpa using n0) (by simpa using n1)) (newCallN _ (by simpa using n0) (by simpa using n1)) (fun obj => argsInitN obj _ (by simpa using n0) (by simpa using n1)) F.entry_zip_new m
    ⟨hl, fun h' a1 a2 a3 a4 a5 a6 => ⟨⟨_, a1, rfl⟩, h h' a1 a2 a3 a4 a5 a6⟩⟩
end
end RZN

set_option Elab.async false
set_option linter.all false
set_option maxRecDepth 100000
set_option maxHeartbeats 4000000
/-! list(zip(*rows)) -/
namespace RZN
open PySem RZ L2
open PySem.Sem (wp)
theorem zip_no_len : typeLookup (.type "zip") "__len__" = pure none := by rw [typeLookup_type, builtinLookup_eq_fast]; kernel_rfl
theorem zip_no_hint : typeLookup (.type "zip") "__length_hint__" = pure none := by rw [typeLookup_type, builtinLookup_eq_fast]; kernel_rfl
section
variable {prog : Program} {w : World} {A : Around} {E : Value → Shared → Prop}
abbrev LO (acc : Array Value) (c : Nat) : Obj := { cls := .type "list", dict := none, data := .seq acc c, slots := #[] }
/-- what the list's filling left -/
structure Out (h h' : Heap) (S z TO : Addr) (is : List Addr) (acc : List Value) (cols : List (List Value)) (Ts : List Addr) : Prop where
  lst : ∃ c, h'.get? S = some (LO (acc ++ Ts.map Value.ref).toArray c)
  len : Ts.length = cols.length
  tup : ∀ (i : Nat) (T : Addr) (c : List Value), Ts[i]? = some T → cols[i]? = some c → IsT h' T c
  new : ∀ T ∈ Ts, h.objs.size ≤ T
  nd : Ts.Nodup
  fr : ∀ c o, c ≠ S → c ≠ z → c ≠ TO → c ∉ is → h.get? c = some o → h'.get? c = some o
/-- the state ahead of a draw, a tuple handed out -/
structure Held (h : Heap) (S z TI TO : Addr) (is ls : List Addr) (m k : Nat) (acc : List Value) : Prop where
  z : ∃ (T : Addr) (f : Bool) (oT : Obj), IsZ h z TI TO (rawInt T) f ∧ h.get? T = some oT ∧ T ≠ S ∧ T ≠ z ∧ T ≠ TO ∧ T ∉ is
  to : TO < h.objs.size
  ti : IsT h TI (is.map .ref)
  it : ∀ (j : Nat) (a l : Addr), is[j]? = some a → ls[j]? = some l → h.IsTupleIter a l k
  S : ∃ c, h.get? S = some (LO acc.toArray c)
theorem loop_ev {R : Result → Shared → Prop} {res : Value} {S z TI TO : Addr} {is ls : List Addr} (hh : A.handled = none) (D : Apart z TI TO is ls) (n0 : is ≠ []) (n1 : is.length ≤ 1000) (ll : ls.length = is.length) (Sz : S ≠ z) (STI : S ≠ TI) (STO : S ≠ TO) (Si : S ∉ is) (Sl : S ∉ ls) :
    ∀ (cols : List (List Value)) (k m : Nat) (acc : List Value) (s : Shared), Held s.heap S z TI TO is ls m k acc → k + cols.length = m → acc.length + cols.length ≤ 1000 → (∀ c ∈ cols, c.length = is.length) →
      (∀ (j : Nat) (l : Addr), ls[j]? = some l → ∃ c : Array Value, s.heap.IsTuple l c ∧ c.size = m ∧ ∀ (i : Nat) (cl : List Value), cols[i]? = some cl → c[k + i]? = cl[j]?) →
      (∀ h' Ts, Out s.heap h' S z TO is acc cols Ts → R (.ok (.ret res)) { s with heap := h' }) →
      codeAny (model prog w) A (.builtin "list.extend.loop" ⟨[.ref S, .ref z, res], []⟩) R s
  | [], k, m, acc, s, H, hk, ha, hc, hl, hR => by
    obtain ⟨⟨T, f, oT, hz, hT, tS, tz, tT, ti⟩, hto, hti, hi, ⟨c, hS⟩⟩ := H
    cases is with
    | nil => exact absurd rfl n0
    | cons i1 ir =>
      cases ls with
      | nil => simp at ll
      | cons l1 lr =>
        obtain ⟨c1, hc1, sz1, _⟩ := hl 0 l1 rfl
        refine codeAny_builtin F.entry_extend_loop ?_
        rw [Around.under_plainId F.plain_extend_loop _]
        show wpAny _ A.in1 (pyNext (.ref z) >>= _) _ _ s
        refine wpAny_bind (py_end (A := A.in1) hh (fun e => D.zi (e ▸ List.mem_cons_self)) (fun e => D.lz (e ▸ List.mem_cons_self)) hz hT hti (hi 0 i1 l1 rfl rfl) hc1 (by simp at hk; rw [Array.getElem?_eq_none]; omega) fun h' hk' => ?_)
        exact wpAny_pure (hR h' [] ⟨⟨c, by simpa using hk' S _ Sz (fun e => Si (e ▸ List.mem_cons_self)) hS⟩, rfl, fun i T c e => by simp at e, by simp, by simp, fun c o c1 c2 c3 c4 e => hk' c o c2 (fun q => c4 (q ▸ List.mem_cons_self)) e⟩)
  | col :: cols, k, m, acc, s, H, hk, ha, hc, hl, hR => by
    obtain ⟨⟨T, f, oT, hz, hT, tS, tz, tT, ti⟩, hto, hti, hi, ⟨c, hS⟩⟩ := H
    rw [List.length_cons] at hk ha
    refine codeAny_builtin F.entry_extend_loop ?_
    rw [Around.under_plainId F.plain_extend_loop _]
    show wpAny _ A.in1 (pyNext (.ref z) >>= _) _ _ s
    refine wpAny_bind (py_held (A := A.in1) D n0 n1 hz hT hti ll (hc col List.mem_cons_self) hi (fun j l e => ?_) fun h' z' i' t' sz' k' => ?_)
    · obtain ⟨cc, h1, h2, h3⟩ := hl j l e
      exact ⟨cc, h1, h3 0 col rfl⟩
    have hS1 : h'.get? S = some (LO acc.toArray c) := k' S _ Sz STO Si hS
    show wpAny _ A.in1 (updateSeq S (·.push (.ref s.heap.objs.size)) >>= _) _ _ _
    refine wpAny_bind ?_
    refine wpAny_updateSeq hS1 rfl (wpAny_pure ⟨plainId_quiet F.plain_extend_loop _, ?_⟩) (Nat.le_trans (by rw [List.size_toArray]; omega : _ ≤ 1000) (by decide)) (Nat.le_trans (by rw [Array.size_push, List.size_toArray]; omega : _ ≤ 1001) (by decide))
    have hS2 := Heap.get?_update_self (Obj.mapSeq (·.push (Value.ref s.heap.objs.size))) hS1 rfl
    have oth : ∀ b o, b ≠ S → h'.get? b = some o → (h'.update S (Obj.mapSeq (·.push (Value.ref s.heap.objs.size)))).get? b = some o := fun b o hb e => (Heap.get?_update_other _ _ (Ne.symm hb)).trans e
    generalize hH : h'.update S (Obj.mapSeq (·.push (Value.ref s.heap.objs.size))) = h2 at hS2 oth
    obtain ⟨c', hS3⟩ : ∃ c', h2.get? S = some (LO (acc.toArray.push (Value.ref s.heap.objs.size)) c') := ⟨_, hS2⟩
    rw [List.push_toArray] at hS3
    have szz : h2.objs.size = s.heap.objs.size + 1 := by
      rw [← hH, ← sz']
      exact Heap.size_update ..
    have Tz : s.heap.objs.size ≠ S := Nat.ne_of_gt (Heap.lt_size hS)
    have iNo : ∀ a ∈ is, a ≠ s.heap.objs.size := fun a ha e => by
      obtain ⟨j, hj, ej⟩ := List.mem_iff_getElem.mp ha
      obtain ⟨o, ho, _⟩ := hi j a ls[j] (by rw [← ej]; exact List.getElem?_eq_getElem hj) (List.getElem?_eq_getElem (by omega))
      have := Heap.lt_size ho
      exact absurd e (Nat.ne_of_lt this)
    have iS : ∀ a ∈ is, a ≠ S := fun a ha e => Si (e ▸ ha)
    refine loop_ev hh D n0 n1 ll Sz STI STO Si Sl cols (k + 1) m (acc ++ [Value.ref s.heap.objs.size]) { s with heap := h2 } ⟨⟨T, true, oT, oth _ _ Sz.symm z', oth _ _ tS (k' _ _ tz tT ti hT), tS, tz, tT, ti⟩, Nat.lt_of_lt_of_le hto (by show s.heap.objs.size ≤ h2.objs.size; omega), oth _ _ STI.symm (k' _ _ D.TIz D.TITO D.TIi hti), fun j a l h1 h3 => (i' j a l h1 h3).at fun o e => oth _ o (iS a (List.mem_of_getElem? h1)) e, ⟨_, hS3⟩⟩ (by omega) (by simp; omega) (fun c hc' => hc c (List.mem_cons_of_mem _ hc')) (fun j l e => ?_) fun h3 Ts O => ?_
    · obtain ⟨cc, ⟨o, ho, r⟩, h2', h3⟩ := hl j l e
      have lm : l ∈ ls := List.mem_of_getElem? e
      refine ⟨cc, ⟨o, oth _ _ (fun q => Sl (q ▸ lm)) (k' _ _ (fun q => D.lz (q ▸ lm)) (fun q => D.lTO (q ▸ lm)) (D.li _ lm) ho), r⟩, h2', fun i cl ei => ?_⟩
      have := h3 (i + 1) cl (by simpa using ei)
      rw [show k + 1 + i = k + (i + 1) by omega]
      exact this
    · refine hR h3 (s.heap.objs.size :: Ts) ⟨?_, by rw [List.length_cons, List.length_cons, O.len], fun i T' c' e1 e2 => ?_, fun T' hT' => ?_, ?_, fun b o b1 b2 b3 b4 e => O.fr b o b1 b2 b3 b4 (oth _ _ b1 (k' _ _ b2 b3 b4 e))⟩
      · obtain ⟨c', e⟩ := O.lst
        exact ⟨c', by rw [e]; simp⟩
      · cases i with
        | zero =>
          cases e1
          cases e2
          exact O.fr _ _ Tz (Nat.ne_of_gt (Heap.lt_size hz)) (Nat.ne_of_gt hto) (fun q => iNo _ q rfl) (oth _ _ Tz t')
        | succ i => exact O.tup i T' c' (by simpa using e1) (by simpa using e2)
      · rcases List.mem_cons.mp hT' with rfl | q
        · exact Nat.le_refl _
        · have := O.new T' q
          rw [szz] at this
          omega
      · refine List.nodup_cons.mpr ⟨fun q => ?_, O.nd⟩
        have := O.new _ q
        rw [szz] at this
        omega
theorem call_listZ {s : Shared} {z TI TO : Addr} {is ls : List Addr} {own col : List Value} {cols : List (List Value)} {Q : Value → Shared → Prop} (hh : A.handled = none) (D : Apart z TI TO is ls) (n0 : is ≠ []) (n1 : is.length ≤ 1000) (ll : ls.length = is.length)
    (hz : IsZ s.heap z TI TO .none false) (hTI : IsT s.heap TI (is.map .ref)) (hTO : IsT s.heap TO own) (lo : own.length = is.length)
    (hi : ∀ (j : Nat) (a l : Addr), is[j]? = some a → ls[j]? = some l → s.heap.IsTupleIter a l 0) (lm : (col :: cols).length ≤ 999) (lc : ∀ c ∈ col :: cols, c.length = is.length)
    (hl : ∀ (j : Nat) (l : Addr), ls[j]? = some l → ∃ c : Array Value, s.heap.IsTuple l c ∧ c.size = (col :: cols).length ∧ ∀ (i : Nat) (cl : List Value), (col :: cols)[i]? = some cl → c[i]? = cl[j]?)
    (hQ : ∀ h' Ts, Out s.heap h' s.heap.objs.size z TO is [] (col :: cols) Ts → Q (.ref s.heap.objs.size) { s with heap := h' }) :
    wpAny (model prog w) A (call (.type "list") [.ref z]) Q E s := by
  have zl : z < s.heap.objs.size := Heap.lt_size hz
  have TIl : TI < s.heap.objs.size := Heap.lt_size hTI
  have TOl : TO < s.heap.objs.size := Heap.lt_size hTO
  have isl : ∀ a ∈ is, a < s.heap.objs.size := fun a ha => by
    obtain ⟨j, hj, ej⟩ := List.mem_iff_getElem.mp ha
    obtain ⟨o, ho, _⟩ := hi j a ls[j] (by rw [← ej]; exact List.getElem?_eq_getElem hj) (List.getElem?_eq_getElem (by omega))
    exact Heap.lt_size ho
  have lsl : ∀ l ∈ ls, l < s.heap.objs.size := fun l hl' => by
    obtain ⟨j, hj, ej⟩ := List.mem_iff_getElem.mp hl'
    obtain ⟨_, ⟨o, ho, _⟩, _⟩ := hl j l (by rw [← ej]; exact List.getElem?_eq_getElem hj)
    exact Heap.lt_size ho
  have Sz : s.heap.objs.size ≠ z := Nat.ne_of_gt zl
  have STI : s.heap.objs.size ≠ TI := Nat.ne_of_gt TIl
  have STO : s.heap.objs.size ≠ TO := Nat.ne_of_gt TOl
  have Si : s.heap.objs.size ∉ is := fun q => Nat.lt_irrefl _ (isl _ q)
  have Sl : s.heap.objs.size ∉ ls := fun q => Nat.lt_irrefl _ (lsl _ q)
  refine callType_codes (Q₁ := fun obj s₁ => obj = .ref s.heap.objs.size ∧ s₁ = { s with heap := s.heap.push { cls := .type "list", data := .seq #[] } }) F.called_list (F.typeCall_list_1 _) F.entry_list_init
    (code_list_new _ ⟨rfl, rfl⟩) fun obj s₁ h₁ => ?_
  obtain ⟨rfl, rfl⟩ := h₁
  have hS : (s.heap.push { cls := .type "list", data := .seq #[] }).get? s.heap.objs.size = some { cls := .type "list", data := .seq #[] } := Heap.get?_push_size _ rfl
  refine ⟨⟨_, hS, rfl⟩, F.args_list_init_2 _ _, ?_⟩
  show wpAny _ A.in1.in1 (do let old ← Builtin.List.listItems (.ref s.heap.objs.size); Builtin.List.listUpdate (.ref s.heap.objs.size) (fun _ => #[]); letGo old.toList.reverse; Builtin.List.listExtendWith (.ref s.heap.objs.size) (.ref z) .none) _ _ _
  refine wpAny_bind ?_
  unfold Builtin.List.listItems
  refine wpAny_bind (wpAny_seqItems hS rfl (wpAny_pure ?_))
  show wpAny _ A.in1.in1 (updateSeq s.heap.objs.size (fun _ => #[]) >>= fun _ => letGo (#[] : Array Value).toList.reverse >>= fun _ => Builtin.List.listExtendWith (.ref s.heap.objs.size) (.ref z) .none) _ _ _
  refine wpAny_bind (wpAny_updateSeq hS rfl ?_)
  have hS2 := Heap.get?_update_self (Obj.mapSeq (fun _ => (#[] : Array Value))) hS rfl
  refine wpAny_bind (wpAny_letGo ?_)
  unfold Builtin.List.listExtendWith
  have up : ∀ (h : Heap) (f : Obj → Obj), (∀ b o, s.heap.get? b = some o → h.get? b = some o) → ∀ b o, s.heap.get? b = some o → (h.update s.heap.objs.size f).get? b = some o := fun h f q b o e =>
    (Heap.get?_update_other _ _ (Ne.symm (Nat.ne_of_lt (Heap.lt_size e)))).trans (q b o e)
  have k1 : ∀ b o, s.heap.get? b = some o → (s.heap.push { cls := .type "list", data := .seq #[] }).get? b = some o := fun b o e => Heap.get?_push_of_some _ e
  have k2 := up _ (Obj.mapSeq (fun _ => (#[] : Array Value))) k1
  have zty : ∀ {h : Heap}, (∀ b o, s.heap.get? b = some o → h.get? b = some o) → Shared.TypeIs { s with heap := h } (.ref z) "zip" := fun {h} q => ⟨_, q _ _ hz, rfl⟩
  refine wpAny_bind (wpAny_typeOf (zty k2) ?_)
  have h1 : Builtin.List.listSameRef (.ref s.heap.objs.size) (.ref z) = false := by simp [Builtin.List.listSameRef, Sz]
  have h2 : (Value.type "zip" == Value.type "list") = false := by decide
  have h3 : (Value.type "zip" == Value.type "tuple") = false := by decide
  simp only [h1, h2, h3, Bool.or_false, Bool.false_eq_true, if_false]
  refine wpAny_bind (wpAny_pyIter_zip (s := { s with heap := _ }) (k2 _ _ hz) ?_)
  refine wpAny_bind (wpAny_holding ?_)
  unfold Builtin.List.listLengthHint
  refine wpAny_bind (wpAny_specialOf (zty k2) zip_no_len ?_)
  show wpAny _ A.in1.in1 (specialOf (Value.ref z) (Str.ofString "__length_hint__") >>= _) _ _ _
  refine wpAny_bind (wpAny_specialOf (zty k2) zip_no_hint ?_)
  refine wpAny_pure ?_
  show wpAny _ A.in1.in1 (rule "list.extend.makes-room" >>= fun _ => Builtin.List.listTouch (.ref s.heap.objs.size) >>= fun _ =>
    again (.builtin "list.extend.loop" ⟨[.ref s.heap.objs.size, .ref z, .none], []⟩)) _ _ _
  refine wpAny_bind (wpAny_rule ?_)
  refine wpAny_bind ?_
  show wpAny _ A.in1.in1 (updateSeq s.heap.objs.size (·.push .none) >>= fun _ => updateSeq s.heap.objs.size (·.pop)) _ _ _
  refine wpAny_bind (wpAny_updateSeq hS2 rfl ?_)
  have hS3 := Heap.get?_update_self (Obj.mapSeq (·.push Value.none)) hS2 rfl
  refine wpAny_updateSeq (hz := by seq_fits) hS3 rfl ?_
  have hS4 := Heap.get?_update_self (Obj.mapSeq (·.pop)) hS3 rfl
  have k4 := up _ (Obj.mapSeq (·.pop)) (up _ (Obj.mapSeq (·.push Value.none)) k2)
  refine wpAny_pure ⟨plainId_quiet F.plain_extend_loop _, ?_⟩
  obtain ⟨c4, hS5⟩ : ∃ c, (((((s.heap.push { cls := .type "list", data := .seq #[] }).update s.heap.objs.size (Obj.mapSeq (fun _ => (#[] : Array Value)))).update s.heap.objs.size (Obj.mapSeq (·.push Value.none))).update s.heap.objs.size (Obj.mapSeq (·.pop)))).get? s.heap.objs.size = some (LO (([] : List Value).toArray) c) := ⟨_, hS4⟩
  have z4 : (((((s.heap.push { cls := .type "list", data := .seq #[] }).update s.heap.objs.size (Obj.mapSeq (fun _ => (#[] : Array Value)))).update s.heap.objs.size (Obj.mapSeq (·.push Value.none))).update s.heap.objs.size (Obj.mapSeq (·.pop)))).objs.size = s.heap.objs.size + 1 := by
    rw [Heap.size_update, Heap.size_update, Heap.size_update, Heap.size_push]
  generalize ((((s.heap.push { cls := .type "list", data := .seq #[] }).update s.heap.objs.size (Obj.mapSeq (fun _ => (#[] : Array Value)))).update s.heap.objs.size (Obj.mapSeq (·.push Value.none))).update s.heap.objs.size (Obj.mapSeq (·.pop))) = h4 at hS5 z4 k4 ⊢
  -- the first draw
  refine codeAny_builtin F.entry_extend_loop ?_
  rw [Around.under_plainId F.plain_extend_loop _]
  show wpAny _ A.in1.in1 (pyNext (.ref z) >>= _) _ _ { s with heap := h4 }
  refine wpAny_bind (py_free (s := { s with heap := h4 }) D n0 n1 (k4 _ _ hz) (k4 _ _ hTI) (k4 _ _ hTO) lo ll (lc col List.mem_cons_self) (fun j a l e1 e2 => (hi j a l e1 e2).at fun o e => k4 _ o e) (fun j l e => ?_) fun h' z' i' t' sz' k' => ?_)
  · obtain ⟨cc, ⟨o, ho, r⟩, h2', h3'⟩ := hl j l e
    exact ⟨cc, ⟨o, k4 _ _ ho, r⟩, by simpa using h3' 0 col rfl⟩
  have sz' : h'.objs.size = h4.objs.size + 1 := sz'
  have hS6 : h'.get? s.heap.objs.size = some (LO (([] : List Value).toArray) c4) := k' _ _ Sz STO Si hS5
  show wpAny _ A.in1.in1 (updateSeq s.heap.objs.size (·.push (.ref h4.objs.size)) >>= _) _ _ _
  refine wpAny_bind ?_
  refine wpAny_updateSeq hS6 rfl (wpAny_pure ⟨plainId_quiet F.plain_extend_loop _, ?_⟩)
  have hS7 := Heap.get?_update_self (Obj.mapSeq (·.push (Value.ref h4.objs.size))) hS6 rfl
  have oth : ∀ b o, b ≠ s.heap.objs.size → h'.get? b = some o → (h'.update s.heap.objs.size (Obj.mapSeq (·.push (Value.ref h4.objs.size)))).get? b = some o := fun b o hb e => (Heap.get?_update_other _ _ (Ne.symm hb)).trans e
  obtain ⟨c7, hS8⟩ : ∃ c, (h'.update s.heap.objs.size (Obj.mapSeq (·.push (Value.ref h4.objs.size)))).get? s.heap.objs.size = some (LO (([] : List Value).toArray.push (Value.ref h4.objs.size)) c) := ⟨_, hS7⟩
  have szz : (h'.update s.heap.objs.size (Obj.mapSeq (·.push (Value.ref h4.objs.size)))).objs.size = h4.objs.size + 1 := by
    rw [← sz']
    exact Heap.size_update ..
  generalize h'.update s.heap.objs.size (Obj.mapSeq (·.push (Value.ref h4.objs.size))) = h8 at hS8 oth szz
  rw [List.push_toArray] at hS8
  have Tz : h4.objs.size ≠ s.heap.objs.size := by rw [z4]; exact Nat.succ_ne_self _
  have Tzz : h4.objs.size ≠ z := by rw [z4]; exact Nat.ne_of_gt (Nat.lt_succ_of_lt zl)
  have TTO : h4.objs.size ≠ TO := by rw [z4]; exact Nat.ne_of_gt (Nat.lt_succ_of_lt TOl)
  have Ti : h4.objs.size ∉ is := fun q => by
    have q1 := isl _ q
    rw [z4] at q1
    exact absurd q1 (Nat.not_lt.mpr (Nat.le_succ _))
  have lm' : cols.length + 1 ≤ 999 := by simpa using lm
  refine loop_ev (A := A.in1) hh D n0 n1 ll Sz STI STO Si Sl cols 1 (cols.length + 1) [Value.ref h4.objs.size] { s with heap := h8 } ⟨⟨h4.objs.size, false, _, oth _ _ Sz.symm z', oth _ _ Tz t', Tz, Tzz, TTO, Ti⟩, Nat.lt_of_lt_of_le TOl (by show s.heap.objs.size ≤ h8.objs.size; omega), oth _ _ STI.symm (k' _ _ D.TIz D.TITO D.TIi (k4 _ _ hTI)), fun j a l e1 e2 => (i' j a l e1 e2).at fun o e => oth _ o (fun q => Si (q ▸ List.mem_of_getElem? e1)) e, ⟨_, hS8⟩⟩ (by omega) (by show 1 + cols.length ≤ 1000; omega) (fun c hc => lc c (List.mem_cons_of_mem _ hc)) (fun j l e => ?_) fun h3 Ts O => ?_
  · obtain ⟨cc, ⟨o, ho, r⟩, h2', h3'⟩ := hl j l e
    have lm : l ∈ ls := List.mem_of_getElem? e
    refine ⟨cc, ⟨o, oth _ _ (fun q => Sl (q ▸ lm)) (k' _ _ (fun q => D.lz (q ▸ lm)) (fun q => D.lTO (q ▸ lm)) (D.li _ lm) (k4 _ _ ho)), r⟩, by simpa using h2', fun i cl ei => ?_⟩
    have := h3' (i + 1) cl (by simpa using ei)
    rw [show 1 + i = i + 1 by omega]
    exact this
  · refine ⟨rfl, hQ h3 (h4.objs.size :: Ts) ⟨?_, by rw [List.length_cons, List.length_cons, O.len], fun i T' c' e1 e2 => ?_, fun T' hT' => ?_, ?_, fun b o b1 b2 b3 b4 e => O.fr b o b1 b2 b3 b4 (oth _ _ b1 (k' _ _ b2 b3 b4 (k4 _ _ e)))⟩⟩
    · obtain ⟨c', e⟩ := O.lst
      exact ⟨c', by rw [e]; simp⟩
    · cases i with
      | zero =>
        cases e1
        cases e2
        exact O.fr _ _ Tz Tzz TTO Ti (oth _ _ Tz t')
      | succ i => exact O.tup i T' c' (by simpa using e1) (by simpa using e2)
    · rcases List.mem_cons.mp hT' with rfl | q
      · omega
      · have q2 : h8.objs.size ≤ T' := O.new T' q
        omega
    · refine List.nodup_cons.mpr ⟨fun q => ?_, O.nd⟩
      have q2 : h8.objs.size ≤ h4.objs.size := O.new _ q
      omega
end
end RZN

set_option Elab.async false
set_option linter.all false
set_option maxRecDepth 100000
set_option maxHeartbeats 4000000
/-! list(zip(*rows)), rows a tuple of tuples -/
namespace RZN
open PySem PySem.Spec PyProof.Rows RZ L2
theorem callWith_typeS {M : Model} {A : Around} {E : Value → Shared → Prop} {s : Shared} {env : PySem.Env} {pos p : Pos} {T : String} {e : Expr} {Q : Value → Shared → Prop}
    (h : wpAny M A (eval e env) (fun v s₁ => PySem.W.StarOf M A E v (fun vs s₂ => wpAny M A (call (.type T) vs) Q E s₂) s₁) E s)
    (he : starEach [.Starred e p] env = [(true, eval e env)] := by rfl) :
    wpAny M A (callWith pos (.type T) [] (backTo pos (starEach [.Starred e p] env)) []) Q E s := by
  rw [he]
  refine PySem.W.ks_call (P := fun _ => True) rfl (fun h _ => ⟨.machine, .inr (.inl rfl), PySem.W.Looks.of_pure rfl⟩) (PySem.W.ks_lone ?_)
  refine wpAny_mono h (fun v s₁ h₁ => ?_) fun _ _ x => x
  unfold PySem.W.StarOf at h₁ ⊢
  refine wpAny_mono h₁ (fun b s₂ h₂ => ⟨h₂.1, wpAny_mono h₂.2 (fun vs s₃ h₃ => ⟨trivial, h₃⟩) fun _ _ x => x⟩) fun _ _ x => x
/-- new tuples, one after the other -/
inductive Cols : Hp → List (List V) → List Addr → Hp → Prop
  | nil {H : Hp} : Cols H [] [] H
  | cons {H H2 : Hp} {c : List V} {cs : List (List V)} {T : Addr} {Ts : List Addr} : H T = none → Cols (upd H T (.tup c)) cs Ts H2 → Cols H (c :: cs) (T :: Ts) H2
theorem mkCols {P : Program} {w : World} {h : Heap} : ∀ (cs : List (List V)) (Ts : List Addr) (H : Hp), cs.length = Ts.length → Ts.Nodup → (∀ T ∈ Ts, H T = none) → HOk P w H h →
    (∀ (i : Nat) (T : Addr) (c : List V), Ts[i]? = some T → cs[i]? = some c → c.length ≤ sizeLine ∧ ∃ its : List Value, Vals c its ∧ IsT h T its) → ∃ H2, Cols H cs Ts H2 ∧ HOk P w H2 h ∧ ∀ b, b ∉ Ts → H2 b = H b
  | [], [], H, _, _, _, ok, _ => ⟨H, .nil, ok, fun _ _ => rfl⟩
  | [], _ :: _, _, e, _, _, _, _ => by simp at e
  | _ :: _, [], _, e, _, _, _, _ => by simp at e
  | c :: cs, T :: Ts, H, e, nd, hn, ok, hc => by
    rw [List.nodup_cons] at nd
    obtain ⟨l0, its, r0, t0⟩ := hc 0 T c rfl rfl
    have hT := hn T List.mem_cons_self
    have ok1 : HOk P w (upd H T (.tup c)) h := ok.laidN (fun _ _ q => q) hT ⟨l0, its, r0, ⟨_, t0, rfl, _, rfl⟩⟩
    obtain ⟨H2, C, ok2, e2⟩ := mkCols cs Ts (upd H T (.tup c)) (by simpa using e) nd.2 (fun T' hT' => by
      rw [upd_ne (show T' ≠ T from fun q => nd.1 (by rw [← q]; exact hT'))]
      exact hn T' (List.mem_cons_of_mem _ hT')) ok1 fun i T' c' e1 e2 => hc (i + 1) T' c' (by simpa using e1) (by simpa using e2)
    refine ⟨H2, .cons hT C, ok2, fun b hb => ?_⟩
    rw [e2 b (fun q => hb (List.mem_cons_of_mem _ q)), upd_ne (show b ≠ T from fun q => hb (by rw [q]; exact List.mem_cons_self))]
theorem Un_of {P : Program} {w : World} {fs : List Addr} {H H' : Hp} {h h' : Heap} (x : HOk P w H h) (k : ∀ b o, h.get? b = some o → h'.get? b = some o) (e : ∀ b o, h.get? b = some o → H' b = H b) : Un fs [] H H' h h' where
  keep := fun b o q _ _ _ => k b o q
  slot := fun b o q _ _ _ => ⟨o.slots, k b o q⟩
  free := fun b o q n _ => by rw [e b o q]; exact n
  there := fun b o q _ => ⟨o, k b o q⟩
  tups := fun b xs q => by
    obtain ⟨_, its, _, o, ho, _⟩ := x b _ q
    rw [e b o ho]
    exact q
  frzs := fun b o u q => by
    rw [e b o (x b _ q).1]
    exact q
  tbls := fun b ps q => ⟨#[], by
    rw [e b _ (x b _ q), q]
    simp⟩
theorem refs_eq : ∀ {rows : List Addr} {us : List Value}, Vals (rows.map V.ref) us → us = rows.map Value.ref
  | [], _, .nil => rfl
  | a :: rows, _, .cons r t => by
    rw [refs_eq t]
    cases r
    rfl
theorem rows_its {X : Cx} {pins : List (Addr × Obj)} {σ : L2.St} {H : Hp} {s : Shared} (I : Inv X pins σ H s) : ∀ (rows : List Addr) (xss : List (List V)), xss.length = rows.length → (∀ (j : Nat) (r : Addr) (xs : List V), rows[j]? = some r → xss[j]? = some xs → SqT X.K H r xs) →
    ∃ itss : List (List Value), itss.length = rows.length ∧ ∀ (j : Nat) (r : Addr) (xs : List V) (its : List Value), rows[j]? = some r → xss[j]? = some xs → itss[j]? = some its → Vals xs its ∧ s.heap.IsTuple r its.toArray
  | [], [], _, _ => ⟨[], rfl, fun j r xs its e => by simp at e⟩
  | [], _ :: _, e, _ => by simp at e
  | _ :: _, [], e, _ => by simp at e
  | r :: rows, xs :: xss, e, h => by
    obtain ⟨itss, l, g⟩ := rows_its I rows xss (by simpa using e) fun j r xs e1 e2 => h (j + 1) r xs (by simpa using e1) (by simpa using e2)
    obtain ⟨its, rv, p, _⟩ := I.tuple (h 0 r xs rfl rfl)
    refine ⟨its :: itss, by simp [l], fun j r' xs' its' e1 e2 e3 => ?_⟩
    cases j with
    | zero =>
      cases e1
      cases e2
      cases e3
      exact ⟨rv, p⟩
    | succ j => exact g j r' xs' its' (by simpa using e1) (by simpa using e2) (by simpa using e3)
theorem vals_col {m i : Nat} (hi : i < m) : ∀ (xss : List (List V)) (itss : List (List Value)), itss.length = xss.length → (∀ (j : Nat) (xs : List V) (its : List Value), xss[j]? = some xs → itss[j]? = some its → Vals xs its ∧ xs.length = m) → Vals (xss.map fun xs => xs.getD i .non) (itss.map fun its => its.getD i .none)
  | [], [], _, _ => .nil
  | [], _ :: _, e, _ => by simp at e
  | _ :: _, [], e, _ => by simp at e
  | xs :: xss, its :: itss, e, h => by
    obtain ⟨rv, lx⟩ := h 0 xs its rfl rfl
    have hx : xs[i]? = some xs[i] := List.getElem?_eq_getElem (by omega)
    obtain ⟨u, hu, ru⟩ := rv.get hx
    refine .cons ?_ (vals_col hi xss itss (by simpa using e) fun j xs its e1 e2 => h (j + 1) xs its (by simpa using e1) (by simpa using e2))
    show L2.RelV (xs.getD i V.non) (its.getD i Value.none)
    rw [List.getD_eq_getElem?_getD, List.getD_eq_getElem?_getD, hx, hu]
    exact ru
def colsV (m : Nat) (xss : List (List V)) : List (List V) := (List.range m).map fun i => xss.map fun xs => xs.getD i .non
def tLZ (K : PySem.W.Frag) (te : TE) : TE := fun σ H Q => te σ H fun y H1 => ∃ (a : Addr) (rows : List Addr) (xss : List (List V)) (m : Nat), y = .ref a ∧ SqT K H1 a (rows.map V.ref) ∧ 1 ≤ rows.length ∧ rows.length ≤ 5 ∧ 1 ≤ m ∧ m ≤ 999 ∧ xss.length = rows.length ∧
  (∀ (j : Nat) (r : Addr) (xs : List V), rows[j]? = some r → xss[j]? = some xs → SqT K H1 r xs ∧ xs.length = m) ∧ ∀ Ts H2 S, Cols H1 (colsV m xss) Ts H2 → H2 S = none → Q (.ref S) (upd H2 S (.lst (Ts.map V.ref)))
theorem pe_listZip {X : Cx} {e : Expr} {te : TE} {p p2 sp q pos : Pos} (hg : Gl X "list") (hm : X.mg "list" = none) (hg2 : Gl X "zip") (hm2 : X.mg "zip" = none) (he : PE X e te) (hc : X.calm = true := by rfl)
    (na : starEach [.Call (.Name "zip" p2) [.Starred e sp] [] q] X.env = (false, eval (.Call (.Name "zip" p2) [.Starred e sp] [] q) X.env) :: starEach [] X.env := by rfl) (hst : starEach [.Starred e sp] X.env = [(true, eval e X.env)] := by rfl) :
    PE X (.Call (.Name "list" p) [.Call (.Name "zip" p2) [.Starred e sp] [] q] [] pos) (tLZ X.K te) := by
  refine ⟨fun pins s σ H Q I h => ?_⟩
  refine Call_ (ld_blt I hg hm PyProof.Rows.boot_list ?_)
  refine PyProof.Rows.callWith_type1 (PyProof.Rows.args_cons ?_ na) na rfl
  refine Call_ (ld_blt I hg2 hm2 PyProof.Rows.boot_zip ?_)
  refine callWith_typeS (thn (he.run pins s σ H _ I h) fun v s1 ⟨y, H1, I1, ry, a, rows, xss, m, ey, hsq, n1, n5, m1, m9, lx, hrows, hq⟩ => ?_) hst
  subst ey
  obtain rfl : v = Value.ref a := ry
  refine StX.star_any I1 (.inl hsq) fun us s2 I2 rv => ?_
  have eus := refs_eq rv
  subst eus
  obtain ⟨itss, li, hits⟩ := rows_its I2 rows xss lx fun j r xs e1 e2 => (hrows j r xs e1 e2).1
  have row : ∀ (j : Nat) (r : Addr), rows[j]? = some r → ∃ xs its, xss[j]? = some xs ∧ itss[j]? = some its ∧ Vals xs its ∧ s2.heap.IsTuple r its.toArray ∧ its.length = m := fun j r e => by
    have hj : j < rows.length := (List.getElem?_eq_some_iff.mp e).1
    have e1 : xss[j]? = some xss[j] := List.getElem?_eq_getElem (by omega)
    have e2 : itss[j]? = some itss[j] := List.getElem?_eq_getElem (by omega)
    obtain ⟨r1, r2⟩ := hits j r _ _ e e1 e2
    exact ⟨_, _, e1, e2, r1, r2, by rw [← r1.length, (hrows j r _ e e1).2]⟩
  have rowm : ∀ r ∈ rows, ∃ c, s2.heap.IsTuple r c := fun r hr => by
    obtain ⟨j, hj, ej⟩ := List.mem_iff_getElem.mp hr
    obtain ⟨_, its, _, _, _, t, _⟩ := row j r (by rw [← ej]; exact List.getElem?_eq_getElem hj)
    exact ⟨_, t⟩
  refine call_zipN rowm n1 n5 fun h' z' ti' to' it' sz' k' => PyProof.Rows.args_nil ?_
  have rlt : ∀ r ∈ rows, r < s2.heap.objs.size := fun r hr => by
    obtain ⟨c, o, ho, _⟩ := rowm r hr
    exact Heap.lt_size ho
  have I3 : Inv X pins σ H1 { s2 with heap := h' } := I2.kept (t' := s2.toks) k'
  generalize hcU : (List.range m).map (fun i => itss.map fun its => its.getD i Value.none) = cU
  have lcU : cU.length = m := by rw [← hcU]; simp
  have mis : ∀ b, b ∈ (List.range rows.length).map (fun j => s2.heap.objs.size + j) → ∃ j, j < rows.length ∧ b = s2.heap.objs.size + j := fun b hb => by
    obtain ⟨j, hj, e⟩ := List.mem_map.mp hb
    exact ⟨j, List.mem_range.mp hj, e.symm⟩
  have lis : ((List.range rows.length).map (fun j => s2.heap.objs.size + j)).length = rows.length := by simp
  have D : Apart (s2.heap.objs.size + rows.length + 2) (s2.heap.objs.size + rows.length) (s2.heap.objs.size + rows.length + 1) ((List.range rows.length).map fun j => s2.heap.objs.size + j) rows := by
    have nn : ∀ d : Nat, rows.length ≤ d → ¬ (s2.heap.objs.size + d : Nat) ∈ (List.range rows.length).map (fun j => s2.heap.objs.size + j) := fun d hd hb => by
      obtain ⟨j, hj, e⟩ := mis _ hb
      omega
    have rr : ∀ d : Nat, ¬ (s2.heap.objs.size + d : Nat) ∈ rows := fun d hb => by
      have := rlt _ hb
      exact absurd this (Nat.not_lt.mpr (Nat.le_add_right _ _))
    refine ⟨?_, ?_, ?_, nn (rows.length + 2) (by omega), nn rows.length (Nat.le_refl _), nn (rows.length + 1) (by omega), ?_, rr (rows.length + 2), rr (rows.length + 1), fun l hl hb => ?_⟩
    · show (_ : Nat) ≠ _; omega
    · show (_ : Nat) ≠ _; omega
    · show (_ : Nat) ≠ _; omega
    · refine List.Pairwise.map _ (fun a b hab => ?_) List.nodup_range
      show (_ : Nat) ≠ _
      intro e
      exact hab (by omega)
    · obtain ⟨j, hj, e⟩ := mis _ hb
      rw [e] at hl
      exact rr j hl
  cases hcc : cU with
  | nil =>
    rw [hcc] at lcU
    simp at lcU
    omega
  | cons col cols =>
    have gU : ∀ (i : Nat) (cl : List Value), (col :: cols)[i]? = some cl → i < m ∧ cl = itss.map fun its => its.getD i Value.none := fun i cl e => by
      rw [← hcc, ← hcU] at e
      have hi : i < m := by
        have := (List.getElem?_eq_some_iff.mp e).1
        simpa using this
      rw [List.getElem?_map, List.getElem?_range hi] at e
      exact ⟨hi, (Option.some.inj e).symm⟩
    refine call_listZ (s := { s2 with heap := h' }) (own := List.replicate rows.length Value.none) (col := col) (cols := cols) (I3.ok.hd hc) D (fun q => by
      have z : rows.length = 0 := by rw [← lis, q]; rfl
      omega) (by rw [lis]; omega) lis.symm z' (by
        show IsT h' _ _
        rw [List.map_map]
        exact ti') to' (by rw [lis]; simp) (fun j a l e1 e2 => ?_) (by rw [← hcc, lcU]; omega) (fun c hc' => ?_) (fun j l e => ?_) fun h'' Ts O => ?_
    · have hj : j < rows.length := (List.getElem?_eq_some_iff.mp e2).1
      rw [List.getElem?_map, List.getElem?_range hj] at e1
      cases e1
      exact it' j l e2
    · obtain ⟨i, hi⟩ := List.mem_iff_getElem?.mp hc'
      rw [(gU i c hi).2, List.length_map, li, lis]
    · obtain ⟨xs, its, e1, e2, rvj, ⟨o, ho, r⟩, lj⟩ := row j l e
      refine ⟨its.toArray, ⟨o, k' _ _ ho, r⟩, by rw [← hcc, lcU]; simpa using lj, fun i cl ei => ?_⟩
      obtain ⟨hi, rfl⟩ := gU i cl ei
      rw [List.getElem?_map, e2]
      show its.toArray[i]? = some (its.getD i Value.none)
      rw [List.getElem?_toArray, List.getD_eq_getElem?_getD, List.getElem?_eq_getElem (by omega)]
      rfl
    · have kk : ∀ b o, s2.heap.get? b = some o → h''.get? b = some o := fun b o e => by
        have bl : b < s2.heap.objs.size := Heap.lt_size e
        have ge : ∀ d : Nat, b ≠ s2.heap.objs.size + d := fun d q => by
          rw [q] at bl
          exact absurd bl (Nat.not_lt.mpr (Nat.le_add_right _ _))
        refine O.fr b o (fun q => ?_) (ge (rows.length + 2)) (ge (rows.length + 1)) (fun q => ?_) (k' b o e)
        · have q : b = h'.objs.size := q
          rw [sz'] at q
          exact ge (rows.length + 3) q
        · obtain ⟨j, _, q⟩ := mis _ q
          exact ge j q
      have sS : s2.heap.objs.size ≤ h'.objs.size := by rw [sz']; omega
      have fresh : ∀ T ∈ Ts, H1 T = none := fun T hT => I2.hok.fresh (Nat.le_trans sS (O.new T hT))
      have lcV : (colsV m xss).length = Ts.length := by
        rw [O.len, ← hcc, lcU]
        simp [colsV]
      obtain ⟨H2, C, ok2, e2⟩ := mkCols (colsV m xss) Ts H1 lcV O.nd fresh (I2.hok.kept kk) fun i T c e1 e3 => by
        have hi : i < m := by
          have := (List.getElem?_eq_some_iff.mp e3).1
          simpa [colsV] using this
        unfold colsV at e3
        rw [List.getElem?_map, List.getElem?_range hi] at e3
        cases e3
        refine ⟨Nat.le_trans (show _ ≤ 5 by rw [List.length_map]; omega) (by decide), itss.map fun its => its.getD i Value.none, vals_col hi xss itss (by omega) fun j xs its e4 e5 => ?_, O.tup i T _ e1 ?_⟩
        · have hj : j < rows.length := by
            have := (List.getElem?_eq_some_iff.mp e4).1
            omega
          have er : rows[j]? = some rows[j] := List.getElem?_eq_getElem hj
          exact ⟨(hits j _ xs its er e4 e5).1, (hrows j _ xs er e4).2⟩
        · rw [← hcc, ← hcU, List.getElem?_map, List.getElem?_range hi]
          rfl
      have hSn : H1 h'.objs.size = none := I2.hok.fresh sS
      have SnT : h'.objs.size ∉ Ts := fun q => by
        obtain ⟨i, hi, ei⟩ := List.mem_iff_getElem.mp q
        obtain ⟨cS, eS⟩ := O.lst
        have hi2 : i < (col :: cols).length := by rw [← O.len]; exact hi
        have t := O.tup i h'.objs.size _ (by rw [← ei]; exact List.getElem?_eq_getElem hi) (List.getElem?_eq_getElem hi2)
        have z := congrArg Obj.cls (Option.some.inj ((show h''.get? h'.objs.size = _ from t).symm.trans eS))
        exact absurd (Value.type.inj z) (by decide)
      have hS2 : H2 h'.objs.size = none := by rw [e2 _ SnT]; exact hSn
      obtain ⟨cS, eS⟩ := O.lst
      have okF : HOk X.prog X.w (upd H2 h'.objs.size (.lst (Ts.map V.ref))) h'' := ok2.laidN (fun _ _ q => q) hS2 ⟨Nat.le_trans (show _ ≤ 999 by rw [List.length_map, O.len, ← hcc, lcU]; exact m9) (by decide), Ts.map Value.ref, cS, valsRef Ts, by simpa using eS⟩
      have un : Un X.fs [] H1 (upd H2 h'.objs.size (.lst (Ts.map V.ref))) s2.heap h'' := Un_of I2.hok kk fun b o e => by
        have bl : b < s2.heap.objs.size := Heap.lt_size e
        rw [upd_ne (fun q => by rw [q] at bl; exact absurd bl (Nat.not_lt.mpr sS)), e2 b fun q => absurd bl (Nat.not_lt.mpr (Nat.le_trans sS (O.new b q)))]
      have IF : Inv X pins σ (upd H2 h'.objs.size (.lst (Ts.map V.ref))) { s2 with heap := h'' } := I2.un (t' := s2.toks) un okF
      exact ⟨.ref h'.objs.size, _, IF, rfl, hq Ts H2 h'.objs.size C hS2⟩
where
  valsRef : ∀ Ts : List Addr, Vals (Ts.map V.ref) (Ts.map Value.ref)
  | [] => .nil
  | T :: Ts => .cons rfl (valsRef Ts)
end RZN

set_option Elab.async false
set_option linter.all false
set_option maxRecDepth 100000
set_option maxHeartbeats 4000000
/-! list(zip(*rows)) over pure data -/
namespace DL
open PySem PySem.Spec PyProof.Rows L2
def rowsOf : List D → Option (List (List D))
  | [] => some []
  | .tup l :: r => (rowsOf r).map (l :: ·)
  | _ :: _ => none
def okLZ (dss : List (List D)) : Bool := noStr (dss.headD []) && ((decide (1 ≤ dss.length) && decide (dss.length ≤ 5)) && ((decide (1 ≤ (dss.headD []).length) && decide ((dss.headD []).length ≤ 999)) && dss.all fun ds => decide (ds.length = (dss.headD []).length)))
def colsD (dss : List (List D)) : List D := (List.range (dss.headD []).length).map fun i => .tup (dss.map fun ds => ds.getD i .non)
def lz1 : D → Option Wv
  | .tup l => (rowsOf l).bind fun dss => if okLZ dss then some (.own (.lst (colsD dss))) else none
  | _ => none
theorem rows_rep {R : RC} {H : Hp} : ∀ (l : List D) (vs : List V) (dss : List (List D)), rowsOf l = some dss → RepL R H l vs → ∃ (rows : List Addr) (xss : List (List V)), vs = rows.map V.ref ∧ rows.length = dss.length ∧ xss.length = dss.length ∧
    ∀ (j : Nat) (r : Addr) (xs : List V) (ds : List D), rows[j]? = some r → xss[j]? = some xs → dss[j]? = some ds → SqX R.K H r xs ∧ RepL R H ds xs
  | [], vs, dss, e, h => by
    cases e
    cases h
    exact ⟨[], [], rfl, rfl, rfl, fun j r xs ds e => by simp at e⟩
  | d :: l, vs, dss, e, h => by
    obtain ⟨v, vr, rfl, h1, h2⟩ := h
    cases d with
    | tup l0 =>
      unfold rowsOf at e
      cases e2 : rowsOf l with
      | none =>
        rw [e2] at e
        cases e
      | some ds2 =>
        rw [e2] at e
        cases e
        obtain ⟨rows, xss, rfl, l1, l2, g⟩ := rows_rep l vr ds2 e2 h2
        obtain ⟨a, us, rfl, q1, q2, _⟩ := h1
        refine ⟨a :: rows, us :: xss, rfl, by simp [l1], by simp [l2], fun j r xs ds e1 e2 e3 => ?_⟩
        cases j with
        | zero =>
          cases e1
          cases e2
          cases e3
          exact ⟨q1, q2⟩
        | succ j => exact g j r xs ds (by simpa using e1) (by simpa using e2) (by simpa using e3)
    | _ => cases e
theorem cols_same : ∀ {H H2 : Hp} {cs : List (List V)} {Ts : List Addr}, RZN.Cols H cs Ts H2 → Same H H2
  | _, _, _, _, .nil => Same.refl _
  | _, _, _, _, .cons h c => fun a o e => cols_same c a o (same_upd h a o e)
theorem same_sub {H H2 : Hp} {O : Addr → Prop} (s : Same H H2) : Sub (vis H O) (vis H2 O) := vis_ext (bo := none) (same_ext s) fun a q => by cases q
theorem cols_rep {R : RC} {O : Addr → Prop} : ∀ {H H2 : Hp} {cs : List (List V)} {Ts : List Addr} (C : RZN.Cols H cs Ts H2) (dcs : List (List D)), dcs.length = cs.length → (∀ a, H a = none → ¬ O a) → (∀ (i : Nat) (c : List V) (dc : List D), cs[i]? = some c → dcs[i]? = some dc → RepL R (vis H O) dc c ∧ dc.length ≤ LIM ∧ strV c = false) →
    RepL R (vis H2 O) (dcs.map .tup) (Ts.map V.ref)
  | _, _, _, _, .nil, [], _, _, _ => rfl
  | _, _, _, _, .nil, _ :: _, e, _, _ => by simp at e
  | _, _, _, _, .cons h C, [], e, _, _ => by simp at e
  | H, H2, _, _, .cons (c := c) (T := T) h C, dc :: dcs, e, od, g => by
    obtain ⟨r, hl, hs⟩ := g 0 c dc rfl rfl
    have n : Rep R (vis (upd H T (.tup c)) O) (.tup dc) (.ref T) := new_tup od r hl h hs
    have s1 : Same H (upd H T (.tup c)) := same_upd h
    exact RepL.cons (n.mono (same_sub (cols_same C))) (cols_rep C dcs (by simpa using e) (fun a ha => od a (s1.free ha)) fun i c' dc' e1 e2 => by
      obtain ⟨r', hl', hs'⟩ := g (i + 1) c' dc' (by simpa using e1) (by simpa using e2)
      exact ⟨r'.mono (same_sub s1), hl', hs'⟩)
theorem col_rep {R : RC} {H : Hp} {m i : Nat} (hi : i < m) : ∀ (dss : List (List D)) (xss : List (List V)), xss.length = dss.length → (∀ (j : Nat) (xs : List V) (ds : List D), xss[j]? = some xs → dss[j]? = some ds → RepL R H ds xs ∧ ds.length = m) → RepL R H (dss.map fun ds => ds.getD i .non) (xss.map fun xs => xs.getD i .non)
  | [], [], _, _ => rfl
  | [], _ :: _, e, _ => by simp at e
  | _ :: _, [], e, _ => by simp at e
  | ds :: dss, xs :: xss, e, g => by
    obtain ⟨r, l⟩ := g 0 xs ds rfl rfl
    have hd : ds[i]? = some ds[i] := List.getElem?_eq_getElem (by omega)
    obtain ⟨v, hv, rv⟩ := r.get hd
    refine RepL.cons ?_ (col_rep hi dss xss (by simpa using e) fun j xs ds e1 e2 => g (j + 1) xs ds (by simpa using e1) (by simpa using e2))
    show Rep R H (ds.getD i D.non) (xs.getD i V.non)
    rw [List.getD_eq_getElem?_getD, List.getD_eq_getElem?_getD, hd, hv]
    exact rv
def rLZ (K : PySem.W.Frag) : V → Hp → VK → Prop := fun y H1 Q => ∃ (a : Addr) (rows : List Addr) (xss : List (List V)) (m : Nat), y = .ref a ∧ SqT K H1 a (rows.map V.ref) ∧ 1 ≤ rows.length ∧ rows.length ≤ 5 ∧ 1 ≤ m ∧ m ≤ 999 ∧ xss.length = rows.length ∧
  (∀ (j : Nat) (r : Addr) (xs : List V), rows[j]? = some r → xss[j]? = some xs → SqT K H1 r xs ∧ xs.length = m) ∧ ∀ Ts H2 S, RZN.Cols H1 (RZN.colsV m xss) Ts H2 → H2 S = none → Q (.ref S) (upd H2 S (.lst (Ts.map V.ref)))
theorem h_lz {R : RC} : H1ok R lz1 (rLZ R.K) := fun d w x H O Q e od r q => by
  cases d with
  | tup l =>
    have e : ((rowsOf l).bind fun dss => if okLZ dss then some (Wv.own (.lst (colsD dss))) else none) = some w := e
    cases e2 : rowsOf l with
    | none =>
      rw [e2] at e
      cases e
    | some dss =>
      rw [e2] at e
      have e : (if okLZ dss then some (Wv.own (.lst (colsD dss))) else none) = some w := e
      by_cases hok : okLZ dss = true
      · rw [if_pos hok] at e
        cases e
        unfold okLZ at hok
        rw [Bool.and_eq_true] at hok
        obtain ⟨ns, hok⟩ := hok
        rw [Bool.and_eq_true, Bool.and_eq_true, Bool.and_eq_true, Bool.and_eq_true] at hok
        have n1 := of_decide_eq_true hok.1.1
        have n5 := of_decide_eq_true hok.1.2
        have m1 := of_decide_eq_true hok.2.1.1
        have m9 := of_decide_eq_true hok.2.1.2
        have all : ∀ ds ∈ dss, ds.length = (dss.headD []).length := fun ds hds => of_decide_eq_true (List.all_eq_true.mp hok.2.2 ds hds)
        obtain ⟨a, vs, rfl, h1, h2, h3⟩ := r
        obtain ⟨rows, xss, rfl, lr, lx, g⟩ := rows_rep l vs dss e2 h2
        refine ⟨a, rows, xss, (dss.headD []).length, rfl, vis_sqt h1, by omega, by omega, m1, m9, by omega, fun j r' xs e1 e3 => ?_, fun Ts H2 S C hS => ?_⟩
        · have hj : j < dss.length := by
            have := (List.getElem?_eq_some_iff.mp e1).1
            omega
          obtain ⟨s1, s2⟩ := g j r' xs dss[j] e1 e3 (List.getElem?_eq_getElem hj)
          exact ⟨vis_sqt s1, by rw [← s2.length]; exact all _ (List.getElem_mem hj)⟩
        · have sm := cols_same C
          have od2 : ∀ b, H2 b = none → ¬ O b := fun b hb => od b (sm.free hb)
          have rep := cols_rep (R := R) (O := O) C ((List.range (dss.headD []).length).map fun i => dss.map fun ds => ds.getD i .non) (by simp [RZN.colsV]) od fun i c dc e1 e3 => by
            have hi : i < (dss.headD []).length := by
              have := (List.getElem?_eq_some_iff.mp e3).1
              simpa using this
            unfold RZN.colsV at e1
            rw [List.getElem?_map, List.getElem?_range hi] at e1 e3
            cases e1
            cases e3
            have cr : RepL R (vis H O) (dss.map fun ds => ds.getD i .non) (xss.map fun xs => xs.getD i .non) := col_rep hi dss xss lx fun j xs ds e4 e5 => ?_
            · refine ⟨cr, Nat.le_trans (show _ ≤ 5 by rw [List.length_map]; omega) (by decide), ?_⟩
              cases hdss : dss with
              | nil =>
                rw [hdss] at n1
                simp at n1
              | cons d0 dr =>
                rw [← strD_eq cr, hdss]
                rw [hdss] at ns hi
                have hi' : i < d0.length := hi
                have z := List.all_eq_true.mp ns (d0[i]) (List.getElem_mem hi')
                have e0 : d0.getD i D.non = d0[i] := by simp [List.getD_eq_getElem?_getD, hi']
                unfold strD
                rw [List.map_cons, List.all_cons, e0]
                simp at z
                simp [z]
            have hj : j < rows.length := by
              have := (List.getElem?_eq_some_iff.mp e5).1
              omega
            exact ⟨(g j rows[j] xs ds (List.getElem?_eq_getElem hj) e4 e5).2, all ds (List.mem_of_getElem? e5)⟩
          rw [List.map_map] at rep
          have nw := new_lst (R := R) od2 rep (by rw [List.length_map, List.length_range]; exact Nat.le_trans m9 (by decide)) hS
          refine q _ _ (fun b o eb => same_upd hS b o (sm b o eb)) ?_
          exact nw.back fun b hb => sm.free hb
      · rw [if_neg hok] at e
        cases e
  | _ => cases e
section
variable {B : BP} {X : Cx} {e : Expr} {ea : Ev} {p p2 sp q pos : Pos}
theorem de_listZip (hg : Gl X "list") (hm : X.mg "list" = none) (hg2 : Gl X "zip") (hm2 : X.mg "zip" = none) (ha : DE B X e ea) (hc : X.calm = true) (hK : B.R.K = X.K := by rfl)
    (na : starEach [.Call (.Name "zip" p2) [.Starred e sp] [] q] X.env = (false, eval (.Call (.Name "zip" p2) [.Starred e sp] [] q) X.env) :: starEach [] X.env := by rfl) (hst : starEach [.Starred e sp] X.env = [(true, eval e X.env)] := by rfl) :
    DE B X (.Call (.Name "list" p) [.Call (.Name "zip" p2) [.Starred e sp] [] q] [] pos) (dOp1 lz1 ea) :=
  imp_PE (RZN.pe_listZip hg hm hg2 hm2 ha hc na hst) fun σ H Q h => by
    have hk : H1ok B.R lz1 (rLZ X.K) := hK ▸ h_lz
    exact rd_op1 hk h
end
end DL

set_option Elab.async false
set_option linter.all false
set_option maxRecDepth 100000
set_option maxHeartbeats 4000000
/-! tuple(a text) -/
namespace DL
open PySem PySem.Spec PyProof.Rows L2
section
variable {X : Cx}
def sgV (z : Str) : List V := z.cps.toList.map fun c => V.str ⟨#[c]⟩
theorem vals_of_signs : ∀ {us : List Value} {cs : List Nat}, us.length = cs.length → (∀ (j : Nat) (v : Value), us[j]? = some v → ∃ (c : Nat) (t : Tok), cs[j]? = some c ∧ v = Value.str ⟨#[c]⟩ t) → Vals (cs.map fun c => V.str ⟨#[c]⟩) us
  | [], [], _, _ => .nil
  | u :: us, c :: cs, hl, h => by
    obtain ⟨c', t, e, rfl⟩ := h 0 u rfl
    cases e
    exact .cons ⟨t, rfl⟩ (vals_of_signs (by simpa using hl) fun j v hj => h (j + 1) v hj)
  | [], _ :: _, h, _ => by simp at h
  | _ :: _, [], h, _ => by simp at h
theorem call_tupleS (hc : X.calm = true) : CallR X (.type "tuple") (fun xs H Q => ∃ z : Str, xs = [.str z] ∧ z.length ≤ sizeLine ∧ ∀ l o, H l = none → o.dict = none → Q (.ref l) (upd H l (tupO (sgV z) o))) := by
  intro pins s σ H xs us Q I r h
  obtain ⟨z, rfl, hz, q⟩ := h
  obtain ⟨u, rfl, t, rfl⟩ := vals1 r
  refine call_tuple_str (hsz := hz) (I.ok.hd hc) z t fun h' tk acc hk hacc => ?_
  have hv : Vals (sgV z) acc.toList := vals_of_signs (by simp [hacc.1]) fun j v hj => by
    obtain ⟨c, u, hc, rfl⟩ := hacc.2 j v (by simpa using hj)
    exact ⟨c, u, by simpa using hc, rfl⟩
  have I1 : Inv X pins σ H { s with heap := h' } := I.kept (t' := s.toks) hk
  have ea : acc = acc.toList.toArray := by simp
  have I2 : Inv X pins σ (upd H h'.objs.size (tupO (sgV z) { cls := .type "tuple", data := .seq acc })) { s with heap := h'.push { cls := .type "tuple", data := .seq acc }, toks := tk } :=
    I1.laid (t' := tk) (fun b o e => Heap.get?_push_of_some _ e) (Nat.le_refl _) (tupO_ok (Heap.get?_push_size _ rfl) (show ObjOk X.prog X.w _ _ _ (.tup (sgV z)) from ⟨by simpa [sgV, Str.length] using hz, acc.toList, hv, by
      have := IsTup.new h' acc
      rwa [← ea]⟩))
  exact ⟨.ref h'.objs.size, _, I2, rfl, q _ _ (I1.hok.fresh (Nat.le_refl _)) rfl⟩
end
def tupleSD : D → Option Wv
  | .str z => if okSigns z then some (.val (.tup (signs z))) else none
  | _ => none
theorem repL_signs {R : RC} {H : Hp} : ∀ {cs : List Nat}, (cs.all fun c => okS ⟨#[c]⟩) = true → RepL R H (cs.map fun c => D.str ⟨#[c]⟩) (cs.map fun c => V.str ⟨#[c]⟩)
  | [], _ => rfl
  | c :: cs, h => by
    rw [List.all_cons, Bool.and_eq_true] at h
    exact RepL.cons ⟨rfl, h.1⟩ (repL_signs h.2)
theorem hl_tupleS {R : RC} : HLok R (f1 tupleSD) (fun xs H Q => ∃ z : Str, xs = [.str z] ∧ z.length ≤ sizeLine ∧ ∀ l o, H l = none → o.dict = none → Q (.ref l) (upd H l (tupO (sgV z) o))) := fun ds w vs H O Q e od r q => by
  obtain ⟨d, hd, e'⟩ := f1_inv e
  clear e
  subst hd
  have e := e'
  clear e'
  obtain ⟨v, rfl, h⟩ := rep1 r
  cases d with
  | str z =>
    simp only [tupleSD] at e
    split at e
    · rename_i ok
      cases e
      obtain ⟨rfl, h1⟩ := h
      have ok' : okS z = true ∧ (z.cps.toList.all fun c => okS ⟨#[c]⟩) = true := by simpa [okSigns] using ok
      exact ⟨z, rfl, (okS_len h1).2, fun p o hp hd => q _ _ (same_upd hp) (new_tupX od (repL_signs ok'.2) (by
        have := (okS_len h1).1
        unfold signs
        simpa [Str.length] using this) hp hd)⟩
    · cases e
  | _ => cases e
end DL

set_option Elab.async false
set_option linter.all false
set_option maxRecDepth 100000
set_option maxHeartbeats 4000000
/-! t.index(x), t a tuple of texts -/
namespace DL
open PySem PySem.Spec PyProof.Rows L2
def strL (l : List D) : Option (List Str) := match l with
  | [] => some []
  | .str x :: r => (strL r).map (x :: ·)
  | _ :: _ => none
theorem strL_map : ∀ {l : List D} {ss : List Str}, strL l = some ss → l = ss.map D.str
  | [], ss, e => by cases e; rfl
  | .str x :: r, ss, e => by
    unfold strL at e
    cases e2 : strL r with
    | none => rw [e2] at e; cases e
    | some s2 =>
      rw [e2] at e
      cases e
      rw [strL_map e2]
      rfl
  | .non :: _, _, e | .bl _ :: _, _, e | .int _ :: _, _, e | .tup _ :: _, _, e | .lst _ :: _, _, e | .dct _ _ :: _, _, e | .obj _ _ :: _, _, e | .glo _ :: _, _, e | .ty _ :: _, _, e | .clo _ :: _, _, e | .bowl :: _, _, e => by cases e
theorem strL_of : ∀ {ss : List Str}, strL (ss.map D.str) = some ss
  | [] => rfl
  | s :: ss => by
    show (strL (ss.map D.str)).map (s :: ·) = _
    rw [strL_of]
    rfl
theorem strs_rep {R : RC} {H : Hp} : ∀ {ss : List Str} {vs : List V}, RepL R H (ss.map D.str) vs → vs = ss.map V.str
  | [], _, h => h
  | s :: ss, _, h => by
    obtain ⟨v, r, rfl, ⟨rfl, _⟩, h2⟩ := h
    rw [strs_rep h2]
    rfl
section
variable {X : Cx}
theorem mt_tidx : MtR X "tuple.index" (fun x ys H Q => ∃ (a : Addr) (ss : List Str) (k : Str), x = .ref a ∧ SqT X.K H a (ss.map V.str) ∧ ys = [.str k] ∧ k ∈ ss ∧ Q (.int (ss.idxOf k : Nat)) H) := by
  intro pins s σ H x xs v us Q I rx rs h
  obtain ⟨a, ss, k, rfl, ha, rfl, hk, q⟩ := h
  cases rx
  obtain ⟨u, rfl, t, rfl⟩ := vals1 rs
  obtain ⟨its, r1, p1, hz⟩ := I.tuple ha
  exact PySem.SeqAt.call_tuple_index p1 (PySem.SeqAt.ItemsEq.strs (strsAre_of r1)) hk ⟨.int (ss.idxOf k : Nat), H, I.tok _, ⟨_, rfl⟩, q⟩
end
def fTidx (x y : D) : Option Wv := match x, y with
  | .tup l, .str k => (strL l).bind fun ss => if k ∈ ss then some (.val (.int (ss.idxOf k : Nat))) else none
  | _, _ => none
/-- the first thing is a tuple of texts -/
def isTT : D → Bool
  | .tup l => (strL l).isSome && !l.isEmpty
  | _ => false
def dTidx (ev ea : Ev) : Ev := fun env b => (ev env b).bind fun w b1 => if isTT w.d then (ea env b1).bind fun u b2 => optR (fTidx w.d u.d) b2 else .bad
section
variable {B : BP} {X : Cx} {e a : Expr} {ev ea : Ev} {pos apos : Pos}
theorem ExT.vis {K : PySem.W.Frag} {H : Hp} {O : Addr → Prop} {a : Addr} (h : ExT K (vis H O) a) : ExT K H a := vis_all.ext h
theorem de_tidx (he : DE B X e ev) (ha : DE B X a ea) (hK : B.R.K = X.K := by rfl)
    (hbase : attributeBase e "index" X.env (eval e X.env) = eval e X.env := by rfl)
    (hfew : ((backTo pos (starEach [a] X.env)).all (fun x => !x.1) && (backToKw pos (keywordEach [] X.env)).all (fun x => x.1.isSome)
      && decide ([a].length + ([] : List Keyword).length + (if ([] : List Keyword).isEmpty then 0 else 1) < 30)) = true := by rfl)
    (hline : (apos.endLine == pos.line) = true := by rfl) (hs : starEach [a] X.env = (false, eval a X.env) :: starEach [] X.env := by rfl) (hplain : (backTo pos (starEach [] X.env)).any (·.1) = false := by rfl) :
    DE B X (.Call (.Attribute e "index" apos) [a] [] pos) (dTidx ev ea) :=
  imp_PE (pe_tm PySem.F.slot_tuple_index PySem.F.type_tuple_index mt_tidx he (pa_cons ha pa_nil hs) hbase hfew hline hs hplain) fun σ H Q w => by
    refine rd_bind (k := fun (w : Wv) env b1 => if isTT w.d then (ea env b1).bind fun u b2 => optR (fTidx w.d u.d) b2 else .bad) w fun env w1 b1 x H1 I1 x1 r1 w => ?_
    have r1 := r1.rep
    by_cases z : isTT w1.d = true
    · rw [if_pos z] at w
      cases ed : w1.d with
      | tup l =>
        rw [ed] at w r1 z
        obtain ⟨p, vs, rfl, h1, h2, h3⟩ := r1
        have z : ((strL l).isSome && !l.isEmpty) = true := z
        rw [Bool.and_eq_true] at z
        obtain ⟨z1, z2⟩ := z
        cases es : strL l with
        | none =>
          rw [es] at z1
          cases z1
        | some ss =>
          have el := strL_map es
          subst el
          have ev := strs_rep h2
          subst ev
          have sv : strV (ss.map V.str) = true := by
            cases ss with
            | nil => cases z2
            | cons s r => simp [strV, isSV]
          refine ⟨p, ss.map V.str, rfl, by rw [← hK]; exact vis_sqt h1, by rw [← hK]; exact (h1.2 sv).vis, ?_⟩
          refine ⟨env, b1, I1, ?_⟩
          cases q : ea env b1 with
          | ok u b2 =>
            rw [q] at w
            intro y H2 e1 e2 e3 e4
            have w : wpG B RepW (ownO B.O env σ) H (optR (fTidx (.tup (ss.map D.str)) u.d) b2) σ Q := w
            have I2 := I1.go e1 e2 e3
            have r2 := e4.rep
            cases eu : u.d with
            | str k =>
              rw [eu] at r2 w
              obtain ⟨rfl, ok2⟩ := r2
              have ef : fTidx (.tup (ss.map D.str)) (.str k) = if k ∈ ss then some (Wv.val (.int (ss.idxOf k : Nat))) else none := by
                show ((strL (ss.map D.str)).bind fun ss => if k ∈ ss then some (Wv.val (.int (ss.idxOf k : Nat))) else none) = _
                rw [es]
                rfl
              rw [ef] at w
              by_cases hk : k ∈ ss
              · rw [if_pos hk] at w
                have h1' : SqT X.K H2 p (ss.map V.str) := by
                  rw [← hK]
                  exact (vis_ext e1 (fun a ha => I1.bOO ha)).tup h1.1 |> vis_all.tup
                exact ⟨p, ss, k, rfl, h1', rfl, hk, nw_of I2 (x1.trans e1) w _ _ (Same.refl _) rfl⟩
              · rw [if_neg hk] at w
                exact False.elim w
            | _ =>
              rw [eu] at w
              exact False.elim w
          | err c fs b2 =>
            rw [q] at w
            exact wpG_err (ρ1 := RepW) w x1
          | bad =>
            rw [q] at w
            exact False.elim w
      | _ =>
        rw [ed] at z
        cases z
    · rw [if_neg z] at w
      exact False.elim w
end
end DL

set_option Elab.async false
set_option linter.all false
set_option maxRecDepth 100000
set_option maxHeartbeats 4000000
/-! sorted(xs), xs a list of alike data -/
namespace DL
open PySem PySem.Spec PyProof.Rows L2
def leD (a b : D) : Bool := PySem.W.dataLe false pyD a b
def isTN : D → Bool
  | .tup (_ :: _) => true
  | _ => false
def notTN : D → Bool
  | .tup _ => false
  | .non => false
  | .int _ | .bl _ | .str _ | .lst _ => true
  | _ => false
def srtOk (l : List D) : Bool := pureDs 3 l && (decide (l.length ≤ 5000) && ((l.all fun a => l.all fun b => PySem.W.alike (pyD a) (pyD b)) && (l.all isTN || l.all notTN)))
def sortGD : D → Option Wv
  | .lst l => if srtOk l then some (.own (.lst (l.mergeSort leD))) else none
  | _ => none
def rSortG (K : PySem.W.Frag) : List V → Hp → VK → Prop := fun vs H Q => ∃ (a : Addr) (bs : List (V × D)), vs = [V.ref a] ∧ SqL K H a (bs.map Prod.fst) ∧ (∀ b ∈ bs, Dp K H b.1 (pyD b.2) ∧ (pyD b.2).depth ≤ 3) ∧
  PySem.W.AllAlike (bs.map fun b => pyD b.2) ∧ PySem.W.Sortable (bs.map fun b => pyD b.2) ∧ bs.length ≤ 5000 ∧
  ∀ p, H p = none → Q (.ref p) (upd H p (.lst ((bs.mergeSort (PySem.W.dataLe false fun b => pyD b.2)).map Prod.fst)))
theorem vals_each : ∀ {bs : List (V × D)} {us : List Value}, Vals (bs.map Prod.fst) us → PySem.W.EachIs (fun (v : Value) (b : V × D) => RelV b.1 v) us bs
  | [], _, .nil => .nil
  | _ :: _, _, .cons r t => .cons r (vals_each t)
theorem each_vals : ∀ {bs : List (V × D)} {us : List Value}, PySem.W.EachIs (fun (v : Value) (b : V × D) => RelV b.1 v) us bs → Vals (bs.map Prod.fst) us
  | [], _, .nil => .nil
  | _ :: _, _, .cons r t => .cons r (each_vals t)
theorem each_imp {R S : Value → V × D → Prop} : ∀ {us : List Value} {bs : List (V × D)}, (∀ u, ∀ b ∈ bs, R u b → S u b) → PySem.W.EachIs R us bs → PySem.W.EachIs S us bs
  | _, _, _, .nil => .nil
  | _, _, h, .cons r t => .cons (h _ _ List.mem_cons_self r) (each_imp (fun u b hb => h u b (List.mem_cons_of_mem _ hb)) t)
section
variable {X : Cx}
theorem cr_sortG {k : Nat} (hr : Room k X.A) : CallR X (.builtin "sorted") (rSortG X.K) := by
  intro pins s σ H vs us Q I r h
  obtain ⟨a, bs, rfl, hs, hd, hal, hk, hz, q⟩ := h
  obtain ⟨its, rv, hl, _⟩ := I.list hs
  rw [Vals.ref1 r]
  have e1 := vals_each rv
  have hu := hr.un
  refine PySem.W.sorted_data (enc := fun b : V × D => pyD b.2) hl.isList e1 (each_imp (fun u b hb ru => (hd b hb).1.reads I _ _ u ru) e1) hal hk (Nat.le_trans hz (by decide)) (fun b hb => ?_) fun out ho eo => ?_
  · have := (hd b hb).2
    omega
  · obtain ⟨ep, he'⟩ := PyProof.Rows.sortedAll_at s.heap its out.toArray
    have hv := each_vals eo
    have hlen : ((bs.mergeSort (PySem.W.dataLe false fun b => pyD b.2)).map Prod.fst).length ≤ sizeLine := by
      rw [List.length_map, List.length_mergeSort]
      exact Nat.le_trans hz (by decide)
    exact ⟨.ref _, upd H (s.heap.objs.size + 1) (.lst ((bs.mergeSort (PySem.W.dataLe false fun b => pyD b.2)).map Prod.fst)), I.laid (t' := s.toks) (fun _ _ => PyProof.Rows.sortedAll_old) (Nat.le_succ _) ⟨hlen, out, ep, hv, he'⟩, rfl, q _ (I.hok.fresh (Nat.le_succ _))⟩
end
theorem pureDs_mem {n : Nat} : ∀ {l : List D}, pureDs n l = true → ∀ d ∈ l, pureD n d = true
  | [], _, d, hd => by cases hd
  | x :: l, h, d, hd => by
    simp only [pureDs, Bool.and_eq_true] at h
    rcases List.mem_cons.mp hd with rfl | hd
    · exact h.1
    · exact pureDs_mem h.2 d hd
theorem repL_zip {R : RC} {H : Hp} : ∀ {l : List D} {vs : List V}, RepL R H l vs → ∃ bs : List (V × D), bs.map Prod.fst = vs ∧ bs.map Prod.snd = l ∧ ∀ b ∈ bs, Rep R H b.2 b.1
  | [], _, h => ⟨[], h.symm, rfl, fun b hb => by cases hb⟩
  | d :: l, _, h => by
    obtain ⟨v, r, rfl, h1, h2⟩ := h
    obtain ⟨bs, e1, e2, g⟩ := repL_zip h2
    refine ⟨(v, d) :: bs, by rw [List.map_cons, e1], by rw [List.map_cons, e2], fun b hb => ?_⟩
    rcases List.mem_cons.mp hb with rfl | hb
    · exact h1
    · exact g b hb
theorem repL_unzip {R : RC} {H : Hp} : ∀ {bs : List (V × D)}, (∀ b ∈ bs, Rep R H b.2 b.1) → RepL R H (bs.map Prod.snd) (bs.map Prod.fst)
  | [], _ => rfl
  | b :: bs, g => RepL.cons (g b List.mem_cons_self) (repL_unzip fun c hc => g c (List.mem_cons_of_mem _ hc))
theorem hl_sortG {R : RC} : HLok R (f1 sortGD) (rSortG R.K) := fun ds w vs H O Q e od r q => by
  obtain ⟨d, hd, e'⟩ := f1_inv e
  clear e
  subst hd
  have e := e'
  clear e'
  obtain ⟨v, rfl, h⟩ := rep1 r
  cases d with
  | lst l =>
    simp only [sortGD] at e
    split at e
    · rename_i ok
      cases e
      unfold srtOk at ok
      rw [Bool.and_eq_true, Bool.and_eq_true, Bool.and_eq_true] at ok
      obtain ⟨k1, k2, k3, k4⟩ := ok
      have k2 := of_decide_eq_true k2
      obtain ⟨a, us, rfl, h1, h2, h3⟩ := h
      obtain ⟨bs, rfl, rfl, g⟩ := repL_zip h2
      have em : ∀ f : D → PyData, (bs.map fun b => f b.2) = (bs.map Prod.snd).map f := fun f => by rw [List.map_map]; rfl
      have pu : ∀ b ∈ bs, pureD 3 b.2 = true := fun b hb => pureDs_mem k1 _ (List.mem_map.mpr ⟨b, hb, rfl⟩)
      refine ⟨a, bs, rfl, vis_sql h1, fun b hb => ?_, fun d hd d' hd' => ?_, ?_, by simpa using k2, fun p hp => q _ _ (same_upd hp) ?_⟩
      · obtain ⟨i, _, k⟩ := dp_of (pu b hb) ((g b hb).mono vis_all)
        exact ⟨i, k⟩
      · obtain ⟨b, hb, rfl⟩ := List.mem_map.mp hd
        obtain ⟨b', hb', rfl⟩ := List.mem_map.mp hd'
        exact List.all_eq_true.mp (List.all_eq_true.mp k3 b.2 (List.mem_map.mpr ⟨b, hb, rfl⟩)) b'.2 (List.mem_map.mpr ⟨b', hb', rfl⟩)
      · rw [Bool.or_eq_true] at k4
        rcases k4 with k4 | k4
        · refine .inl fun d hd => ?_
          obtain ⟨b, hb, rfl⟩ := List.mem_map.mp hd
          have z := List.all_eq_true.mp k4 b.2 (List.mem_map.mpr ⟨b, hb, rfl⟩)
          cases e : b.2 with
          | tup l =>
            rw [e] at z
            cases l with
            | nil => cases z
            | cons x l => exact ⟨pyD x, pyDs l, by simp only [pyD, pyDs]⟩
          | _ =>
            rw [e] at z
            cases z
        · refine .inr fun d hd => ?_
          obtain ⟨b, hb, rfl⟩ := List.mem_map.mp hd
          have z := List.all_eq_true.mp k4 b.2 (List.mem_map.mpr ⟨b, hb, rfl⟩)
          cases e : b.2 with
          | bl x => exact ⟨by simp [pyD], fun xs => by simp [pyD]⟩
          | int x => exact ⟨by simp [pyD], fun xs => by simp [pyD]⟩
          | str x => exact ⟨by simp [pyD], fun xs => by simp [pyD]⟩
          | lst x => exact ⟨by simp [pyD], fun xs => by simp [pyD]⟩
          | _ =>
            rw [e] at z
            cases z
      · have es : (bs.map Prod.snd).mergeSort leD = (bs.mergeSort (PySem.W.dataLe false fun b => pyD b.2)).map Prod.snd :=
          (List.map_mergeSort (f := Prod.snd) (r := PySem.W.dataLe false fun b : V × D => pyD b.2) (s := leD) (l := bs) (fun a _ b _ => rfl)).symm
        rw [es]
        refine new_lst od (repL_unzip fun b hb => g b (List.mem_mergeSort.mp hb)) ?_ hp
        rw [List.length_map, List.length_mergeSort]
        exact Nat.le_trans (by simpa using k2) (by decide)
    · cases e
  | _ => cases e
end DL

set_option Elab.async false
set_option linter.all false
set_option maxRecDepth 100000
set_option maxHeartbeats 4000000
/-! comprehensions of two clauses -/
namespace DL
open PySem PySem.Spec PyProof.Rows L2
section
variable {B : BP} {env : Sls} {b : Bw} {σ : L2.St} {H : Hp} {vs : List Nat}
theorem own_wipe {O : Addr → Prop} (hn : noOwn env vs = true) (a : Addr) : ownO O (wipeE env vs) (wipe σ vs) a ↔ ownO O env σ a := by
  constructor
  · rintro (h | ⟨i, d, h1, h2⟩)
    · exact .inl h
    · obtain ⟨g1, g2⟩ := wipeE_val (by simp) h1
      rw [wipe_keep g2] at h2
      exact .inr ⟨i, d, g1, h2⟩
  · rintro (h | ⟨i, d, h1, h2⟩)
    · exact .inl h
    · have g : i ∉ vs := fun z => by
        unfold noOwn at hn
        have q := List.all_eq_true.mp hn i z
        rw [h1] at q
        cases q
      exact .inr ⟨i, d, by rw [wipeE_keep g]; exact h1, by rw [wipe_keep g]; exact h2⟩
theorem Rel.wip (I : Rel B env b σ H) (hn : noOwn env vs = true) : Rel B (wipeE env vs) b (wipe σ vs) H := by
  have sub : Sub (vis H (ownO B.O env σ)) (vis H (ownO B.O (wipeE env vs) (wipe σ vs))) := vis_sub fun a h => (own_wipe hn a).mp h
  refine ⟨by rw [wipeE_length, wipe_length]; exact I.len, fun i d e => ?_, fun i d e => ?_, fun i j d e a h1 h2 h3 h4 => ?_, I.bow, I.bO, I.odom, I.tab, I.ext, I.pin.trans sub⟩
  · obtain ⟨g1, g2⟩ := wipeE_val (by simp) e
    obtain ⟨v, h1, h2⟩ := I.val i d g1
    exact ⟨v, by rw [wipe_keep g2]; exact h1, h2.mono sub⟩
  · obtain ⟨g1, g2⟩ := wipeE_val (by simp) e
    obtain ⟨a, h1, h2, h3, h4⟩ := I.own i d g1
    exact ⟨a, by rw [wipe_keep g2]; exact h1, h2, h3, RepTop.hv sub h4⟩
  · obtain ⟨g1, g2⟩ := wipeE_val (by simp) h1
    obtain ⟨g3, g4⟩ := wipeE_val (by simp) h2
    rw [wipe_keep g2] at h3
    rw [wipe_keep g4] at h4
    exact I.sep i j d e a g1 g3 h3 h4
/-- another pinned heap -/
theorem Rel.pinned {O : Addr → Prop} {P Q : Hp} (I : Rel (B.cmp O P) env b σ H) (h : Sub Q (vis H (ownO O env σ))) : Rel (B.cmp O Q) env b σ H :=
  ⟨I.len, I.val, I.own, I.sep, I.bow, I.bO, I.odom, I.tab, I.ext, h⟩
end
section
variable {B : BP} {tt1 : EvT} {te : Ev} {bd1 : Bd} {is1 vs1 : List Nat}
theorem in_loop {Dd : Addr} {Po P1 : Hp} {OA : Addr → Prop} {envo e : Sls} {σo σ2 : L2.St} {b2 b3 : Bw} {H1 H4 : Hp} {ds1 r1 accD0 : List D} {accV0 : List V} {J1 : It} {Nx : Hp → Prop}
    (his1 : ∀ j ∈ is1, j ∈ vs1) (hn : noOwn e vs1 = true) (Io : Rel (B.cmp (plus B.O Dd) Po) envo b2 σo H4) (Ii : Rel (B.cmp (plus B.O Dd) P1) e b2 σ2 H4)
    (it : ItRep B.R (vis H4 (plus B.O Dd)) P1 J1 ds1) (x0 : Ext B.R.bo H1 H4) (h1D : H1 Dd = none) (at0 : H4 Dd = some (.lst accV0)) (r0 : RepL B.R (vis H4 OA) accD0 accV0)
    (hOA : ∀ a, OA a → plus B.O Dd a ∨ ∃ (j : Nat) (d : D), j ∉ vs1 ∧ e[j]? = some (.own d) ∧ σ2[j]? = some (some (.ref a))) (hOD : OA Dd) (hbA : ∀ a, B.R.bo = some a → OA a) (hHe : B.He Dd = none) (hb : B.R.bo ≠ some Dd)
    (hc : compL bd1 tt1 te (wipeE e vs1) ds1 b2 = .ok r1 b3) (hlen : accD0.length + r1.length ≤ LIM)
    (hNx : ∀ H accV, Rel (B.cmp (plus B.O Dd) Po) envo b3 σo H → Ext B.R.bo H1 H → H Dd = some (.lst accV) → RepL B.R (vis H OA) (accD0 ++ r1) accV → Nx H) :
    ∃ W1 : Nat → Nat → Hp → Prop, (∃ m, W1 0 m H4) ∧ ∀ j k H, W1 j k H →
      (J1.stop j H ∧ Nx H) ∨ (J1.go j H ∧ ∃ Nx1 : Hp → Prop, (∀ H', Nx1 H' → ∃ k', k' < k ∧ W1 (j + 1) k' H') ∧ ∀ x H', J1.yld j H x H' → ∃ O P, rdG (B.cmp O P) is1 bd1 x (wipe σ2 vs1) H' fun σ3 H5 => wipe σ3 vs1 = wipe σ2 vs1 ∧ ∃ O P, rdT (B.cmp O P) tt1 σ3 H5 fun b H6 =>
        if b = true then ∃ O P, rdE (B.cmp O P) te σ3 H6 fun y H7 => ∃ acc, H7 Dd = some (.lst acc) ∧ acc.length < sizeLine ∧ Nx1 (upd H7 Dd (.lst (acc ++ [y]))) else Nx1 H6) := by
  refine ⟨fun i m H => m = ds1.length - i ∧ i ≤ ds1.length ∧ ∃ accD accV b', Rel (B.cmp (plus B.O Dd) P1) (wipeE e vs1) b' (wipe σ2 vs1) H ∧ Rel (B.cmp (plus B.O Dd) Po) envo b' σo H ∧ Ext B.R.bo H1 H ∧
      (∀ a o, H4 a = some o → a ≠ Dd → B.R.bo ≠ some a → (∀ ps, o ≠ .tbl ps) → H a = some o) ∧ H Dd = some (.lst accV) ∧ RepL B.R (vis H OA) accD accV ∧ ∃ rest, compL bd1 tt1 te (wipeE e vs1) (ds1.drop i) b' = .ok rest b3 ∧ accD0 ++ r1 = accD ++ rest,
    ⟨ds1.length, rfl, Nat.zero_le _, accD0, accV0, b2, Ii.wip hn, Io, x0, fun a o q _ _ _ => q, at0, r0, r1, hc, rfl⟩, ?_⟩
  rintro i m H ⟨rfl, hi, accD, accV, b', I', O', x', xd, hA, rA, rest, hr, er⟩
  have hPi : Sub (vis H4 (plus B.O Dd)) H := fun a o q n => by
    obtain ⟨e1, e2⟩ := of_vis q
    exact xd a o e1 (fun z => e2 (.inr z)) (fun z => e2 (Io.bO a z)) n
  obtain ⟨items, stop⟩ := it H _ hPi I'.pin (Rel.nod (B := B.cmp (plus B.O Dd) P1) I')
  by_cases hlt : i < ds1.length
  · have hd : ds1[i]? = some ds1[i] := List.getElem?_eq_getElem hlt
    obtain ⟨go, yld⟩ := items i _ hd
    rw [List.drop_eq_getElem_cons hlt] at hr
    unfold compL at hr
    cases e1 : bd1 ds1[i] (wipeE e vs1) with
    | none =>
      rw [e1] at hr
      cases hr
    | some en =>
      simp only [e1] at hr
      cases e2 : tt1 en b' with
      | bad => simp [e2] at hr
      | err c fs b4 => simp [e2] at hr
      | ok c b4 =>
        simp only [e2] at hr
        refine .inr ⟨go, fun H2 => ∃ accD accV b', Rel (B.cmp (plus B.O Dd) P1) (wipeE e vs1) b' (wipe σ2 vs1) H2 ∧ Rel (B.cmp (plus B.O Dd) Po) envo b' σo H2 ∧ Ext B.R.bo H1 H2 ∧
            (∀ a o, H4 a = some o → a ≠ Dd → B.R.bo ≠ some a → (∀ ps, o ≠ .tbl ps) → H2 a = some o) ∧ H2 Dd = some (.lst accV) ∧ RepL B.R (vis H2 OA) accD accV ∧ ∃ rest, compL bd1 tt1 te (wipeE e vs1) (ds1.drop (i + 1)) b' = .ok rest b3 ∧ accD0 ++ r1 = accD ++ rest,
          fun H2 h2 => ⟨ds1.length - (i + 1), by omega, rfl, hlt, h2⟩, fun x H2 y => ?_⟩
        obtain ⟨sm, rx⟩ := yld x H2 y
        have x2 : Ext B.R.bo H H2 := same_ext sm
        have I2 : Rel (B.cmp (plus B.O Dd) P1) (wipeE e vs1) b' (wipe σ2 vs1) H2 := I'.go x2 (bw_same I'.bow sm) (tabs_same I'.tab sm)
        have O2 : Rel (B.cmp (plus B.O Dd) Po) envo b' σo H2 := O'.go x2 (bw_same O'.bow sm) (tabs_same O'.tab sm)
        refine ⟨plus B.O Dd, P1, wipeE e vs1, b', ds1[i], en, I2, rx, e1, fun σ3 I3 _ l3 k3 h3 => ⟨wipe_same l3 fun j hj => k3 j fun z => hj (his1 j z), ?_⟩⟩
        have again : ∀ {b4 H4}, Rel (B.cmp (plus B.O Dd) P1) en b4 σ3 H4 → Ext B.R.bo H2 H4 → Rel (B.cmp (plus B.O Dd) P1) (wipeE e vs1) b4 (wipe σ2 vs1) H4 ∧ Rel (B.cmp (plus B.O Dd) Po) envo b4 σo H4 := fun {b4 H4} I4 x4 => ⟨I2.go x4 I4.bow I4.tab, O2.go x4 I4.bow I4.tab⟩
        have at2 : H2 Dd = some (.lst accV) := sm _ _ hA
        refine ⟨plus B.O Dd, P1, en, b', I3, ?_⟩
        rw [e2]
        intro yb H3 f1 f2 f3 f4
        cases (show c = yb from f4)
        have I3' : Rel (B.cmp (plus B.O Dd) P1) en b4 σ3 H3 := I3.go f1 f2 f3
        have at3 : H3 Dd = some (.lst accV) := f1.keep Dd _ at2 hb (fun _ z => by cases z)
        cases c with
        | false =>
          rw [if_neg Bool.false_ne_true]
          obtain ⟨j1, j2⟩ := again I3' f1
          exact ⟨accD, accV, b4, j1, j2, x'.trans (x2.trans f1), fun a o q n1 n2 n3 => (x2.trans f1).keep a o (xd a o q n1 n2 n3) n2 n3, at3, RepL.mono (vis_ext (x2.trans f1) hbA) rA, rest, hr, er⟩
        | true =>
          rw [if_pos rfl]
          simp only [if_true] at hr
          cases e3 : te en b4 with
          | bad => simp [e3] at hr
          | err c fs b5 => simp [e3] at hr
          | ok w4 b5 =>
            simp only [e3] at hr
            cases e4 : compL bd1 tt1 te (wipeE e vs1) (ds1.drop (i + 1)) b5 with
            | bad => simp [e4] at hr
            | err c fs b6 => simp [e4] at hr
            | ok r5 b6 =>
              simp only [e4] at hr
              cases hr
              refine ⟨plus B.O Dd, P1, en, b4, I3', ?_⟩
              rw [e3]
              intro yv H5 g1 g2 g3 g4
              have I4 : Rel (B.cmp (plus B.O Dd) P1) en b5 σ3 H5 := I3'.go g1 g2 g3
              have at4 : H5 Dd = some (.lst accV) := g1.keep Dd _ at3 hb (fun _ z => by cases z)
              obtain ⟨j1, j2⟩ := again I4 (f1.trans g1)
              have lacc : accD.length = accV.length := rA.length
              refine ⟨accV, at4, ?_, accD ++ [w4.d], accV ++ [yv], b5, Rel.grow (O0 := B.O) j1 at4 hHe hb, Rel.grow (O0 := B.O) j2 at4 hHe hb, ⟨fun a o q1 q2 q3 => ?_, fun a q1 => ?_⟩, fun a o q n1 n2 n3 => ?_, upd_same, ?_, r5, e4, by rw [er, List.append_assoc]; rfl⟩
              · have q := congrArg List.length er
                rw [List.length_append, List.length_append, List.length_cons] at q
                have := lim_line
                omega
              · have ne : a ≠ Dd := fun z => by
                  rw [z, h1D] at q1
                  cases q1
                rw [upd_ne ne]
                exact (x'.trans (x2.trans (f1.trans g1))).keep a o q1 q2 q3
              · by_cases z : a = Dd
                · rw [z]
                  exact h1D
                · rw [upd_ne z] at q1
                  exact (x'.trans (x2.trans (f1.trans g1))).dom a q1
              · rw [upd_ne n1]
                exact (x2.trans (f1.trans g1)).keep a o (xd a o q n1 n2 n3) n2 n3
              · have up : Sub (vis H5 OA) (vis (upd H5 Dd (.lst (accV ++ [yv]))) OA) := fun a o q n => by
                  obtain ⟨q1, q2⟩ := of_vis q
                  have ne : a ≠ Dd := fun z => q2 (by rw [z]; exact hOD)
                  exact vis_of (by rw [upd_ne ne]; exact q1) q2
                refine RepL.append (RepL.mono ((vis_ext (x2.trans (f1.trans g1)) hbA).trans up) rA) (RepL.cons (Rep.mono ?_ g4.rep) RepL.nil)
                refine Sub.trans (vis_sub fun a h => ?_) up
                rcases hOA a h with h | ⟨j, d, nj, h1, h2⟩
                · exact .inl h
                · have z1 : (wipeE e vs1)[j]? = some (.own d) := by rw [wipeE_keep nj]; exact h1
                  have z2 : (wipe σ2 vs1)[j]? = some (some (.ref a)) := by rw [wipe_keep nj]; exact h2
                  have hj : j ∉ is1 := fun z => nj (his1 j z)
                  exact .inr ⟨j, d, by rw [h3 j hj]; exact z1, by rw [k3 j hj]; exact z2⟩
  · have ei : i = ds1.length := by omega
    subst ei
    rw [List.drop_length] at hr
    cases hr
    rw [List.append_nil] at er
    subst er
    exact .inl ⟨stop, hNx H accV O' x' hA rA⟩
end
def comp2L (bd : Bd) (tt : EvT) (evi1 : EvI) (bd1 : Bd) (tt1 : EvT) (te : Ev) (vs1 : List Nat) (env : Sls) : List D → Bw → Res (List D)
  | [], b => .ok [] b
  | d :: ds, b => match bd d env with
    | none => .bad
    | some e => match tt e b with
      | .ok c b1 => if c = true then (match evi1 e b1 with
        | .ok ds1 b2 => if noOwn e vs1 = true then (match compL bd1 tt1 te (wipeE e vs1) ds1 b2 with
          | .ok r1 b3 => match comp2L bd tt evi1 bd1 tt1 te vs1 env ds b3 with
            | .ok r b4 => if r1.length + r.length ≤ LIM then .ok (r1 ++ r) b4 else .bad
            | _ => .bad
          | _ => .bad) else .bad
        | _ => .bad) else comp2L bd tt evi1 bd1 tt1 te vs1 env ds b1
      | _ => .bad
def dComp2 (evi : EvI) (bd : Bd) (tt : EvT) (evi1 : EvI) (bd1 : Bd) (tt1 : EvT) (te : Ev) (vs vs1 : List Nat) : Ev := fun env b => (evi env b).bind fun ds b1 => if noOwn env vs = true then ownL (comp2L bd tt evi1 bd1 tt1 te vs1 (wipeE env vs) ds b1) else .bad
theorem comp2L_len {bd : Bd} {tt : EvT} {evi1 : EvI} {bd1 : Bd} {tt1 : EvT} {te : Ev} {vs1 : List Nat} {env : Sls} : ∀ {ds : List D} {b b' : Bw} {r : List D}, comp2L bd tt evi1 bd1 tt1 te vs1 env ds b = .ok r b' → r.length ≤ LIM
  | [], b, b', r, h => by
    cases h
    exact Nat.zero_le _
  | d :: ds, b, b', r, h => by
    unfold comp2L at h
    cases e1 : bd d env with
    | none => simp [e1] at h
    | some e =>
      simp only [e1] at h
      cases e2 : tt e b with
      | ok c b1 =>
        simp only [e2] at h
        cases c with
        | false => exact comp2L_len (show comp2L bd tt evi1 bd1 tt1 te vs1 env ds b1 = .ok r b' from h)
        | true =>
          simp only [if_true] at h
          cases e3 : evi1 e b1 with
          | ok ds1 b2 =>
            simp only [e3] at h
            by_cases hn : noOwn e vs1 = true
            · rw [if_pos hn] at h
              cases e4 : compL bd1 tt1 te (wipeE e vs1) ds1 b2 with
              | ok r1 b3 =>
                simp only [e4] at h
                cases e5 : comp2L bd tt evi1 bd1 tt1 te vs1 env ds b3 with
                | ok r2 b4 =>
                  simp only [e5] at h
                  split at h
                  · rename_i hl
                    cases h
                    rw [List.length_append]
                    exact hl
                  · cases h
                | _ => simp [e5] at h
              | _ => simp [e4] at h
            · rw [if_neg hn] at h
              cases h
          | _ => simp [e3] at h
      | _ => simp [e2] at h
section
variable {B : BP} {X : Cx} {evi evi1 : EvI} {bd bd1 : Bd} {is is1 vs vs1 : List Nat} {tt tt1 : EvT} {te : Ev}
theorem rd_comp2 {σ : L2.St} {H : Hp} {Q : VK} (his : ∀ j ∈ is, j ∈ vs) (his1 : ∀ j ∈ is1, j ∈ vs1) (hv : ∀ j ∈ vs1, j ∈ vs) (w : rdE B (dComp2 evi bd tt evi1 bd1 tt1 te vs vs1) σ H Q) :
    tLc2 (rdJ B evi) (fun v σ H Q => ∃ O P, rdG (B.cmp O P) is bd v σ H Q) (fun σ H Q => ∃ O P, rdT (B.cmp O P) tt σ H Q) (fun σ H Q => ∃ O P, rdJ (B.cmp O P) evi1 σ H Q) (fun v σ H Q => ∃ O P, rdG (B.cmp O P) is1 bd1 v σ H Q) (fun σ H Q => ∃ O P, rdT (B.cmp O P) tt1 σ H Q) (fun σ H Q => ∃ O P, rdE (B.cmp O P) te σ H Q) vs vs1 σ H Q := by
  refine rd_bind (ρ1 := rhoJ B.O) (k := fun ds env b1 => if noOwn env vs = true then ownL (comp2L bd tt evi1 bd1 tt1 te vs1 (wipeE env vs) ds b1) else .bad) w fun env ds b1 Jt H1 I1 x1 r1 w => ?_
  by_cases hn : noOwn env vs = true
  · rw [if_pos hn] at w
    cases hc : comp2L bd tt evi1 bd1 tt1 te vs1 (wipeE env vs) ds b1 with
    | bad =>
      rw [hc] at w
      exact False.elim w
    | err c fs b2 =>
      rw [hc] at w
      exact False.elim w
    | ok r b2 =>
      rw [hc] at w
      obtain ⟨itr, hlim⟩ := r1
      have w : wpG B RepW (ownO B.O env σ) H (.ok (.own (.lst r)) b2) σ Q := w
      intro Dd hD
      have hrl : r.length ≤ LIM := comp2L_len hc
      have hHD : H Dd = none := x1.dom Dd hD
      have hO : ¬ ownO B.O env σ Dd := I1.nod Dd hD
      have hbo : B.R.bo ≠ some Dd := fun z => hO (.inl (I1.bO Dd z))
      generalize hP : vis H1 (ownO B.O env σ) = P at itr
      have hHe : B.He Dd = none := I1.ext.dom Dd hD
      refine ⟨fun i m H' => m = ds.length - i ∧ i ≤ ds.length ∧ ∃ accD accV b', Rel (B.cmp (plus B.O Dd) P) (wipeE env vs) b' (wipe σ vs) H' ∧ Ext B.R.bo H1 H' ∧ H' Dd = some (.lst accV) ∧
          RepL B.R (vis H' (plus (ownO B.O env σ) Dd)) accD accV ∧ ∃ rest, comp2L bd tt evi1 bd1 tt1 te vs1 (wipeE env vs) (ds.drop i) b' = .ok rest b2 ∧ r = accD ++ rest,
        ⟨ds.length, rfl, Nat.zero_le _, [], [], b1, I1.blk hn hD (hP ▸ Sub.refl _) [], Ext.new hD, upd_same, rfl, r, hc, rfl⟩, ?_⟩
      rintro i m H' ⟨rfl, hi, accD, accV, b', I', x', hA, rA, rest, hr, er⟩
      have hPv : Sub P (vis H' (ownO (plus B.O Dd) (wipeE env vs) (wipe σ vs))) := I'.pin
      have hPi : Sub (vis H1 B.O) H' := fun a o e n => by
        obtain ⟨e1, e2⟩ := of_vis e
        exact x'.keep a o e1 (fun q => e2 (I1.bO a q)) n
      obtain ⟨items, stop⟩ := itr H' _ hPi hPv (Rel.nod (B := B.cmp (plus B.O Dd) P) I')
      by_cases hlt : i < ds.length
      · have hd : ds[i]? = some ds[i] := List.getElem?_eq_getElem hlt
        obtain ⟨go, yld⟩ := items i _ hd
        rw [List.drop_eq_getElem_cons hlt] at hr
        unfold comp2L at hr
        cases e1 : bd ds[i] (wipeE env vs) with
        | none =>
          rw [e1] at hr
          cases hr
        | some e =>
          simp only [e1] at hr
          cases e2 : tt e b' with
          | bad => simp [e2] at hr
          | err c fs b3 => simp [e2] at hr
          | ok c b3 =>
            simp only [e2] at hr
            refine .inr ⟨go, fun H2 => ∃ accD accV b', Rel (B.cmp (plus B.O Dd) P) (wipeE env vs) b' (wipe σ vs) H2 ∧ Ext B.R.bo H1 H2 ∧ H2 Dd = some (.lst accV) ∧
                RepL B.R (vis H2 (plus (ownO B.O env σ) Dd)) accD accV ∧ ∃ rest, comp2L bd tt evi1 bd1 tt1 te vs1 (wipeE env vs) (ds.drop (i + 1)) b' = .ok rest b2 ∧ r = accD ++ rest,
              fun H2 h2 => ⟨ds.length - (i + 1), by omega, rfl, hlt, h2⟩, fun x H2 y => ?_⟩
            obtain ⟨sm, rx⟩ := yld x H2 y
            have x2 : Ext B.R.bo H' H2 := same_ext sm
            have I2 : Rel (B.cmp (plus B.O Dd) P) (wipeE env vs) b' (wipe σ vs) H2 := I'.go x2 (bw_same I'.bow sm) (tabs_same I'.tab sm)
            refine ⟨plus B.O Dd, P, wipeE env vs, b', ds[i], e, I2, rx, e1, fun σ3 I3 _ l3 k3 h3 => ⟨wipe_same l3 fun j hj => k3 j fun z => hj (his j z), ?_⟩⟩
            have bO' : ∀ a, B.R.bo = some a → plus (ownO B.O env σ) Dd a := fun a q => .inl (I1.bOO q)
            have again : ∀ {b4 H4}, Rel (B.cmp (plus B.O Dd) P) e b4 σ3 H4 → Ext B.R.bo H2 H4 → Rel (B.cmp (plus B.O Dd) P) (wipeE env vs) b4 (wipe σ vs) H4 := fun {b4 H4} I4 x4 => I2.go x4 I4.bow I4.tab
            have at2 : H2 Dd = some (.lst accV) := sm _ _ hA
            refine ⟨plus B.O Dd, P, e, b', I3, ?_⟩
            rw [e2]
            intro yb H3 f1 f2 f3 f4
            cases (show c = yb from f4)
            have I3' : Rel (B.cmp (plus B.O Dd) P) e b3 σ3 H3 := I3.go f1 f2 f3
            have at3 : H3 Dd = some (.lst accV) := f1.keep Dd _ at2 hbo (fun _ z => by cases z)
            cases c with
            | false =>
              rw [if_neg Bool.false_ne_true]
              exact ⟨accD, accV, b3, again I3' f1, x'.trans (x2.trans f1), at3, RepL.mono (vis_ext (x2.trans f1) bO') rA, rest, hr, er⟩
            | true =>
              rw [if_pos rfl]
              simp only [if_true] at hr
              cases e3 : evi1 e b3 with
              | bad => simp [e3] at hr
              | err c fs b4 => simp [e3] at hr
              | ok ds1 b4 =>
                simp only [e3] at hr
                by_cases hn1 : noOwn e vs1 = true
                · rw [if_pos hn1] at hr
                  cases e4 : compL bd1 tt1 te (wipeE e vs1) ds1 b4 with
                  | bad => simp [e4] at hr
                  | err c fs b5 => simp [e4] at hr
                  | ok r1 b5 =>
                    simp only [e4] at hr
                    cases e5 : comp2L bd tt evi1 bd1 tt1 te vs1 (wipeE env vs) (ds.drop (i + 1)) b5 with
                    | bad => simp [e5] at hr
                    | err c fs b6 => simp [e5] at hr
                    | ok r5 b6 =>
                      simp only [e5] at hr
                      split at hr
                      · cases hr
                        refine ⟨plus B.O Dd, P, e, b3, I3', ?_⟩
                        rw [e3]
                        intro J1 H4 g1 g2 g3 g4
                        have I4 : Rel (B.cmp (plus B.O Dd) P) e b4 σ3 H4 := I3'.go g1 g2 g3
                        have at4 : H4 Dd = some (.lst accV) := g1.keep Dd _ at3 hbo (fun _ z => by cases z)
                        obtain ⟨it1, _⟩ := g4
                        refine in_loop (P1 := vis H4 (ownO (plus B.O Dd) e σ3)) (Po := P) (OA := plus (ownO B.O env σ) Dd) (accD0 := accD) his1 hn1 (again I4 (f1.trans g1)) (I4.pinned (Sub.refl _)) it1 (x'.trans (x2.trans (f1.trans g1))) hD at4 (RepL.mono (vis_ext (x2.trans (f1.trans g1)) bO') rA) (fun a h => ?_) (.inr rfl) bO' hHe hbo e4 ?_ fun H accV' Io xx hA' rA' => ?_
                        · rcases h with h | h
                          · rcases h with h | ⟨j, d, h1, h2⟩
                            · exact .inl (.inl h)
                            · have g : j ∉ vs := fun z => by
                                unfold noOwn at hn
                                have q := List.all_eq_true.mp hn j z
                                rw [h1] at q
                                cases q
                              have z1 : (wipeE env vs)[j]? = some (.own d) := by rw [wipeE_keep g]; exact h1
                              have z2 : (wipe σ vs)[j]? = some (some (.ref a)) := by rw [wipe_keep g]; exact h2
                              have hj : j ∉ is := fun z => g (his j z)
                              exact .inr ⟨j, d, fun z => g (hv j z), by rw [h3 j hj]; exact z1, by rw [k3 j hj]; exact z2⟩
                          · exact .inl (.inr h)
                        · have q := congrArg List.length er
                          rw [List.length_append, List.length_append] at q
                          omega
                        · exact ⟨accD ++ r1, accV', b5, Io, xx, hA', rA', r5, e5, by rw [er, List.append_assoc]⟩
                      · cases hr
                · rw [if_neg hn1] at hr
                  cases hr
      · have e : i = ds.length := by omega
        subst e
        rw [List.drop_length] at hr
        cases hr
        rw [List.append_nil] at er
        subst er
        refine .inl ⟨stop, ?_⟩
        exact w (.ref Dd) H' (x1.trans x') I'.bow I'.tab ⟨Dd, rfl, hHD, hO, accV, hA, rA, hrl⟩
  · rw [if_neg hn] at w
    exact False.elim w
end
section
variable {B : BP} {X : Cx} {tg iter tg1 iter1 elt : Expr} {ifs ifs1 : List Expr} {evi evi1 : EvI} {bd bd1 : Bd} {is is1 vs1 : List Nat} {tt tt1 : EvT} {te : Ev} {scope : Scope} {own : List (Str × Nat)} {pos : Pos}
theorem de_lc2 (vs1 : List Nat) (hc : X.calm = true) (hN : X.N.Nodup) (hi : DJ B X tg iter evi) (ok : BlkOk X.N X.env.scope scope own) (his : ∀ j ∈ is, j ∈ own.map (·.2)) (his1 : ∀ j ∈ is1, j ∈ vs1) (hv : ∀ j ∈ vs1, j ∈ own.map (·.2))
    (hg : ∀ (O : Addr → Prop) (P : Hp) (s : Shared) (H : Hp) (C : Addr) (cl : List (Str × Addr)) (fp : List Addr), DG (B.cmp O P) (X.blk s H scope (compEnvC scope cl C X.env) fp) tg is bd)
    (ht : ∀ (O : Addr → Prop) (P : Hp) (s : Shared) (H : Hp) (C : Addr) (cl : List (Str × Addr)) (fp : List Addr), DTs (B.cmp O P) (X.blk s H scope (compEnvC scope cl C X.env) fp) ifs tt)
    (hi1 : ∀ (O : Addr → Prop) (P : Hp) (s : Shared) (H : Hp) (C : Addr) (cl : List (Str × Addr)) (fp : List Addr), DJ (B.cmp O P) (X.blk s H scope (compEnvC scope cl C X.env) fp) tg1 iter1 evi1)
    (hg1 : ∀ (O : Addr → Prop) (P : Hp) (s : Shared) (H : Hp) (C : Addr) (cl : List (Str × Addr)) (fp : List Addr), DG (B.cmp O P) (X.blk s H scope (compEnvC scope cl C X.env) fp) tg1 is1 bd1)
    (ht1 : ∀ (O : Addr → Prop) (P : Hp) (s : Shared) (H : Hp) (C : Addr) (cl : List (Str × Addr)) (fp : List Addr), DTs (B.cmp O P) (X.blk s H scope (compEnvC scope cl C X.env) fp) ifs1 tt1)
    (he : ∀ (O : Addr → Prop) (P : Hp) (s : Shared) (H : Hp) (C : Addr) (cl : List (Str × Addr)) (fp : List Addr), DE (B.cmp O P) (X.blk s H scope (compEnvC scope cl C X.env) fp) elt te) (hs : ∀ x, foldedSetIterable iter X.env x = pure x := by intro _; rfl) (hs1 : ∀ env x, foldedSetIterable iter1 env x = pure x := by intro _ _; rfl) :
    DE B X (.ListComp elt [⟨tg, iter, ifs, 0⟩, ⟨tg1, iter1, ifs1, 0⟩] scope pos) (dComp2 evi bd tt evi1 bd1 tt1 te (own.map (·.2)) vs1) :=
  imp_PE (pe_lc2 hc hN hi ok hv (g := fun v σ H Q => ∃ O P, rdG (B.cmp O P) is bd v σ H Q) (tt := fun σ H Q => ∃ O P, rdT (B.cmp O P) tt σ H Q) (wi1 := fun σ H Q => ∃ O P, rdJ (B.cmp O P) evi1 σ H Q) (g1 := fun v σ H Q => ∃ O P, rdG (B.cmp O P) is1 bd1 v σ H Q) (tt1 := fun σ H Q => ∃ O P, rdT (B.cmp O P) tt1 σ H Q) (te := fun σ H Q => ∃ O P, rdE (B.cmp O P) te σ H Q)
    (fun s H C cl fp => ⟨fun pins s' σ H' v u Q I r ⟨O, P, h⟩ => (hg O P s H C cl fp).run pins s' σ H' v u Q I r h⟩)
    (fun s H C cl fp => ⟨fun pins s' σ H' Q I ⟨O, P, h⟩ => (ht O P s H C cl fp).run pins s' σ H' Q I h⟩)
    (fun s H C cl fp => ⟨fun pins s' σ H' Q I ⟨O, P, h⟩ => (hi1 O P s H C cl fp).run pins s' σ H' Q I h⟩)
    (fun s H C cl fp => ⟨fun pins s' σ H' v u Q I r ⟨O, P, h⟩ => (hg1 O P s H C cl fp).run pins s' σ H' v u Q I r h⟩)
    (fun s H C cl fp => ⟨fun pins s' σ H' Q I ⟨O, P, h⟩ => (ht1 O P s H C cl fp).run pins s' σ H' Q I h⟩)
    (fun s H C cl fp => ⟨fun pins s' σ H' Q I ⟨O, P, h⟩ => (he O P s H C cl fp).run pins s' σ H' Q I h⟩) hs hs1) fun σ H Q w => rd_comp2 his his1 hv w
theorem ds_setLc2 (vs1 : List Nat) {i : Nat} {y : Str} {py spos : Pos} (hc : X.calm = true) (hN : X.N.Nodup) (hi : DJ B X tg iter evi) (ok : BlkOk X.N X.env.scope scope own) (his : ∀ j ∈ is, j ∈ own.map (·.2)) (his1 : ∀ j ∈ is1, j ∈ vs1) (hv : ∀ j ∈ vs1, j ∈ own.map (·.2))
    (hg : ∀ (O : Addr → Prop) (P : Hp) (s : Shared) (H : Hp) (C : Addr) (cl : List (Str × Addr)) (fp : List Addr), DG (B.cmp O P) (X.blk s H scope (compEnvC scope cl C X.env) fp) tg is bd)
    (ht : ∀ (O : Addr → Prop) (P : Hp) (s : Shared) (H : Hp) (C : Addr) (cl : List (Str × Addr)) (fp : List Addr), DTs (B.cmp O P) (X.blk s H scope (compEnvC scope cl C X.env) fp) ifs tt)
    (hi1 : ∀ (O : Addr → Prop) (P : Hp) (s : Shared) (H : Hp) (C : Addr) (cl : List (Str × Addr)) (fp : List Addr), DJ (B.cmp O P) (X.blk s H scope (compEnvC scope cl C X.env) fp) tg1 iter1 evi1)
    (hg1 : ∀ (O : Addr → Prop) (P : Hp) (s : Shared) (H : Hp) (C : Addr) (cl : List (Str × Addr)) (fp : List Addr), DG (B.cmp O P) (X.blk s H scope (compEnvC scope cl C X.env) fp) tg1 is1 bd1)
    (ht1 : ∀ (O : Addr → Prop) (P : Hp) (s : Shared) (H : Hp) (C : Addr) (cl : List (Str × Addr)) (fp : List Addr), DTs (B.cmp O P) (X.blk s H scope (compEnvC scope cl C X.env) fp) ifs1 tt1)
    (he : ∀ (O : Addr → Prop) (P : Hp) (s : Shared) (H : Hp) (C : Addr) (cl : List (Str × Addr)) (fp : List Addr), DE (B.cmp O P) (X.blk s H scope (compEnvC scope cl C X.env) fp) elt te)
    (hy : X.N[i]? = some y := by rfl) (hyl : X.env.scope.names.lookup y = some .local := by rfl) (hsw : swapsWith (.ListComp elt [⟨tg, iter, ifs, 0⟩, ⟨tg1, iter1, ifs1, 0⟩] scope pos) (some (.Name y py)) spos.line X.env = pure true := by refine sw_true ?_ ?_ ?_ ?_ <;> rfl)
    (hs : ∀ x, foldedSetIterable iter X.env x = pure x := by intro _; rfl) (hs1 : ∀ env x, foldedSetIterable iter1 env x = pure x := by intro _ _; rfl) :
    DS B X (.Assign [.Name y py] (.ListComp elt [⟨tg, iter, ifs, 0⟩, ⟨tg1, iter1, ifs1, 0⟩] scope pos) spos) (dAsg i (dComp2 evi bd tt evi1 bd1 tt1 te (own.map (·.2)) vs1)) :=
  imp_PS (ps_setLc2 hc hN hy hyl hsw hi ok hv (g := fun v σ H Q => ∃ O P, rdG (B.cmp O P) is bd v σ H Q) (tt := fun σ H Q => ∃ O P, rdT (B.cmp O P) tt σ H Q) (wi1 := fun σ H Q => ∃ O P, rdJ (B.cmp O P) evi1 σ H Q) (g1 := fun v σ H Q => ∃ O P, rdG (B.cmp O P) is1 bd1 v σ H Q) (tt1 := fun σ H Q => ∃ O P, rdT (B.cmp O P) tt1 σ H Q) (te := fun σ H Q => ∃ O P, rdE (B.cmp O P) te σ H Q)
    (fun s H C cl fp => ⟨fun pins s' σ H' v u Q I r ⟨O, P, h⟩ => (hg O P s H C cl fp).run pins s' σ H' v u Q I r h⟩)
    (fun s H C cl fp => ⟨fun pins s' σ H' Q I ⟨O, P, h⟩ => (ht O P s H C cl fp).run pins s' σ H' Q I h⟩)
    (fun s H C cl fp => ⟨fun pins s' σ H' Q I ⟨O, P, h⟩ => (hi1 O P s H C cl fp).run pins s' σ H' Q I h⟩)
    (fun s H C cl fp => ⟨fun pins s' σ H' v u Q I r ⟨O, P, h⟩ => (hg1 O P s H C cl fp).run pins s' σ H' v u Q I r h⟩)
    (fun s H C cl fp => ⟨fun pins s' σ H' Q I ⟨O, P, h⟩ => (ht1 O P s H C cl fp).run pins s' σ H' Q I h⟩)
    (fun s H C cl fp => ⟨fun pins s' σ H' Q I ⟨O, P, h⟩ => (he O P s H C cl fp).run pins s' σ H' Q I h⟩) hs hs1) fun D σ H w => rd_comp2 his his1 hv (rd_asg w)
end
end DL

set_option Elab.async false
set_option linter.all false
set_option maxRecDepth 100000
set_option maxHeartbeats 4000000
/-! list(range(n)) -/
namespace DL
open PySem PySem.Spec PyProof.Rows L2
def fLRg (x : D) : Option Wv := match x with
  | .int n => if rngOk n then some (.own (.lst (rngL 0 n))) else none
  | _ => none
theorem repL_rg {R : RC} {H : Hp} (lo hi : Int) : RepL R H (rngL lo hi) (rgV lo hi) := by
  unfold rngL rgV
  generalize List.range (hi - lo).toNat = l
  induction l with
  | nil => rfl
  | cons x l ih => exact RepL.cons rfl ih
section
variable {B : BP} {X : Cx} {a : Expr} {ea : Ev} {p p2 pos q : Pos}
theorem de_listRg (hc : X.calm = true) (hgl : Gl X "list") (hml : X.mg "list" = none) (hg : Gl X "range") (hm : X.mg "range" = none) (ha : DE B X a ea)
    (na : starEach [.Call (.Name "range" p2) [a] [] q] X.env = (false, eval (.Call (.Name "range" p2) [a] [] q) X.env) :: starEach [] X.env := by rfl) (na2 : starEach [a] X.env = (false, eval a X.env) :: starEach [] X.env := by rfl) :
    DE B X (.Call (.Name "list" p) [.Call (.Name "range" p2) [a] [] q] [] pos) (dOp1 fLRg ea) :=
  imp_PE (pe_listRg hc hgl hml (prg_1 hg hm ha na2) na) fun σ H Q h => by
    refine rd_bind (k := fun (w : Wv) _ b1 => optR (fLRg w.d) b1) h fun env w1 b1 x H1 I1 x1 r1 w => ?_
    have r := r1.rep
    cases z : w1.d with
    | int n =>
      rw [z] at r w
      cases (show x = .int n from r)
      have w : wpG B RepW (ownO B.O env σ) H (optR (if rngOk n = true then some (Wv.own (.lst (rngL 0 n))) else none) b1) σ Q := w
      by_cases hn : rngOk n = true
      · rw [if_pos hn] at w
        have hh := rng_ok hn
        refine ⟨n, rfl, ⟨by omega, by omega, by omega, by omega, by omega⟩, fun p hp => ?_⟩
        exact nw_of I1 x1 w _ _ (same_upd hp) (new_lst (fun a h => I1.nod a h) (repL_rg 0 n) (rng_len (by omega) hh.1) hp)
      · rw [if_neg hn] at w
        exact False.elim w
    | _ =>
      rw [z] at w
      exact False.elim w
end
end DL

set_option Elab.async false
set_option linter.all false
set_option maxRecDepth 100000
set_option maxHeartbeats 4000000
/-! sorted(set(t)), t a tuple of ints -/
namespace DL
open PySem PySem.Spec PyProof.Rows L2
def insU (x : Int) : List Int → List Int
  | [] => [x]
  | y :: l => if x < y then x :: y :: l else if x = y then y :: l else y :: insU x l
def srtU (l : List Int) : List Int := l.foldr insU []
theorem insU_mem (x k : Int) : ∀ l : List Int, k ∈ insU x l ↔ k = x ∨ k ∈ l
  | [] => by simp [insU]
  | y :: l => by
    unfold insU
    split
    · simp
    · split
      · rename_i h
        subst h
        simp
      · rw [List.mem_cons, insU_mem x k l, List.mem_cons]
        constructor
        · rintro (h | h | h)
          · exact .inr (.inl h)
          · exact .inl h
          · exact .inr (.inr h)
        · rintro (h | h | h)
          · exact .inr (.inl h)
          · exact .inl h
          · exact .inr (.inr h)
theorem insU_asc (x : Int) : ∀ l : List Int, l.Pairwise (· < ·) → (insU x l).Pairwise (· < ·)
  | [], _ => by simp [insU]
  | y :: l, h => by
    have h0 := h
    rw [List.pairwise_cons] at h
    unfold insU
    split
    · rename_i z
      rw [List.pairwise_cons]
      refine ⟨fun k hk => ?_, h0⟩
      rcases List.mem_cons.mp hk with rfl | hk
      · exact z
      · have := h.1 k hk
        omega
    · split
      · exact h0
      · rename_i z1 z2
        rw [List.pairwise_cons]
        refine ⟨fun k hk => ?_, insU_asc x l h.2⟩
        rcases (insU_mem x k l).mp hk with rfl | hk
        · omega
        · exact h.1 k hk
theorem asc_unique : ∀ {s t : List Int}, s.Pairwise (· < ·) → t.Pairwise (· < ·) → (∀ k, k ∈ s ↔ k ∈ t) → s = t
  | [], [], _, _, _ => rfl
  | [], y :: t, _, _, h => by
    have := (h y).mpr List.mem_cons_self
    cases this
  | x :: s, [], _, _, h => by
    have := (h x).mp List.mem_cons_self
    cases this
  | x :: s, y :: t, hs, ht, h => by
    rw [List.pairwise_cons] at hs ht
    have e : x = y := by
      have a := (h x).mp List.mem_cons_self
      have b := (h y).mpr List.mem_cons_self
      rcases List.mem_cons.mp a with a | a
      · exact a
      · rcases List.mem_cons.mp b with b | b
        · exact b.symm
        · have := ht.1 x a
          have := hs.1 y b
          omega
    subst e
    rw [asc_unique hs.2 ht.2 fun k => ?_]
    constructor
    · intro hk
      have lt := hs.1 k hk
      rcases List.mem_cons.mp ((h k).mp (List.mem_cons_of_mem _ hk)) with e | e
      · omega
      · exact e
    · intro hk
      have lt := ht.1 k hk
      rcases List.mem_cons.mp ((h k).mpr (List.mem_cons_of_mem _ hk)) with e | e
      · omega
      · exact e
theorem srtU_mem (l : List Int) (k : Int) : k ∈ srtU l ↔ k ∈ l := by
  unfold srtU
  induction l with
  | nil => simp
  | cons x l ih => rw [List.foldr_cons, insU_mem, ih, List.mem_cons]
theorem srtU_asc (l : List Int) : (srtU l).Pairwise (· < ·) := by
  unfold srtU
  induction l with
  | nil => simp
  | cons x l ih =>
    rw [List.foldr_cons]
    exact insU_asc x _ ih
theorem srtU_eq {l t : List Int} (ht : t.Pairwise (· < ·)) (h : ∀ k, k ∈ t ↔ k ∈ l) : srtU l = t :=
  asc_unique (srtU_asc l) ht fun k => (srtU_mem l k).trans (h k).symm
def fSrtSet (x : D) : Option Wv := match x with
  | .tup l => (asInts l).bind fun ns => if ns.length < 60 then some (.own (.lst ((srtU ns).map .int))) else none
  | _ => none
section
variable {X : Cx}
def rSetI (K : PySem.W.Frag) (w : World) : List V → Hp → VK → Prop := fun xs H Q => ∃ (p : Addr) (ns : List Int), xs = [V.ref p] ∧ SqT K H p (ns.map V.int) ∧ ns.length < 60 ∧ ∀ q c, H q = none → c ≤ ns.length → Q (.ref q) (upd H q (SetO w q (fun j => decide (j ∈ ns)) c))
theorem cr_setI (hc : X.calm = true) : CallR X (.type "set") (rSetI X.K X.w) := by
  intro pins s σ H xs us Q I r h
  obtain ⟨p, ns, rfl, ht, hn, q⟩ := h
  obtain ⟨u, rfl, ru⟩ := vals1 r
  cases ru
  obtain ⟨its, rv, p1, hz⟩ := I.tuple ht
  refine call_set_tupI ns (I.ok.hd hc) (show s.heap.IsTuple p its.toArray from p1) (by simpa using rv.ints) (by unfold scanBound; omega) fun h' tk c R hcn k => ?_
  have I2 := I.laid (t' := tk) (a := s.heap.objs.size) (o := SetO X.w s.heap.objs.size (fun j => decide (j ∈ ns)) c) k (Nat.le_refl _) (setO_new R)
  exact ⟨.ref s.heap.objs.size, _, I2, rfl, q _ _ (I.hok.fresh (Nat.le_refl _)) hcn⟩
end
theorem asInts_len {l : List D} {ns : List Int} (h : asInts l = some ns) : l.length = ns.length := by
  induction l generalizing ns with
  | nil =>
    cases h
    rfl
  | cons d l ih =>
    cases d with
    | int i =>
      unfold asInts at h
      cases e : asInts l with
      | none =>
        rw [e] at h
        cases h
      | some n2 =>
        rw [e] at h
        cases h
        rw [List.length_cons, List.length_cons, ih e]
    | _ => cases h
section
variable {B : BP} {X : Cx} {a : Expr} {ea : Ev} {p p2 pos q : Pos}
theorem de_srtSet (hc : X.calm = true) (hgl : Gl X "sorted") (hml : X.mg "sorted" = none) (hg : Gl X "set") (hm : X.mg "set" = none) (ha : DE B X a ea) (hK : B.R.K = X.K := by rfl)
    (na : starEach [.Call (.Name "set" p2) [a] [] q] X.env = (false, eval (.Call (.Name "set" p2) [a] [] q) X.env) :: starEach [] X.env := by rfl) (na2 : starEach [a] X.env = (false, eval a X.env) :: starEach [] X.env := by rfl) (hp1 : (backTo pos (starEach [] X.env)).any (·.1) = false := by rfl) (hp2 : (backTo q (starEach [] X.env)).any (·.1) = false := by rfl) :
    DE B X (.Call (.Name "sorted" p) [.Call (.Name "set" p2) [a] [] q] [] pos) (dOp1 fSrtSet ea) :=
  imp_PE (pe_callB (cr_sortedSet hc) hgl hml PyProof.Rows.Boot.«sorted» (pa_cons (pe_callTy (cr_setI hc) hg hm PyProof.Rows.Boot.«set» (pa_cons ha pa_nil na2) (he := na2) (hpl := hp2)) pa_nil na) (he := na) (hpl := hp1)) fun σ H Q h => by
    refine rd_bind (k := fun (w : Wv) _ b1 => optR (fSrtSet w.d) b1) h fun env w1 b1 x H1 I1 x1 r1 w => ?_
    have r := r1.rep
    cases z : w1.d with
    | tup l =>
      rw [z] at r w
      obtain ⟨t, vs, rfl, h1, h2, h3⟩ := r
      cases e : asInts l with
      | none =>
        have e2 : fSrtSet (.tup l) = none := by
          show (asInts l).bind _ = none
          rw [e]
          rfl
        rw [e2] at w
        exact False.elim w
      | some ns =>
        have e2 : fSrtSet (.tup l) = if ns.length < 60 then some (Wv.own (.lst ((srtU ns).map .int))) else none := by
          show (asInts l).bind _ = _
          rw [e]
          rfl
        rw [e2] at w
        by_cases hn : ns.length < 60
        · rw [if_pos hn] at w
          obtain ⟨rfl, _⟩ := asInts_rep e h2
          refine ⟨t, ns, rfl, by rw [← hK]; exact vis_sqt h1, hn, fun q c hq hcn => ?_⟩
          refine ⟨q, _, c, rfl, upd_same, by omega, fun ns' pp hs hm hl hpp => ?_⟩
          have en : ns' = srtU ns := (srtU_eq hs fun k => by rw [hm k]; simp).symm
          subst en
          have od1 : ∀ a, (upd H1 q (SetO X.w q (fun j => decide (j ∈ ns)) c)) a = none → ¬ ownO B.O env σ a := fun a ha => I1.nod a ((same_upd hq).free ha)
          have nw := new_lst (R := B.R) (O := ownO B.O env σ) od1 (repL_ints (R := B.R) (H := vis (upd H1 q (SetO X.w q (fun j => decide (j ∈ ns)) c)) (ownO B.O env σ)) (l := srtU ns)) (by rw [List.length_map, hl]; exact Nat.le_trans hcn (Nat.le_trans (Nat.le_of_lt hn) (by decide))) hpp
          refine nw_of I1 x1 w _ _ (fun b o eb => same_upd hpp b o (same_upd hq b o eb)) ?_
          exact nw.back fun b hb => (same_upd hq).free hb
        · rw [if_neg hn] at w
          exact False.elim w
    | _ =>
      rw [z] at w
      exact False.elim w
end
end DL

set_option Elab.async false
set_option linter.all false
set_option maxRecDepth 100000
set_option maxHeartbeats 4000000
/-! (*t, e): a tuple or list taken apart in a display -/
namespace DL
open PySem PySem.Spec PyProof.Rows L2
def starD (d : D) : Option (List D) := match d with
  | .tup l => some l
  | .lst l => some l
  | _ => none
def starR (d : D) (r : Res (List D)) : Res (List D) := match starD d with
  | some l => r.bind fun r b2 => .ok (l ++ r) b2
  | none => .bad
def dStar (ea : Ev) (er : EvA) : EvA := fun env b => (ea env b).bind fun a1 b1 => starR a1.d (er env b1)
section
variable {B : BP} {X : Cx} {e : Expr} {es : List Expr} {ea : Ev} {p : Pos}
theorem da_star {A : EvA} (ha : DE B X e ea) (hr : DA B X es A) (hK : B.R.K = X.K := by rfl) (hs : starEach (.Starred e p :: es) X.env = (true, eval e X.env) :: starEach es X.env := by rfl) : DA B X (.Starred e p :: es) (dStar ea A) :=
  imp_PA (StX.pa_star ha hr hs) fun σ H Q h => by
    refine rd_bind (ρ := rhoL) (k := fun (a1 : Wv) env b1 => starR a1.d (A env b1)) h fun env a1 b1 x H1 I1 x1 r1 w => ?_
    have r1 := r1.rep
    have w : wpG B rhoL (ownO B.O env σ) H (match starD a1.d with
      | some l => (A env b1).bind fun r b2 => .ok (l ++ r) b2
      | none => .bad) σ Q := w
    have fin : ∀ (a : Addr) (l : List D) (vs : List V), x = .ref a → starD a1.d = some l → (SqT X.K H1 a vs ∨ SqL X.K H1 a vs) → RepL B.R (vis H1 (ownO B.O env σ)) l vs → ∃ a xs, x = V.ref a ∧ (SqT X.K H1 a xs ∨ SqL X.K H1 a xs) ∧ rdA B A σ H1 fun vs H3 => Q (xs ++ vs) H3 := fun a l vs ex e hx rl => by
      subst ex
      refine ⟨a, vs, rfl, hx, env, b1, I1, ?_⟩
      rw [e] at w
      cases q : A env b1 with
      | ok r b2 =>
        rw [q] at w
        exact fun ys H3 g1 g2 g3 g4 => wpG_ok (ρ := rhoL) (x := vs ++ ys) w (x1.trans g1) g2 g3 (RepL.append (RepL.mono (vis_ext g1 fun a ha => I1.bOO ha) rl) g4)
      | err c fs b2 =>
        rw [q] at w
        exact wpG_err (ρ1 := rhoL) w x1
      | bad =>
        rw [q] at w
        exact False.elim w
    cases z : a1.d with
    | tup l =>
      rw [z] at r1
      obtain ⟨a, vs, rfl, h1, h2, h3⟩ := r1
      exact fin a l vs rfl (by rw [z]; rfl) (.inl (by rw [← hK]; exact vis_sqt h1)) h2
    | lst l =>
      rw [z] at r1
      obtain ⟨a, vs, rfl, h1, h2, h3⟩ := r1
      exact fin a l vs rfl (by rw [z]; rfl) (.inr (by rw [← hK]; exact vis_sql h1)) h2
    | _ =>
      rw [z] at w
      exact False.elim w
end
end DL

set_option Elab.async false
set_option linter.all false
set_option maxRecDepth 100000
set_option maxHeartbeats 4000000
/-! == by an own __eq__ -/
namespace DL
open PySem PySem.Spec PyProof.Rows L2 LamX NdefX
/-- a method of two values of an own class -/
structure Mth (Pg : Program) (w : World) (K : PySem.W.Frag) (mg : Str → Option Value) (base : Heap) (T : List NdefX.NTab) (k : Nat) (x f : Str) (ps : List Str) (m : Mir) : Prop where
  ex : ∃ (C g : Addr) (fd : FuncData), mg x = some (.ref C) ∧ L2.Cls K C ∧ L2.Meth K C f g ∧ PySem.W.subIn K (.type "tuple") (.ref C) = some false ∧ FnOk Pg w K mg base (L2.CX Pg w) k g fd ps (spD K mg T 2 m) ∧ Binds K fd ps []
theorem Mth.mono {Pg : Program} {w : World} {K : PySem.W.Frag} {mg : Str → Option Value} {base : Heap} {T : List NdefX.NTab} {j k : Nat} {x f : Str} {ps : List Str} {m : Mir} (c : Mth Pg w K mg base T j x f ps m) (h : j ≤ k) : Mth Pg w K mg base T k x f ps m := by
  obtain ⟨C, g, fd, a1, a2, a3, a4, a5, a6⟩ := c.ex
  exact ⟨C, g, fd, a1, a2, a3, a4, a5.mono h, a6⟩
structure MethE (K : PySem.W.Frag) (mg : Str → Option Value) (c p : Str) (st : Stmt) (q : Str) : Prop where
  ex : ∃ (C g : Addr) (fd : FuncData), mg c = some (.ref C) ∧ Cls K C ∧ Meth K C p g ∧ PySem.W.subIn K (.type "tuple") (.ref C) = some false ∧ FunD K p q (defArgs st) (defBody st) (defScope st) [] [] g fd
def eqO (x : Str) (m : Mir) (d e : D) (b : Bw) : Res Wv := match d with
  | .obj c fs => if c = x then (match e with
    | .obj c2 gs => if c2 = x then okR (m [.obj c fs, .obj c2 gs] b) else .bad
    | .tup l => okR (m [.obj c fs, .tup l] b)
    | _ => .bad) else .bad
  | _ => .bad
def dEqO (x : Str) (m : Mir) (ea eb : Ev) : Ev := fun env b => (ea env b).bind fun a1 b1 => (eb env b1).bind fun a2 b2 => eqO x m a1.d a2.d b2
section
variable {X : Cx}
def rEqOwn (X : Cx) (C : Addr) (sp : Sp) : R2 := fun x y H Q => ∃ a dx fs, x = .ref a ∧ H a = some (.ins C dx fs) ∧ ((∃ b dy gs, y = .ref b ∧ H b = some (.ins C dy gs)) ∨ ∃ b ys, y = .ref b ∧ SqT X.K H b ys) ∧ sp [x, y] H Q (fun _ _ _ => False)
theorem op_eqOwn {k : Nat} {C f : Addr} {fd : FuncData} {ps : List Str} {sp : Sp} (hm : L2.Meth X.K C "__eq__" f) (hsub : PySem.W.subIn X.K (.type "tuple") (.ref C) = some false) (F : FnOk X.prog X.w X.K X.mg X.base (L2.CX X.prog X.w) k f fd ps sp) (hb : Binds X.K fd ps []) (hr : Room (k + 1) X.A) : OpR X (compareOp .Eq) (rEqOwn X C sp) := by
  intro pins s σ H x y v u Q I rx ry h
  obtain ⟨a, dx, fs, rfl, ha, hy, hsp⟩ := h
  cases rx
  obtain ⟨mA, J, _⟩ := ins_get I.hok ha
  obtain ⟨od, J, _⟩ := J.look
  obtain ⟨m, hF⟩ := I.fr
  show wpAny (model X.prog X.w) X.A (richCompare .Eq (.ref a) u) (EP X pins σ Q) X.xe s
  have tb : ∃ t, PySem.W.Looks (model X.prog X.w) s.heap (typeOf u) t ∧ PySem.W.notFirst X.K C t = true := by
    rcases hy with ⟨b, dy, gs, rfl, hbb⟩ | ⟨b, ys, rfl, ht⟩
    · cases ry
      obtain ⟨mB, J', _⟩ := ins_get I.hok hbb
      obtain ⟨od', J', _⟩ := J'.look
      exact ⟨.ref C, J'.type, by simp [PySem.W.notFirst]⟩
    · cases ry
      obtain ⟨its, _, pl, _⟩ := I.tuple ht
      obtain ⟨o, ho, hc, _⟩ := pl
      refine ⟨.type "tuple", fun A Q E s' k q => wpAny_typeOf (show s'.TypeIs (.ref b) "tuple" from ⟨o, k _ _ ho, hc⟩) q, ?_⟩
      unfold PySem.W.notFirst
      rw [hsub]
      simp
  obtain ⟨t, look, nf⟩ := tb
  refine PySem.W.cmp_K (op := .Eq) (tb := t) hr.units0 hF I.ok.mod.kin J look nf hm.at_ hm.fn ?_
  have e0 : Env0 X.prog X.w X.K X.mg X.base X.A X.stack s H := I.env0
  have hl := F.len _ _ _ _ hsp
  have r2 : Vals [V.ref a, y] [Value.ref a, u] := .cons rfl (.cons ry .nil)
  refine wpAny_call (codeAny_mono (F.run X.A X.stack s H ⟨[.ref a, u], []⟩ [.ref a, u] [.ref a, y] _ (fun _ _ _ => False) (hr.mono (by omega)) e0 (by
    have := hb s [.ref a, u] I.kIn (by simpa using hl)
    simpa using this) r2 hsp) fun r s' hq => ?_)
  cases r with
  | error e =>
    exact (False.elim (cx_false hq))
  | ok fl =>
    cases fl with
    | ret w =>
      obtain ⟨z, H', I', rz, q⟩ := I.after hq
      have q' : EP X pins σ Q w s' := ⟨z, H', I', rz, q⟩
      cases z <;> first | (cases rz; exact q') | (obtain ⟨t, rfl⟩ := rz; exact q')
    | next => exact False.elim hq
    | brk => exact False.elim hq
    | cont => exact False.elim hq
end
section
variable {B : BP} {X : Cx} {a c : Expr} {ea eb : Ev} {x : Str} {ps : List Str} {k : Nat} {m : Mir} {pos : Pos}
theorem de_eqO (hc : Mth X.prog X.w X.K X.mg X.base B.T k x "__eq__" ps m) (hr : Room (k + 1) X.A) (ha : DE B X a ea) (hb : DE B X c eb) (hmk : behindInMarks .Eq c = false := by first | exact nomark _ | rfl) (hK : B.R.K = X.K := by rfl) (hM : B.R.mg = X.mg := by rfl) : DE B X (.Compare a [.Eq] [c] pos) (dEqO x m ea eb) := by
  obtain ⟨C, g, fd, hC, hcl, hm, hsub, F, hbd⟩ := hc.ex
  refine imp_PE (pe_cmpR (op_eqOwn hm hsub F hbd hr) ha hb hmk) fun σ H Q h => ?_
  refine rd_bind2 (k := fun a1 a2 _ b2 => eqO x m a1.d a2.d b2) staysW staysW h fun env a1 a2 b2 v1 v2 H2 I2 x2 r1 r2 w => ?_
  have r1 := r1.rep
  have r2 := r2.rep
  cases e1 : a1.d with
  | obj c' fs =>
    rw [e1] at r1
    simp only [e1] at w
    change wpG B RepW (ownO B.O env σ) H (if c' = x then (match a2.d with
      | .obj c2 gs => if c2 = x then okR (m [.obj c' fs, .obj c2 gs] b2) else .bad
      | .tup l => okR (m [.obj c' fs, .tup l] b2)
      | _ => .bad) else .bad) σ Q at w
    by_cases z : c' = x
    · subst z
      rw [if_pos rfl] at w
      have r1' := r1
      obtain ⟨p, C', dx, vs, rfl, hC', hH, rl, hlen⟩ := r1
      obtain ⟨hH1, hO⟩ := of_vis hH
      have eC : C' = C := by
        rw [hM, hC] at hC'
        cases hC'
        rfl
      subst eC
      have key : ∀ d2 : D, a2.d = d2 → wpG B RepW (ownO B.O env σ) H (okR (m [.obj c' fs, d2] b2)) σ Q → spD X.K X.mg B.T 2 m [.ref p, v2] H2 Q (fun _ _ _ => False) := fun d2 e2 w => by
        rw [e2] at r2
        have rep : RepL B.R (vis H2 (ownO B.O env σ)) [.obj c' fs, d2] [.ref p, v2] := RepL.cons r1' (RepL.cons r2 RepL.nil)
        cases em : m [.obj c' fs, d2] b2 with
        | ok w2 b3 =>
          rw [em] at w
          refine ⟨B.R.fns, B.R.bo, ownO B.O env σ, [.obj c' fs, d2], b2, rfl, ?_, I2.bow, fun a q => I2.bOO q, fun a q => I2.od q, I2.tab, ?_⟩
          · rw [← hK, ← hM]
            exact rep
          · rw [em, ← hK, ← hM]
            exact fun u H' e1 e2 e3 e4 => w u H' (x2.trans e1) e2 e3 (RepW.back e4 x2.dom)
        | err c fs b3 =>
          rw [em] at w
          exact False.elim w
        | bad =>
          rw [em] at w
          exact False.elim w
      refine ⟨p, dx, _, rfl, hH1, ?_⟩
      cases e2 : a2.d with
      | obj c2 gs =>
        rw [e2] at w
        simp only at w
        by_cases z2 : c2 = c'
        · subst z2
          rw [if_pos rfl] at w
          refine ⟨.inl ?_, key _ e2 w⟩
          rw [e2] at r2
          obtain ⟨p2, C2, dy, vs2, rfl, hC2, hH2, _⟩ := r2
          obtain ⟨hH3, _⟩ := of_vis hH2
          have eC : C2 = C' := by
            rw [hM, hC] at hC2
            cases hC2
            rfl
          subst eC
          exact ⟨p2, dy, _, rfl, hH3⟩
        · rw [if_neg z2] at w
          exact False.elim w
      | tup l =>
        rw [e2] at w
        refine ⟨.inr ?_, key _ e2 w⟩
        rw [e2] at r2
        obtain ⟨p2, vs2, rfl, h1, _⟩ := r2
        exact ⟨p2, vs2, rfl, by rw [← hK]; exact vis_sqt h1⟩
      | _ =>
        rw [e2] at w
        exact False.elim w
    · rw [if_neg z] at w
      exact False.elim w
  | _ =>
    simp only [e1] at w
    exact False.elim w
end
end DL

set_option Elab.async false
set_option linter.all false
set_option maxRecDepth 100000
set_option maxHeartbeats 4000000
/-! sorted(xs, key=lambda y: (len(y), y)), xs a list of alike tuples -/
namespace DL
open PySem PySem.Spec PyProof.Rows L2 LamX NdefX
def lenT : D → Nat
  | .tup l => l.length
  | _ => 0
def isI : D → Bool
  | .int _ => true
  | _ => false
def isT : D → Bool
  | .tup l => l.all isI
  | _ => false
theorem readsAll_ints {h : Heap} : ∀ {l : List D} {vs : List Value} {as : List Addr}, l.all isI = true → ReadsAll h vs (pyDs l) as → as = []
  | [], _, _, _, r => by
    simp only [pyDs] at r
    cases r
    rfl
  | d :: l, _, _, e, r => by
    simp only [pyDs] at r
    rw [List.all_cons, Bool.and_eq_true] at e
    cases d with
    | int i =>
      simp only [pyD] at r
      cases r with
      | cons r1 r2 =>
        cases r1
        rw [readsAll_ints e.2 r2]
        rfl
    | _ => exact absurd e.1 (by simp [isI])
theorem reads_tupI {h : Heap} {d : D} {v : Value} {as : List Addr} (e : isT d = true) (r : Reads h v (pyD d) as) : as = [] := by
  cases d with
  | tup l =>
    simp only [pyD] at r
    cases r with
    | tuple _ _ _ r => exact readsAll_ints e r
  | _ => simp [isT] at e
def keyK (d : D) : PyData := .tuple [.int (lenT d), pyD d]
def leK (a b : D) : Bool := PySem.W.dataLe false keyK a b
def srtKOk (l : List D) : Bool := pureDs 3 l && (decide (l.length ≤ 5000) && ((l.all fun a => l.all fun b => PySem.W.alike (keyK a) (keyK b)) && l.all isT))
def sortKD : D → Option Wv
  | .lst l => if srtKOk l then some (.own (.lst (l.mergeSort leK))) else none
  | _ => none
def rSortK (K : PySem.W.Frag) : List V → Hp → VK → Prop := fun vs H Q => ∃ (a : Addr) (bs : List (V × D)), vs = [V.ref a] ∧ SqL K H a (bs.map Prod.fst) ∧
  (∀ b ∈ bs, (∃ t us, b.1 = .ref t ∧ SqT K H t us ∧ us.length = lenT b.2 ∧ isT b.2 = true) ∧ Dp K H b.1 (pyD b.2) ∧ (pyD b.2).depth ≤ 3) ∧
  PySem.W.AllAlike (bs.map fun b => keyK b.2) ∧ bs.length ≤ 5000 ∧
  ∀ p, H p = none → Q (.ref p) (upd H p (.lst ((bs.mergeSort (PySem.W.dataLe false fun b => keyK b.2)).map Prod.fst)))
/-- the lambda's words -/
abbrev kBody (y : Str) (j : Nat) (p1 p2 p3 p4 p5 : Pos) : Expr := .Tuple [.Call (.Name "len" p1) [.Name y p2] [] p3, .Name y p4] j p5
section
variable {prog : Program} {w : World} {K : PySem.W.Frag} {mg : Str → Option Value} {base : Heap} {A : Around} {s : Shared} {f c' a : Addr} {qn y : Str} {params : Arguments} {scope : Scope} {N2 : List Str} {j : Nat} {p1 p2 p3 p4 p5 : Pos}
  {pm ctv : Value} {its : List Value} {k : PyData} {clos : List (Str × Addr)}
theorem key_turn (Md : Mod K mg base) (hbk : ∀ b o, base.get? b = some o → s.heap.get? b = some o) (hd : A.depth < recursionLimit)
    (S2 : NScope N2 [y] [] scope) (hbind : ∀ (q : Str) (cl : List (Str × Addr)) (pm cv ctv : Value) (us : List Value), us.length = 1 → bindArgs (PySem.W.kla_fn "<lambda>" q params (kBody y j p1 p2 p3 p4 p5) scope cl pm cv ctv) ⟨us, []⟩ = pure ([y].zip us))
    (of : s.heap.get? f = some (PySem.W.kla_obj "<lambda>" qn params (kBody y j p1 p2 p3 p4 p5) scope clos pm c' ctv)) (cr : s.heap.CodeRec (.ref c') qn)
    (hm : mg "len" = none) (hlen : scope.names.lookup ("len" : Str) = some NameKind.globalImplicit) (hloc : scope.names.lookup y = some NameKind.local) (hyd : (y == ("__debug__" : Str)) = false)
    (tup : IsTup s.heap a its.toArray) (rd : Reads s.heap (.ref a) k []) (hz : its.length ≤ sizeLine) :
    wpAny (model prog w) A (call (.ref f) [.ref a]) (PySem.W.KeyPure (.tuple [.int its.length, k]) s) (fun _ _ => False) s := by
  refine wpAny_call (PySem.W.kla_callFunE hd of rfl S2.co S2.gen rfl cr ?_)
  rw [hbind _ _ _ _ _ [.ref a] rfl]
  have lim : s.heap.NoLimit := Md.nolimit.keeps hbk
  refine wpAny_pure (wpAny_newFunctionEnv S2.nocell (fun x hx => ?_) (fun h₁ hns hsb => ⟨lim.fresh _ hsb, ?_⟩) S2.kind)
  · have hx : x ∈ [(y, Value.ref a)] := hx
    rw [List.mem_singleton.mp hx]
    exact hloc
  have kpp : ∀ b o, s.heap.get? b = some o → h₁.get? b = some o := fun b o e => hsb.extBut b o (Nat.ne_of_lt (Heap.lt_size e)) (Heap.get?_push_of_some _ e)
  have hv : ([y].zip [Value.ref a]).reverse.lookup y = some (.ref a) := by simp
  obtain ⟨mb, hb1, hb2⟩ := Md.blt
  refine PySem.W.kla_codeExpr (wpAny_Tuple_spliced (Calls.spliced_cons ?_))
  refine Call_ (Calls.Name_function_global S2.kind hlen (Calls.loadGlobal_builtin (Md.glob.keeps fun b o e => kpp b o (hbk b o e)) hm (hb1.keeps fun b o e => kpp b o (hbk b o e)) ((hb2 "len" (by decide)).trans boot_len) ?_) (by decide))
  refine PyProof.Rows.callWith_builtin1 (args_cons (wpAny_Name (wpAny_loadName_local S2.kind hloc hns hv ?_) hyd))
  have tup1 : IsTup h₁ a its.toArray := tup.keeps kpp
  refine args_nil (len_tuple tup1 (by have hl := line63; have hs : sizeLine = 16777216 := sizeLine_eq; simp only [List.size_toArray]; omega) ?_)
  refine Calls.spliced_cons (wpAny_Name (wpAny_loadName_local S2.kind hloc hns hv ?_) hyd)
  refine Calls.spliced_nil ⟨by show 2 ≤ sizeLine; rw [sizeLine_eq]; decide, ?_⟩
  refine ⟨_, _, rfl, fun b o e => Heap.get?_push_of_some _ (kpp b o e), ?_⟩
  have rk : Reads h₁ (.ref a) k [] := PyProof.Rows.Reads.keeps kpp rd
  exact .tuple (as := [] ++ ([] ++ [])) (Heap.get?_push_size _ rfl) rfl rfl (.cons (.int _ _) (.cons (PyProof.Rows.Reads.keeps (fun b o e => Heap.get?_push_of_some _ e) rk) .nil))
end
section
variable {X : Cx} {pins : List (Addr × Obj)} {σ : L2.St} {H H0 : Hp} {s : Shared} {L : List (Addr × Str)} {f c' : Addr} {y : Str} {params : Arguments} {scope : Scope} {N2 : List Str} {j : Nat} {p1 p2 p3 p4 p5 : Pos}
theorem run_sortK {k : Nat} {vs : List V} {us : List Value} {Q : VK} (I : Inv X pins σ H s) (l : LamAt X L params (kBody y j p1 p2 p3 p4 p5) scope H0 H f c' s) (r : rSortK X.K vs H Q) (rv : Vals vs us) (hr : Room k X.A)
    (S2 : NScope N2 [y] [] scope) (hbind : ∀ (q : Str) (cl : List (Str × Addr)) (pm cv ctv : Value) (us : List Value), us.length = 1 → bindArgs (PySem.W.kla_fn "<lambda>" q params (kBody y j p1 p2 p3 p4 p5) scope cl pm cv ctv) ⟨us, []⟩ = pure ([y].zip us))
    (hm : X.mg "len" = none) (hlen : scope.names.lookup ("len" : Str) = some NameKind.globalImplicit) (hloc : scope.names.lookup y = some NameKind.local) (hyd : (y == ("__debug__" : Str)) = false) :
    wpAny (model X.prog X.w) X.A (call (.builtin "sorted") us [(Str.ofString "key", .ref f)]) (EP X pins σ Q) X.xe s := by
  obtain ⟨a, bs, rfl, hs, hd, hal, hz, q⟩ := r
  obtain ⟨its, rv', hl, _⟩ := I.list hs
  rw [Vals.ref1 rv]
  have e1 := vals_each rv'
  obtain ⟨pm, ctv, of⟩ := l.obj
  have cr : s.heap.CodeRec (.ref c') (X.env.qual ++ "<lambda>") := codeO_at I.hok l.co
  have hu := hr.un
  have hdp := hr.dp
  refine PySem.W.sorted_key_data (b := false) (fun b : V × D => keyK b.2) hl.isList e1 hal (PySem.W.Sortable.tuples fun _ => ⟨_, _, rfl⟩) (Nat.le_trans hz (by decide)) (fun b hb => ?_) (PyProof.Rows.ksk_s1 _ _) (fun _ => PyProof.Rows.ksk_l1 _ _) (fun _ => PyProof.Rows.ksk_t1 _ _)
    (fun v b rb hb h tk kp => ?_) fun out c h' tk kp _ hD ho eo => ?_
  · have := (hd b hb).2.2
    have e : (keyK b.2).depth ≤ (pyD b.2).depth + 1 := by
      unfold keyK
      simp only [PyData.depth, PyData.depthAll]
      omega
    omega
  · obtain ⟨⟨t, us, et, ht, hlen', hit⟩, hdp', _⟩ := hd b hb
    obtain ⟨as, rd⟩ := hdp'.reads I _ _ v rb
    obtain rfl := reads_tupI hit rd
    rw [et] at rb
    obtain rfl : v = .ref t := rb
    obtain ⟨its', rt, pl, hz'⟩ := I.tuple ht
    have key := key_turn (A := X.A.in1.in1) (s := { s with heap := h, toks := tk }) (f := f) (a := t) (its := its') (k := pyD b.2) (prog := X.prog) (w := X.w) I.mod (fun b o e => kp b o (I.bk b o e)) (by show X.A.depth < _; omega) S2 hbind (kp _ _ of) (PySem.Heap.CodeRec.keeps cr kp) hm hlen hloc hyd (pl.keeps kp) (PyProof.Rows.Reads.keeps kp rd) (by rw [← rt.length]; exact hz')
    have el : its'.length = lenT b.2 := by rw [← rt.length]; exact hlen'
    rw [el] at key
    exact key
  · have hv := each_vals eo
    have hlen : ((bs.mergeSort (PySem.W.dataLe false fun b => keyK b.2)).map Prod.fst).length ≤ sizeLine := by
      rw [List.length_map, List.length_mergeSort]
      exact Nat.le_trans hz (by decide)
    exact ⟨.ref _, upd H (s.heap.objs.size + 1) (.lst ((bs.mergeSort (PySem.W.dataLe false fun b => keyK b.2)).map Prod.fst)), I.laid (t' := tk) (fun b o e => kp b o e) (Nat.le_succ _) ⟨hlen, out, c, hv, hD⟩, rfl, q _ (I.hok.fresh (Nat.le_succ _))⟩
end
theorem hl_sortK {R : RC} : HLok R (f1 sortKD) (rSortK R.K) := fun ds w vs H O Q e od r q => by
  obtain ⟨d, hd, e'⟩ := f1_inv e
  clear e
  subst hd
  have e := e'
  clear e'
  obtain ⟨v, rfl, h⟩ := rep1 r
  cases d with
  | lst l =>
    simp only [sortKD] at e
    split at e
    · rename_i ok
      cases e
      unfold srtKOk at ok
      rw [Bool.and_eq_true, Bool.and_eq_true, Bool.and_eq_true] at ok
      obtain ⟨k1, k2, k3, k4⟩ := ok
      have k2 := of_decide_eq_true k2
      obtain ⟨a, us, rfl, h1, h2, h3⟩ := h
      obtain ⟨bs, rfl, rfl, g⟩ := repL_zip h2
      have pu : ∀ b ∈ bs, pureD 3 b.2 = true := fun b hb => pureDs_mem k1 _ (List.mem_map.mpr ⟨b, hb, rfl⟩)
      refine ⟨a, bs, rfl, vis_sql h1, fun b hb => ⟨?_, ?_⟩, fun d hd d' hd' => ?_, by simpa using k2, fun p hp => q _ _ (same_upd hp) ?_⟩
      · have z := List.all_eq_true.mp k4 b.2 (List.mem_map.mpr ⟨b, hb, rfl⟩)
        have gb := g b hb
        cases e : b.2 with
        | tup l =>
          rw [e] at gb z
          obtain ⟨t, us, et, q1, q2, _⟩ := gb
          exact ⟨t, us, et, vis_sqt q1, q2.length.symm, z⟩
        | _ =>
          rw [e] at z
          cases z
      · obtain ⟨i, _, k⟩ := dp_of (pu b hb) ((g b hb).mono vis_all)
        exact ⟨i, k⟩
      · obtain ⟨b, hb, rfl⟩ := List.mem_map.mp hd
        obtain ⟨b', hb', rfl⟩ := List.mem_map.mp hd'
        exact List.all_eq_true.mp (List.all_eq_true.mp k3 b.2 (List.mem_map.mpr ⟨b, hb, rfl⟩)) b'.2 (List.mem_map.mpr ⟨b', hb', rfl⟩)
      · have es : (bs.map Prod.snd).mergeSort leK = (bs.mergeSort (PySem.W.dataLe false fun b => keyK b.2)).map Prod.snd :=
          (List.map_mergeSort (f := Prod.snd) (r := PySem.W.dataLe false fun b : V × D => keyK b.2) (s := leK) (l := bs) (fun a _ b _ => rfl)).symm
        rw [es]
        refine new_lst od (repL_unzip fun b hb => g b (List.mem_mergeSort.mp hb)) ?_ hp
        rw [List.length_map, List.length_mergeSort]
        exact Nat.le_trans (by simpa using k2) (by decide)
    · cases e
  | _ => cases e
section
variable {B : BP} {X : Cx} {L : List (Addr × Str)} {params : Arguments} {scope : Scope} {N2 : List Str} {j k : Nat} {y : Str} {p pos lp kp p1 p2 p3 p4 p5 : Pos} {e0 : Expr} {A : EvA}
theorem de_sortK (hr : Room k X.A) (hg : Gl X "sorted") (hms : X.mg "sorted" = none) (hm : X.mg "len" = none) (E : LamE X L params scope) (S2 : NScope N2 [y] [] scope)
    (hbind : ∀ (q : Str) (cl : List (Str × Addr)) (pm cv ctv : Value) (us : List Value), us.length = 1 → bindArgs (PySem.W.kla_fn "<lambda>" q params (kBody y j p1 p2 p3 p4 p5) scope cl pm cv ctv) ⟨us, []⟩ = pure ([y].zip us))
    (hlen : scope.names.lookup ("len" : Str) = some NameKind.globalImplicit) (hloc : scope.names.lookup y = some NameKind.local) (hyd : (y == ("__debug__" : Str)) = false) (hT : B.T = nt L) (ha : DA B X [e0] A)
    (hK : B.R.K = X.K := by rfl) (he : backTo pos (starEach (e0 :: []) X.env) = (false, eval e0 X.env) :: backTo pos (starEach [] X.env) := by rfl) (hpl : (backTo pos (starEach (e0 :: []) X.env)).any (·.1) = false := by rfl) :
    DE B X (.Call (.Name "sorted" p) [e0] [⟨some "key", .Lambda params (kBody y j p1 p2 p3 p4 p5) scope lp, kp⟩] pos) (dOpL (f1 sortKD) A) := by
  refine ⟨fun pins s σ H Q I h => ?_⟩
  obtain ⟨env, b, J, w⟩ := h
  have w : wpG B RepW (ownO B.O env σ) H ((A env b).bind fun ds b1 => optR (f1 sortKD ds) b1) σ Q := w
  refine wpAny_Call_Name_kw (ld_blt I hg hms boot_sorted ?_)
  refine PyProof.Rows.callWith_kw (thn (ha.run pos pins s σ H (fun vs H2 => Tabs L H2 ∧ ∃ ds b1, Rel B env b1 σ H2 ∧ Ext B.R.bo H H2 ∧ RepL B.R (vis H2 (ownO B.O env σ)) ds vs ∧ wpG B RepW (ownO B.O env σ) H (optR (f1 sortKD ds) b1) σ Q) I ?_)
    fun us s1 ⟨vs, H2, I2, rv, tb, ds, b1, J2, x1, rl, q⟩ => ?_) he hpl
  · refine ⟨env, b, J, ?_⟩
    cases ea : A env b with
    | bad =>
      rw [ea] at w
      exact False.elim w
    | err c fs b1 =>
      rw [ea] at w
      exact wpG_err (ρ1 := rhoL) w (Ext.refl H)
    | ok ds b1 =>
      rw [ea] at w
      exact fun vs H1 e1 e2 e3 e4 => ⟨nt_tabs.mp (hT ▸ e3), ds, b1, J.go e1 e2 e3, e1, e4, w⟩
  · obtain ⟨c, P, TB, hcode, hmm, huu⟩ := E.ex
    refine PyProof.Rows.kws_cons (lam_mk I2 TB hcode hmm huu tb E.dflt (fun y hy z => (E.free y hy z).elim (fun k => I2.ok.has _ (.inl k)) fun k => I2.ok.has _ (.inr k)) fun f c' H1 s' I1 l => ?_)
    refine PyProof.Rows.kws_nil ?_
    have nbo : ∀ a, B.R.bo = some a → ∃ o, H2 a = some o ∧ ∀ ps, o ≠ .tbl ps := fun a z => by
      have bw := J2.bow
      rw [z] at bw
      cases b1 with
      | none => exact False.elim bw
      | some l' => exact ⟨_, bw, fun _ z => by cases z⟩
    have x2 : Ext B.R.bo H2 H1 := ⟨fun a o e _ n => l.keep a o e n, l.dom⟩
    have bw1 : BwOk B.R.bo b1 H1 := by
      have bw := J2.bow
      cases hbo : B.R.bo with
      | none =>
        rw [hbo] at bw
        cases b1 <;> exact bw
      | some a =>
        rw [hbo] at bw
        cases b1 with
        | none => exact bw
        | some l' => exact l.keep a _ bw fun _ z => by cases z
    have J1 : Rel B env b1 σ H1 := J2.go x2 bw1 (by rw [hT]; exact nt_tabs.mpr l.tabs)
    have rl1 : RepL B.R (vis H1 (ownO B.O env σ)) ds vs := rl.mono (vis_ext x2 fun a z => J2.bOO z)
    cases ez : f1 sortKD ds with
    | none =>
      rw [ez] at q
      exact False.elim q
    | some wv =>
      rw [ez] at q
      have z : rSortK B.R.K vs H1 Q := hl_sortK ds wv vs H1 _ Q ez J1.nod rl1 (nw_of J1 (x1.trans x2) q)
      rw [hK] at z
      exact run_sortK I1 l z rv hr S2 hbind hm hlen hloc hyd
end
end DL

set_option Elab.async false
set_option linter.all false
set_option maxRecDepth 100000
set_option maxHeartbeats 4000000
/-! evaluating denotations -/
namespace DL
open PySem
section
variable {ev ea eb ec : Ev} {t u : EvT} {A : EvA} {env : Sls} {b : Bw} {d : D} {i j l : Nat} {f f' : D → D → Option Wv} {g : D → Option Wv} {h : List D → Option Wv} {m : Mir} {d1 d2 : Sv} {w : Wv} {ds : List D} {bd : Bd} {evi : EvI} {α β : Type} {c : Str} {fs : List D}
@[simp] theorem x_bind_ok (a : α) (k : α → Bw → Res β) : (Res.ok a b).bind k = k a b := rfl
@[simp] theorem x_bind_bad (k : α → Bw → Res β) : (Res.bad : Res α).bind k = .bad := rfl
@[simp] theorem x_bind_err (k : α → Bw → Res β) : (Res.err c fs b : Res α).bind k = .err c fs b := rfl
@[simp] theorem x_toS_ok (k : Wv → Bw → RS) : (Res.ok w b).toS k = k w b := rfl
@[simp] theorem x_toS_bad (k : Wv → Bw → RS) : (Res.bad : Res Wv).toS k = .bad := rfl
@[simp] theorem x_toS_err (k : Wv → Bw → RS) : (Res.err c fs b : Res Wv).toS k = .err c fs b := rfl
@[simp] theorem x_toR_rt : (RS.rt w b).toR = .ok w b := rfl
@[simp] theorem x_toR_nx : (RS.nx env b).toR = .ok (.val .non) b := rfl
@[simp] theorem x_dval : (Wv.val d).d = d := rfl
@[simp] theorem x_down : (Wv.own d).d = d := rfl
@[simp] theorem x_slotv : (Wv.val d).slot = .val d := rfl
@[simp] theorem x_sloto : (Wv.own d).slot = .own d := rfl
@[simp] theorem x_dC : dC d env b = .ok (.val d) b := rfl
@[simp] theorem x_dRet : dRet ev env b = (ev env b).toS fun w b1 => .rt w b1 := rfl
@[simp] theorem x_dOp2 : dOp2 f ea eb env b = (ea env b).bind fun a1 b1 => (eb env b1).bind fun a2 b2 => optR (f a1.d a2.d) b2 := rfl
@[simp] theorem x_dOp1 : dOp1 g ea env b = (ea env b).bind fun a1 b1 => optR (g a1.d) b1 := rfl
@[simp] theorem x_dOpL : dOpL h A env b = (A env b).bind fun a1 b1 => optR (h a1) b1 := rfl
@[simp] theorem x_optS : optR (some w) b = .ok w b := rfl
@[simp] theorem x_optN : optR none b = .bad := rfl
@[simp] theorem x_dNil : dNil env b = .ok [] b := rfl
@[simp] theorem x_dCons : dCons ea A env b = (ea env b).bind fun a1 b1 => (A env b1).bind fun r b2 => .ok (a1.d :: r) b2 := rfl
@[simp] theorem x_dCall : dCall m A env b = (A env b).bind fun ds b1 => m ds b1 := rfl
@[simp] theorem x_dIx : dIx ea eb env b = (ea env b).bind fun a1 b1 => (eb env b1).bind fun a2 b2 => ixB a1.d a2.d b2 := rfl
@[simp] theorem x_dIf : dIf t ea eb env b = (t env b).bind fun c b1 => if c = true then ea env b1 else eb env b1 := rfl
@[simp] theorem x_dTst : dTst ev env b = (ev env b).bind fun w b1 => match w.d with | .bl c => .ok c b1 | _ => .bad := rfl
@[simp] theorem x_dNot : dNot t env b = (t env b).bind fun c b1 => .ok (!c) b1 := rfl
@[simp] theorem x_dAnd : dAnd t u env b = (t env b).bind fun c b1 => if c = true then u env b1 else .ok false b1 := rfl
@[simp] theorem x_dOr : dOr t u env b = (t env b).bind fun c b1 => if c = true then .ok true b1 else u env b1 := rfl
@[simp] theorem x_dAndV : dAndV ea eb env b = (ea env b).bind fun w b1 => match w.d with | .bl c => if c = true then eb env b1 else .ok (.val (.bl false)) b1 | _ => .bad := rfl
@[simp] theorem x_dOrV : dOrV ea eb env b = (ea env b).bind fun w b1 => match w.d with | .bl c => if c = true then .ok (.val (.bl true)) b1 else eb env b1 | _ => .bad := rfl
@[simp] theorem x_dNotV : dNotV ea env b = (ea env b).bind fun a1 b1 => optR (match a1.d with | .bl c => some (.val (.bl (!c))) | _ => none) b1 := rfl
@[simp] theorem x_dVal : dVal ev env b = (ev env b).bind fun w b1 => .ok (.val w.d) b1 := rfl
@[simp] theorem x_dSeq : dSeq d1 d2 env b = (match d1 env b with | .nx e b' => d2 e b' | r => r) := rfl
@[simp] theorem x_dIfS : dIfS t d1 d2 env b = (match t env b with | .ok c b1 => if c = true then d1 env b1 else d2 env b1 | .err c fs b => .err c fs b | .bad => .bad) := rfl
@[simp] theorem x_dNext : dNext env b = .nx env b := rfl
@[simp] theorem x_dAsg : dAsg i ev env b = (ev env b).toS fun w b1 => .nx (env.set i w.slot) b1 := rfl
@[simp] theorem x_dPar2 {e1 e2 : Ev} : dPar2 i j e1 e2 env b = (e1 env b).toS fun w1 b1 => (e2 env b1).toS fun w2 b2 => .nx ((env.set j w2.slot).set i w1.slot) b2 := rfl
@[simp] theorem x_dFor {body : Sv} : dFor evi bd body env b = (match evi env b with | .ok ds b1 => forL bd body ds env b1 | .err c fs b => .err c fs b | .bad => .bad) := rfl
@[simp] theorem x_f1 (d : D) : f1 g [d] = g d := rfl
@[simp] theorem x_f2 (d e : D) : f2 f [d, e] = f d e := rfl
@[simp] theorem x_fI2 {k : Int → Int → Option Wv} (x y : Int) : fI2 k (.int x) (.int y) = k x y := rfl
theorem x_var (h : env[i]? = some (.val d)) : dVar i env b = .ok (.val d) b := by
  unfold dVar
  rw [h]
@[simp] theorem x_var0 (s : Slot) (r : Sls) : dVar 0 (.val d :: r) b = .ok (.val d) b := rfl
@[simp] theorem x_varS (s : Slot) (r : Sls) (n : Nat) : dVar (n + 1) (s :: r) b = dVar n r b := by
  unfold dVar
  rw [List.getElem?_cons_succ]
theorem x_mir {dv : Sv} {n N : Nat} : mir dv n N ds b = if ds.length = n then (dv (ent N ds) b).toR else .bad := rfl
@[simp] theorem x_ixtup (l : List D) (k : Int) : ixB (.tup l) (.int k) b = optR ((L2.atI l k).map .val) b := rfl
@[simp] theorem x_ixlst (l : List D) (k : Int) : ixB (.lst l) (.int k) b = optR ((L2.atI l k).map .val) b := rfl
@[simp] theorem x_at0 (x : D) (l : List D) : L2.atI (x :: l) 0 = some x := by simp [L2.atI, L2.ixN]
@[simp] theorem x_at1 (x y : D) (l : List D) : L2.atI (x :: y :: l) 1 = some y := by
  have h : (1 : Int) < (l.length : Int) + 1 + 1 := by omega
  simp [L2.atI, L2.ixN, h]
@[simp] theorem x_lt (x y : Int) : fLt (.int x) (.int y) = some (.val (.bl (decide (x < y)))) := rfl
@[simp] theorem x_le (x y : Int) : fLe (.int x) (.int y) = some (.val (.bl (decide (x ≤ y)))) := rfl
@[simp] theorem x_gt (x y : Int) : fGt (.int x) (.int y) = some (.val (.bl (decide (y < x)))) := rfl
@[simp] theorem x_ge (x y : Int) : fGe (.int x) (.int y) = some (.val (.bl (decide (y ≤ x)))) := rfl
@[simp] theorem x_add (x y : Int) : fAddG (.int x) (.int y) = some (.val (.int (x + y))) := rfl
@[simp] theorem x_addL (x y : List D) : fAddG (.lst x) (.lst y) = if x.length + y.length ≤ LIM then some (.own (.lst (x ++ y))) else none := rfl
@[simp] theorem x_addT (x y : List D) : fAddG (.tup x) (.tup y) = if x.length + y.length ≤ LIM then some (.val (.tup (x ++ y))) else none := rfl
@[simp] theorem x_sub (x y : Int) : fSub (.int x) (.int y) = some (.val (.int (x - y))) := rfl
@[simp] theorem x_mul (x y : Int) : fMulG (.int x) (.int y) = if mulOk x y then some (.val (.int (x * y))) else none := rfl
@[simp] theorem x_mulT (x : List D) (y : Int) : fMulG (.tup x) (.int y) = if repOk y x.length && !strD x then some (.val (.tup (List.replicate y.toNat x).flatten)) else none := rfl
@[simp] theorem x_strDc (d : D) (l : List D) : strD (d :: l) = (isStrD d && l.all isStrD) := by simp [strD]
@[simp] theorem x_isTup (l : List D) : isStrD (.tup l) = false := rfl
@[simp] theorem x_isInt (i : Int) : isStrD (.int i) = false := rfl
@[simp] theorem x_isStr (i : Str) : isStrD (.str i) = true := rfl
@[simp] theorem x_isNon : isStrD .non = false := rfl
@[simp] theorem x_isBl (i : Bool) : isStrD (.bl i) = false := rfl
@[simp] theorem x_isLst (l : List D) : isStrD (.lst l) = false := rfl
@[simp] theorem x_mulL (x : List D) (y : Int) : fMulG (.lst x) (.int y) = if repOk y x.length then some (.own (.lst (List.replicate y.toNat x).flatten)) else none := rfl
@[simp] theorem x_div (x y : Int) : fDiv (.int x) (.int y) = if divOk y then some (.val (.int (x.fdiv y))) else none := rfl
@[simp] theorem x_mod (x y : Int) : fMod (.int x) (.int y) = if y = 0 then none else some (.val (.int (x.fmod y))) := rfl
@[simp] theorem x_neg (x : Int) : fNeg (.int x) = some (.val (.int (-x))) := rfl
@[simp] theorem x_abs (x : Int) : absD (.int x) = some (.val (.int (if x < 0 then -x else x))) := rfl
@[simp] theorem x_int (x : Int) : intD (.int x) = some (.val (.int x)) := rfl
@[simp] theorem x_gcd (x y : Int) : fGcd (.int x) (.int y) = some (.val (.int (Nat.gcd x.natAbs y.natAbs : Nat))) := rfl
@[simp] theorem x_max (x y : Int) : fMax (.int x) (.int y) = some (.val (.int (if y > x then y else x))) := rfl
@[simp] theorem x_min (x y : Int) : fMin (.int x) (.int y) = some (.val (.int (if y < x then y else x))) := rfl
@[simp] theorem x_lenT (x : List D) : lenD (.tup x) = some (.val (.int x.length)) := rfl
@[simp] theorem x_lenL (x : List D) : lenD (.lst x) = some (.val (.int x.length)) := rfl
@[simp] theorem x_tupleL (x : List D) : tupleD (.lst x) = some (.val (.tup x)) := rfl
@[simp] theorem x_tupleT (x : List D) : tupleD (.tup x) = some (.val (.tup x)) := rfl
@[simp] theorem x_fTup (x : List D) : fTup x = if x.length ≤ LIM then some (.val (.tup x)) else none := rfl
@[simp] theorem x_fLst (x : List D) : fLst x = if x.length ≤ LIM then some (.own (.lst x)) else none := rfl
@[simp] theorem x_isiT (d : D) (n : String) : fIsi d (.ty n) = if isTy n then (match tyN d with | some t => vB (isiB t n) | none => none) else none := rfl
@[simp] theorem x_seqL {ev : Ev} : dSeqI ev env b = (ev env b).bind fun w b1 => match w.d with | .lst l => .ok l b1 | .tup l => .ok l b1 | _ => .bad := rfl
@[simp] theorem x_bName : bName i d env = some (env.set i (.val d)) := rfl
@[simp] theorem x_forN {body : Sv} : forL bd body [] env b = .nx env b := rfl
theorem x_forC {body : Sv} {x : D} : forL bd body (x :: ds) env b = (match bd x env with | none => .bad | some e => match body e b with | .nx e' b' => forL bd body ds e' b' | .ct e' b' => forL bd body ds e' b' | .bk e' b' => .nx e' b' | .rt w b' => .rt w b' | .err c fs b' => .err c fs b' | .bad => .bad) := rfl
@[simp] theorem x_dComp {tt : EvT} {te : Ev} {vs : List Nat} : dComp evi bd tt te vs env b = (evi env b).bind fun ds b1 => if noOwn env vs = true then ownL (compL bd tt te (wipeE env vs) ds b1) else .bad := rfl
@[simp] theorem x_ownL {r : List D} : ownL (.ok r b) = .ok (.own (.lst r)) b := rfl
@[simp] theorem x_dApp : dApp i ea env b = (match env[i]? with | some (.own (.lst l)) => (ea env b).toS fun w b1 => if l.length < LIM then .nx (env.set i (.own (.lst (l ++ [w.d])))) b1 else .bad | _ => .bad) := rfl
@[simp] theorem x_dFrz : dFrz i d1 env b = d1 (frzS i env) b := rfl
@[simp] theorem x_dYes : dYes env b = .ok true b := rfl
theorem compL_filter {tt : EvT} {te : Ev} (f : α → D) (P : α → Bool) : ∀ (l : List α), (∀ a ∈ l, ∃ e, bd (f a) env = some e ∧ tt e b = .ok (P a) b ∧ te e b = .ok (.val (f a)) b) → compL bd tt te env (l.map f) b = .ok ((l.filter P).map f) b
  | [], _ => rfl
  | a :: l, h => by
    obtain ⟨e, h1, h2, h3⟩ := h a List.mem_cons_self
    have ih := compL_filter (tt := tt) (te := te) f P l fun x hx => h x (List.mem_cons_of_mem _ hx)
    rw [List.map_cons]
    unfold compL
    simp only [h1, h2, h3, ih]
    by_cases z : P a = true
    · rw [if_pos z, List.filter_cons_of_pos z]
      rfl
    · rw [if_neg z, List.filter_cons_of_neg z]
theorem compL_map {tt : EvT} {te : Ev} (f g : α → D) : ∀ (l : List α), (∀ a ∈ l, ∃ e w, bd (f a) env = some e ∧ tt e b = .ok true b ∧ te e b = .ok w b ∧ w.d = g a) → compL bd tt te env (l.map f) b = .ok (l.map g) b
  | [], _ => rfl
  | a :: l, h => by
    obtain ⟨e, w, h1, h2, h3, h4⟩ := h a List.mem_cons_self
    have ih := compL_map (tt := tt) (te := te) f g l fun x hx => h x (List.mem_cons_of_mem _ hx)
    rw [List.map_cons]
    unfold compL
    simp only [h1, h2, h3, ih, if_true, h4, List.map_cons]
@[simp] theorem x_eqI (x y : Int) : fEq (.int x) (.int y) = some (.val (.bl (x == y))) := by simp [fEq, pureD, eqD, vB, PD]
@[simp] theorem x_neI (x y : Int) : fNe (.int x) (.int y) = some (.val (.bl (!(x == y)))) := by simp [fNe, pureD, eqD, vB, PD]
@[simp] theorem x_neL (x : List D) : fNe (.lst x) (.lst []) = if pureD PD (.lst x) then some (.val (.bl (!(eqD (.lst x) (.lst []))))) else none := by
  unfold fNe vB
  simp [show pureD PD (.lst []) = true by simp [PD, pureD, pureDs]]
@[simp] theorem x_isN (x : D) : fIsN x .non = some (.val (.bl (isNon x))) := rfl
@[simp] theorem x_notN (x : D) : fNotN x .non = some (.val (.bl (!isNon x))) := rfl
@[simp] theorem x_all (x : List D) : allD (.lst x) = (asBls x).bind fun bs => vB (bs.all id) := rfl
@[simp] theorem x_dDrop : dDrop ev env b = (ev env b).toS fun _ b1 => .nx env b1 := rfl
@[simp] theorem x_dChain {e3 : Ev} : dChain f f' ea eb e3 env b = (ea env b).bind fun a1 b1 => (eb env b1).bind fun a2 b2 => match f a1.d a2.d with
  | some (.val (.bl k)) => if k = true then (e3 env b2).bind fun a3 b3 => optR (f' a2.d a3.d) b3 else .ok (.val (.bl false)) b2
  | _ => .bad := rfl
@[simp] theorem x_dCallH {mh : CM → Mir} {n : Nat} {lm : Sls → Mir} : dCallH mh A n lm env b = (A env b).bind fun ds b1 => if noClos ds then mh (n, lm env) (ds ++ [.clo 0]) b1 else .bad := rfl
@[simp] theorem x_dEnum : dEnum ea env b = (ea env b).bind fun w b1 => enum1 w.d b1 := rfl
end
end DL

set_option Elab.async false
set_option linter.all false
set_option maxRecDepth 100000
set_option maxHeartbeats 400000
/-! evaluating denotations: what came with classes -/
namespace DL
open PySem
section
variable {ev ea eb ec : Ev} {t u : EvT} {A Ak : EvA} {env : Sls} {b : Bw} {d : D} {i j l n : Nat} {m : Mir} {d1 d2 d3 : Sv} {w : Wv} {ds : List D} {cs : List Str} {c x : Str} {nk : Nat} {pm : List Nat} {e1 e2 e3 : Ev} {bd : Bd}
@[simp] theorem x_ltG (x y : Int) : fLtG (.int x) (.int y) = some (.val (.bl (decide (x < y)))) := rfl
@[simp] theorem x_ltGs (x y : Str) : fLtG (.str x) (.str y) = some (.val (.bl (decide (x.cps.toList < y.cps.toList)))) := rfl
@[simp] theorem x_isiC (d : D) (n : String) : fIsiC cs d (.ty n) = fIsi d (.ty n) := by cases d <;> rfl
@[simp] theorem x_isiO (c c' : Str) (fs : List D) : fIsiC cs (.obj c' fs) (.glo c) = if cs.contains c then (if cs.contains c' then vB (c' == c) else none) else none := rfl
@[simp] theorem x_dZip : dZip A env b = (A env b).bind fun ds b1 => zip1 ds b1 := rfl
@[simp] theorem x_zipT (xs ys : List D) : zip1 [.tup xs, .tup ys] b = if noStr xs || noStr ys then .ok (zipD xs ys) b else .bad := rfl
@[simp] theorem x_zipL (xs ys : List D) : zip1 [.lst xs, .lst ys] b = if noStr xs || noStr ys then .ok (zipD xs ys) b else .bad := rfl
@[simp] theorem x_noStrc (d : D) (l : List D) : noStr (d :: l) = (!isStrD d && noStr l) := rfl
@[simp] theorem x_noStr0 : noStr [] = true := rfl
@[simp] theorem x_noStrm {α : Type} (f : α → D) (l : List α) (h : ∀ x, isStrD (f x) = false) : noStr (l.map f) = true := by
  induction l with
  | nil => rfl
  | cons x l ih => rw [List.map_cons, x_noStrc, h, ih]; rfl
@[simp] theorem x_dStrI : dStrI ea env b = (ea env b).bind fun w b1 => str1 w.d b1 := rfl
@[simp] theorem x_dSplit : dSplit ev ea env b = (ev env b).bind fun w b1 => if isStr w.d then (ea env b1).bind fun u b2 => optR (splD w.d u.d) b2 else .bad := rfl
@[simp] theorem x_dBor : dBor i ev env b = (match env[i]? with | some (.own d) => borR (ev (env.set i (.val d)) b) | _ => ev env b) := rfl
@[simp] theorem x_dBorT : dBorT i t env b = (match env[i]? with | some (.own d) => (match t (env.set i (.val d)) b with | .ok c b1 => .ok c b1 | _ => .bad) | _ => t env b) := rfl
@[simp] theorem x_dFld (fs : D) (h : ea env b = .ok (.val (.obj x [fs])) b) : dFld x ea env b = .ok (.val fs) b := by
  unfold dFld
  rw [x_dOp1, h]
  simp [fldD]
theorem x_dProp : dProp x m ea env b = (ea env b).bind fun w b1 => match w.d with
  | .obj c fs => if c = x then okR (m [.obj c fs] b1) else .bad
  | _ => .bad := rfl
@[simp] theorem x_fitM : fitM n m ds b = if ds.length = n then m ds b else .bad := rfl
@[simp] theorem x_dCallK : dCallK m n nk pm A Ak env b = (A env b).bind fun ds b1 => (Ak env b1).bind fun es b2 => if ds.length = n ∧ es.length = nk then m (permL pm (ds ++ es)) b2 else .bad := rfl
@[simp] theorem x_dSeqN : dSeqN d1 d2 env b = (match d1 env b with | .nx e b' => d2 e b' | .err c fs b' => .err c fs b' | _ => .bad) := rfl
@[simp] theorem x_dAsgG : dAsgG bd ev env b = (ev env b).toS fun w b1 => match bd w.d env with | some env' => .nx env' b1 | none => .bad := rfl
@[simp] theorem x_dPar3 : dPar3 i j l e1 e2 e3 env b = (e1 env b).toS fun w1 b1 => (e2 env b1).toS fun w2 b2 => (e3 env b2).toS fun w3 b3 => .nx (((env.set l w3.slot).set j w2.slot).set i w1.slot) b3 := rfl
@[simp] theorem x_bTup (ts : List Bd) (l : List D) : bTup ts (.tup l) env = bEach ts l env := rfl
@[simp] theorem x_bEach0 : bEach [] [] env = some env := rfl
@[simp] theorem x_bEachC (t : Bd) (ts : List Bd) (d : D) (ds : List D) : bEach (t :: ts) (d :: ds) env = (t d env).bind fun e => bEach ts ds e := rfl
@[simp] theorem x_permL (l : List D) : permL pm l = pm.filterMap (l[·]?) := rfl
@[simp] theorem x_dSl {el eh : EvO} : dSl ea el eh env b = (ea env b).bind fun w b1 => (el env b1).bind fun lo b2 => (eh env b2).bind fun hi b3 => optR (fSl w.d lo hi) b3 := rfl
@[simp] theorem x_noPart : dNoPart env b = .ok none b := rfl
@[simp] theorem x_part : dPart ea env b = (ea env b).bind fun w b1 => part1 w.d b1 := rfl
@[simp] theorem x_part1 (i : Int) : part1 (.int i) b = .ok (some i) b := rfl
@[simp] theorem x_ownI : dOwnI i env b = (match env[i]? with | some (.own (.lst l)) => .ok l b | some (.val (.lst l)) => .ok l b | _ => .bad) := rfl
@[simp] theorem x_dRng1 : dRng1 ea env b = (ea env b).bind fun w b1 => rng1 w.d b1 := rfl
@[simp] theorem x_dRng2 : dRng2 ea eb env b = (ea env b).bind fun w b1 => (eb env b1).bind fun u b2 => rng2 w.d u.d b2 := rfl
@[simp] theorem x_dCallB : dCallB m ea env b = (ea env b).bind fun w b1 => bowC m w b1 := rfl
@[simp] theorem x_addS (x y : Str) : fAddG (.str x) (.str y) = if okS (x ++ y) then some (.val (.str (x ++ y))) else none := rfl
@[simp] theorem x_lenS (x : Str) : lenD (.str x) = some (.val (.int x.length)) := rfl
@[simp] theorem x_listL (x : List D) : listD (.lst x) = some (.own (.lst x)) := rfl
@[simp] theorem x_listT (x : List D) : listD (.tup x) = some (.own (.lst x)) := rfl
@[simp] theorem x_dRetN : dRetN env b = .rt (.val .non) b := rfl
@[simp] theorem x_ixoth (c : Str) (fs : List D) (k : D) : ixB (.obj c fs) k b = .bad := by
  cases k <;> rfl
theorem eqDs_refl : ∀ {n : Nat} {l : List D}, (∀ {d : D}, pureD n d = true → eqD d d = true) → pureDs n l = true → eqDs l l = true
  | _, [], _, _ => rfl
  | n, d :: l, h, p => by
    have p : pureD n d = true ∧ pureDs n l = true := by simpa [pureDs] using p
    unfold eqDs
    rw [h p.1, eqDs_refl h p.2]
    rfl
theorem eqD_refl : ∀ {n : Nat} {d : D}, pureD n d = true → eqD d d = true
  | _, .non, _ => rfl
  | _, .bl _, _ => by simp [eqD]
  | _, .int _, _ => by simp [eqD]
  | _, .str _, _ => by simp [eqD]
  | 0, .lst l, p => by simp [pureD] at p
  | 0, .tup l, p => by simp [pureD] at p
  | n + 1, .lst l, p => by
    unfold eqD
    exact eqDs_refl (n := n) (fun q => eqD_refl q) (by simpa [pureD] using p)
  | n + 1, .tup l, p => by
    unfold eqD
    exact eqDs_refl (n := n) (fun q => eqD_refl q) (by simpa [pureD] using p)
  | _, .dct _ _, p => by simp [pureD] at p
  | _, .obj _ _, p => by simp [pureD] at p
  | _, .glo _, p => by simp [pureD] at p
  | _, .ty _, p => by simp [pureD] at p
  | _, .clo _, p => by simp [pureD] at p
  | _, .bowl, p => by simp [pureD] at p
end
end DL

set_option Elab.async false
set_option linter.all false
set_option maxRecDepth 100000
set_option maxHeartbeats 1000000
set_option exponentiation.threshold 20000
/-! fractions, plainly -/
namespace P
open PySem DL
def rq (q : Rat) : D := .tup [.int q.num, .int q.den]
@[simp] theorem x_isRq (q : Rat) : isStrD (rq q) = false := rfl
@[simp] theorem x_noRq (l : List Rat) : noStr (l.map rq) = true := x_noStrm rq l fun _ => rfl
theorem low_num (n m g : Int) (hm : m ≠ 0) (hg : g = (if m > 0 then (Nat.gcd n.natAbs m.natAbs : Int) else -(Nat.gcd n.natAbs m.natAbs : Int))) : n.fdiv g = (Rat.divInt n m).num ∧ m.fdiv g = ((Rat.divInt n m).den : Int) ∧ g ≠ 0 ∧ g.natAbs ≤ m.natAbs := by
  have gp : 0 < Nat.gcd n.natAbs m.natAbs := Nat.gcd_pos_of_pos_right _ (Int.natAbs_pos.mpr hm)
  have gle : Nat.gcd n.natAbs m.natAbs ≤ m.natAbs := Nat.gcd_le_right _ (Int.natAbs_pos.mpr hm)
  obtain ⟨k, hk⟩ : (Nat.gcd n.natAbs m.natAbs : Int) ∣ n := Int.ofNat_dvd_left.mpr (Nat.gcd_dvd_left _ _)
  obtain ⟨l, hl⟩ : (Nat.gcd n.natAbs m.natAbs : Int) ∣ m := Int.ofNat_dvd_left.mpr (Nat.gcd_dvd_right _ _)
  have e : (m.gcd n : Int) = (Nat.gcd n.natAbs m.natAbs : Int) := by rw [show m.gcd n = Nat.gcd m.natAbs n.natAbs from rfl, Nat.gcd_comm]
  have e2 : m.gcd n = Nat.gcd n.natAbs m.natAbs := by rw [show m.gcd n = Nat.gcd m.natAbs n.natAbs from rfl, Nat.gcd_comm]
  rw [Rat.num_divInt, Rat.den_divInt, if_neg hm, e, e2]
  have g0 : (Nat.gcd n.natAbs m.natAbs : Int) ≠ 0 := by omega
  generalize hG : Nat.gcd n.natAbs m.natAbs = G at *
  by_cases hp : m > 0
  · rw [if_pos hp] at hg
    subst hg
    refine ⟨?_, ?_, g0, by omega⟩
    · rw [Int.sign_eq_one_of_pos hp, Int.one_mul, hk, Int.mul_fdiv_cancel_left _ g0, Int.mul_ediv_cancel_left _ g0]
    · have h1 : m.fdiv (G : Int) = l := by rw [hl, Int.mul_fdiv_cancel_left _ g0]
      have h2 : ((m.natAbs / G : Nat) : Int) = l := by
        rw [Int.natCast_ediv, Int.natAbs_of_nonneg (by omega), hl, Int.mul_ediv_cancel_left _ g0]
      rw [h1, h2]
  · rw [if_neg hp] at hg
    subst hg
    have hm2 : m < 0 := by omega
    have g1 : -(G : Int) ≠ 0 := by omega
    refine ⟨?_, ?_, g1, by omega⟩
    · rw [Int.sign_eq_neg_one_of_neg hm2]
      have h1 : n = -(G : Int) * (-k) := by rw [Int.neg_mul_neg]; exact hk
      have h2 : -1 * n = (G : Int) * (-k) := by rw [Int.mul_neg, ← hk]; omega
      rw [h2, Int.mul_ediv_cancel_left _ g0]
      conv => lhs; rw [h1]
      rw [Int.mul_fdiv_cancel_left _ g1]
    · have h1 : m = -(G : Int) * (-l) := by rw [Int.neg_mul_neg]; exact hl
      have h2 : ((m.natAbs / G : Nat) : Int) = -l := by
        have : (m.natAbs : Int) = (G : Int) * (-l) := by
          rw [Int.mul_neg, ← hl]
          omega
        rw [Int.natCast_ediv, this, Int.mul_ediv_cancel_left _ g0]
      rw [h2]
      conv => lhs; rw [h1]
      rw [Int.mul_fdiv_cancel_left _ g1]
theorem div_ok {g m : Int} (h0 : g ≠ 0) (h : g.natAbs ≤ m.natAbs) (hm : m.natAbs < 2 ^ 9000) : divOk g = true := by
  unfold divOk
  rw [Bool.and_eq_true]
  refine ⟨decide_eq_true h0, decide_eq_true ?_⟩
  exact (Nat.log2_lt (by omega)).mpr (by omega)
theorem mul_ok {i j : Int} (h1 : i.natAbs < 2 ^ 4000) (h2 : j.natAbs < 2 ^ 4000) : mulOk i j = true := by
  unfold mulOk
  have lg : ∀ n : Nat, n < 2 ^ 4000 → n.log2 < 4000 := fun n h => by
    by_cases z : n = 0
    · rw [z]
      decide
    · exact (Nat.log2_lt z).mpr h
  exact decide_eq_true (by have := lg _ h1; have := lg _ h2; omega)
/-- a fraction of at most k bits above and below -/
def Sm (k : Nat) (q : Rat) : Prop := q.num.natAbs < 2 ^ k ∧ q.den < 2 ^ k
theorem divInt_add (a b : Rat) : Rat.divInt (a.num * b.den + b.num * a.den) (a.den * b.den) = a + b := by
  rw [Rat.add_def', ← Rat.divInt_ofNat, Int.natCast_mul]
theorem divInt_sub (a b : Rat) : Rat.divInt (a.num * b.den - b.num * a.den) (a.den * b.den) = a - b := by
  rw [Rat.sub_def', ← Rat.divInt_ofNat, Int.natCast_mul]
theorem divInt_mul' (a b : Rat) : Rat.divInt (a.num * b.num) (a.den * b.den) = a * b := by
  rw [Rat.mul_def', ← Rat.divInt_ofNat, Int.natCast_mul]
theorem den_ne (q : Rat) : (q.den : Int) ≠ 0 := by have := q.den_nz; omega
theorem nat_mul_lt {a b k : Nat} (h1 : a < 2 ^ k) (h2 : b < 2 ^ k) : a * b < 2 ^ (2 * k) := by
  have h : 2 ^ (2 * k) = 2 ^ k * 2 ^ k := by rw [← Nat.pow_add]; congr 1; omega
  rw [h]
  exact Nat.mul_lt_mul'' h1 h2
abbrev frT : EvT := dTst (dOp2 fGt (dVar 3) (dC (.int 0)))
abbrev frB : Sv := dPar2 2 3 (dVal (dVar 3)) (dVal (dOp2 fMod (dOpL (f1 intD) (dCons (dVar 2) dNil)) (dVar 3)))
theorem gcd_loop (s0 s1 : Slot) (b : Bw) : ∀ (h l : Nat), whN frT frB (h + 1) [s0, s1, .val (.int (l : Nat)), .val (.int (h : Nat))] b = .nx [s0, s1, .val (.int (Nat.gcd l h : Nat)), .val (.int 0)] b := by
  intro h
  induction h using Nat.strongRecOn with
  | ind h ih =>
    intro l
    unfold whN
    by_cases h0 : h = 0
    · subst h0
      simp
    · have hp : (0 : Int) < (h : Int) := by omega
      have lt : l % h < h := Nat.mod_lt _ (by omega)
      have step := ih (l % h) lt h
      have e : (l : Int).fmod (h : Int) = ((l % h : Nat) : Int) := by
        rw [Int.fmod_eq_emod_of_nonneg _ (by omega)]
        omega
      have ne : whN frT frB (l % h + 1) [s0, s1, .val (.int (h : Nat)), .val (.int ((l % h : Nat) : Int))] b ≠ .bad := by
        rw [step]
        exact fun z => by cases z
      have w := whN_le ne (show l % h + 1 ≤ h by omega)
      have g : Nat.gcd h (l % h) = Nat.gcd l h := by rw [Nat.gcd_comm l h, Nat.gcd_rec h l, Nat.gcd_comm]
      rw [step, g] at w
      have hq : 0 < h := by omega
      rw [show ((l % h : Nat) : Int) = (l : Int) % (h : Int) from by omega] at w e
      simp [hp, hq, h0, e]
      exact w
theorem rq_ix0 (q : Rat) (b : Bw) : ixB (rq q) (.int 0) b = .ok (.val (.int q.num)) b := rfl
theorem rq_ix1 (q : Rat) (b : Bw) : ixB (rq q) (.int 1) b = .ok (.val (.int q.den)) b := rfl
theorem up4 {k : Nat} (hk : k ≤ 4000) {n : Nat} (h : n < 2 ^ k) : n < 2 ^ 4000 := Nat.lt_of_lt_of_le h (Nat.pow_le_pow_right (by decide) hk)
theorem dd9 {k x y : Nat} (hk : k ≤ 4000) (h1 : x < 2 ^ k) (h2 : y < 2 ^ k) : ((x : Int) * y).natAbs < 2 ^ 9000 := by
  rw [Int.natAbs_mul]
  exact Nat.lt_of_lt_of_le (nat_mul_lt (k := k) h1 h2) (Nat.pow_le_pow_right (by decide) (by omega))
theorem Sm.add {k : Nat} {p q : Rat} (hp : Sm k p) (hq : Sm k q) : Sm (2 * k + 1) (p + q) := by
  have n1 := Rat.num_add p q
  have n2 := Rat.den_add p q
  have h2 : p.den * q.den < 2 ^ (2 * k) := nat_mul_lt hp.2 hq.2
  have h3 : 2 ^ (2 * k) * 2 = 2 ^ (2 * k + 1) := (Nat.pow_succ ..).symm
  constructor
  · rw [n1]
    refine Nat.lt_of_le_of_lt (?_ : _ ≤ (p.num * q.den + q.num * p.den).natAbs) ?_
    · exact Int.natAbs_ediv_le_natAbs _ _
    · have a1 := nat_mul_lt hp.1 hq.2
      have a2 := nat_mul_lt hq.1 hp.2
      have a3 : (p.num * q.den + q.num * p.den).natAbs ≤ p.num.natAbs * q.den + q.num.natAbs * p.den := by
        refine Nat.le_trans (Int.natAbs_add_le _ _) ?_
        rw [Int.natAbs_mul, Int.natAbs_mul]
        simp
      omega
  · rw [n2]
    exact Nat.lt_of_le_of_lt (Nat.div_le_self _ _) (by omega)
theorem Sm.neg {k : Nat} {q : Rat} (h : Sm k q) : Sm k (-q) := ⟨by rw [Rat.neg_num, Int.natAbs_neg]; exact h.1, h.2⟩
theorem Sm.sub {k : Nat} {p q : Rat} (hp : Sm k p) (hq : Sm k q) : Sm (2 * k + 1) (p - q) := by
  rw [Rat.sub_eq_add_neg]
  exact hp.add hq.neg
theorem Sm.mono {j k : Nat} {q : Rat} (h : Sm j q) (l : j ≤ k) : Sm k q := ⟨Nat.lt_of_lt_of_le h.1 (Nat.pow_le_pow_right (by decide) l), Nat.lt_of_lt_of_le h.2 (Nat.pow_le_pow_right (by decide) l)⟩
def sumR (l : List Rat) : Rat := l.foldl (· + ·) 0
theorem zero_rq : rq 0 = .tup [.int 0, .int 1] := rfl
theorem Sm0 (k : Nat) (h : 0 < k) : Sm k 0 := ⟨Nat.pow_pos (by decide), Nat.one_lt_two_pow (by omega)⟩
theorem fold_add : ∀ (l : List Rat) (s : Rat), l.foldl (· + ·) s = s + l.foldl (· + ·) 0
  | [], s => by simp [Rat.add_zero]
  | x :: l, s => by
    rw [List.foldl_cons, List.foldl_cons, fold_add l (s + x), fold_add l (0 + x)]
    grind
theorem sumR_cons (x : Rat) (l : List Rat) : sumR (x :: l) = x + sumR l := by
  unfold sumR
  rw [List.foldl_cons, fold_add]
  grind
theorem sumR_nil : sumR [] = 0 := rfl
theorem sumR_snoc (l : List Rat) (x : Rat) : sumR (l ++ [x]) = sumR l + x := by
  unfold sumR
  rw [List.foldl_append]
  rfl
/-- a / n for a whole number a up to m -/
def Bq (n m : Nat) (q : Rat) : Prop := 0 < n ∧ ∃ a : Int, q = Rat.divInt a n ∧ a.natAbs ≤ m
theorem Bq.sz {n m : Nat} {q : Rat} (h : Bq n m q) : q.num.natAbs ≤ m ∧ q.den ≤ n := by
  obtain ⟨hn, a, rfl, ha⟩ := h
  have n0 : (n : Int) ≠ 0 := by omega
  have np : (0 : Int) < (n : Int) := by omega
  constructor
  · rw [Rat.num_divInt, Int.sign_eq_one_of_pos np, Int.one_mul]
    exact Nat.le_trans (Int.natAbs_ediv_le_natAbs _ _) ha
  · rw [Rat.den_divInt, if_neg n0]
    exact Nat.le_trans (Nat.div_le_self _ _) (by omega)
theorem Bq.sm {n m k : Nat} {q : Rat} (h : Bq n m q) (h1 : n < 2 ^ k) (h2 : m < 2 ^ k) : Sm k q := ⟨Nat.lt_of_le_of_lt h.sz.1 h2, Nat.lt_of_le_of_lt h.sz.2 h1⟩
theorem divInt_same (a c : Int) (n : Nat) (hn : 0 < n) : Rat.divInt a n + Rat.divInt c n = Rat.divInt (a + c) n := by
  rw [Rat.divInt_eq_div, Rat.divInt_eq_div, Rat.divInt_eq_div, Rat.intCast_add]
  grind
theorem Bq.add {n m m' : Nat} {p q : Rat} (h : Bq n m p) (g : Bq n m' q) : Bq n (m + m') (p + q) := by
  obtain ⟨hn, a, rfl, ha⟩ := h
  obtain ⟨_, c, rfl, hc⟩ := g
  exact ⟨hn, a + c, divInt_same a c n hn, Nat.le_trans (Int.natAbs_add_le _ _) (by omega)⟩
theorem Bq.mul {n n' m m' : Nat} {p q : Rat} (h : Bq n m p) (g : Bq n' m' q) : Bq (n * n') (m * m') (p * q) := by
  obtain ⟨hn, a, rfl, ha⟩ := h
  obtain ⟨hn', c, rfl, hc⟩ := g
  refine ⟨Nat.mul_pos hn hn', a * c, ?_, ?_⟩
  · rw [Rat.divInt_eq_div, Rat.divInt_eq_div, Rat.divInt_eq_div, Rat.intCast_mul, Int.natCast_mul, Rat.intCast_mul]
    grind
  · rw [Int.natAbs_mul]
    exact Nat.mul_le_mul ha hc
theorem Bq.neg {n m : Nat} {p : Rat} (h : Bq n m p) : Bq n m (-p) := by
  obtain ⟨hn, a, rfl, ha⟩ := h
  refine ⟨hn, -a, ?_, by omega⟩
  rw [Rat.divInt_eq_div, Rat.divInt_eq_div, Rat.intCast_neg]
  grind
theorem Bq.zero {n : Nat} (hn : 0 < n) : Bq n 0 0 := ⟨hn, 0, by rw [Rat.divInt_eq_div]; grind, by simp⟩
theorem Bq.mono {n m m' : Nat} {p : Rat} (h : Bq n m p) (l : m ≤ m') : Bq n m' p := by
  obtain ⟨hn, a, e, ha⟩ := h
  exact ⟨hn, a, e, Nat.le_trans ha l⟩
theorem Bq.up {n n' m : Nat} {p : Rat} (h : Bq n m p) (k : Nat) (e : n' = n * k) (hk : 0 < k) : Bq n' (m * k) p := by
  obtain ⟨hn, a, rfl, ha⟩ := h
  subst e
  refine ⟨Nat.mul_pos hn hk, a * k, ?_, ?_⟩
  · have k0 : (k : Rat) ≠ 0 := by
      have : ((k : Nat) : Rat) ≠ ((0 : Nat) : Rat) := fun z => by
        have := Rat.natCast_inj.mp z
        omega
      simpa using this
    have n0 : (n : Rat) ≠ 0 := by
      have : ((n : Nat) : Rat) ≠ ((0 : Nat) : Rat) := fun z => by
        have := Rat.natCast_inj.mp z
        omega
      simpa using this
    rw [Rat.divInt_eq_div, Rat.divInt_eq_div, Rat.intCast_mul, Int.natCast_mul, Rat.intCast_mul]
    simp only [Rat.intCast_natCast]
    grind
  · rw [Int.natAbs_mul, Int.natAbs_natCast]
    exact Nat.mul_le_mul_right _ ha
theorem Bq.sum {n m : Nat} (hn : 0 < n) : ∀ {l : List Rat}, (∀ q ∈ l, Bq n m q) → Bq n (l.length * m) (sumR l)
  | [], _ => by
    rw [sumR_nil, List.length_nil, Nat.zero_mul]
    exact Bq.zero hn
  | q :: l, h => by
    rw [sumR_cons, List.length_cons, Nat.succ_mul, Nat.add_comm]
    exact (h q List.mem_cons_self).add (Bq.sum hn fun x hx => h x (List.mem_cons_of_mem _ hx))
/-- a loop that adds -/
theorem add_loop {m : Mir} {b : Bw} {s0 : Slot} {n M : Nat} {N : Nat} (hn : n < 2 ^ 4000) (hM : N * M < 2 ^ 4000) (hm : ∀ p q, Sm 4000 p → Sm 4000 q → m [rq p, rq q] b = .ok (.val (rq (p + q))) b) : ∀ (l : List Rat) (i : Nat) (s : Rat) (x : Slot), (∀ q ∈ l, Bq n M q) → Bq n (i * M) s → i + l.length ≤ N →
    ∃ x', forL (bName 2) (dAsg 1 (dVal (dCall m (dCons (dVar 1) (dCons (dVar 2) dNil))))) (l.map rq) [s0, .val (rq s), x] b = .nx [s0, .val (rq (l.foldl (· + ·) s)), x'] b
  | [], i, s, x, _, hs, _ => ⟨x, rfl⟩
  | q :: l, i, s, x, hl, hs, hi => by
    rw [List.length_cons] at hi
    have hq := hl q List.mem_cons_self
    have le1 : i * M ≤ N * M := Nat.mul_le_mul_right _ (by omega)
    have le2 : 1 * M ≤ N * M := Nat.mul_le_mul_right _ (by omega)
    have e := hm s q (hs.sm hn (by omega)) (hq.sm hn (by omega))
    have hs2 : Bq n ((i + 1) * M) (s + q) := by
      rw [Nat.succ_mul]
      exact hs.add hq
    obtain ⟨x', h1⟩ := add_loop hn hM hm l (i + 1) (s + q) (.val (rq q)) (fun z hz => hl z (List.mem_cons_of_mem _ hz)) hs2 (by omega)
    refine ⟨x', ?_⟩
    rw [List.map_cons, x_forC]
    simp [e]
    exact h1
end P

set_option Elab.async false
set_option linter.all false
set_option maxRecDepth 100000
set_option maxHeartbeats 1000000
set_option exponentiation.threshold 20000
/-! draws, plainly -/
namespace P
open PySem DL
theorem asBls_yes : ∀ (n : Nat) (l : List Nat), l.length = n → asBls (l.map fun _ => D.bl true) = some (List.replicate n true)
  | 0, [], _ => rfl
  | n + 1, x :: l, h => by
    rw [List.map_cons]
    unfold asBls
    rw [asBls_yes n l (by simpa using h)]
    rfl
theorem rngL_eq (n : Nat) : rngL 0 (n : Nat) = (List.range n).map fun (i : Nat) => D.int (i : Nat) := by
  unfold rngL
  simp
theorem rng1_eq (n : Nat) (b : Bw) (h : n ≤ 500000) : rng1 (.int (n : Nat)) b = .ok ((List.range n).map fun (i : Nat) => D.int (i : Nat)) b := by
  have h1 : (n : Int) ≤ 500000 := by omega
  have h2 : (-500000 : Int) ≤ n := by omega
  simp [rng1, rngOk, h1, h2, rngL_eq]
theorem atI_nat (l : List D) (k : Nat) (h : k < l.length) : L2.atI l (k : Int) = some l[k] := by
  have h1 : (k : Int) < (l.length : Int) := by omega
  simp [L2.atI, L2.ixN, h1, h]
theorem same_seq {self : Mir} {b : Bw} {l : List D} (s0 s1 s2 : Slot) (h5 : l.length ≤ 500000) (hs : ∀ d ∈ l, self [d, d] b = .ok (.val (.bl true)) b) (h0 : s0 = .val (.tup l) ∨ s0 = .val (.lst l)) (h1 : s1 = s0) :
    compL (bName 3) dYes (dCall self (dCons (dIx (dVar 0) (dVar 3)) (dCons (dIx (dVar 1) (dVar 3)) dNil))) [s0, s1, s2, .un] ((List.range l.length).map fun (i : Nat) => D.int (i : Nat)) b = .ok ((List.range l.length).map fun _ => D.bl true) b :=
  compL_map (fun (i : Nat) => D.int (i : Nat)) (fun _ => D.bl true) _ fun i hi => by
    have hi := List.mem_range.mp hi
    have e := hs l[i] (List.getElem_mem hi)
    refine ⟨_, .val (.bl true), rfl, rfl, ?_, rfl⟩
    subst h1
    rcases h0 with rfl | rfl
    · simp [atI_nat l i hi, e]
    · simp [atI_nat l i hi, e]
theorem mul_small {i j : Int} (h1 : i.natAbs < 2 ^ 100) (h2 : j.natAbs < 2 ^ 100) : mulOk i j = true := by
  unfold mulOk
  have lg : ∀ n : Nat, n < 2 ^ 100 → n.log2 < 100 := fun n h => by
    by_cases z : n = 0
    · rw [z]
      decide
    · exact (Nat.log2_lt z).mpr h
  exact decide_eq_true (by have := lg _ h1; have := lg _ h2; omega)
def Inv (n : Nat) (b : Bw) : Prop := ∃ o s c : Int, b = some [o, s, c] ∧ 0 ≤ o ∧ 0 ≤ s ∧ s < 2147483629 ∧ 0 ≤ c ∧ c ≤ (n : Int)
theorem Inv.mono {n m : Nat} {b : Bw} (h : Inv n b) (l : n ≤ m) : Inv m b := by
  obtain ⟨o, s, c, h1, h2, h3, h4, h5, h6⟩ := h
  exact ⟨o, s, c, h1, h2, h3, h4, h5, by omega⟩
@[simp] theorem y_ixb (l : List Int) (k : Int) : ixB .bowl (.int k) (some l) = (match L2.atI l k with | some v => .ok (.val (.int v)) (some l) | none => .bad) := rfl
@[simp] theorem y_at0 (x y z : Int) : L2.atI [x, y, z] 0 = some x := rfl
@[simp] theorem y_at1 (x y z : Int) : L2.atI [x, y, z] 1 = some y := rfl
@[simp] theorem y_at2 (x y z : Int) : L2.atI [x, y, z] 2 = some z := rfl
@[simp] theorem y_set0 (r : Sls) (x y z v : Int) : setB 0 (.val .bowl :: r) (.int 0) (.int v) (some [x, y, z]) = .nx (.val .bowl :: r) (some [v, y, z]) := rfl
@[simp] theorem y_set1 (r : Sls) (x y z v : Int) : setB 0 (.val .bowl :: r) (.int 1) (.int v) (some [x, y, z]) = .nx (.val .bowl :: r) (some [x, v, z]) := rfl
@[simp] theorem y_set2 (r : Sls) (x y z v : Int) : setB 0 (.val .bowl :: r) (.int 2) (.int v) (some [x, y, z]) = .nx (.val .bowl :: r) (some [x, y, v]) := rfl
@[simp] theorem y_setIx {i : Nat} {ei ev : Ev} {env : Sls} {b : Bw} : dSetIx i ei ev env b = (ev env b).toS fun w b1 => if isHold env[i]? then (ei env b1).toS fun y b2 => setB i env y.d w.d b2 else .bad := rfl
@[simp] theorem y_setIx2 {i j : Nat} {ei ev : Ev} {env : Sls} {b : Bw} : dSetIx2 i j ei ev env b = (ev env b).toS fun w b1 => match w.d with
  | .tup [d1, d2] => if isHold env[i]? then (ei env b1).toS fun y b2 => match setB i env y.d d1 b2 with
    | .nx env' b3 => .nx (env'.set j (.val d2)) b3
    | _ => .bad
    else .bad
  | _ => .bad := rfl
@[simp] theorem y_hold (s : Sls) : isHold (some (.val .bowl)) = true := rfl
theorem fm_pos (x : Int) {y : Int} (h : 0 < y) : 0 ≤ x.fmod y ∧ x.fmod y < y := ⟨Int.fmod_nonneg_of_pos x h, Int.fmod_lt_of_pos x h⟩
theorem na_lt {x : Int} {k : Int} (h1 : 0 ≤ x) (h2 : x < k) (h3 : k ≤ 2 ^ 90) : x.natAbs < 2 ^ 100 := by
  have : (x.natAbs : Int) < 2 ^ 100 := by
    rw [Int.natAbs_of_nonneg h1]
    exact Int.lt_trans h2 (Int.lt_of_le_of_lt h3 (by decide))
  exact_mod_cast this
theorem cut_ints (ns : List Int) (lo hi : Option Int) : ∃ ms : List Int, cutD (ns.map D.int) lo hi = ms.map D.int := by
  unfold cutD
  refine ⟨(ns.drop (HT.sIx (ns.map D.int).length 0 lo)).take (HT.sIx (ns.map D.int).length (ns.map D.int).length hi - HT.sIx (ns.map D.int).length 0 lo), ?_⟩
  rw [List.map_take, List.map_drop]
theorem compL_st {bd : Bd} {te : Ev} {env : Sls} {α : Type} (K : Nat) (f : α → D) (Q : D → Prop) : ∀ (l : List α) (n : Nat) (b : Bw), Inv n b → n + K * l.length ≤ 1000000 → (∀ a ∈ l, ∀ n b, Inv n b → n + K ≤ 1000000 → ∃ e w b', bd (f a) env = some e ∧ te e b = .ok w b' ∧ Q w.d ∧ Inv (n + K) b') → ∃ r b', compL bd dYes te env (l.map f) b = .ok r b' ∧ r.length = l.length ∧ (∀ d ∈ r, Q d) ∧ Inv (n + K * l.length) b'
  | [], n, b, I, _, _ => ⟨[], b, rfl, rfl, by simp, I⟩
  | a :: l, n, b, I, hn, h => by
    rw [List.length_cons, Nat.mul_succ] at hn
    obtain ⟨e, w, b1, h1, h2, h3, I1⟩ := h a List.mem_cons_self n b I (by omega)
    obtain ⟨r, b', h4, h5, h6, I2⟩ := compL_st K f Q l (n + K) b1 I1 (by omega) fun x hx => h x (List.mem_cons_of_mem _ hx)
    refine ⟨w.d :: r, b', ?_, by simp [h5], ?_, ?_⟩
    · rw [List.map_cons]
      unfold compL
      simp [h1, h2, h4]
    · intro d hd
      rcases List.mem_cons.mp hd with rfl | hd
      · exact h3
      · exact h6 d hd
    · rw [List.length_cons, Nat.mul_succ]
      rw [show n + (K * l.length + K) = n + K + K * l.length by omega]
      exact I2
theorem asBls_rep {α : Type} : ∀ (l : List α), asBls (l.map fun _ => D.bl true) = some (List.replicate l.length true)
  | [] => rfl
  | x :: l => by
    rw [List.map_cons]
    unfold asBls
    rw [asBls_rep l]
    rfl
theorem all_rep (n : Nat) : (List.replicate n true).all id = true := by
  induction n with
  | zero => rfl
  | succ n ih => simpa [List.replicate_succ] using ih
theorem allD_yes {α : Type} (l : List α) : allD (.lst (l.map fun _ => D.bl true)) = some (.val (.bl true)) := by
  rw [x_all, asBls_rep]
  simp [vB]
/-- a stateful walk, results as wanted -/
theorem compL_stG {bd : Bd} {te : Ev} {env : Sls} {α β : Type} (K : Nat) (f : α → D) (g : β → D) (Q : β → Prop) : ∀ (l : List α) (n : Nat) (b : Bw), Inv n b → n + K * l.length ≤ 1000000 → (∀ a ∈ l, ∀ n b, Inv n b → n + K ≤ 1000000 → ∃ e w b' y, bd (f a) env = some e ∧ te e b = .ok w b' ∧ w.d = g y ∧ Q y ∧ Inv (n + K) b') → ∃ (r : List β) (b' : Bw), compL bd dYes te env (l.map f) b = .ok (r.map g) b' ∧ r.length = l.length ∧ (∀ d ∈ r, Q d) ∧ Inv (n + K * l.length) b'
  | [], n, b, I, _, _ => ⟨[], b, rfl, rfl, by simp, I⟩
  | a :: l, n, b, I, hn, h => by
    rw [List.length_cons, Nat.mul_succ] at hn
    obtain ⟨e, w, b1, y, h1, h2, h3, hy, I1⟩ := h a List.mem_cons_self n b I (by omega)
    obtain ⟨r, b', h4, h5, h6, I2⟩ := compL_stG K f g Q l (n + K) b1 I1 (by omega) fun x hx => h x (List.mem_cons_of_mem _ hx)
    refine ⟨y :: r, b', ?_, by simp [h5], ?_, ?_⟩
    · rw [List.map_cons]
      unfold compL
      simp [h1, h2, h4, h3]
    · intro d hd
      rcases List.mem_cons.mp hd with rfl | hd
      · exact hy
      · exact h6 d hd
    · rw [List.length_cons, Nat.mul_succ]
      rw [show n + (K * l.length + K) = n + K + K * l.length by omega]
      exact I2
end P

set_option Elab.async false
set_option linter.all false
set_option maxRecDepth 100000
set_option maxHeartbeats 1000000
/-! names, plainly -/
namespace P
open PySem DL
abbrev ABC : Str := "abcdefghijklmnopqrstuvwxyz"
def WS1 : List Str := ["agree", "all", "back", "beat", "book", "case", "circle", "end", "firm", "group", "hear", "in", "last", "mean", "meet", "middle", "mind", "near", "none", "of"]
def WS2 : List Str := ["out", "people", "quit", "rest", "rhythm", "row", "say", "spread", "swing", "take", "trust", "undo", "web", "weight", "yes"]
def WS : List Str := WS1 ++ WS2
def isLet (c : Nat) : Bool := decide (97 ≤ c ∧ c ≤ 122)
structure NmOk (s : Str) : Prop where
  pos : 0 < s.cps.toList.length
  le : s.cps.toList.length ≤ 8
  let_ : ∀ c ∈ s.cps.toList, isLet c = true
  no : s ∉ WS
def sg (c : Nat) : Str := ⟨#[c]⟩
theorem abc_list : ABC.cps.toList = (List.range 26).map (· + 97) := by decide +kernel
theorem abc_at (i : Nat) (h : i < 26) : L2.atI ABC.cps.toList (i : Int) = some (i + 97) := by
  have e : ∀ k < 26, L2.atI ABC.cps.toList ((k : Nat) : Int) = some (k + 97) := by decide +kernel
  exact e i h
theorem abc_mem {c : Nat} (h : isLet c = true) : c ∈ ABC.cps.toList := by
  rw [abc_list, List.mem_map]
  have h := of_decide_eq_true h
  exact ⟨c - 97, List.mem_range.mpr (by omega), by omega⟩
theorem okS_abc : okS ABC = true := by decide +kernel
theorem okS_iff (s : Str) : okS s = true ↔ s.cps.toList.length ≤ LIM ∧ ∀ c ∈ s.cps.toList, c < 0x110000 := by
  unfold okS PyData.strOk
  rw [Bool.and_eq_true, decide_eq_true_eq, Array.all_eq_true']
  simp [Str.length]
theorem okS_let {s : Str} (h : s.cps.toList.length ≤ 100) (g : ∀ c ∈ s.cps.toList, isLet c = true) : okS s = true :=
  (okS_iff s).mpr ⟨Nat.le_trans h (by decide), fun c hc => by
    have := of_decide_eq_true (g c hc)
    omega⟩
theorem NmOk.ok {s : Str} (h : NmOk s) : okS s = true := okS_let (by have := h.le; omega) h.let_
theorem okS_sg {c : Nat} (h : isLet c = true) : okS (sg c) = true := okS_let (by simp [sg]) (by simpa [sg] using h)
theorem okSigns_let {s : Str} (h : s.cps.toList.length ≤ 100) (g : ∀ c ∈ s.cps.toList, isLet c = true) : okSigns s = true := by
  unfold okSigns
  rw [Bool.and_eq_true]
  exact ⟨okS_let h g, List.all_eq_true.mpr fun c hc => okS_sg (g c hc)⟩
theorem app_list (x y : Str) : (x ++ y).cps.toList = x.cps.toList ++ y.cps.toList := by
  show (Str.append x y).cps.toList = _
  simp [Str.append]
theorem str_eq {x y : Str} (h : x.cps.toList = y.cps.toList) : x = y := str_ext h
theorem cut7 (s : Str) : (L2.cutS s none (some 7)).cps.toList = s.cps.toList.take 7 := by
  unfold L2.cutS
  simp [HT.sIx, Str.length]
/-- what stands in the bar: no word ends so -/
def CS : List Nat := [97, 99, 104, 105, 106]
theorem ws_last : ∀ w ∈ WS, ∀ c ∈ CS, w.cps.toList.getLast? ≠ some c := by decide +kernel
theorem nodup_le {α : Type} [DecidableEq α] : ∀ (l m : List α), l.Nodup → (∀ x ∈ l, x ∈ m) → l.length ≤ m.length
  | [], m, _, _ => Nat.zero_le _
  | a :: l, m, nd, h => by
    have ha := h a List.mem_cons_self
    rw [List.nodup_cons] at nd
    have := nodup_le l (m.erase a) nd.2 fun x hx => (List.mem_erase_of_ne (fun e => nd.1 (by rw [← e]; exact hx))).mpr (h x (List.mem_cons_of_mem _ hx))
    rw [List.length_erase_of_mem ha] at this
    have p : 0 < m.length := List.length_pos_of_mem ha
    rw [List.length_cons]
    omega
theorem free_name (p : Str) (found : List Str) (h : found.length ≤ 4) : ∃ c ∈ CS, p ++ sg c ∉ WS ∧ p ++ sg c ∉ found := by
  by_cases z : ∃ c ∈ CS, p ++ sg c ∉ found
  · obtain ⟨c, hc, hf⟩ := z
    refine ⟨c, hc, fun hw => ws_last _ hw c hc ?_, hf⟩
    rw [app_list]
    simp [sg]
  · have all : ∀ c ∈ CS, p ++ sg c ∈ found := fun c hc => Classical.byContradiction fun q => z ⟨c, hc, q⟩
    have nd : (CS.map fun c => p ++ sg c).Nodup := by
      refine List.Pairwise.map _ (R := (· ≠ ·)) (fun a b ne e => ne ?_) (show CS.Nodup by decide)
      have e2 := congrArg (fun s : Str => s.cps.toList) e
      simp only [app_list] at e2
      simpa [sg] using e2
    have := nodup_le _ found nd fun x hx => by
      obtain ⟨c, hc, rfl⟩ := List.mem_map.mp hx
      exact all c hc
    simp [CS] at this
    omega
/-- the same for laws with words of their own -/
def CS2 : List Nat := [105, 106, 113, 117, 118]
theorem ws_last2 : ∀ w ∈ WS, ∀ c ∈ CS2, w.cps.toList.getLast? ≠ some c := by decide +kernel
theorem free_nameO (OW : List Str) (how : ∀ w ∈ OW, ∀ c ∈ CS2, w.cps.toList.getLast? ≠ some c) (p : Str) (found : List Str) (h : found.length ≤ 4) : ∃ c ∈ CS2, p ++ sg c ∉ WS ∧ p ++ sg c ∉ OW ∧ p ++ sg c ∉ found := by
  by_cases z : ∃ c ∈ CS2, p ++ sg c ∉ found
  · obtain ⟨c, hc, hf⟩ := z
    refine ⟨c, hc, fun hw => ws_last2 _ hw c hc ?_, fun hw => how _ hw c hc ?_, hf⟩
    · rw [app_list]
      simp [sg]
    · rw [app_list]
      simp [sg]
  · have all : ∀ c ∈ CS2, p ++ sg c ∈ found := fun c hc => Classical.byContradiction fun q => z ⟨c, hc, q⟩
    have nd : (CS2.map fun c => p ++ sg c).Nodup := by
      refine List.Pairwise.map _ (R := (· ≠ ·)) (fun a b ne e => ne ?_) (show CS2.Nodup by decide)
      have e2 := congrArg (fun s : Str => s.cps.toList) e
      simp only [app_list] at e2
      simpa [sg] using e2
    have := nodup_le _ found nd fun x hx => by
      obtain ⟨c, hc, rfl⟩ := List.mem_map.mp hx
      exact all c hc
    simp [CS2] at this
    omega
/-! ### order -/
theorem ltCps_iff : ∀ a b : List Nat, Spec.ltCps a b = true ↔ a < b
  | [], [] => by simp [Spec.ltCps]
  | [], b :: t => by simp [Spec.ltCps]
  | a :: r, [] => by simp [Spec.ltCps]
  | a :: r, b :: t => by
    unfold Spec.ltCps
    rw [Bool.or_eq_true, Bool.and_eq_true, decide_eq_true_eq, beq_iff_eq, ltCps_iff r t, List.cons_lt_cons_iff]
/-- strictly rising -/
def Asc (l : List Str) : Prop := l.Pairwise fun x y => x.cps.toList < y.cps.toList
theorem sort_asc {l : List Str} (nd : l.Nodup) : Asc (sortS l) := by
  have nd2 : (sortS l).Nodup := (sortS_perm l).nodup_iff.mpr nd
  have s := sortS_sorted l
  refine List.Pairwise.imp₂ (fun x y h g => ?_) s nd2
  have : ltS x y = true := by
    cases q : ltS x y with
    | true => rfl
    | false =>
      refine absurd (leS_antisymm h ?_) g
      unfold leS
      rw [q]
      rfl
  exact (ltCps_iff _ _).mp this
/-- what a drawn set of names is -/
structure Nms (l : List Str) : Prop where
  ok : ∀ s ∈ l, NmOk s
  asc : Asc l
theorem Nms.nodup {l : List Str} (h : Nms l) : l.Nodup := by
  refine List.Pairwise.imp (fun {x y} h e => ?_) h.asc
  rw [e] at h
  exact absurd h (List.lt_irrefl _)
end P
namespace P
open PySem DL
theorem asStrs_map : ∀ l : List Str, asStrs (l.map D.str) = some l
  | [] => rfl
  | x :: l => by
    rw [List.map_cons]
    unfold asStrs
    rw [asStrs_map l]
    rfl
theorem sorted_str (l : List Str) (h : l.length < 64) : sortedD (.lst (l.map D.str)) = some (.own (.lst ((sortS l).map D.str))) := by
  show (asStrs (l.map D.str)).bind _ = _
  rw [asStrs_map]
  show (if l.length < 64 then _ else _) = _
  rw [if_pos h]
theorem noLsts_str : ∀ l : List Str, noLsts (l.map D.str) = true
  | [] => rfl
  | x :: l => by simp [noLsts, noLst, noLsts_str l]
theorem pureDs_str (n : Nat) : ∀ l : List Str, pureDs n (l.map D.str) = true
  | [] => by simp [pureDs]
  | x :: l => by
    rw [List.map_cons]
    unfold pureDs
    rw [pureDs_str n l]
    simp [pureD]
theorem inL_str (x : Str) : ∀ l : List Str, inL (.str x) (l.map D.str) = l.contains x
  | [] => rfl
  | y :: l => by
    have ih := inL_str x l
    unfold inL at ih ⊢
    rw [List.map_cons, List.any_cons, ih, List.contains_cons]
    have e : (y == x) = (x == y) := by
      rw [Bool.eq_iff_iff, beq_iff_eq, beq_iff_eq]
      exact eq_comm
    simp [eqD, e]
theorem notIn_str (x : Str) (l : List Str) : fNotInS (.str x) (.lst (l.map D.str)) = some (.val (.bl (!l.contains x))) := by
  unfold fNotInS fNotIn
  simp [pureD, PD, pureDs_str, inL_str, vB]
theorem notIn_strT (x : Str) (l : List Str) : fNotInS (.str x) (.tup (l.map D.str)) = some (.val (.bl (!l.contains x))) := by
  unfold fNotInS fNotIn
  simp [pureD, PD, pureDs_str, inL_str, vB]
/-- the candidates behind a drawn name -/
def cands (s : Str) : List Str := s :: ABC.cps.toList.map fun c => L2.cutS s none (some 7) ++ sg c
theorem cand_ok {s x : Str} (h0 : 0 < s.cps.toList.length) (h8 : s.cps.toList.length ≤ 8) (hl : ∀ c ∈ s.cps.toList, isLet c = true) (hx : x ∈ cands s) (hw : x ∉ WS) : NmOk x := by
  rcases List.mem_cons.mp hx with rfl | hx
  · exact ⟨h0, h8, hl, hw⟩
  · obtain ⟨c, hc, rfl⟩ := List.mem_map.mp hx
    refine ⟨?_, ?_, ?_, hw⟩
    · rw [app_list]
      simp [sg]
    · rw [app_list, cut7]
      simp [sg]
      omega
    · rw [app_list, cut7]
      intro d hd
      rcases List.mem_append.mp hd with hd | hd
      · exact hl d (List.mem_of_mem_take hd)
      · have : d = c := by simpa [sg] using hd
        rw [this]
        rw [abc_list, List.mem_map] at hc
        obtain ⟨i, hi, rfl⟩ := hc
        have := List.mem_range.mp hi
        exact decide_eq_true (by omega)
theorem cand_some (s : Str) {found : List Str} (h : found.length ≤ 4) : ∃ y r, (cands s).filter (fun x => !(WS ++ found).contains x) = y :: r ∧ y ∈ cands s ∧ y ∉ WS ∧ y ∉ found := by
  obtain ⟨c, hc, h1, h2⟩ := free_name (L2.cutS s none (some 7)) found h
  have cl : isLet c = true := (show ∀ c ∈ CS, isLet c = true by decide) c hc
  have hm : L2.cutS s none (some 7) ++ sg c ∈ (cands s).filter (fun x => !(WS ++ found).contains x) := by
    rw [List.mem_filter]
    refine ⟨List.mem_cons_of_mem _ (List.mem_map.mpr ⟨c, abc_mem cl, rfl⟩), ?_⟩
    simp [h1, h2]
  cases q : (cands s).filter (fun x => !(WS ++ found).contains x) with
  | nil =>
    rw [q] at hm
    cases hm
  | cons y r =>
    have hy : y ∈ (cands s).filter (fun x => !(WS ++ found).contains x) := by rw [q]; exact List.mem_cons_self
    rw [List.mem_filter] at hy
    have z : y ∉ WS ++ found := by simpa using hy.2
    exact ⟨y, r, rfl, hy.1, fun w => z (List.mem_append_left _ w), fun w => z (List.mem_append_right _ w)⟩
theorem cand_someO (s : Str) (OW : List Str) (how : ∀ w ∈ OW, ∀ c ∈ CS2, w.cps.toList.getLast? ≠ some c) {found : List Str} (h : found.length ≤ 4) : ∃ y r, (cands s).filter (fun x => !(WS ++ found ++ OW).contains x) = y :: r ∧ y ∈ cands s ∧ y ∉ WS ∧ y ∉ found ∧ y ∉ OW := by
  obtain ⟨c, hc, h1, h3, h2⟩ := free_nameO OW how (L2.cutS s none (some 7)) found h
  have cl : isLet c = true := (show ∀ c ∈ CS2, isLet c = true by decide) c hc
  have hm : L2.cutS s none (some 7) ++ sg c ∈ (cands s).filter (fun x => !(WS ++ found ++ OW).contains x) := by
    rw [List.mem_filter]
    refine ⟨List.mem_cons_of_mem _ (List.mem_map.mpr ⟨c, abc_mem cl, rfl⟩), ?_⟩
    simp [h1, h2, h3]
  cases q : (cands s).filter (fun x => !(WS ++ found ++ OW).contains x) with
  | nil =>
    rw [q] at hm
    cases hm
  | cons y r =>
    have hy : y ∈ (cands s).filter (fun x => !(WS ++ found ++ OW).contains x) := by rw [q]; exact List.mem_cons_self
    rw [List.mem_filter] at hy
    have z : y ∉ WS ++ found ++ OW := by simpa using hy.2
    exact ⟨y, r, rfl, hy.1, fun w => z (List.mem_append_left _ (List.mem_append_left _ w)), fun w => z (List.mem_append_left _ (List.mem_append_right _ w)), fun w => z (List.mem_append_right _ w)⟩
theorem signs_map (z : Str) : signs z = z.cps.toList.map fun c => D.str (sg c) := rfl
theorem split_words : Txt.split "agree all back beat book case circle end firm group hear in last mean meet middle mind near none of out people" " " ++ Txt.split "quit rest rhythm row say spread swing take trust undo web weight yes" " " = WS := by decide +kernel
def W1 : List Str := Txt.split "agree all back beat book case circle end firm group hear in last mean meet middle mind near none of out people" " "
def W2 : List Str := Txt.split "quit rest rhythm row say spread swing take trust undo web weight yes" " "
theorem spl1 : splD (.str "agree all back beat book case circle end firm group hear in last mean meet middle mind near none of out people") (.str " ") = some (.own (.lst (W1.map .str))) := by
  unfold splD
  exact if_pos ⟨by decide +kernel, by decide +kernel, by decide +kernel⟩
theorem spl2 : splD (.str "quit rest rhythm row say spread swing take trust undo web weight yes") (.str " ") = some (.own (.lst (W2.map .str))) := by
  unfold splD
  exact if_pos ⟨by decide +kernel, by decide +kernel, by decide +kernel⟩
theorem w12 : W1 ++ W2 = WS := split_words
theorem isStr1 : isStr (.str "agree all back beat book case circle end firm group hear in last mean meet middle mind near none of out people") = true := by decide +kernel
theorem isStr2 : isStr (.str "quit rest rhythm row say spread swing take trust undo web weight yes") = true := by decide +kernel
end P

set_option Elab.async false
set_option linter.all false
set_option maxRecDepth 100000
set_option maxHeartbeats 1000000
set_option exponentiation.threshold 20000
/-! rows of trust, circles, plainly -/
namespace P
open PySem DL
def L20 : Nat := 232792560
theorem dvd20 : ∀ s < 21, 0 < s → L20 % s = 0 := by decide
theorem L20pos : 0 < L20 := by decide
structure RowOk (m : Nat) (r : List Rat) : Prop where
  len : r.length = m
  pos : ∀ q ∈ r, 0 ≤ q
  sum : sumR r = 1
  bq : ∀ q ∈ r, Bq L20 (4 * L20) q
theorem asInts_nat : ∀ ns : List Nat, asInts (ns.map fun (n : Nat) => D.int (n : Nat)) = some (ns.map fun (n : Nat) => (n : Int))
  | [] => rfl
  | n :: ns => by
    rw [List.map_cons]
    unfold asInts
    rw [asInts_nat ns]
    rfl
theorem sum_nat : ∀ ns : List Nat, (ns.map fun (n : Nat) => (n : Int)).sum = (ns.sum : Nat)
  | [] => rfl
  | n :: ns => by
    rw [List.map_cons, List.sum_cons, List.sum_cons, sum_nat ns, Int.natCast_add]
theorem sum_eq0 : ∀ ns : List Nat, ns.sum = 0 → ∀ n ∈ ns, n = 0
  | [], _, n, h => by cases h
  | x :: ns, e, n, h => by
    rw [List.sum_cons] at e
    rcases List.mem_cons.mp h with rfl | h
    · omega
    · exact sum_eq0 ns (by omega) n h
theorem sum_le4 : ∀ ns : List Nat, (∀ n ∈ ns, n ≤ 4) → ns.sum ≤ 4 * ns.length
  | [], _ => by simp
  | x :: ns, h => by
    rw [List.sum_cons, List.length_cons]
    have := sum_le4 ns fun n hn => h n (List.mem_cons_of_mem _ hn)
    have := h x List.mem_cons_self
    omega
theorem sum_set : ∀ (ns : List Nat) (i : Nat), i < ns.length → ns.sum = 0 → (ns.set i 1).sum = 1
  | [], i, h, _ => by simp at h
  | x :: ns, 0, _, e => by
    rw [List.sum_cons] at e
    rw [List.set_cons_zero, List.sum_cons]
    omega
  | x :: ns, i + 1, h, e => by
    rw [List.sum_cons] at e
    rw [List.set_cons_succ, List.sum_cons, sum_set ns i (by simpa using h) (by omega)]
    omega
theorem rat_ne {n : Nat} (h : 0 < n) : (n : Rat) ≠ 0 := by
  have : ((n : Nat) : Rat) ≠ ((0 : Nat) : Rat) := fun z => by
    have := Rat.natCast_inj.mp z
    omega
  simpa using this
theorem rowSum (S : Nat) (hS : 0 < S) : ∀ ns : List Nat, sumR (ns.map fun x => Rat.divInt (x : Nat) (S : Nat)) = Rat.divInt (ns.sum : Nat) S
  | [] => by
    rw [List.map_nil, sumR_nil, List.sum_nil, Rat.divInt_eq_div]
    grind
  | x :: ns => by
    rw [List.map_cons, sumR_cons, rowSum S hS ns, List.sum_cons, divInt_same _ _ _ hS, Int.natCast_add]
theorem row_ok {ns : List Nat} {m : Nat} (h5 : m ≤ 5) (hl : ns.length = m) (h4 : ∀ n ∈ ns, n ≤ 4) (hp : 0 < ns.sum) : RowOk m (ns.map fun x => Rat.divInt (x : Nat) (ns.sum : Nat)) := by
  have s20 := sum_le4 ns h4
  have S0 := rat_ne hp
  refine ⟨by simpa using hl, fun q hq => ?_, ?_, fun q hq => ?_⟩
  · obtain ⟨x, hx, rfl⟩ := List.mem_map.mp hq
    rw [← Rat.num_nonneg, Rat.num_divInt, Int.sign_eq_one_of_pos (by omega), Int.one_mul]
    exact Int.ediv_nonneg (by omega) (by omega)
  · rw [rowSum _ hp, Rat.divInt_eq_div]
    simp only [Rat.intCast_natCast]
    grind
  · obtain ⟨x, hx, rfl⟩ := List.mem_map.mp hq
    have b : Bq ns.sum 4 (Rat.divInt (x : Nat) (ns.sum : Nat)) := ⟨hp, x, rfl, by have := h4 x hx; omega⟩
    have dv := dvd20 ns.sum (by omega) hp
    have e : L20 = ns.sum * (L20 / ns.sum) := by
      have := Nat.div_add_mod L20 ns.sum
      omega
    have kp : 0 < L20 / ns.sum := Nat.div_pos (Nat.le_of_dvd L20pos (Nat.dvd_of_mod_eq_zero dv)) hp
    exact (b.up (L20 / ns.sum) e kp).mono (Nat.mul_le_mul_left _ (Nat.div_le_self _ _))
def rowD (r : List Rat) : D := .tup (r.map rq)
@[simp] theorem x_isRow (r : List Rat) : isStrD (rowD r) = false := rfl
@[simp] theorem x_noRow (l : List (List Rat)) : noStr (l.map rowD) = true := x_noStrm rowD l fun _ => rfl
def cirD (ns : List Str) (T : List (List Rat)) : D := .tup [.tup (ns.map .str), .tup (T.map rowD)]
def cirO (ns : List Str) (T : List (List Rat)) : D := .obj "Circle" [cirD ns T]
structure Circ (ns : List Str) (T : List (List Rat)) : Prop where
  nm : Nms ns
  one : 1 ≤ ns.length
  five : ns.length ≤ 5
  sz : T.length = ns.length
  row : ∀ r ∈ T, RowOk ns.length r
theorem noClos_str : ∀ l : List Str, noClos (l.map D.str) = true
  | [] => rfl
  | x :: l => by simp [noClos, noClo, noClos_str l]
theorem noClo_rq (q : Rat) : noClo (rq q) = true := rfl
theorem noClos_rq : ∀ l : List Rat, noClos (l.map rq) = true
  | [] => rfl
  | x :: l => by simp [noClos, noClo_rq, noClos_rq l]
theorem noClos_rows : ∀ T : List (List Rat), noClos (T.map rowD) = true
  | [] => rfl
  | r :: T => by simp [noClos, rowD, noClo, noClos_rq, noClos_rows T]
theorem noClos_app : ∀ A B : List D, noClos (A ++ B) = (noClos A && noClos B)
  | [], B => by simp [noClos]
  | a :: A, B => by simp [noClos, noClos_app A B, Bool.and_assoc]
theorem noClos_take {l : List D} (h : noClos l = true) : ∀ n, noClos (l.take n) = true := by
  induction l with
  | nil => intro n; simp [noClos]
  | cons d l ih =>
    have h : noClo d = true ∧ noClos l = true := by simpa [noClos] using h
    intro n
    cases n with
    | zero => rfl
    | succ n => simp [noClos, h.1, ih h.2 n]
theorem noClos_mem : ∀ {l : List D}, noClos l = true → ∀ d ∈ l, noClo d = true
  | [], _, d, h => by cases h
  | x :: l, n, d, h => by
    have n : noClo x = true ∧ noClos l = true := by simpa [noClos] using n
    rcases List.mem_cons.mp h with rfl | h
    · exact n.1
    · exact noClos_mem n.2 d h
theorem cut_take (l : List D) (i : Nat) : cutD l none (some (i : Int)) = l.take i := by
  unfold cutD
  rw [HT.sIx_none, HT.sIx_nat, Nat.sub_zero, List.drop_zero]
  rcases Nat.le_total i l.length with h | h
  · rw [Nat.min_eq_left h]
  · rw [Nat.min_eq_right h, List.take_of_length_le h, List.take_of_length_le (Nat.le_refl _)]
theorem pure_rq (n : Nat) (q : Rat) : pureD (n + 1) (rq q) = true := by simp [rq, pureD, pureDs]
theorem pure_rqs (n : Nat) : ∀ l : List Rat, pureDs (n + 1) (l.map rq) = true
  | [] => by simp [pureDs]
  | x :: l => by simp [pureDs, pure_rq, pure_rqs n l]
theorem pure_rows (n : Nat) : ∀ T : List (List Rat), pureDs (n + 2) (T.map rowD) = true
  | [] => by simp [pureDs]
  | r :: T => by
    rw [List.map_cons]
    unfold pureDs
    rw [show pureD (n + 2) (rowD r) = pureDs (n + 1) (r.map rq) from by simp [pureD, rowD], pure_rqs, pure_rows n T]
    rfl
theorem eq_rq (p q : Rat) : eqD (rq p) (rq q) = decide (p = q) := by
  have : p = q ↔ p.num = q.num ∧ p.den = q.den := ⟨fun h => by rw [h]; exact ⟨rfl, rfl⟩, fun h => Rat.ext h.1 h.2⟩
  rw [Bool.eq_iff_iff, decide_eq_true_eq, this]
  simp [rq, eqD, eqDs]
  intro _
  exact Int.ofNat_inj
theorem eq_rqs : ∀ p q : List Rat, eqDs (p.map rq) (q.map rq) = decide (p = q)
  | [], [] => by simp [eqDs]
  | [], _ :: _ => by simp [eqDs]
  | _ :: _, [] => by simp [eqDs]
  | x :: p, y :: q => by
    rw [List.map_cons, List.map_cons]
    unfold eqDs
    rw [eq_rq, eq_rqs p q, Bool.eq_iff_iff]
    simp
end P

set_option Elab.async false
set_option linter.all false
set_option maxRecDepth 100000
set_option maxHeartbeats 1000000
set_option exponentiation.threshold 20000
/-! means, beats, plainly -/
namespace P
open PySem DL
def dotQ (r m : List Rat) : Rat := sumR (List.zipWith (· * ·) r m)
def beatQ (T : List (List Rat)) (m : List Rat) : List Rat := T.map fun r => dotQ r m
theorem beatQ_len (T : List (List Rat)) (m : List Rat) : (beatQ T m).length = T.length := by simp [beatQ]
theorem dot_cons (x y : Rat) (r m : List Rat) : dotQ (x :: r) (y :: m) = x * y + dotQ r m := by
  unfold dotQ
  rw [List.zipWith_cons_cons, sumR_cons]
theorem zip_bq {n k N M : Nat} : ∀ {r m : List Rat}, (∀ q ∈ r, Bq n k q) → (∀ q ∈ m, Bq N M q) → ∀ q ∈ List.zipWith (· * ·) r m, Bq (n * N) (k * M) q
  | [], _, _, _, q, h => by simp at h
  | _ :: _, [], _, _, q, h => by simp at h
  | x :: r, y :: m, hr, hm, q, h => by
    rw [List.zipWith_cons_cons] at h
    rcases List.mem_cons.mp h with rfl | h
    · exact (hr x List.mem_cons_self).mul (hm y List.mem_cons_self)
    · exact zip_bq (fun z hz => hr z (List.mem_cons_of_mem _ hz)) (fun z hz => hm z (List.mem_cons_of_mem _ hz)) q h
theorem zip_len {r m : List Rat} (h : r.length = m.length) : (List.zipWith (· * ·) r m).length = m.length := by simp [h]
theorem dot_bq {N M c : Nat} {r m : List Rat} (hr : RowOk c r) (hm : ∀ q ∈ m, Bq N M q) (hN : 0 < N) (hl : m.length = c) (h5 : c ≤ 5) : Bq (L20 * N) (5 * (4 * L20 * M)) (dotQ r m) := by
  have := Bq.sum (n := L20 * N) (m := 4 * L20 * M) (Nat.mul_pos L20pos hN) (zip_bq hr.bq hm)
  refine this.mono (Nat.mul_le_mul_right _ ?_)
  rw [zip_len (by rw [hr.len, hl]), hl]
  exact h5
theorem beat_bq {N M : Nat} {ns : List Str} {T : List (List Rat)} {m : List Rat} (h : Circ ns T) (hm : ∀ q ∈ m, Bq N M q) (hN : 0 < N) (hl : m.length = ns.length) : ∀ q ∈ beatQ T m, Bq (L20 * N) (5 * (4 * L20 * M)) q := fun q hq => by
  obtain ⟨r, hr, rfl⟩ := List.mem_map.mp hq
  exact dot_bq (h.row r hr) hm hN hl h.five
/-- all of one mind -/
theorem dot_const (c : Rat) : ∀ (r : List Rat) (k : Nat), r.length = k → dotQ r (List.replicate k c) = sumR r * c
  | [], 0, _ => by
    show sumR [] = sumR [] * c
    rw [sumR_nil]
    grind
  | x :: r, k + 1, h => by
    rw [List.replicate_succ, dot_cons, dot_const c r k (by simpa using h), sumR_cons]
    grind
theorem beat_const {ns : List Str} {T : List (List Rat)} (h : Circ ns T) (c : Rat) : beatQ T (List.replicate ns.length c) = List.replicate ns.length c := by
  have e : ∀ r ∈ T, dotQ r (List.replicate ns.length c) = c := fun r hr => by
    rw [dot_const c r _ (h.row r hr).len, (h.row r hr).sum]
    grind
  unfold beatQ
  rw [List.map_congr_left e, List.map_const', h.sz]
/-- one trusted alone -/
theorem sum_zero : ∀ (r : List Rat), (∀ j (h : j < r.length), r[j] = 0) → sumR r = 0
  | [], _ => rfl
  | x :: r, h => by
    rw [sumR_cons, sum_zero r fun j hj => h (j + 1) (Nat.succ_lt_succ hj)]
    have := h 0 (by simp)
    simp at this
    rw [this]
    grind
theorem dot_zero : ∀ (r m : List Rat), (∀ j (h : j < r.length), r[j] = 0) → dotQ r m = 0
  | [], m, _ => by simp [dotQ, sumR_nil]
  | x :: r, [], _ => by simp [dotQ, sumR_nil]
  | x :: r, y :: m, h => by
    rw [dot_cons, dot_zero r m fun j hj => h (j + 1) (Nat.succ_lt_succ hj)]
    have := h 0 (by simp)
    simp at this
    rw [this]
    grind
theorem sum_alone : ∀ (r : List Rat) (i : Nat) (hi : i < r.length), (∀ j (h : j < r.length), j ≠ i → r[j] = 0) → sumR r = r[i]
  | x :: r, 0, hi, h => by
    rw [sumR_cons, sum_zero r fun j hj => h (j + 1) (Nat.succ_lt_succ hj) (by omega)]
    simp
    grind
  | x :: r, i + 1, hi, h => by
    rw [sumR_cons, sum_alone r i (by simpa using hi) fun j hj ne => h (j + 1) (Nat.succ_lt_succ hj) (by omega)]
    have := h 0 (by simp) (by omega)
    simp at this ⊢
    rw [this]
    grind
theorem dot_alone : ∀ (r m : List Rat) (i : Nat) (hi : i < r.length) (hm : i < m.length), (∀ j (h : j < r.length), j ≠ i → r[j] = 0) → dotQ r m = r[i] * m[i]
  | x :: r, y :: m, 0, hi, hm, h => by
    rw [dot_cons, dot_zero r m fun j hj => h (j + 1) (Nat.succ_lt_succ hj) (by omega)]
    simp
    grind
  | x :: r, y :: m, i + 1, hi, hm, h => by
    rw [dot_cons, dot_alone r m i (by simpa using hi) (by simpa using hm) fun j hj ne => h (j + 1) (Nat.succ_lt_succ hj) (by omega)]
    have := h 0 (by simp) (by omega)
    simp at this ⊢
    rw [this]
    grind
theorem num_pos' (q : Rat) : 0 < q.num ↔ 0 < q := by
  rw [Rat.lt_iff]
  simp
/-- whom a row trusts -/
def hearL (r : List Rat) : List Nat := (List.range r.length).filter fun j => decide (0 < r.getD j 0)
theorem hear_alone {c : Nat} {r m : List Rat} (hr : RowOk c r) {i : Nat} (hi : i < c) (hm : m.length = c) (e : hearL r = [i]) : dotQ r m = m.getD i 0 := by
  have hz : ∀ j (h : j < r.length), j ≠ i → r[j] = 0 := fun j h ne => by
    have nj : j ∉ hearL r := by
      rw [e]
      simpa using ne
    unfold hearL at nj
    rw [List.mem_filter] at nj
    have n2 : ¬ 0 < r.getD j 0 := fun z => nj ⟨List.mem_range.mpr h, decide_eq_true z⟩
    rw [List.getD_eq_getElem?_getD, List.getElem?_eq_getElem h] at n2
    have p := hr.pos r[j] (List.getElem_mem h)
    simp at n2
    exact Rat.le_antisymm (Rat.not_lt.mp n2) p
  have hi' : i < r.length := by rw [hr.len]; exact hi
  have hm' : i < m.length := by omega
  have s := sum_alone r i hi' hz
  rw [hr.sum] at s
  rw [dot_alone r m i hi' hm' hz, ← s, List.getD_eq_getElem?_getD, List.getElem?_eq_getElem hm']
  simp
/-! ### what is the same -/
def sB : Nat → D → Prop
  | 0, _ => False
  | _ + 1, .int _ => True
  | _ + 1, .bl _ => True
  | _ + 1, .non => True
  | _ + 1, .str _ => True
  | k + 1, .tup l => l.length ≤ 500000 ∧ ∀ d ∈ l, sB k d
  | _ + 1, .lst l => pureD PD (.lst l) = true
  | _ + 1, _ => False
theorem sB_rq (k : Nat) (q : Rat) : sB (k + 2) (rq q) := ⟨by simp, fun d hd => by
  simp only [List.mem_cons, List.not_mem_nil, or_false] at hd
  rcases hd with rfl | rfl <;> trivial⟩
theorem sB_row (k : Nat) (r : List Rat) (h : r.length ≤ 500000) : sB (k + 3) (rowD r) := ⟨by simpa [rowD] using h, fun d hd => by
  obtain ⟨q, _, rfl⟩ := List.mem_map.mp hd
  exact sB_rq k q⟩
theorem sB_strs (k : Nat) (r : List Str) (h : r.length ≤ 500000) : sB (k + 2) (.tup (r.map .str)) := ⟨by simpa using h, fun d hd => by
  obtain ⟨q, _, rfl⟩ := List.mem_map.mp hd
  trivial⟩
theorem sB_rows (k : Nat) (T : List (List Rat)) (h : T.length ≤ 500000) (h2 : ∀ r ∈ T, r.length ≤ 500000) : sB (k + 4) (.tup (T.map rowD)) := ⟨by simpa using h, fun d hd => by
  obtain ⟨r, hr, rfl⟩ := List.mem_map.mp hd
  exact sB_row k r (h2 r hr)⟩
end P
namespace P
open PySem DL
def afterQ (T : List (List Rat)) (m : List Rat) : Nat → List Rat
  | 0 => m
  | t + 1 => beatQ T (afterQ T m t)
theorem after_add (T : List (List Rat)) (m : List Rat) (s : Nat) : ∀ t, afterQ T (afterQ T m s) t = afterQ T m (s + t)
  | 0 => rfl
  | t + 1 => by
    show beatQ T (afterQ T (afterQ T m s) t) = beatQ T (afterQ T m (s + t))
    rw [after_add T m s t]
theorem after_len {ns : List Str} {T : List (List Rat)} (h : Circ ns T) {m : List Rat} (hl : m.length = ns.length) : ∀ t, (afterQ T m t).length = ns.length
  | 0 => hl
  | t + 1 => by
    show (beatQ T _).length = _
    rw [beatQ_len, h.sz]
theorem after_bq {ns : List Str} {T : List (List Rat)} (h : Circ ns T) {N M : Nat} {m : List Rat} (hm : ∀ q ∈ m, Bq N M q) (hN : 0 < N) (hl : m.length = ns.length) : ∀ t, ∀ q ∈ afterQ T m t, Bq (L20 ^ t * N) ((20 * L20) ^ t * M) q
  | 0 => by simpa [afterQ] using hm
  | t + 1 => fun q hq => by
    have b := beat_bq h (after_bq h hm hN hl t) (Nat.mul_pos (Nat.pow_pos L20pos) hN) (after_len h hl t) q hq
    have e1 : L20 ^ (t + 1) * N = L20 * (L20 ^ t * N) := by rw [Nat.pow_succ]; ac_rfl
    have e2 : (20 * L20) ^ (t + 1) * M = 5 * (4 * L20 * ((20 * L20) ^ t * M)) := by
      rw [Nat.pow_succ]
      have : 20 * L20 = 5 * (4 * L20) := by omega
      rw [this]
      ac_rfl
    rw [e1, e2]
    exact b
/-- what may be beaten so often -/
structure Fit (N M t : Nat) : Prop where
  pos : 0 < N
  hN : L20 ^ t * N < 2 ^ 4000
  hM : (20 * L20) ^ t * M < 2 ^ 4000
theorem Fit.less {N M t s : Nat} (h : Fit N M t) (l : s ≤ t) : Fit N M s :=
  ⟨h.pos, Nat.lt_of_le_of_lt (Nat.mul_le_mul_right _ (Nat.pow_le_pow_right L20pos l)) h.hN, Nat.lt_of_le_of_lt (Nat.mul_le_mul_right _ (Nat.pow_le_pow_right (by decide) l)) h.hM⟩
theorem Fit.one {N M t : Nat} (h : Fit N M (t + 1)) : L20 * (L20 ^ t * N) < 2 ^ 4000 ∧ 5 * (4 * L20 * ((20 * L20) ^ t * M)) < 2 ^ 4000 := by
  have h1 := h.hN
  have h2 := h.hM
  rw [Nat.pow_succ] at h1 h2
  constructor
  · rw [show L20 * (L20 ^ t * N) = L20 ^ t * L20 * N by ac_rfl]
    exact h1
  · rw [show 5 * (4 * L20 * ((20 * L20) ^ t * M)) = (20 * L20) ^ t * (5 * (4 * L20)) * M by ac_rfl, show 5 * (4 * L20) = 20 * L20 by omega]
    exact h2
theorem fit_more {N M t : Nat} (h : Fit N M t) (s r : Nat) (e : s + r ≤ t) : Fit (L20 ^ s * N) ((20 * L20) ^ s * M) r := by
  have g := h.less e
  refine ⟨Nat.mul_pos (Nat.pow_pos L20pos) g.pos, ?_, ?_⟩
  · have := g.hN
    rw [Nat.pow_add] at this
    rw [show L20 ^ r * (L20 ^ s * N) = L20 ^ s * L20 ^ r * N by ac_rfl]
    exact this
  · have := g.hM
    rw [Nat.pow_add] at this
    rw [show (20 * L20) ^ r * ((20 * L20) ^ s * M) = (20 * L20) ^ s * (20 * L20) ^ r * M by ac_rfl]
    exact this
theorem fit40 : Fit 60 1200 40 := by
  have a : L20 ≤ 2 ^ 28 := by decide
  have b : 20 * L20 ≤ 2 ^ 33 := by decide
  refine ⟨by decide, ?_, ?_⟩
  · refine Nat.lt_of_le_of_lt (Nat.mul_le_mul (Nat.pow_le_pow_left a 40) (show 60 ≤ 2 ^ 6 by decide)) ?_
    rw [← Nat.pow_mul, ← Nat.pow_add]
    exact Nat.pow_lt_pow_right (by decide) (by decide)
  · refine Nat.lt_of_le_of_lt (Nat.mul_le_mul (Nat.pow_le_pow_left b 40) (show 1200 ≤ 2 ^ 11 by decide)) ?_
    rw [← Nat.pow_mul, ← Nat.pow_add]
    exact Nat.pow_lt_pow_right (by decide) (by decide)
theorem eq_rows (p q : List Rat) : eqD (rowD p) (rowD q) = decide (p = q) := by
  unfold rowD eqD
  exact eq_rqs p q
theorem fNe_row (p : List Rat) : fNe (rowD p) (rowD p) = some (.val (.bl false)) := by
  have h : pureD PD (rowD p) = true := by
    show pureD 60 (.tup (p.map rq)) = true
    unfold pureD
    exact pure_rqs 58 p
  unfold fNe
  rw [h, eq_rows]
  simp [vB]
end P

set_option Elab.async false
set_option linter.all false
set_option maxRecDepth 100000
set_option maxHeartbeats 1000000
set_option exponentiation.threshold 20000
/-! spreads, plainly -/
namespace P
open PySem DL
def mnL (l : List Rat) (a : Rat) : Rat := l.foldl (fun a x => if x < a then x else a) a
def mxL (l : List Rat) (a : Rat) : Rat := l.foldl (fun a x => if a < x then x else a) a
theorem mn_le (l : List Rat) : ∀ a, mnL l a ≤ a ∧ ∀ y ∈ l, mnL l a ≤ y := by
  induction l with
  | nil => exact fun a => ⟨Rat.le_refl, fun y h => by cases h⟩
  | cons x l ih =>
    intro a
    show mnL l (if x < a then x else a) ≤ a ∧ _
    obtain ⟨h1, h2⟩ := ih (if x < a then x else a)
    have h3 : (if x < a then x else a) ≤ a ∧ (if x < a then x else a) ≤ x := by
      split <;> constructor <;> grind
    refine ⟨Rat.le_trans h1 h3.1, fun y hy => ?_⟩
    rcases List.mem_cons.mp hy with rfl | hy
    · exact Rat.le_trans h1 h3.2
    · exact h2 y hy
theorem mx_ge (l : List Rat) : ∀ a, a ≤ mxL l a ∧ ∀ y ∈ l, y ≤ mxL l a := by
  induction l with
  | nil => exact fun a => ⟨Rat.le_refl, fun y h => by cases h⟩
  | cons x l ih =>
    intro a
    show a ≤ mxL l (if a < x then x else a) ∧ _
    obtain ⟨h1, h2⟩ := ih (if a < x then x else a)
    have h3 : a ≤ (if a < x then x else a) ∧ x ≤ (if a < x then x else a) := by
      split <;> constructor <;> grind
    refine ⟨Rat.le_trans h3.1 h1, fun y hy => ?_⟩
    rcases List.mem_cons.mp hy with rfl | hy
    · exact Rat.le_trans h3.2 h1
    · exact h2 y hy
theorem mn_mem (l : List Rat) : ∀ a, mnL l a = a ∨ mnL l a ∈ l := by
  induction l with
  | nil => exact fun a => .inl rfl
  | cons x l ih =>
    intro a
    show mnL l (if x < a then x else a) = a ∨ mnL l (if x < a then x else a) ∈ x :: l
    rcases ih (if x < a then x else a) with h | h
    · rw [h]
      split
      · exact .inr List.mem_cons_self
      · exact .inl rfl
    · exact .inr (List.mem_cons_of_mem _ h)
theorem mx_mem (l : List Rat) : ∀ a, mxL l a = a ∨ mxL l a ∈ l := by
  induction l with
  | nil => exact fun a => .inl rfl
  | cons x l ih =>
    intro a
    show mxL l (if a < x then x else a) = a ∨ mxL l (if a < x then x else a) ∈ x :: l
    rcases ih (if a < x then x else a) with h | h
    · rw [h]
      split
      · exact .inr List.mem_cons_self
      · exact .inl rfl
    · exact .inr (List.mem_cons_of_mem _ h)
/-- the greatest less the least -/
def lowQ (l : List Rat) : Rat := mnL l (l.getD 0 0)
def highQ (l : List Rat) : Rat := mxL l (l.getD 0 0)
def spQ (l : List Rat) : Rat := highQ l - lowQ l
theorem head_mem {l : List Rat} (h : 1 ≤ l.length) : l.getD 0 0 ∈ l := by
  cases l with
  | nil => simp at h
  | cons x l => simp
theorem low_mem {l : List Rat} (h : 1 ≤ l.length) : lowQ l ∈ l := by
  rcases mn_mem l (l.getD 0 0) with e | e
  · unfold lowQ
    rw [e]
    exact head_mem h
  · exact e
theorem high_mem {l : List Rat} (h : 1 ≤ l.length) : highQ l ∈ l := by
  rcases mx_mem l (l.getD 0 0) with e | e
  · unfold highQ
    rw [e]
    exact head_mem h
  · exact e
theorem low_le {l : List Rat} {y : Rat} (h : y ∈ l) : lowQ l ≤ y := (mn_le l _).2 y h
theorem high_ge {l : List Rat} {y : Rat} (h : y ∈ l) : y ≤ highQ l := (mx_ge l _).2 y h
theorem dot_ge (a : Rat) : ∀ (r m : List Rat), r.length = m.length → (∀ q ∈ r, 0 ≤ q) → (∀ y ∈ m, a ≤ y) → sumR r * a ≤ dotQ r m
  | [], [], _, _, _ => by
    show sumR [] * a ≤ sumR []
    rw [sumR_nil]
    grind
  | x :: r, y :: m, hl, hr, hm => by
    rw [dot_cons, sumR_cons]
    have ih := dot_ge a r m (by simpa using hl) (fun q hq => hr q (List.mem_cons_of_mem _ hq)) fun q hq => hm q (List.mem_cons_of_mem _ hq)
    have h1 : x * a ≤ x * y := Rat.mul_le_mul_of_nonneg_left (hm y List.mem_cons_self) (hr x List.mem_cons_self)
    grind
theorem dot_le (a : Rat) : ∀ (r m : List Rat), r.length = m.length → (∀ q ∈ r, 0 ≤ q) → (∀ y ∈ m, y ≤ a) → dotQ r m ≤ sumR r * a
  | [], [], _, _, _ => by
    show sumR [] ≤ sumR [] * a
    rw [sumR_nil]
    grind
  | x :: r, y :: m, hl, hr, hm => by
    rw [dot_cons, sumR_cons]
    have ih := dot_le a r m (by simpa using hl) (fun q hq => hr q (List.mem_cons_of_mem _ hq)) fun q hq => hm q (List.mem_cons_of_mem _ hq)
    have h1 : x * y ≤ x * a := Rat.mul_le_mul_of_nonneg_left (hm y List.mem_cons_self) (hr x List.mem_cons_self)
    grind
theorem beat_within {ns : List Str} {T : List (List Rat)} (h : Circ ns T) {m : List Rat} (hl : m.length = ns.length) {x : Rat} (hx : x ∈ beatQ T m) : lowQ m ≤ x ∧ x ≤ highQ m := by
  obtain ⟨r, hr, rfl⟩ := List.mem_map.mp hx
  have rk := h.row r hr
  have a := dot_ge (lowQ m) r m (by rw [rk.len, hl]) rk.pos fun y hy => low_le hy
  have b := dot_le (highQ m) r m (by rw [rk.len, hl]) rk.pos fun y hy => high_ge hy
  rw [rk.sum] at a b
  constructor <;> grind
theorem spread_down {ns : List Str} {T : List (List Rat)} (h : Circ ns T) {m : List Rat} (hl : m.length = ns.length) : spQ (beatQ T m) ≤ spQ m := by
  have n1 : 1 ≤ (beatQ T m).length := by rw [beatQ_len, h.sz]; exact h.one
  have a := (beat_within h hl (low_mem n1)).1
  have b := (beat_within h hl (high_mem n1)).2
  unfold spQ
  grind
/-! ### moved, added -/
theorem dot_aff (w g : Rat) : ∀ (r m : List Rat), r.length = m.length → dotQ r (m.map fun x => x * w + g) = dotQ r m * w + sumR r * g
  | [], [], _ => by
    show sumR [] = sumR [] * w + sumR [] * g
    rw [sumR_nil]
    grind
  | x :: r, y :: m, h => by
    rw [List.map_cons, dot_cons, dot_cons, dot_aff w g r m (by simpa using h), sumR_cons]
    grind
theorem beat_aff {ns : List Str} {T : List (List Rat)} (h : Circ ns T) (w g : Rat) {m : List Rat} (hl : m.length = ns.length) : beatQ T (m.map fun x => x * w + g) = (beatQ T m).map fun x => x * w + g := by
  unfold beatQ
  rw [List.map_map]
  refine List.map_congr_left fun r hr => ?_
  have rk := h.row r hr
  rw [dot_aff w g r m (by rw [rk.len, hl]), rk.sum]
  show _ = dotQ r m * w + g
  grind
theorem after_aff {ns : List Str} {T : List (List Rat)} (h : Circ ns T) (w g : Rat) {m : List Rat} (hl : m.length = ns.length) : ∀ t, afterQ T (m.map fun x => x * w + g) t = (afterQ T m t).map fun x => x * w + g
  | 0 => rfl
  | t + 1 => by
    show beatQ T _ = (beatQ T _).map _
    rw [after_aff h w g hl t, beat_aff h w g (after_len h hl t)]
theorem dot_plus : ∀ (r m o : List Rat), r.length = m.length → m.length = o.length → dotQ r (List.zipWith (· + ·) m o) = dotQ r m + dotQ r o
  | [], [], [], _, _ => by
    show sumR [] = sumR [] + sumR []
    rw [sumR_nil]
    grind
  | x :: r, y :: m, z :: o, h1, h2 => by
    rw [List.zipWith_cons_cons, dot_cons, dot_cons, dot_cons, dot_plus r m o (by simpa using h1) (by simpa using h2)]
    grind
theorem beat_plus {ns : List Str} {T : List (List Rat)} (h : Circ ns T) {m o : List Rat} (hl : m.length = ns.length) (ho : o.length = ns.length) : beatQ T (List.zipWith (· + ·) m o) = List.zipWith (· + ·) (beatQ T m) (beatQ T o) := by
  unfold beatQ
  rw [List.zipWith_map, List.zipWith_self]
  refine List.map_congr_left fun r hr => ?_
  exact dot_plus r m o (by rw [(h.row r hr).len, hl]) (by rw [hl, ho])
theorem after_plus {ns : List Str} {T : List (List Rat)} (h : Circ ns T) {m o : List Rat} (hl : m.length = ns.length) (ho : o.length = ns.length) : ∀ t, afterQ T (List.zipWith (· + ·) m o) t = List.zipWith (· + ·) (afterQ T m t) (afterQ T o t)
  | 0 => rfl
  | t + 1 => by
    show beatQ T _ = List.zipWith _ (beatQ T _) (beatQ T _)
    rw [after_plus h hl ho t, beat_plus h (after_len h hl t) (after_len h ho t)]
end P

set_option Elab.async false
set_option linter.all false
set_option maxRecDepth 100000
set_option maxHeartbeats 2000000
set_option exponentiation.threshold 20000
/-! counts after beats, by columns -/
namespace P
open PySem DL
def unitQ (n j : Nat) : List Rat := (List.range n).map fun k => if k = j then 1 else 0
def rowsT (n : Nat) (C : List (List Rat)) : List (List Rat) := (List.range n).map fun i => C.map fun c => c.getD i 0
def colQ (T : List (List Rat)) (n t : Nat) : List (List Rat) := (List.range n).map fun j => afterQ T (unitQ n j) t
def cntQ (T : List (List Rat)) (n t : Nat) : List (List Rat) := rowsT n (colQ T n t)
theorem unit_len (n j : Nat) : (unitQ n j).length = n := by simp [unitQ]
theorem unit_get (n j k : Nat) (h : k < n) : (unitQ n j).getD k 0 = if k = j then 1 else 0 := by
  simp [unitQ, List.getD_eq_getElem?_getD, h]
theorem bq_one : Bq 60 1200 1 := ((show Bq 1 1 (1 : Rat) from ⟨by decide, 1, by rw [Rat.divInt_eq_div]; grind, by decide⟩).up 60 rfl (by decide)).mono (by decide)
theorem unit_bq (n j : Nat) : ∀ q ∈ unitQ n j, Bq 60 1200 q := fun q hq => by
  obtain ⟨k, _, rfl⟩ := List.mem_map.mp hq
  by_cases h : k = j
  · rw [if_pos h]
    exact bq_one
  · rw [if_neg h]
    exact (Bq.zero (by decide)).mono (Nat.zero_le _)
theorem rows_len (n : Nat) (C : List (List Rat)) : (rowsT n C).length = n := by simp [rowsT]
theorem rows_row (n : Nat) (C : List (List Rat)) : ∀ r ∈ rowsT n C, r.length = C.length := fun r hr => by
  obtain ⟨i, _, rfl⟩ := List.mem_map.mp hr
  simp
theorem col_len (T : List (List Rat)) (n t : Nat) : (colQ T n t).length = n := by simp [colQ]
theorem beat_get {T : List (List Rat)} {m : List Rat} {i : Nat} (h : i < T.length) : (beatQ T m).getD i 0 = dotQ T[i] m := by
  simp [beatQ, List.getD_eq_getElem?_getD, h]
/-- the next rows, by the columns as they are -/
theorem next_rows {ns : List Str} {T : List (List Rat)} (h : Circ ns T) (t : Nat) : cntQ T ns.length (t + 1) = T.map fun r => (colQ T ns.length t).map fun c => dotQ r c := by
  unfold cntQ rowsT
  apply List.ext_getElem
  · simp [h.sz]
  · intro i h1 h2
    have hi : i < T.length := by simpa [h.sz] using h1
    rw [List.getElem_map, List.getElem_map, List.getElem_range]
    unfold colQ
    rw [List.map_map, List.map_map]
    apply List.map_congr_left
    intro j _
    exact beat_get hi
theorem dot_unit : ∀ (r : List Rat) (j : Nat) (h : j < r.length), dotQ r (unitQ r.length j) = r[j] := fun r j h => by
  have lu := unit_len r.length j
  have : dotQ r (unitQ r.length j) = dotQ (unitQ r.length j) r := by
    unfold dotQ
    congr 1
    rw [List.zipWith_comm]
    congr 1
    funext a b
    exact Rat.mul_comm _ _
  rw [this, dot_alone (unitQ r.length j) r j (by omega) h fun k hk hkj => ?_]
  · have g := unit_get r.length j j h
    rw [if_pos rfl, List.getD_eq_getElem?_getD, List.getElem?_eq_getElem (by omega)] at g
    have g : (unitQ r.length j)[j] = 1 := g
    rw [g]
    grind
  · have g := unit_get r.length j k (by omega)
    rw [if_neg hkj, List.getD_eq_getElem?_getD, List.getElem?_eq_getElem (by omega)] at g
    exact g
/-- after one beat they are the trust -/
theorem cnt_one {ns : List Str} {T : List (List Rat)} (h : Circ ns T) : cntQ T ns.length 1 = T := by
  rw [next_rows h 0]
  apply List.ext_getElem
  · simp
  · intro i h1 h2
    rw [List.getElem_map]
    have hr := h.row T[i] (List.getElem_mem h2)
    apply List.ext_getElem
    · simp [colQ, hr.len]
    · intro j g1 g2
      have hj : j < ns.length := by rw [← hr.len]; exact g2
      rw [List.getElem_map]
      unfold colQ
      rw [List.getElem_map, List.getElem_range]
      show dotQ T[i] (unitQ ns.length j) = _
      rw [← hr.len]
      exact dot_unit T[i] j g2
theorem dot_swap (r : List Rat) : ∀ (C : List (List Rat)) (m : List Rat), C.length = m.length → (∀ c ∈ C, c.length = r.length) → dotQ (C.map fun c => dotQ r c) m = dotQ r ((List.range r.length).map fun k => dotQ (C.map fun c => c.getD k 0) m)
  | [], [], _, _ => by
    have z : (List.range r.length).map (fun k => dotQ ([].map fun c : List Rat => c.getD k 0) []) = (List.range r.length).map fun _ => (0 : Rat) := rfl
    rw [z]
    have z2 : (List.range r.length).map (fun _ => (0 : Rat)) = List.replicate r.length 0 := List.eq_replicate_iff.mpr ⟨by simp, fun b hb => by
      obtain ⟨_, _, rfl⟩ := List.mem_map.mp hb
      rfl⟩
    rw [z2, dot_const 0 r r.length rfl]
    show (0 : Rat) = _
    grind
  | [], _ :: _, h, _ => by simp at h
  | _ :: _, [], h, _ => by simp at h
  | c :: C, x :: m, h, hc => by
    have lc := hc c List.mem_cons_self
    have ih := dot_swap r C m (by simpa using h) fun c hc' => hc c (List.mem_cons_of_mem _ hc')
    rw [List.map_cons, dot_cons, ih]
    have e : (List.range r.length).map (fun k => dotQ ((c :: C).map fun c => c.getD k 0) (x :: m)) = List.zipWith (· + ·) (c.map fun y => y * x + 0) ((List.range r.length).map fun k => dotQ (C.map fun c => c.getD k 0) m) := by
      apply List.ext_getElem
      · simp [lc]
      · intro k h1 h2
        have hk : k < r.length := by simpa using h1
        rw [List.getElem_map, List.getElem_range, List.getElem_zipWith, List.getElem_map, List.getElem_map, List.getElem_range, List.map_cons, dot_cons]
        rw [List.getD_eq_getElem?_getD, List.getElem?_eq_getElem (by omega)]
        show c[k] * x + _ = c[k] * x + 0 + _
        grind
    rw [e, dot_plus r (c.map fun y => y * x + 0) _ (by simp [lc]) (by simp [lc]), dot_aff x 0 r c lc.symm]
    grind
theorem cnt_zero (T : List (List Rat)) (n : Nat) : cntQ T n 0 = (List.range n).map fun i => unitQ n i := by
  unfold cntQ rowsT
  apply List.map_congr_left
  intro i hi
  have hi := List.mem_range.mp hi
  unfold colQ unitQ
  rw [List.map_map]
  apply List.map_congr_left
  intro j hj
  show (unitQ n j).getD i 0 = _
  rw [unit_get n j i hi]
  by_cases z : i = j
  · rw [if_pos z, if_pos z.symm]
  · rw [if_neg z, if_neg (Ne.symm z)]
/-- minds after beats, by the counts -/
theorem after_cnt {ns : List Str} {T : List (List Rat)} (h : Circ ns T) {m : List Rat} (hl : m.length = ns.length) : ∀ t, afterQ T m t = beatQ (cntQ T ns.length t) m
  | 0 => by
    show m = _
    have e0 : cntQ T ns.length 0 = (List.range ns.length).map fun i => unitQ ns.length i := by
      unfold cntQ rowsT
      apply List.map_congr_left
      intro i hi
      have hi := List.mem_range.mp hi
      unfold colQ unitQ
      rw [List.map_map]
      apply List.map_congr_left
      intro j hj
      show (unitQ ns.length j).getD i 0 = _
      rw [unit_get ns.length j i hi]
      by_cases z : i = j
      · rw [if_pos z, if_pos z.symm]
      · rw [if_neg z, if_neg (Ne.symm z)]
    rw [e0]
    unfold beatQ
    rw [List.map_map]
    apply List.ext_getElem
    · simp [hl]
    · intro i h1 h2
      rw [List.getElem_map, List.getElem_range]
      show m[i] = dotQ (unitQ ns.length i) m
      have : dotQ (unitQ ns.length i) m = dotQ m (unitQ m.length i) := by
        rw [hl]
        unfold dotQ
        congr 1
        rw [List.zipWith_comm]
        congr 1
        funext a b
        exact Rat.mul_comm _ _
      rw [this, dot_unit m i h1]
  | t + 1 => by
    show beatQ T (afterQ T m t) = _
    rw [after_cnt h hl t, next_rows h t]
    unfold beatQ
    rw [List.map_map]
    apply List.map_congr_left
    intro r hr
    have lr := (h.row r hr).len
    show dotQ r ((cntQ T ns.length t).map fun q => dotQ q m) = dotQ ((colQ T ns.length t).map fun c => dotQ r c) m
    rw [dot_swap r (colQ T ns.length t) m (by rw [col_len, hl]) fun c hc => by
      obtain ⟨j, _, rfl⟩ := List.mem_map.mp hc
      rw [after_len h (unit_len _ _), lr]]
    unfold cntQ rowsT
    rw [List.map_map, lr]
    rfl
theorem dot_ones : ∀ r : List Rat, dotQ r (List.replicate r.length 1) = sumR r := fun r => by
  rw [dot_const 1 r r.length rfl]
  grind
/-- rows of counts are 1 together -/
theorem cnt_sum {ns : List Str} {T : List (List Rat)} (h : Circ ns T) (t : Nat) : ∀ r ∈ cntQ T ns.length t, sumR r = 1 := fun r hr => by
  have lr : r.length = ns.length := by rw [rows_row _ _ r hr, col_len]
  have e := after_cnt h (m := List.replicate ns.length 1) (by simp) t
  have c : ∀ t, afterQ T (List.replicate ns.length 1) t = List.replicate ns.length 1 := fun t => by
    induction t with
    | zero => rfl
    | succ t ih =>
      show beatQ T (afterQ T _ t) = _
      rw [ih, beat_const h]
  rw [c t] at e
  have mem : dotQ r (List.replicate ns.length 1) ∈ beatQ (cntQ T ns.length t) (List.replicate ns.length 1) := List.mem_map.mpr ⟨r, hr, rfl⟩
  rw [← e] at mem
  have := List.eq_of_mem_replicate mem
  rw [← lr, dot_ones r] at this
  exact this
end P

set_option Elab.async false
set_option linter.all false
set_option maxRecDepth 100000
set_option maxHeartbeats 2000000
set_option exponentiation.threshold 20000
/-! strains: the greatest number that two rows are apart -/
namespace P
open PySem DL
def minQ (a b : Rat) : Rat := if b < a then b else a
def apQ (p q : List Rat) : Rat := 1 - sumR (List.zipWith minQ p q)
def posQ (p q : List Rat) : Rat := sumR (List.zipWith (fun a b => if b < a then a - b else 0) p q)
theorem ap_pos : ∀ (p q : List Rat), p.length = q.length → sumR p - sumR (List.zipWith minQ p q) = posQ p q
  | [], [], _ => by
    show sumR [] - sumR [] = sumR []
    rw [sumR_nil]
    grind
  | [], _ :: _, h => by simp at h
  | _ :: _, [], h => by simp at h
  | a :: p, b :: q, h => by
    have ih := ap_pos p q (by simpa using h)
    unfold posQ at ih ⊢
    rw [List.zipWith_cons_cons, List.zipWith_cons_cons, sumR_cons, sumR_cons, sumR_cons]
    unfold minQ at ih ⊢
    by_cases z : b < a
    · rw [if_pos z, if_pos z]
      grind
    · rw [if_neg z, if_neg z]
      grind
theorem ap_eq {p q : List Rat} (h : p.length = q.length) (h1 : sumR p = 1) : apQ p q = posQ p q := by
  have := ap_pos p q h
  rw [h1] at this
  exact this
theorem key_ind (a b : Rat) : ∀ (p q w : List Rat), p.length = q.length → q.length = w.length → (∀ y ∈ w, a ≤ y ∧ y ≤ b) → dotQ p w - dotQ q w ≤ posQ p q * (b - a) + (sumR p - sumR q) * a
  | [], [], [], _, _, _ => by
    show sumR [] - sumR [] ≤ sumR [] * (b - a) + (sumR [] - sumR []) * a
    rw [sumR_nil]
    grind
  | [], _ :: _, _, h, _, _ => by simp at h
  | _ :: _, [], _, h, _, _ => by simp at h
  | [], [], _ :: _, _, h, _ => by simp at h
  | _ :: _, _ :: _, [], _, h, _ => by simp at h
  | x :: p, z :: q, y :: w, h, g, hw => by
    have ih := key_ind a b p q w (by simpa using h) (by simpa using g) fun y hy => hw y (List.mem_cons_of_mem _ hy)
    obtain ⟨h1, h2⟩ := hw y List.mem_cons_self
    rw [dot_cons, dot_cons, sumR_cons, sumR_cons]
    unfold posQ at ih ⊢
    rw [List.zipWith_cons_cons, sumR_cons]
    by_cases c : z < x
    · rw [if_pos c]
      have m : 0 ≤ (x - z) * (b - y) := Rat.mul_nonneg (by grind) (by grind)
      grind
    · rw [if_neg c]
      have m : 0 ≤ (z - x) * (y - a) := Rat.mul_nonneg (by grind) (by grind)
      grind
theorem key {p q w : List Rat} (h : p.length = q.length) (g : q.length = w.length) (h1 : sumR p = sumR q) : dotQ p w - dotQ q w ≤ posQ p q * spQ w := by
  have := key_ind (lowQ w) (highQ w) p q w h g fun y hy => ⟨low_le hy, high_ge hy⟩
  rw [h1] at this
  show _ ≤ posQ p q * (highQ w - lowQ w)
  grind
def sgnQ (p q : List Rat) : List Rat := List.zipWith (fun a b => if b < a then 1 else 0) p q
theorem attain : ∀ (p q : List Rat), p.length = q.length → posQ p q = dotQ p (sgnQ p q) - dotQ q (sgnQ p q)
  | [], [], _ => by
    show sumR [] = sumR [] - sumR []
    rw [sumR_nil]
    grind
  | [], _ :: _, h => by simp at h
  | _ :: _, [], h => by simp at h
  | a :: p, b :: q, h => by
    have ih := attain p q (by simpa using h)
    unfold posQ sgnQ at ih ⊢
    rw [List.zipWith_cons_cons, List.zipWith_cons_cons, sumR_cons, dot_cons, dot_cons]
    by_cases z : b < a
    · rw [if_pos z, if_pos z]
      grind
    · rw [if_neg z, if_neg z]
      grind
theorem sgn_len {p q : List Rat} (h : p.length = q.length) : (sgnQ p q).length = p.length := by simp [sgnQ, h]
theorem sgn_mem : ∀ (p q : List Rat), ∀ y ∈ sgnQ p q, 0 ≤ y ∧ y ≤ 1
  | [], _, y, h => by simp [sgnQ] at h
  | _ :: _, [], y, h => by simp [sgnQ] at h
  | a :: p, b :: q, y, h => by
    unfold sgnQ at h
    rw [List.zipWith_cons_cons] at h
    rcases List.mem_cons.mp h with rfl | h
    · by_cases z : b < a
      · rw [if_pos z]
        exact ⟨by decide, Rat.le_refl⟩
      · rw [if_neg z]
        exact ⟨Rat.le_refl, by decide⟩
    · exact sgn_mem p q y h
theorem pos_nn : ∀ (p q : List Rat), 0 ≤ posQ p q
  | [], _ => by simp [posQ, sumR]
  | _ :: _, [] => by simp [posQ, sumR]
  | a :: p, b :: q => by
    have ih := pos_nn p q
    unfold posQ at ih ⊢
    rw [List.zipWith_cons_cons, sumR_cons]
    by_cases z : b < a
    · rw [if_pos z]
      grind
    · rw [if_neg z]
      grind
theorem sp_unit {v : List Rat} (h : 1 ≤ v.length) (hv : ∀ y ∈ v, 0 ≤ y ∧ y ≤ 1) : spQ v ≤ 1 := by
  have a := hv _ (high_mem h)
  have b := hv _ (low_mem h)
  show highQ v - lowQ v ≤ 1
  grind
/-- the strain of rows: over each two of them, 0 of one row -/
def strainQ (R : List (List Rat)) : Rat := mxL (R.flatMap fun p => R.map fun q => apQ p q) 0
theorem strain_ge {R : List (List Rat)} {p q : List Rat} (hp : p ∈ R) (hq : q ∈ R) : apQ p q ≤ strainQ R :=
  (mx_ge _ 0).2 _ (List.mem_flatMap.mpr ⟨p, hp, List.mem_map.mpr ⟨q, hq, rfl⟩⟩)
theorem strain_nn (R : List (List Rat)) : 0 ≤ strainQ R := (mx_ge _ 0).1
theorem strain_le {R : List (List Rat)} {x : Rat} (h0 : 0 ≤ x) (h : ∀ p ∈ R, ∀ q ∈ R, apQ p q ≤ x) : strainQ R ≤ x := by
  rcases mx_mem (R.flatMap fun p => R.map fun q => apQ p q) 0 with e | e
  · unfold strainQ
    rw [e]
    exact h0
  · obtain ⟨p, hp, hq⟩ := List.mem_flatMap.mp e
    obtain ⟨q, hq, eq⟩ := List.mem_map.mp hq
    unfold strainQ
    rw [← eq]
    exact h p hp q hq
/-- what minds come to be, seen by the counts: no wider than the strain lets them -/
theorem spread_strain {ns : List Str} {T : List (List Rat)} (h : Circ ns T) {w : List Rat} (hl : w.length = ns.length) (t : Nat) : spQ (afterQ T w t) ≤ strainQ (cntQ T ns.length t) * spQ w := by
  have l1 : 1 ≤ (afterQ T w t).length := by rw [after_len h hl]; exact h.one
  have w1 : 1 ≤ w.length := by rw [hl]; exact h.one
  have e := after_cnt h hl t
  have hm := high_mem l1
  have lm := low_mem l1
  have mem : ∀ y ∈ afterQ T w t, ∃ r ∈ cntQ T ns.length t, dotQ r w = y := fun y hy => by
    rw [e] at hy
    obtain ⟨r, hr, q⟩ := List.mem_map.mp hy
    exact ⟨r, hr, q⟩
  obtain ⟨p, hp, ep⟩ := mem _ hm
  obtain ⟨q, hq, eq⟩ := mem _ lm
  have lp : p.length = ns.length := by rw [rows_row _ _ p hp, col_len]
  have lq : q.length = ns.length := by rw [rows_row _ _ q hq, col_len]
  have k := key (p := p) (q := q) (w := w) (by omega) (by omega) (by rw [cnt_sum h t p hp, cnt_sum h t q hq])
  rw [← ap_eq (by omega) (cnt_sum h t p hp)] at k
  have s0 : 0 ≤ spQ w := by
    have a := low_le (head_mem w1)
    have b := high_ge (head_mem w1)
    show 0 ≤ highQ w - lowQ w
    grind
  have g := strain_ge hp hq
  have m : 0 ≤ (strainQ (cntQ T ns.length t) - apQ p q) * spQ w := Rat.mul_nonneg (by grind) s0
  show highQ (afterQ T w t) - lowQ (afterQ T w t) ≤ _
  rw [← ep, ← eq]
  grind
/-- the strain of both parts is no more than the product -/
theorem strain_mul {ns : List Str} {T : List (List Rat)} (h : Circ ns T) (s t : Nat) : strainQ (cntQ T ns.length (s + t)) ≤ strainQ (cntQ T ns.length s) * strainQ (cntQ T ns.length t) := by
  refine strain_le (Rat.mul_nonneg (strain_nn _) (strain_nn _)) fun p hp q hq => ?_
  have lp : p.length = ns.length := by rw [rows_row _ _ p hp, col_len]
  have lq : q.length = ns.length := by rw [rows_row _ _ q hq, col_len]
  have sp := cnt_sum h (s + t) p hp
  rw [ap_eq (by omega) sp, attain p q (by omega)]
  have lv : (sgnQ p q).length = ns.length := by rw [sgn_len (by omega), lp]
  have v1 := sp_unit (v := sgnQ p q) (by rw [lv]; exact h.one) (sgn_mem p q)
  have b1 := spread_strain h lv s
  have lw := after_len h lv s
  have b2 := spread_strain h lw t
  rw [after_add] at b2
  have mem : ∀ r ∈ cntQ T ns.length (s + t), dotQ r (sgnQ p q) ∈ afterQ T (sgnQ p q) (s + t) := fun r hr => by
    rw [after_cnt h lv (s + t)]
    exact List.mem_map.mpr ⟨r, hr, rfl⟩
  have h1 := high_ge (mem p hp)
  have h2 := low_le (mem q hq)
  have m1 : 0 ≤ strainQ (cntQ T ns.length t) * (strainQ (cntQ T ns.length s) * 1 - spQ (afterQ T (sgnQ p q) s)) := by
    refine Rat.mul_nonneg (strain_nn _) ?_
    have m0 : 0 ≤ strainQ (cntQ T ns.length s) * (1 - spQ (sgnQ p q)) := Rat.mul_nonneg (strain_nn _) (by grind)
    grind
  have e : spQ (afterQ T (sgnQ p q) (s + t)) = highQ (afterQ T (sgnQ p q) (s + t)) - lowQ (afterQ T (sgnQ p q) (s + t)) := rfl
  grind
theorem pos_le_one : ∀ (p q : List Rat), p.length = q.length → (∀ x ∈ q, 0 ≤ x) → (∀ x ∈ p, 0 ≤ x) → posQ p q ≤ sumR p
  | [], [], _, _, _ => by simp [posQ, sumR]
  | [], _ :: _, h, _, _ => by simp at h
  | _ :: _, [], h, _, _ => by simp at h
  | a :: p, b :: q, h, h1, h2 => by
    have ih := pos_le_one p q (by simpa using h) (fun x hx => h1 x (List.mem_cons_of_mem _ hx)) fun x hx => h2 x (List.mem_cons_of_mem _ hx)
    have b0 := h1 b List.mem_cons_self
    have a0 := h2 a List.mem_cons_self
    unfold posQ at ih ⊢
    rw [List.zipWith_cons_cons, sumR_cons, sumR_cons]
    by_cases z : b < a
    · rw [if_pos z]
      grind
    · rw [if_neg z]
      grind
end P

set_option Elab.async false
set_option linter.all false
set_option maxRecDepth 100000
set_option maxHeartbeats 2000000
set_option exponentiation.threshold 20000
/-! strains by formulas -/
namespace P
open PySem DL
theorem after_nn {ns : List Str} {T : List (List Rat)} (h : Circ ns T) {m : List Rat} (hl : m.length = ns.length) (hm : ∀ y ∈ m, 0 ≤ y) : ∀ t, ∀ y ∈ afterQ T m t, 0 ≤ y
  | 0 => hm
  | t + 1 => fun y hy => by
    have w := (beat_within h (after_len h hl t) hy).1
    have l1 : 1 ≤ (afterQ T m t).length := by rw [after_len h hl]; exact h.one
    have := after_nn h hl hm t _ (low_mem l1)
    grind
theorem cnt_nn {ns : List Str} {T : List (List Rat)} (h : Circ ns T) (t : Nat) : ∀ r ∈ cntQ T ns.length t, ∀ x ∈ r, 0 ≤ x := fun r hr x hx => by
  obtain ⟨i, hi, rfl⟩ := List.mem_map.mp hr
  obtain ⟨c, hc, rfl⟩ := List.mem_map.mp hx
  obtain ⟨j, _, rfl⟩ := List.mem_map.mp hc
  have hi := List.mem_range.mp hi
  have l := after_len h (unit_len ns.length j) t
  have g : (afterQ T (unitQ ns.length j) t).getD i 0 = (afterQ T (unitQ ns.length j) t)[i] := by
    rw [List.getD_eq_getElem?_getD, List.getElem?_eq_getElem (by omega)]
    rfl
  rw [g]
  refine after_nn h (unit_len _ _) (fun y hy => ?_) t _ (List.getElem_mem _)
  obtain ⟨k, _, rfl⟩ := List.mem_map.mp hy
  split
  · decide
  · exact Rat.le_refl
theorem strain_one {ns : List Str} {T : List (List Rat)} (h : Circ ns T) (t : Nat) : strainQ (cntQ T ns.length t) ≤ 1 := by
  refine strain_le (by decide) fun p hp q hq => ?_
  have lp : p.length = ns.length := by rw [rows_row _ _ p hp, col_len]
  have lq : q.length = ns.length := by rw [rows_row _ _ q hq, col_len]
  have s := cnt_sum h t p hp
  rw [ap_eq (by omega) s, ← s]
  exact pos_le_one p q (by omega) (cnt_nn h t q hq) (cnt_nn h t p hp)
theorem strain_zero {ns : List Str} {T : List (List Rat)} (h : Circ ns T) (h2 : 2 ≤ ns.length) : strainQ (cntQ T ns.length 0) = 1 := by
  have a := strain_one h 0
  have m0 : unitQ ns.length 0 ∈ cntQ T ns.length 0 := by
    rw [cnt_zero]
    exact List.mem_map.mpr ⟨0, List.mem_range.mpr (by omega), rfl⟩
  have m1 : unitQ ns.length 1 ∈ cntQ T ns.length 0 := by
    rw [cnt_zero]
    exact List.mem_map.mpr ⟨1, List.mem_range.mpr (by omega), rfl⟩
  have b := strain_ge m0 m1
  have z : sumR (List.zipWith minQ (unitQ ns.length 0) (unitQ ns.length 1)) = 0 := by
    refine sum_zero _ fun j hj => ?_
    rw [List.getElem_zipWith]
    unfold unitQ
    rw [List.getElem_map, List.getElem_map, List.getElem_range]
    unfold minQ
    by_cases z0 : j = 0
    · subst z0
      decide
    · by_cases z1 : j = 1
      · subst z1
        decide
      · simp [z0, z1]
  have e : apQ (unitQ ns.length 0) (unitQ ns.length 1) = 1 := by
    unfold apQ
    rw [z]
    grind
  rw [e] at b
  grind
theorem strain_up {ns : List Str} {T : List (List Rat)} (h : Circ ns T) (t : Nat) {X : Rat} (h0 : 0 ≤ X) (hs : ∀ s : List Rat, s.length = ns.length → (∀ y ∈ s, 0 ≤ y ∧ y ≤ 1) → ∀ x ∈ afterQ T s t, ∀ y ∈ afterQ T s t, x - y ≤ X) : strainQ (cntQ T ns.length t) ≤ X := by
  refine strain_le h0 fun p hp q hq => ?_
  have lp : p.length = ns.length := by rw [rows_row _ _ p hp, col_len]
  have lq : q.length = ns.length := by rw [rows_row _ _ q hq, col_len]
  have sp := cnt_sum h t p hp
  rw [ap_eq (by omega) sp, attain p q (by omega)]
  have lv : (sgnQ p q).length = ns.length := by rw [sgn_len (by omega), lp]
  have mem : ∀ r ∈ cntQ T ns.length t, dotQ r (sgnQ p q) ∈ afterQ T (sgnQ p q) t := fun r hr => by
    rw [after_cnt h lv t]
    exact List.mem_map.mpr ⟨r, hr, rfl⟩
  exact hs _ lv (sgn_mem p q) _ (mem p hp) _ (mem q hq)
theorem strain_lo {ns : List Str} {T : List (List Rat)} (h : Circ ns T) (t : Nat) {w : List Rat} (hl : w.length = ns.length) (hw : ∀ y ∈ w, 0 ≤ y ∧ y ≤ 1) {x y : Rat} (hx : x ∈ afterQ T w t) (hy : y ∈ afterQ T w t) : x - y ≤ strainQ (cntQ T ns.length t) := by
  have a := spread_strain h hl t
  have b := sp_unit (by rw [hl]; exact h.one) hw
  have c := high_ge hx
  have d := low_le hy
  have e : spQ (afterQ T w t) = highQ (afterQ T w t) - lowQ (afterQ T w t) := rfl
  have n := strain_nn (cntQ T ns.length t)
  have m : 0 ≤ strainQ (cntQ T ns.length t) * (1 - spQ w) := Rat.mul_nonneg n (by grind)
  grind
/-! two people -/
def absQ (g : Rat) : Rat := if g < 0 then -g else g
theorem abs_nn (g : Rat) : 0 ≤ absQ g := by
  unfold absQ
  split <;> grind
theorem pow_nn {g : Rat} (h : 0 ≤ g) : ∀ t : Nat, 0 ≤ g ^ t
  | 0 => by rw [Rat.pow_zero]; decide
  | t + 1 => by
    rw [Rat.pow_succ]
    exact Rat.mul_nonneg (pow_nn h t) h
theorem abs_pow (g : Rat) : ∀ t : Nat, g ^ t = absQ g ^ t ∨ g ^ t = -(absQ g ^ t)
  | 0 => by
    rw [Rat.pow_zero, Rat.pow_zero]
    exact .inl rfl
  | t + 1 => by
    have a : g = absQ g ∨ g = -absQ g := by
      unfold absQ
      split <;> grind
    rw [Rat.pow_succ, Rat.pow_succ]
    rcases abs_pow g t with e | e <;> rcases a with f | f
    · exact .inl (by rw [e]; rw [← f])
    · refine .inr ?_
      rw [e]
      have : absQ g ^ t * g = absQ g ^ t * (-absQ g) := by rw [← f]
      grind
    · refine .inr ?_
      rw [e]
      have : absQ g ^ t * g = absQ g ^ t * absQ g := by rw [← f]
      grind
    · refine .inl ?_
      rw [e]
      have : absQ g ^ t * g = absQ g ^ t * (-absQ g) := by rw [← f]
      grind
def twoT (p q : Rat) : List (List Rat) := [[1 - p, p], [q, 1 - q]]
theorem two_beat (p q a b : Rat) : beatQ (twoT p q) [a, b] = [(1 - p) * a + p * b, q * a + (1 - q) * b] := by
  unfold twoT beatQ
  simp [dotQ, sumR_cons, sumR_nil]
  grind
theorem two_diff (p q x y : Rat) : ∀ t : Nat, ∃ a b : Rat, afterQ (twoT p q) [x, y] t = [a, b] ∧ a - b = (1 - (p + q)) ^ t * (x - y)
  | 0 => ⟨x, y, rfl, by rw [Rat.pow_zero]; grind⟩
  | t + 1 => by
    obtain ⟨a, b, e, d⟩ := two_diff p q x y t
    refine ⟨(1 - p) * a + p * b, q * a + (1 - q) * b, ?_, ?_⟩
    · show beatQ _ (afterQ _ _ t) = _
      rw [e]
      exact two_beat p q a b
    · rw [Rat.pow_succ]
      have : (1 - p) * a + p * b - (q * a + (1 - q) * b) = (1 - (p + q)) * (a - b) := by grind
      rw [this, d]
      grind
theorem two_strain {ns : List Str} {p q : Rat} (h : Circ ns (twoT p q)) (t : Nat) : strainQ (cntQ (twoT p q) ns.length t) = absQ (1 - (p + q)) ^ t := by
  have l2 : ns.length = 2 := h.sz.symm
  have n0 := pow_nn (abs_nn (1 - (p + q))) t
  have ab := abs_pow (1 - (p + q)) t
  have up : strainQ (cntQ (twoT p q) ns.length t) ≤ absQ (1 - (p + q)) ^ t := by
    refine strain_up h t n0 fun s hl hs x hx y hy => ?_
    rw [l2] at hl
    match s, hl with
    | [s0, s1], _ =>
      obtain ⟨a, b, e, d⟩ := two_diff p q s0 s1 t
      rw [e] at hx hy
      have h0 := hs s0 (by simp)
      have h1 := hs s1 (by simp)
      generalize absQ (1 - (p + q)) ^ t = G at n0 ab ⊢
      have m1 : 0 ≤ G * (1 - (s0 - s1)) := Rat.mul_nonneg n0 (by grind)
      have m2 : 0 ≤ G * (1 + (s0 - s1)) := Rat.mul_nonneg n0 (by grind)
      simp only [List.mem_cons, List.not_mem_nil, or_false] at hx hy
      rcases ab with f | f <;> rw [f] at d <;> rcases hx with rfl | rfl <;> rcases hy with rfl | rfl <;> grind
  obtain ⟨a, b, e, d⟩ := two_diff p q 1 0 t
  have w : ∀ y ∈ [(1 : Rat), 0], 0 ≤ y ∧ y ≤ 1 := fun y hy => by
    simp only [List.mem_cons, List.not_mem_nil, or_false] at hy
    rcases hy with rfl | rfl <;> decide
  have lo1 := strain_lo h t (w := [1, 0]) l2.symm w (x := a) (y := b) (by rw [e]; simp) (by rw [e]; simp)
  have lo2 := strain_lo h t (w := [1, 0]) l2.symm w (x := b) (y := a) (by rw [e]; simp) (by rw [e]; simp)
  generalize absQ (1 - (p + q)) ^ t = G at n0 ab up ⊢
  generalize strainQ (cntQ (twoT p q) ns.length t) = S at up lo1 lo2 ⊢
  rcases ab with f | f <;> rw [f] at d <;> grind
/-! like rows -/
theorem like_strain {ns : List Str} {T : List (List Rat)} (h : Circ ns T) {r : List Rat} (hr : ∀ p ∈ T, p = r) (t : Nat) : strainQ (cntQ T ns.length (t + 1)) = 0 := by
  have up : strainQ (cntQ T ns.length (t + 1)) ≤ 0 := by
    refine strain_up h (t + 1) Rat.le_refl fun s hl hs x hx y hy => ?_
    obtain ⟨p, hp, rfl⟩ := List.mem_map.mp hx
    obtain ⟨q, hq, rfl⟩ := List.mem_map.mp hy
    rw [hr p hp, hr q hq]
    grind
  have n := strain_nn (cntQ T ns.length (t + 1))
  grind
/-! alone -/
theorem alone_after {T : List (List Rat)} {n : Nat} (hb : ∀ m : List Rat, m.length = n → beatQ T m = m) : ∀ (t : Nat) (m : List Rat), m.length = n → afterQ T m t = m
  | 0, m, _ => rfl
  | t + 1, m, hl => by
    show beatQ T (afterQ T m t) = m
    rw [alone_after hb t m hl, hb m hl]
theorem alone_cnt {T : List (List Rat)} {n : Nat} (hb : ∀ m : List Rat, m.length = n → beatQ T m = m) (t : Nat) : cntQ T n t = cntQ T n 0 := by
  unfold cntQ
  congr 1
  unfold colQ
  refine List.map_congr_left fun j _ => ?_
  rw [alone_after hb t _ (unit_len _ _)]
  rfl
/-! one whom all trust -/
theorem lone_after {T : List (List Rat)} {n : Nat} {r : Rat} (hb : ∀ m : List Rat, m.length = n → beatQ T m = m.map fun x => x * r + m.getD 0 0 * (1 - r)) (h1 : 1 ≤ n) : ∀ (t : Nat) (s : List Rat), s.length = n → afterQ T s t = s.map fun x => x * r ^ t + s.getD 0 0 * (1 - r ^ t)
  | 0, s, hl => by
    show s = _
    conv => lhs; rw [← List.map_id s]
    refine List.map_congr_left fun x _ => ?_
    rw [Rat.pow_zero]
    show x = _
    grind
  | t + 1, s, hl => by
    show beatQ T (afterQ T s t) = _
    rw [lone_after hb h1 t s hl, hb _ (by rw [List.length_map]; exact hl), List.map_map]
    have g0 : (s.map fun x => x * r ^ t + s.getD 0 0 * (1 - r ^ t)).getD 0 0 = s.getD 0 0 := by
      cases s with
      | nil => simp at hl; omega
      | cons a s =>
        simp
        grind
    rw [g0]
    refine List.map_congr_left fun x _ => ?_
    show (x * r ^ t + s.getD 0 0 * (1 - r ^ t)) * r + s.getD 0 0 * (1 - r) = _
    rw [Rat.pow_succ]
    grind
theorem lone_strain {ns : List Str} {T : List (List Rat)} (h : Circ ns T) {r : Rat} (hb : ∀ m : List Rat, m.length = ns.length → beatQ T m = m.map fun x => x * r + m.getD 0 0 * (1 - r)) (r0 : 0 ≤ r) (h2 : 2 ≤ ns.length) (t : Nat) : strainQ (cntQ T ns.length t) = r ^ t := by
  have n0 := pow_nn r0 t
  have up : strainQ (cntQ T ns.length t) ≤ r ^ t := by
    refine strain_up h t n0 fun s hl hs x hx y hy => ?_
    rw [lone_after hb (by omega) t s hl] at hx hy
    obtain ⟨u, hu, rfl⟩ := List.mem_map.mp hx
    obtain ⟨v, hv, rfl⟩ := List.mem_map.mp hy
    have a := hs u hu
    have b := hs v hv
    have m : 0 ≤ r ^ t * (1 - (u - v)) := Rat.mul_nonneg n0 (by grind)
    grind
  have lw : (unitQ ns.length 1).length = ns.length := unit_len _ _
  have ew := lone_after hb (by omega) t (unitQ ns.length 1) lw
  have u0 : (unitQ ns.length 1).getD 0 0 = 0 := by rw [unit_get _ _ _ (by omega)]; rfl
  have m1 : (1 : Rat) ∈ unitQ ns.length 1 := List.mem_map.mpr ⟨1, List.mem_range.mpr (by omega), rfl⟩
  have m0 : (0 : Rat) ∈ unitQ ns.length 1 := List.mem_map.mpr ⟨0, List.mem_range.mpr (by omega), rfl⟩
  rw [u0] at ew
  have lo := strain_lo h t lw (fun y hy => by
    obtain ⟨k, _, rfl⟩ := List.mem_map.mp hy
    split <;> decide) (x := 1 * r ^ t + 0 * (1 - r ^ t)) (y := 0 * r ^ t + 0 * (1 - r ^ t)) (by rw [ew]; exact List.mem_map.mpr ⟨1, m1, rfl⟩) (by rw [ew]; exact List.mem_map.mpr ⟨0, m0, rfl⟩)
  grind
end P

set_option Elab.async false
set_option linter.all false
set_option maxRecDepth 100000
set_option maxHeartbeats 2000000
set_option exponentiation.threshold 20000
/-! the circles of the formulas -/
namespace P
open PySem DL
def nmsN (n : Nat) : List Str := [sg 98, sg 99, sg 100, sg 102, sg 103].take n
theorem nms5 : Nms [sg 98, sg 99, sg 100, sg 102, sg 103] := by
  refine ⟨fun s hs => ?_, ?_⟩
  · simp only [List.mem_cons, List.not_mem_nil, or_false] at hs
    rcases hs with rfl | rfl | rfl | rfl | rfl <;> exact ⟨by decide +kernel, by decide +kernel, by decide +kernel, by decide +kernel⟩
  · unfold Asc
    simp [sg]
    decide
theorem nmsN_ok (n : Nat) : Nms (nmsN n) := ⟨fun s hs => nms5.ok s (List.mem_of_mem_take hs), List.Pairwise.sublist (List.take_sublist _ _) nms5.asc⟩
theorem nmsN_len {n : Nat} (h : n ≤ 5) : (nmsN n).length = n := by
  unfold nmsN
  rw [List.length_take]
  simp
  omega
def En (q : Rat) : Prop := 0 ≤ q ∧ Bq L20 (4 * L20) q
theorem en0 : En 0 := ⟨Rat.le_refl, (Bq.zero L20pos).mono (by decide)⟩
theorem bq_nat {s k : Nat} (h : 0 < s) (h2 : s < 21) (hk : k ≤ s) : Bq L20 (4 * L20) (Rat.divInt (k : Nat) (s : Nat)) := by
  have b : Bq s s (Rat.divInt (k : Nat) (s : Nat)) := ⟨h, k, rfl, by omega⟩
  have dv := dvd20 s h2 h
  have e : L20 = s * (L20 / s) := by
    have := Nat.div_add_mod L20 s
    omega
  have kp : 0 < L20 / s := Nat.div_pos (Nat.le_of_dvd L20pos (Nat.dvd_of_mod_eq_zero dv)) h
  exact (b.up (L20 / s) e kp).mono (by rw [← e]; omega)
theorem one_div : (1 : Rat) = Rat.divInt (1 : Nat) (1 : Nat) := by
  rw [Rat.divInt_eq_div]
  simp
  grind
theorem en1 : En 1 := ⟨by decide, by rw [one_div]; exact bq_nat (by decide) (by decide) (Nat.le_refl _)⟩
theorem fr_nn (k s : Nat) : 0 ≤ Rat.divInt (k : Nat) (s : Nat) := by
  rw [← Rat.num_nonneg, Rat.num_divInt]
  by_cases h : s = 0
  · subst h
    simp
  · rw [Int.sign_eq_one_of_pos (by omega), Int.one_mul]
    exact Int.ediv_nonneg (by omega) (by omega)
theorem fr_rest {k s : Nat} (h : 0 < s) (hk : k ≤ s) : 1 - Rat.divInt (k : Nat) (s : Nat) = Rat.divInt ((s - k : Nat) : Int) (s : Nat) := by
  have z := rat_ne h
  rw [Rat.divInt_eq_div, Rat.divInt_eq_div, Int.ofNat_sub hk]
  simp only [Rat.intCast_sub, Rat.intCast_natCast]
  grind
theorem en_fr {k s : Nat} (h : 0 < s) (h2 : s < 21) (hk : k ≤ s) : En (Rat.divInt (k : Nat) (s : Nat)) ∧ En (1 - Rat.divInt (k : Nat) (s : Nat)) :=
  ⟨⟨fr_nn _ _, bq_nat h h2 hk⟩, by rw [fr_rest h hk]; exact ⟨fr_nn _ _, bq_nat h h2 (by omega)⟩⟩
theorem row_en {n : Nat} {r : List Rat} (hl : r.length = n) (h : ∀ q ∈ r, En q) (hs : sumR r = 1) : RowOk n r := ⟨hl, fun q hq => (h q hq).1, hs, fun q hq => (h q hq).2⟩
/-! two -/
theorem two_circ {i j : Nat} (hi : i ≤ 10) (hj : j ≤ 10) : Circ (nmsN 2) (twoT (Rat.divInt (i : Nat) (10 : Nat)) (Rat.divInt (j : Nat) (10 : Nat))) := by
  have a := en_fr (s := 10) (by decide) (by decide) hi
  have b := en_fr (s := 10) (by decide) (by decide) hj
  generalize Rat.divInt (i : Nat) (10 : Nat) = p at a ⊢
  generalize Rat.divInt (j : Nat) (10 : Nat) = q at b ⊢
  refine ⟨nmsN_ok 2, by decide, by decide, rfl, fun r hr => ?_⟩
  have hr : r ∈ [[1 - p, p], [q, 1 - q]] := hr
  simp only [List.mem_cons, List.not_mem_nil, or_false] at hr
  rcases hr with rfl | rfl
  · refine row_en rfl (fun x hx => ?_) ?_
    · simp only [List.mem_cons, List.not_mem_nil, or_false] at hx
      rcases hx with rfl | rfl
      · exact a.2
      · exact a.1
    · rw [sumR_cons, sumR_cons, sumR_nil]
      grind
  · refine row_en rfl (fun x hx => ?_) ?_
    · simp only [List.mem_cons, List.not_mem_nil, or_false] at hx
      rcases hx with rfl | rfl
      · exact b.1
      · exact b.2
    · rw [sumR_cons, sumR_cons, sumR_nil]
      grind
/-! units -/
theorem unit_at {n i j : Nat} (h : j < (unitQ n i).length) : (unitQ n i)[j] = if j = i then 1 else 0 := by
  simp only [unitQ, List.getElem_map, List.getElem_range]
theorem unit_row {n i : Nat} (h : i < n) : RowOk n (unitQ n i) := by
  refine row_en (unit_len _ _) (fun q hq => ?_) ?_
  · obtain ⟨k, _, rfl⟩ := List.mem_map.mp hq
    split
    · exact en1
    · exact en0
  · rw [sum_alone (unitQ n i) i (by rw [unit_len]; exact h) fun j hj ne => by rw [unit_at, if_neg ne], unit_at, if_pos rfl]
theorem like_circ {n : Nat} (h1 : 1 ≤ n) (h5 : n ≤ 5) {r : List Rat} (hr : RowOk n r) : Circ (nmsN n) (List.replicate n r) := by
  refine ⟨nmsN_ok n, by rw [nmsN_len h5]; exact h1, by rw [nmsN_len h5]; exact h5, by rw [nmsN_len h5, List.length_replicate], fun p hp => ?_⟩
  rw [nmsN_len h5, List.eq_of_mem_replicate hp]
  exact hr
theorem mean_row {n : Nat} (h1 : 1 ≤ n) (h5 : n ≤ 5) : RowOk n (List.replicate n (Rat.divInt (1 : Nat) (n : Nat))) := by
  refine row_en (by simp) (fun q hq => ?_) ?_
  · rw [List.eq_of_mem_replicate hq]
    exact (en_fr (by omega) (by omega) h1).1
  · have e : List.replicate n (Rat.divInt (1 : Nat) (n : Nat)) = (List.replicate n 1).map fun (x : Nat) => Rat.divInt (x : Nat) (n : Nat) := by
      rw [List.map_replicate]
    rw [e, rowSum n (by omega)]
    have s : (List.replicate n 1).sum = n := by simp
    rw [s, Rat.divInt_eq_div]
    have z := rat_ne (n := n) (by omega)
    simp only [Rat.intCast_natCast]
    grind
def uT (n : Nat) : List (List Rat) := (List.range n).map fun i => unitQ n i
theorem alone_circ {n : Nat} (h1 : 1 ≤ n) (h5 : n ≤ 5) : Circ (nmsN n) (uT n) := by
  refine ⟨nmsN_ok n, by rw [nmsN_len h5]; exact h1, by rw [nmsN_len h5]; exact h5, by rw [nmsN_len h5, uT, List.length_map, List.length_range], fun p hp => ?_⟩
  obtain ⟨i, hi, rfl⟩ := List.mem_map.mp hp
  rw [nmsN_len h5]
  exact unit_row (List.mem_range.mp hi)
theorem alone_beat {n : Nat} (m : List Rat) (hl : m.length = n) : beatQ (uT n) m = m := by
  apply List.ext_getElem
  · rw [beatQ_len, uT, List.length_map, List.length_range, hl]
  · intro i h1 h2
    simp only [beatQ, uT, List.getElem_map, List.getElem_range]
    rw [dot_alone (unitQ n i) m i (by rw [unit_len]; omega) h2 fun j hj ne => by rw [unit_at, if_neg ne], unit_at, if_pos rfl]
    grind
/-! one whom all trust -/
def loneR (n : Nat) (f : Rat) (k : Nat) : List Rat := (List.range n).map fun j => if j = 0 then f else if j = k then 1 - f else 0
def loneT (n : Nat) (f : Rat) : List (List Rat) := unitQ n 0 :: (List.range' 1 (n - 1)).map fun k => loneR n f k
theorem lone_split {n k : Nat} (f : Rat) (hk : 1 ≤ k) (hn : k < n) : ∃ r', loneR n f k = f :: r' ∧ r'.length = n - 1 ∧ (∀ (j : Nat) (h : j < r'.length), r'[j] = if j + 1 = k then 1 - f else 0) := by
  obtain ⟨m, rfl⟩ : ∃ m, n = m + 1 := ⟨n - 1, by omega⟩
  refine ⟨(List.range m).map fun j => if j + 1 = k then 1 - f else 0, ?_, by simp, fun j h => by rw [List.getElem_map, List.getElem_range]⟩
  unfold loneR
  rw [List.range_succ_eq_map, List.map_cons, List.map_map]
  rfl
theorem lone_row {n k : Nat} {f : Rat} (h : En f) (h' : En (1 - f)) (hk : 1 ≤ k) (hn : k < n) : RowOk n (loneR n f k) := by
  refine row_en (by simp [loneR]) (fun q hq => ?_) ?_
  · obtain ⟨j, _, rfl⟩ := List.mem_map.mp hq
    split
    · exact h
    · split
      · exact h'
      · exact en0
  · obtain ⟨r', e, l, g⟩ := lone_split f hk hn
    rw [e, sumR_cons, sum_alone r' (k - 1) (by omega) fun j hj ne => by rw [g, if_neg (by omega)], g, if_pos (by omega)]
    grind
theorem lone_dot {n k : Nat} (f : Rat) (hk : 1 ≤ k) (hn : k < n) (m : List Rat) (hl : m.length = n) : dotQ (loneR n f k) m = m.getD k 0 * (1 - f) + m.getD 0 0 * (1 - (1 - f)) := by
  obtain ⟨r', e, l, g⟩ := lone_split f hk hn
  cases m with
  | nil => simp at hl; omega
  | cons a m =>
    rw [List.length_cons] at hl
    obtain ⟨k', rfl⟩ : ∃ k', k = k' + 1 := ⟨k - 1, by omega⟩
    rw [e, dot_cons, dot_alone r' m k' (by omega) (by omega) fun j hj ne => by rw [g, if_neg (by omega)], g, if_pos rfl]
    have e1 : (a :: m).getD (k' + 1) 0 = m[k']'(by omega) := by
      rw [List.getD_cons_succ, List.getD_eq_getElem?_getD, List.getElem?_eq_getElem (by omega)]
      rfl
    rw [e1]
    show f * a + _ = _ * _ + a * _
    grind
theorem lone_len {n : Nat} (h1 : 1 ≤ n) (f : Rat) : (loneT n f).length = n := by
  simp [loneT]
  omega
theorem lone_circ {n : Nat} (h1 : 1 ≤ n) (h5 : n ≤ 5) {f : Rat} (h : En f) (h' : En (1 - f)) : Circ (nmsN n) (loneT n f) := by
  refine ⟨nmsN_ok n, by rw [nmsN_len h5]; exact h1, by rw [nmsN_len h5]; exact h5, by rw [nmsN_len h5, lone_len h1], fun p hp => ?_⟩
  rw [nmsN_len h5]
  rcases List.mem_cons.mp hp with rfl | hp
  · exact unit_row (by omega)
  · obtain ⟨k, hk, rfl⟩ := List.mem_map.mp hp
    have := List.mem_range'_1.mp hk
    exact lone_row h h' (by omega) (by omega)
theorem lone_beat {n : Nat} (h1 : 1 ≤ n) (f : Rat) (m : List Rat) (hl : m.length = n) : beatQ (loneT n f) m = m.map fun x => x * (1 - f) + m.getD 0 0 * (1 - (1 - f)) := by
  apply List.ext_getElem
  · rw [beatQ_len, lone_len h1, List.length_map, hl]
  · intro i g1 g2
    rw [List.length_map] at g2
    simp only [beatQ, List.getElem_map]
    have gi : m.getD i 0 = m[i] := by
      rw [List.getD_eq_getElem?_getD, List.getElem?_eq_getElem g2]
      rfl
    cases i with
    | zero =>
      have e : (loneT n f)[0]'(by rw [lone_len h1]; omega) = unitQ n 0 := rfl
      rw [e, dot_alone (unitQ n 0) m 0 (by rw [unit_len]; omega) g2 fun j hj ne => by rw [unit_at, if_neg ne], unit_at, if_pos rfl]
      have g : ∀ z y : Rat, z = y → 1 * y = y * (1 - f) + z * (1 - (1 - f)) := fun z y h => by
        subst h
        grind
      exact g _ _ gi
    | succ i =>
      have e : (loneT n f)[i + 1]'(by rw [lone_len h1]; omega) = loneR n f (i + 1) := by
        simp only [loneT, List.getElem_cons_succ, List.getElem_map, List.getElem_range']
        congr 1
        omega
      rw [e, lone_dot f (by omega) (by omega) m hl, gi]
end P

set_option Elab.async false
set_option linter.all false
set_option maxRecDepth 100000
set_option maxHeartbeats 4000000
namespace W
open PySem PySem.Spec PyProof.Rows L2 DL LamX NdefX
structure En (K : PySem.W.Frag) (mg : Str → Option Value) (base : Heap) (L : List (Addr × Str)) : Prop where
  f_is_whole : FP K mg "is_whole" s_is_whole
  f_is_between : FP K mg "is_between" s_is_between
  f_is_word : FP K mg "is_word" s_is_word
  f_is_name : FP K mg "is_name" s_is_name
  f_is_tuple_of : FP K mg "is_tuple_of" s_is_tuple_of
  f_is_pair : FP K mg "is_pair" s_is_pair
  f_wrong_in : FP K mg "wrong_in" s_wrong_in
  f_wrong_in_all : FT K mg base L "wrong_in_all" s_wrong_in_all
  f_are_below : FP K mg "are_below" s_are_below
  f_lowest : FP K mg "lowest" s_lowest
  f_is_fraction : FP K mg "is_fraction" s_is_fraction
  f_plus : FP K mg "plus" s_plus
  f_minus : FP K mg "minus" s_minus
  f_times : FP K mg "times" s_times
  f_is_less : FP K mg "is_less" s_is_less
  f_lesser : FP K mg "lesser" s_lesser
  f_greater : FP K mg "greater" s_greater
  f_total : FP K mg "total" s_total
  f_wrong_in_people : FT K mg base L "wrong_in_people" s_wrong_in_people
  f_is_sum : FP K mg "is_sum" s_is_sum
  f_is_row : FP K mg "is_row" s_is_row
  f_wrong_in_trust : FT K mg base L "wrong_in_trust" s_wrong_in_trust
  f_mixed : FP K mg "mixed" s_mixed
  f_first_counts : FP K mg "first_counts" s_first_counts
  f_next_counts : FP K mg "next_counts" s_next_counts
  f_counts_by : FP K mg "counts_by" s_counts_by
  f_check_circle : FP K mg "check_circle" s_check_circle
  f_check_number : FP K mg "check_number" s_check_number
  f_check_many : FP K mg "check_many" s_check_many
  f_check_bound : FP K mg "check_bound" s_check_bound
  f_apart_by : FP K mg "apart_by" s_apart_by
  f_strain_in : FP K mg "strain_in" s_strain_in
  f_strain_by : FP K mg "strain_by" s_strain_by
  f_beats_for_all_by : FP K mg "beats_for_all_by" s_beats_for_all_by
  f_strain : FP K mg "strain" s_strain
  f_beats_for_all : FP K mg "beats_for_all" s_beats_for_all
  f__law_pool : FP K mg "_law_pool" s__law_pool
  f__law_below : FP K mg "_law_below" s__law_below
  f__law_one : FP K mg "_law_one" s__law_one
  f__law_same : FP K mg "_law_same" s__law_same
  f__law_fr : FP K mg "_law_fr" s__law_fr
  f__law_plus : FP K mg "_law_plus" s__law_plus
  f__law_times : FP K mg "_law_times" s__law_times
  f__law_less : FP K mg "_law_less" s__law_less
  f__law_right : FP K mg "_law_right" s__law_right
  b_abs : mg "abs" = none
  b_all : mg "all" = none
  b_bool : mg "bool" = none
  b_divmod : mg "divmod" = none
  b_enumerate : mg "enumerate" = none
  b_int : mg "int" = none
  b_isinstance : mg "isinstance" = none
  b_len : mg "len" = none
  b_list : mg "list" = none
  b_max : mg "max" = none
  b_min : mg "min" = none
  b_range : mg "range" = none
  b_str : mg "str" = none
  b_tuple : mg "tuple" = none
  b_zip : mg "zip" = none
  cls : ClsF K mg cCls
  cl_Circle : ClsE K mg "Circle" "all_told" s_Circle___init__ "Circle.__init__"
  p_Circle_people : PropE K mg "Circle" "people" s_Circle_people "Circle.people"
  p_Circle_trust : PropE K mg "Circle" "trust" s_Circle_trust "Circle.trust"
  g_gcd : mg "gcd" = some (.builtin "math.gcd")
  k_LETTERS : ∃ t, mg "LETTERS" = some (.str "abcdefghijklmnopqrstuvwxyz" t)
  k_MOST_LETTERS : ∃ t, mg "MOST_LETTERS" = some (.int 8 t)
  k_WORDS : ∃ a, mg "WORDS" = some (.ref a) ∧ (∀ H, SqT K H a [(V.str "agree"), (V.str "all"), (V.str "back"), (V.str "beat"), (V.str "book"), (V.str "case"), (V.str "circle"), (V.str "end"), (V.str "firm"), (V.str "group"), (V.str "hear"), (V.str "in"), (V.str "last"), (V.str "mean"), (V.str "meet"), (V.str "middle"), (V.str "mind"), (V.str "near"), (V.str "none"), (V.str "of"), (V.str "out"), (V.str "people"), (V.str "quit"), (V.str "rest"), (V.str "rhythm"), (V.str "row"), (V.str "say"), (V.str "spread"), (V.str "swing"), (V.str "take"), (V.str "trust"), (V.str "undo"), (V.str "web"), (V.str "weight"), (V.str "yes")]) ∧ ∃ o, K.lookup a = some o ∧ o.dict = none
  k_NOTHING : ∃ a, mg "NOTHING" = some (.ref a) ∧ (∀ H, SqT K H a [(V.int 0), (V.int 1)]) ∧ ∃ o, K.lookup a = some o ∧ o.dict = none
  k_WHOLE : ∃ a, mg "WHOLE" = some (.ref a) ∧ (∀ H, SqT K H a [(V.int 1), (V.int 1)]) ∧ ∃ o, K.lookup a = some o ∧ o.dict = none
  k_MOST_PEOPLE : ∃ t, mg "MOST_PEOPLE" = some (.int 5 t)
  k_MOST_BEATS : ∃ t, mg "MOST_BEATS" = some (.int 40 t)
section
variable {Pg : Program} {w : World} {K : PySem.W.Frag} {mg : Str → Option Value} {base : Heap} {L : List (Addr × Str)}
def c_LETTERS : D := (.str "abcdefghijklmnopqrstuvwxyz")
theorem dk_LETTERS {B : BP} {X : Cx} {p : Pos} (E : En K mg base L) (hK : X.K = K := by rfl) (hm : X.mg = mg := by rfl) (hB : B.R.K = K := by rfl) (hg : Gl X "LETTERS" := by rfl) : DE B X (.Name "LETTERS" p) (dC c_LETTERS) := by
  obtain ⟨t, h1⟩ := E.k_LETTERS
  exact de_gcon (v := (V.str "abcdefghijklmnopqrstuvwxyz")) hg (hm ▸ h1) ⟨t, rfl⟩ fun H => ⟨rfl, by decide +kernel⟩
def c_MOST_LETTERS : D := (.int 8)
theorem dk_MOST_LETTERS {B : BP} {X : Cx} {p : Pos} (E : En K mg base L) (hK : X.K = K := by rfl) (hm : X.mg = mg := by rfl) (hB : B.R.K = K := by rfl) (hg : Gl X "MOST_LETTERS" := by rfl) : DE B X (.Name "MOST_LETTERS" p) (dC c_MOST_LETTERS) := by
  obtain ⟨t, h1⟩ := E.k_MOST_LETTERS
  exact de_gcon (v := (V.int 8)) hg (hm ▸ h1) ⟨t, rfl⟩ fun H => rfl
def c_WORDS : D := (.tup [(.str "agree"), (.str "all"), (.str "back"), (.str "beat"), (.str "book"), (.str "case"), (.str "circle"), (.str "end"), (.str "firm"), (.str "group"), (.str "hear"), (.str "in"), (.str "last"), (.str "mean"), (.str "meet"), (.str "middle"), (.str "mind"), (.str "near"), (.str "none"), (.str "of"), (.str "out"), (.str "people"), (.str "quit"), (.str "rest"), (.str "rhythm"), (.str "row"), (.str "say"), (.str "spread"), (.str "swing"), (.str "take"), (.str "trust"), (.str "undo"), (.str "web"), (.str "weight"), (.str "yes")])
theorem dk_WORDS {B : BP} {X : Cx} {p : Pos} (E : En K mg base L) (hK : X.K = K := by rfl) (hm : X.mg = mg := by rfl) (hB : B.R.K = K := by rfl) (hg : Gl X "WORDS" := by rfl) : DE B X (.Name "WORDS" p) (dC c_WORDS) := by
  obtain ⟨a, h1, h2, h3⟩ := E.k_WORDS
  exact de_gcon (v := .ref a) hg (hm ▸ h1) rfl fun H => ⟨a, _, rfl, ⟨hB ▸ h2 H, fun _ => .inr (hB ▸ h3)⟩, (RepL.cons ⟨rfl, by decide +kernel⟩ (RepL.cons ⟨rfl, by decide +kernel⟩ (RepL.cons ⟨rfl, by decide +kernel⟩ (RepL.cons ⟨rfl, by decide +kernel⟩ (RepL.cons ⟨rfl, by decide +kernel⟩ (RepL.cons ⟨rfl, by decide +kernel⟩ (RepL.cons ⟨rfl, by decide +kernel⟩ (RepL.cons ⟨rfl, by decide +kernel⟩ (RepL.cons ⟨rfl, by decide +kernel⟩ (RepL.cons ⟨rfl, by decide +kernel⟩ (RepL.cons ⟨rfl, by decide +kernel⟩ (RepL.cons ⟨rfl, by decide +kernel⟩ (RepL.cons ⟨rfl, by decide +kernel⟩ (RepL.cons ⟨rfl, by decide +kernel⟩ (RepL.cons ⟨rfl, by decide +kernel⟩ (RepL.cons ⟨rfl, by decide +kernel⟩ (RepL.cons ⟨rfl, by decide +kernel⟩ (RepL.cons ⟨rfl, by decide +kernel⟩ (RepL.cons ⟨rfl, by decide +kernel⟩ (RepL.cons ⟨rfl, by decide +kernel⟩ (RepL.cons ⟨rfl, by decide +kernel⟩ (RepL.cons ⟨rfl, by decide +kernel⟩ (RepL.cons ⟨rfl, by decide +kernel⟩ (RepL.cons ⟨rfl, by decide +kernel⟩ (RepL.cons ⟨rfl, by decide +kernel⟩ (RepL.cons ⟨rfl, by decide +kernel⟩ (RepL.cons ⟨rfl, by decide +kernel⟩ (RepL.cons ⟨rfl, by decide +kernel⟩ (RepL.cons ⟨rfl, by decide +kernel⟩ (RepL.cons ⟨rfl, by decide +kernel⟩ (RepL.cons ⟨rfl, by decide +kernel⟩ (RepL.cons ⟨rfl, by decide +kernel⟩ (RepL.cons ⟨rfl, by decide +kernel⟩ (RepL.cons ⟨rfl, by decide +kernel⟩ (RepL.cons ⟨rfl, by decide +kernel⟩ RepL.nil))))))))))))))))))))))))))))))))))), by decide⟩
def c_NOTHING : D := (.tup [(.int 0), (.int 1)])
theorem dk_NOTHING {B : BP} {X : Cx} {p : Pos} (E : En K mg base L) (hK : X.K = K := by rfl) (hm : X.mg = mg := by rfl) (hB : B.R.K = K := by rfl) (hg : Gl X "NOTHING" := by rfl) : DE B X (.Name "NOTHING" p) (dC c_NOTHING) := by
  obtain ⟨a, h1, h2, h3⟩ := E.k_NOTHING
  exact de_gcon (v := .ref a) hg (hm ▸ h1) rfl fun H => ⟨a, _, rfl, ⟨hB ▸ h2 H, fun _ => .inr (hB ▸ h3)⟩, (RepL.cons rfl (RepL.cons rfl RepL.nil)), by decide⟩
def c_WHOLE : D := (.tup [(.int 1), (.int 1)])
theorem dk_WHOLE {B : BP} {X : Cx} {p : Pos} (E : En K mg base L) (hK : X.K = K := by rfl) (hm : X.mg = mg := by rfl) (hB : B.R.K = K := by rfl) (hg : Gl X "WHOLE" := by rfl) : DE B X (.Name "WHOLE" p) (dC c_WHOLE) := by
  obtain ⟨a, h1, h2, h3⟩ := E.k_WHOLE
  exact de_gcon (v := .ref a) hg (hm ▸ h1) rfl fun H => ⟨a, _, rfl, ⟨hB ▸ h2 H, fun _ => .inr (hB ▸ h3)⟩, (RepL.cons rfl (RepL.cons rfl RepL.nil)), by decide⟩
def c_MOST_PEOPLE : D := (.int 5)
theorem dk_MOST_PEOPLE {B : BP} {X : Cx} {p : Pos} (E : En K mg base L) (hK : X.K = K := by rfl) (hm : X.mg = mg := by rfl) (hB : B.R.K = K := by rfl) (hg : Gl X "MOST_PEOPLE" := by rfl) : DE B X (.Name "MOST_PEOPLE" p) (dC c_MOST_PEOPLE) := by
  obtain ⟨t, h1⟩ := E.k_MOST_PEOPLE
  exact de_gcon (v := (V.int 5)) hg (hm ▸ h1) ⟨t, rfl⟩ fun H => rfl
def c_MOST_BEATS : D := (.int 40)
theorem dk_MOST_BEATS {B : BP} {X : Cx} {p : Pos} (E : En K mg base L) (hK : X.K = K := by rfl) (hm : X.mg = mg := by rfl) (hB : B.R.K = K := by rfl) (hg : Gl X "MOST_BEATS" := by rfl) : DE B X (.Name "MOST_BEATS" p) (dC c_MOST_BEATS) := by
  obtain ⟨t, h1⟩ := E.k_MOST_BEATS
  exact de_gcon (v := (V.int 40)) hg (hm ▸ h1) ⟨t, rfl⟩ fun H => rfl
def n_Circle_people : List Str := ["self"]
theorem sc_Circle_people : FnScope n_Circle_people ["self"] (defScope s_Circle_people) := ⟨rfl, rfl, rfl, by decide +kernel, rfl, by decide +kernel, by decide +kernel⟩
noncomputable def v_Circle_people : Sv := (dRet (dIx (dFld "Circle" (dVar 0)) (dC (.int 0))))
noncomputable def m_Circle_people : Mir := mir v_Circle_people 1 1
theorem pr_Circle_people (E : En K mg base L) : Prp Pg w K mg base (nt L) 1 "Circle" "people" m_Circle_people := by
  obtain ⟨C, pa, g, fd, h1, h2, h3, F⟩ := E.p_Circle_people.ex
  refine ⟨C, pa, g, fd, h1, h2, h3, fn_okD F sc_Circle_people (fun fns bo O P cdv A outer s H Ex hr => ?_), F.bindsN fun _ _ _ _ _ _ us hl => match us, hl with | [_], _ => rfl⟩
  have hN : (n_Circle_people).Nodup := sc_Circle_people.nd
  exact (dss_one (ds_ret (de_sub_ix (de_fld E.cl_Circle.fld (de_var 0)) de_int)))
def n_Circle_trust : List Str := ["self"]
theorem sc_Circle_trust : FnScope n_Circle_trust ["self"] (defScope s_Circle_trust) := ⟨rfl, rfl, rfl, by decide +kernel, rfl, by decide +kernel, by decide +kernel⟩
noncomputable def v_Circle_trust : Sv := (dRet (dIx (dFld "Circle" (dVar 0)) (dC (.int 1))))
noncomputable def m_Circle_trust : Mir := mir v_Circle_trust 1 1
theorem pr_Circle_trust (E : En K mg base L) : Prp Pg w K mg base (nt L) 1 "Circle" "trust" m_Circle_trust := by
  obtain ⟨C, pa, g, fd, h1, h2, h3, F⟩ := E.p_Circle_trust.ex
  refine ⟨C, pa, g, fd, h1, h2, h3, fn_okD F sc_Circle_trust (fun fns bo O P cdv A outer s H Ex hr => ?_), F.bindsN fun _ _ _ _ _ _ us hl => match us, hl with | [_], _ => rfl⟩
  have hN : (n_Circle_trust).Nodup := sc_Circle_trust.nd
  exact (dss_one (ds_ret (de_sub_ix (de_fld E.cl_Circle.fld (de_var 0)) de_int)))
def n_is_whole : List Str := ["value"]
theorem sc_is_whole : FnScope n_is_whole ["value"] (defScope s_is_whole) := ⟨rfl, rfl, rfl, by decide +kernel, rfl, by decide +kernel, by decide +kernel⟩
noncomputable def v_is_whole : Sv := (dRet (dAndV (dOpL (f2 (fIsiC cCls)) (dCons (dVar 0) (dCons (dC (.ty "int")) dNil))) (dNotV (dOpL (f2 (fIsiC cCls)) (dCons (dVar 0) (dCons (dC (.ty "bool")) dNil))))))
noncomputable def m_is_whole : Mir := mir v_is_whole 1 1
theorem fits_is_whole : Fits 1 m_is_whole := mir_fits
theorem o_is_whole (E : En K mg base L) : ∃ a fd, FnP K "is_whole" s_is_whole a fd ∧ mg "is_whole" = some (.ref a) ∧ FnOk Pg w K mg base (L2.CX Pg w) 1 a fd ["value"] (spD K mg (nt L) 1 m_is_whole) := by
  obtain ⟨a, fd, F, hm⟩ := E.f_is_whole.ex
  refine ⟨a, fd, F, hm, fn_okD F sc_is_whole (fun fns bo O P cdv A outer s H Ex hr => ?_)⟩
  have hN : (n_is_whole).Nodup := sc_is_whole.nd
  exact (dss_one (ds_ret (de_and (de_callB call_isi (hl_isiC E.cls) rfl E.b_isinstance PyProof.Rows.Boot.«isinstance» (da_cons (de_var 0) (da_cons (de_ty rfl E.b_int PyProof.Rows.Boot.«int») da_nil))) (de_one (de_not (de_callB call_isi (hl_isiC E.cls) rfl E.b_isinstance PyProof.Rows.Boot.«isinstance» (da_cons (de_var 0) (da_cons (de_ty rfl E.b_bool PyProof.Rows.Boot.«bool») da_nil))))))))
theorem c_is_whole (E : En K mg base L) : Cal Pg w K mg base (nt L) 1 "is_whole" ["value"] m_is_whole := by
  obtain ⟨a, fd, F, hm, G⟩ := o_is_whole (Pg := Pg) (w := w) E
  exact ⟨a, fd, G, hm, F.kp, F.bindsN fun _ _ _ _ _ _ us hl => match us, hl with | [_], _ => rfl⟩
def n_is_word : List Str := ["value", "sign"]
theorem sc_is_word : FnScope n_is_word ["value"] (defScope s_is_word) := ⟨rfl, rfl, rfl, by decide +kernel, rfl, by decide +kernel, by decide +kernel⟩
noncomputable def v_is_word : Sv := (dRet (dAndV (dOpL (f2 (fIsiC cCls)) (dCons (dVar 0) (dCons (dC (.ty "str")) dNil))) (dAndV (dOp2 fNe (dVar 0) (dC (.str ""))) (dOpL (f1 allD) (dCons (dComp (dStrI (dVar 0)) (bName 1) dYes (dOp2 fInS (dVar 1) (dC c_LETTERS)) [1]) dNil)))))
noncomputable def m_is_word : Mir := mir v_is_word 1 2
theorem fits_is_word : Fits 1 m_is_word := mir_fits
theorem o_is_word (E : En K mg base L) : ∃ a fd, FnP K "is_word" s_is_word a fd ∧ mg "is_word" = some (.ref a) ∧ FnOk Pg w K mg base (L2.CX Pg w) 1 a fd ["value"] (spD K mg (nt L) 1 m_is_word) := by
  obtain ⟨a, fd, F, hm⟩ := E.f_is_word.ex
  refine ⟨a, fd, F, hm, fn_okD F sc_is_word (fun fns bo O P cdv A outer s H Ex hr => ?_)⟩
  have hN : (n_is_word).Nodup := sc_is_word.nd
  exact (dss_one (ds_ret (de_and (de_callB call_isi (hl_isiC E.cls) rfl E.b_isinstance PyProof.Rows.Boot.«isinstance» (da_cons (de_var 0) (da_cons (de_ty rfl E.b_str PyProof.Rows.Boot.«str») da_nil))) (de_and (de_cmp (op_neD (u64 hr)) h_ne (de_var 0) de_str) (de_one (de_callB (cr_all rfl) hl_all rfl E.b_all PyProof.Rows.Boot.«all» (da_cons (de_lc (own := [("sign", 1)]) rfl hN (di_dj (di_str (de_var 0))) (blkOk_by rfl) (by decide) (fun O P s H C cl fp => (dg_name hN)) (fun O P s H C cl fp => dts_nil) (fun O P s H C cl fp => (de_cmp (OpR.or (OpR.or (op_inD (u65 hr)) (op_inT (u65 hr))) op_in_sign) h_inS (de_var 1) (dk_LETTERS E) (by with_unfolding_all rfl)))) da_nil)))))))
theorem c_is_word (E : En K mg base L) : Cal Pg w K mg base (nt L) 1 "is_word" ["value"] m_is_word := by
  obtain ⟨a, fd, F, hm, G⟩ := o_is_word (Pg := Pg) (w := w) E
  exact ⟨a, fd, G, hm, F.kp, F.bindsN fun _ _ _ _ _ _ us hl => match us, hl with | [_], _ => rfl⟩
def n_is_tuple_of : List Str := ["value", "many"]
theorem sc_is_tuple_of : FnScope n_is_tuple_of ["value", "many"] (defScope s_is_tuple_of) := ⟨rfl, rfl, rfl, by decide +kernel, rfl, by decide +kernel, by decide +kernel⟩
noncomputable def v_is_tuple_of : Sv := (dRet (dAndV (dOpL (f2 (fIsiC cCls)) (dCons (dVar 0) (dCons (dC (.ty "tuple")) dNil))) (dOp2 fEq (dOpL (f1 lenD) (dCons (dVar 0) dNil)) (dVar 1))))
noncomputable def m_is_tuple_of : Mir := mir v_is_tuple_of 2 2
theorem fits_is_tuple_of : Fits 2 m_is_tuple_of := mir_fits
theorem o_is_tuple_of (E : En K mg base L) : ∃ a fd, FnP K "is_tuple_of" s_is_tuple_of a fd ∧ mg "is_tuple_of" = some (.ref a) ∧ FnOk Pg w K mg base (L2.CX Pg w) 1 a fd ["value", "many"] (spD K mg (nt L) 2 m_is_tuple_of) := by
  obtain ⟨a, fd, F, hm⟩ := E.f_is_tuple_of.ex
  refine ⟨a, fd, F, hm, fn_okD F sc_is_tuple_of (fun fns bo O P cdv A outer s H Ex hr => ?_)⟩
  have hN : (n_is_tuple_of).Nodup := sc_is_tuple_of.nd
  exact (dss_one (ds_ret (de_and (de_callB call_isi (hl_isiC E.cls) rfl E.b_isinstance PyProof.Rows.Boot.«isinstance» (da_cons (de_var 0) (da_cons (de_ty rfl E.b_tuple PyProof.Rows.Boot.«tuple») da_nil))) (de_one (de_cmp (op_eqD (u64 hr)) h_eq (de_callB call_len hl_len rfl E.b_len PyProof.Rows.Boot.«len» (da_cons (de_var 0) da_nil)) (de_var 1))))))
theorem c_is_tuple_of (E : En K mg base L) : Cal Pg w K mg base (nt L) 1 "is_tuple_of" ["value", "many"] m_is_tuple_of := by
  obtain ⟨a, fd, F, hm, G⟩ := o_is_tuple_of (Pg := Pg) (w := w) E
  exact ⟨a, fd, G, hm, F.kp, F.bindsN fun _ _ _ _ _ _ us hl => match us, hl with | [_, _], _ => rfl⟩
def n_wrong_in : List Str := ["value", "least", "most", "is_right", "index", "each"]
theorem sc_wrong_in : FnScope n_wrong_in ["value", "least", "most", "is_right"] (defScope s_wrong_in) := ⟨rfl, rfl, rfl, by decide +kernel, rfl, by decide +kernel, by decide +kernel⟩
noncomputable def v_wrong_in (cm : Option CM) : Sv := (dSeq (dIfS (dOr (dNot (dTst (dOpL (f2 (fIsiC cCls)) (dCons (dVar 0) (dCons (dC (.ty "tuple")) dNil))))) (dTst (dOp2 fLtG (dOpL (f1 lenD) (dCons (dVar 0) dNil)) (dVar 1)))) (dRet (dOpL fLst (dCons (dC .non) dNil))) dNext) (dSeq (dFor (dEnum (dVar 0)) (bTup ((bName 4) :: (bName 5) :: [])) (dIfS (dOr (dTst (dOp2 fEq (dVar 4) (dVar 2))) (dNot (dTst (dCallV 3 (fun _ => none) cm (dCons (dSl (dVar 0) dNoPart (dPart (dVar 4))) (dCons (dVar 5) dNil)))))) (dRet (dOpL fLst (dCons (dVar 4) dNil))) dNext)) (dRet (dOpL fLst dNil))))
noncomputable def m_wrong_in (cm : CM) : Mir := fun ds b => clean (mir (v_wrong_in (some cm)) 4 6 ds b)
theorem hfit_wrong_in (n : Nat) (hn : n = 4 := by rfl) : ∀ cm ds b, ds.length ≠ n → m_wrong_in cm ds b = .bad := fun cm ds b h => by
  subst hn
  unfold m_wrong_in mir
  rw [if_neg h]
  rfl
theorem c_wrong_in (E : En K mg base L) (kc : Nat) : HFn Pg w K mg base (nt L) (kc + 1 + 1) "wrong_in" 4 kc m_wrong_in := by
  obtain ⟨a, fd, F, hm⟩ := E.f_wrong_in.ex
  refine hfn_of (dv := fun cm => v_wrong_in (some cm)) F sc_wrong_in hm (F.bindsN fun _ _ _ _ _ _ us hl => match us, hl with | [_, _, _, _], _ => rfl) fun bo O P cdv A outer s H Ex f' cm hcd hP hr => ?_
  have hN : (n_wrong_in).Nodup := sc_wrong_in.nd
  exact (dss_cons (ds_if (PW.pt (dw_or (dt_not (dt_val (de_callB call_isi (hl_isiC E.cls) rfl E.b_isinstance PyProof.Rows.Boot.«isinstance» (da_cons (de_var 0) (da_cons (de_ty rfl E.b_tuple PyProof.Rows.Boot.«tuple») da_nil))))) (dw_or1 (dt_cmp op_ltG h_ltG (de_callB call_len hl_len rfl E.b_len PyProof.Rows.Boot.«len» (da_cons (de_var 0) da_nil)) (de_var 1))))) (dss_one (ds_ret (de_lst (da_cons de_non da_nil)))) dss_nil) (dss_cons (ds_for (passes_of rfl) rfl (di_enum rfl E.b_enumerate (de_var 0)) (fun _ => (dg_tup rfl (dgs_cons (dg_name hN) (dgs_cons (dg_name hN) dgs_nil)))) (fun _ => (dss_one (ds_if (PW.pt (dw_or (dt_cmp (op_eqD (u64 hr)) h_eq (de_var 4) (de_var 2)) (dw_or1 (dt_not (dt_val (de_callV 3 gm_none hP hr (by omega) (takes_of rfl rfl rfl rfl) (da_cons (de_slice (de_var 0) do_none (do_some (de_var 4))) (da_cons (de_var 5) da_nil)))))))) (dss_one (ds_ret (de_lst (da_cons (de_var 4) da_nil)))) dss_nil)))) (dss_one (ds_ret (de_lst da_nil)))))
def n_are_below : List Str := ["ahead", "value"]
theorem sc_are_below : FnScope n_are_below ["ahead", "value"] (defScope s_are_below) := ⟨rfl, rfl, rfl, by decide +kernel, rfl, by decide +kernel, by decide +kernel⟩
noncomputable def v_are_below : Sv := (dRet (dOrV (dOp2 fEq (dVar 0) (dOpL fTup dNil)) (dOp2 fLtG (dIx (dVar 0) (dOp1 fNeg (dC (.int 1)))) (dVar 1))))
noncomputable def m_are_below : Mir := mir v_are_below 2 2
theorem fits_are_below : Fits 2 m_are_below := mir_fits
theorem o_are_below (E : En K mg base L) : ∃ a fd, FnP K "are_below" s_are_below a fd ∧ mg "are_below" = some (.ref a) ∧ FnOk Pg w K mg base (L2.CX Pg w) 1 a fd ["ahead", "value"] (spD K mg (nt L) 2 m_are_below) := by
  obtain ⟨a, fd, F, hm⟩ := E.f_are_below.ex
  refine ⟨a, fd, F, hm, fn_okD F sc_are_below (fun fns bo O P cdv A outer s H Ex hr => ?_)⟩
  have hN : (n_are_below).Nodup := sc_are_below.nd
  exact (dss_one (ds_ret (de_or (de_cmp (op_eqD (u64 hr)) h_eq (de_var 0) (de_tup da_nil)) (de_one (de_cmp op_ltG h_ltG (de_sub_ix (de_var 0) (de_neg de_int)) (de_var 1))))))
theorem c_are_below (E : En K mg base L) : Cal Pg w K mg base (nt L) 1 "are_below" ["ahead", "value"] m_are_below := by
  obtain ⟨a, fd, F, hm, G⟩ := o_are_below (Pg := Pg) (w := w) E
  exact ⟨a, fd, G, hm, F.kp, F.bindsN fun _ _ _ _ _ _ us hl => match us, hl with | [_, _], _ => rfl⟩
def n_lowest : List Str := ["one", "two", "common"]
theorem sc_lowest : FnScope n_lowest ["one", "two"] (defScope s_lowest) := ⟨rfl, rfl, rfl, by decide +kernel, rfl, by decide +kernel, by decide +kernel⟩
noncomputable def v_lowest : Sv := (dSeq (dAsg 2 (dVal (dIf (dTst (dOp2 fGt (dVar 1) (dC (.int 0)))) (dOpL (f2 fGcd) (dCons (dVar 0) (dCons (dVar 1) dNil))) (dOp1 fNeg (dOpL (f2 fGcd) (dCons (dVar 0) (dCons (dVar 1) dNil))))))) (dRet (dOpL fTup (dCons (dOp2 fDiv (dVar 0) (dVar 2)) (dCons (dOp2 fDiv (dVar 1) (dVar 2)) dNil)))))
noncomputable def m_lowest : Mir := mir v_lowest 2 3
theorem fits_lowest : Fits 2 m_lowest := mir_fits
theorem o_lowest (E : En K mg base L) : ∃ a fd, FnP K "lowest" s_lowest a fd ∧ mg "lowest" = some (.ref a) ∧ FnOk Pg w K mg base (L2.CX Pg w) 1 a fd ["one", "two"] (spD K mg (nt L) 2 m_lowest) := by
  obtain ⟨a, fd, F, hm⟩ := E.f_lowest.ex
  refine ⟨a, fd, F, hm, fn_okD F sc_lowest (fun fns bo O P cdv A outer s H Ex hr => ?_)⟩
  have hN : (n_lowest).Nodup := sc_lowest.nd
  exact (dss_cons (ds_set (i := 2) hN (de_val (de_ifx (dt_cmp op_gt h_gt (de_var 1) de_int) (de_callF cr_gcd hl_gcd rfl E.g_gcd (da_cons (de_var 0) (da_cons (de_var 1) da_nil))) (de_neg (de_callF cr_gcd hl_gcd rfl E.g_gcd (da_cons (de_var 0) (da_cons (de_var 1) da_nil))))))) (dss_one (ds_ret (de_tup (da_cons (de_div (de_var 0) (de_var 2)) (da_cons (de_div (de_var 1) (de_var 2)) da_nil))))))
theorem c_lowest (E : En K mg base L) : Cal Pg w K mg base (nt L) 1 "lowest" ["one", "two"] m_lowest := by
  obtain ⟨a, fd, F, hm, G⟩ := o_lowest (Pg := Pg) (w := w) E
  exact ⟨a, fd, G, hm, F.kp, F.bindsN fun _ _ _ _ _ _ us hl => match us, hl with | [_, _], _ => rfl⟩
def n_is_less : List Str := ["one", "two"]
theorem sc_is_less : FnScope n_is_less ["one", "two"] (defScope s_is_less) := ⟨rfl, rfl, rfl, by decide +kernel, rfl, by decide +kernel, by decide +kernel⟩
noncomputable def v_is_less : Sv := (dRet (dOp2 fLtG (dOp2 fMulG (dIx (dVar 0) (dC (.int 0))) (dIx (dVar 1) (dC (.int 1)))) (dOp2 fMulG (dIx (dVar 1) (dC (.int 0))) (dIx (dVar 0) (dC (.int 1))))))
noncomputable def m_is_less : Mir := mir v_is_less 2 2
theorem fits_is_less : Fits 2 m_is_less := mir_fits
theorem o_is_less (E : En K mg base L) : ∃ a fd, FnP K "is_less" s_is_less a fd ∧ mg "is_less" = some (.ref a) ∧ FnOk Pg w K mg base (L2.CX Pg w) 1 a fd ["one", "two"] (spD K mg (nt L) 2 m_is_less) := by
  obtain ⟨a, fd, F, hm⟩ := E.f_is_less.ex
  refine ⟨a, fd, F, hm, fn_okD F sc_is_less (fun fns bo O P cdv A outer s H Ex hr => ?_)⟩
  have hN : (n_is_less).Nodup := sc_is_less.nd
  exact (dss_one (ds_ret (de_cmp op_ltG h_ltG (de_mulG (de_sub_ix (de_var 0) de_int) (de_sub_ix (de_var 1) de_int)) (de_mulG (de_sub_ix (de_var 1) de_int) (de_sub_ix (de_var 0) de_int)))))
theorem c_is_less (E : En K mg base L) : Cal Pg w K mg base (nt L) 1 "is_less" ["one", "two"] m_is_less := by
  obtain ⟨a, fd, F, hm, G⟩ := o_is_less (Pg := Pg) (w := w) E
  exact ⟨a, fd, G, hm, F.kp, F.bindsN fun _ _ _ _ _ _ us hl => match us, hl with | [_, _], _ => rfl⟩
def n_first_counts : List Str := ["many", "other", "at"]
theorem sc_first_counts : FnScope n_first_counts ["many"] (defScope s_first_counts) := ⟨rfl, rfl, rfl, by decide +kernel, rfl, by decide +kernel, by decide +kernel⟩
noncomputable def v_first_counts : Sv := (dRet (dOpL (f1 tupleD) (dCons (dComp (dRng1 (dVar 0)) (bName 2) dYes (dOpL (f1 tupleD) (dCons (dComp (dRng1 (dVar 0)) (bName 1) dYes (dIf (dTst (dOp2 fEq (dVar 2) (dVar 1))) (dC c_WHOLE) (dC c_NOTHING)) [1]) dNil)) [2]) dNil)))
noncomputable def m_first_counts : Mir := mir v_first_counts 1 3
theorem fits_first_counts : Fits 1 m_first_counts := mir_fits
theorem o_first_counts (E : En K mg base L) : ∃ a fd, FnP K "first_counts" s_first_counts a fd ∧ mg "first_counts" = some (.ref a) ∧ FnOk Pg w K mg base (L2.CX Pg w) 1 a fd ["many"] (spD K mg (nt L) 1 m_first_counts) := by
  obtain ⟨a, fd, F, hm⟩ := E.f_first_counts.ex
  refine ⟨a, fd, F, hm, fn_okD F sc_first_counts (fun fns bo O P cdv A outer s H Ex hr => ?_)⟩
  have hN : (n_first_counts).Nodup := sc_first_counts.nd
  exact (dss_one (ds_ret (de_callTy call_tuple_ofX hl_tuple rfl E.b_tuple PyProof.Rows.Boot.«tuple» (da_cons (de_lc (own := [("at", 2)]) rfl hN (di_dj (di_rng1 rfl E.b_range (de_var 0))) (blkOk_by rfl) (by decide) (fun O P s H C cl fp => (dg_name hN)) (fun O P s H C cl fp => dts_nil) (fun O P s H C cl fp => (de_callTy call_tuple_ofX hl_tuple rfl E.b_tuple PyProof.Rows.Boot.«tuple» (da_cons (de_lc (own := [("other", 1)]) rfl hN (di_dj (di_rng1 rfl E.b_range (de_var 0))) (blkOk_by rfl) (by decide) (fun O P s H C cl fp => (dg_name hN)) (fun O P s H C cl fp => dts_nil) (fun O P s H C cl fp => (de_ifx (dt_cmp (op_eqD (u64 hr)) h_eq (de_var 2) (de_var 1)) (dk_WHOLE E) (dk_NOTHING E)))) da_nil)))) da_nil))))
theorem c_first_counts (E : En K mg base L) : Cal Pg w K mg base (nt L) 1 "first_counts" ["many"] m_first_counts := by
  obtain ⟨a, fd, F, hm, G⟩ := o_first_counts (Pg := Pg) (w := w) E
  exact ⟨a, fd, G, hm, F.kp, F.bindsN fun _ _ _ _ _ _ us hl => match us, hl with | [_], _ => rfl⟩
def n_check_circle : List Str := ["circle"]
theorem sc_check_circle : FnScope n_check_circle ["circle"] (defScope s_check_circle) := ⟨rfl, rfl, rfl, by decide +kernel, rfl, by decide +kernel, by decide +kernel⟩
noncomputable def v_check_circle : Sv := (dIfS (dNot (dTst (dOpL (f2 (fIsiC cCls)) (dCons (dVar 0) (dCons (dC (.glo "Circle")) dNil))))) dBad dNext)
noncomputable def m_check_circle : Mir := mir v_check_circle 1 1
theorem fits_check_circle : Fits 1 m_check_circle := mir_fits
theorem o_check_circle (E : En K mg base L) : ∃ a fd, FnP K "check_circle" s_check_circle a fd ∧ mg "check_circle" = some (.ref a) ∧ FnOk Pg w K mg base (L2.CX Pg w) 1 a fd ["circle"] (spD K mg (nt L) 1 m_check_circle) := by
  obtain ⟨a, fd, F, hm⟩ := E.f_check_circle.ex
  refine ⟨a, fd, F, hm, fn_okD F sc_check_circle (fun fns bo O P cdv A outer s H Ex hr => ?_)⟩
  have hN : (n_check_circle).Nodup := sc_check_circle.nd
  exact (dss_one (ds_if (dt_not (dt_val (de_callB call_isi (hl_isiC E.cls) rfl E.b_isinstance PyProof.Rows.Boot.«isinstance» (da_cons (de_var 0) (da_cons (de_glo rfl E.cl_Circle.mg) da_nil))))) (dss_one ds_never) dss_nil))
theorem c_check_circle (E : En K mg base L) : Cal Pg w K mg base (nt L) 1 "check_circle" ["circle"] m_check_circle := by
  obtain ⟨a, fd, F, hm, G⟩ := o_check_circle (Pg := Pg) (w := w) E
  exact ⟨a, fd, G, hm, F.kp, F.bindsN fun _ _ _ _ _ _ us hl => match us, hl with | [_], _ => rfl⟩
def n__law_pool : List Str := ["script", "lap", "cell", "stirred", "each"]
theorem sc__law_pool : FnScope n__law_pool ["script", "lap"] (defScope s__law_pool) := ⟨rfl, rfl, rfl, by decide +kernel, rfl, by decide +kernel, by decide +kernel⟩
noncomputable def v__law_pool : Sv := (dSeq (dAsg 2 (dVal (dIf (dTst (dOp2 fLtG (dVar 1) (dOpL (f1 lenD) (dCons (dVar 0) dNil)))) (dOpL (f1 intD) (dCons (dIx (dVar 0) (dVar 1)) dNil)) (dOp2 fAddG (dOp2 fMulG (dC (.int 11863)) (dVar 1)) (dC (.int 1237)))))) (dSeq (dAsg 3 (dVal (dOp2 fAddG (dC (.int 101797)) (dOp2 fMulG (dC (.int 9013)) (dVar 1))))) (dSeq (dFor (dSeqI (dSl (dVar 0) dNoPart (dPart (dC (.int 63))))) (bName 4) (dAsg 3 (dVal (dOp2 fMod (dOpL (f1 intD) (dCons (dOp2 fAddG (dOp2 fAddG (dOp2 fMulG (dVar 3) (dC (.int 40699))) (dOp2 fMod (dOpL (f1 intD) (dCons (dVar 4) dNil)) (dC (.int 2147483587)))) (dC (.int 23))) dNil)) (dC (.int 2147483629)))))) (dSeq (dAsg 3 (dVal (dOp2 fMod (dOpL (f1 intD) (dCons (dOp2 fAddG (dOp2 fAddG (dOp2 fMulG (dVar 3) (dC (.int 97))) (dOp2 fMulG (dOp2 fMod (dOpL (f1 intD) (dCons (dVar 2) dNil)) (dC (.int 2147483587))) (dC (.int 31013)))) (dC (.int 7))) dNil)) (dC (.int 2147483629))))) (dRet (dOpL fLst (dCons (dIf (dOr (dTst (dOp2 fLtG (dVar 2) (dC (.int 0)))) (dTst (dOp2 fGe (dVar 2) (dOp2 fPow (dC (.int 10)) (dC (.int 15)))))) (dOpL (f1 absD) (dCons (dVar 2) dNil)) (dC (.int 0))) (dCons (dVar 3) (dCons (dC (.int 0)) dNil)))))))))
noncomputable def m__law_pool : Mir := mir v__law_pool 2 5
theorem fits__law_pool : Fits 2 m__law_pool := mir_fits
theorem o__law_pool (E : En K mg base L) : ∃ a fd, FnP K "_law_pool" s__law_pool a fd ∧ mg "_law_pool" = some (.ref a) ∧ FnOk Pg w K mg base (L2.CX Pg w) 1 a fd ["script", "lap"] (spD K mg (nt L) 2 m__law_pool) := by
  obtain ⟨a, fd, F, hm⟩ := E.f__law_pool.ex
  refine ⟨a, fd, F, hm, fn_okD F sc__law_pool (fun fns bo O P cdv A outer s H Ex hr => ?_)⟩
  have hN : (n__law_pool).Nodup := sc__law_pool.nd
  exact (dss_cons (ds_set (i := 2) hN (de_val (de_ifx (dt_cmp op_ltG h_ltG (de_var 1) (de_callB call_len hl_len rfl E.b_len PyProof.Rows.Boot.«len» (da_cons (de_var 0) da_nil))) (de_callTy call_int1 hl_int rfl E.b_int PyProof.Rows.Boot.«int» (da_cons (de_sub_ix (de_var 0) (de_var 1)) da_nil)) (de_addG (de_mulG de_int (de_var 1)) de_int)))) (dss_cons (ds_set (i := 3) hN (de_val (de_addG de_int (de_mulG de_int (de_var 1))))) (dss_cons (ds_for (passes_of rfl) rfl (di_seq (de_slice (de_var 0) do_none (do_some de_int))) (fun _ => (dg_name hN)) (fun _ => (dss_one (ds_set (i := 3) hN (de_val (de_mod (de_callTy call_int1 hl_int rfl E.b_int PyProof.Rows.Boot.«int» (da_cons (de_addG (de_addG (de_mulG (de_var 3) de_int) (de_mod (de_callTy call_int1 hl_int rfl E.b_int PyProof.Rows.Boot.«int» (da_cons (de_var 4) da_nil)) de_int)) de_int) da_nil)) de_int)))))) (dss_cons (ds_set (i := 3) hN (de_val (de_mod (de_callTy call_int1 hl_int rfl E.b_int PyProof.Rows.Boot.«int» (da_cons (de_addG (de_addG (de_mulG (de_var 3) de_int) (de_mulG (de_mod (de_callTy call_int1 hl_int rfl E.b_int PyProof.Rows.Boot.«int» (da_cons (de_var 2) da_nil)) de_int) de_int)) de_int) da_nil)) de_int))) (dss_one (ds_ret (de_lst (da_cons (de_ifx (PW.pt (dw_or (dt_cmp op_ltG h_ltG (de_var 2) de_int) (dw_or1 (dt_cmp op_ge h_ge (de_var 2) (de_pow de_int de_int))))) (de_callB call_abs hl_abs rfl E.b_abs PyProof.Rows.Boot.«abs» (da_cons (de_var 2) da_nil)) de_int) (da_cons (de_var 3) (da_cons de_int da_nil))))))))))
theorem c__law_pool (E : En K mg base L) : Cal Pg w K mg base (nt L) 1 "_law_pool" ["script", "lap"] m__law_pool := by
  obtain ⟨a, fd, F, hm, G⟩ := o__law_pool (Pg := Pg) (w := w) E
  exact ⟨a, fd, G, hm, F.kp, F.bindsN fun _ _ _ _ _ _ us hl => match us, hl with | [_, _], _ => rfl⟩
def n__law_below : List Str := ["pool", "many", "figure", "stirred"]
theorem sc__law_below : FnScope n__law_below ["pool", "many"] (defScope s__law_below) := ⟨rfl, rfl, rfl, by decide +kernel, rfl, by decide +kernel, by decide +kernel⟩
noncomputable def v__law_below : Sv := (dSeq (dIfS (dTst (dOp2 fGt (dIx (dVar 0) (dC (.int 0))) (dC (.int 0)))) (dSeq (dSetIx2 0 2 (dC (.int 0)) (dOpL (f2 fDivmod) (dCons (dIx (dVar 0) (dC (.int 0))) (dCons (dVar 1) dNil)))) (dRet (dVar 2))) dNext) (dSeq (dSetIx 0 (dC (.int 2)) (dOp2 fAddG (dIx (dVar 0) (dC (.int 2))) (dC (.int 1)))) (dSeq (dAsg 3 (dVal (dOp2 fMod (dOpL (f1 intD) (dCons (dOp2 fAddG (dOp2 fAddG (dOp2 fMulG (dIx (dVar 0) (dC (.int 1))) (dC (.int 48677))) (dOp2 fMulG (dC (.int 3413)) (dIx (dVar 0) (dC (.int 2))))) (dC (.int 61))) dNil)) (dC (.int 2147483563))))) (dSeq (dSetIx 0 (dC (.int 1)) (dOp2 fMod (dOpL (f1 intD) (dCons (dOp2 fAddG (dOp2 fMulG (dVar 3) (dOp2 fAddG (dOp2 fMod (dOpL (f1 intD) (dCons (dVar 3) dNil)) (dC (.int 4001))) (dC (.int 17911)))) (dIx (dVar 0) (dC (.int 2)))) dNil)) (dC (.int 2147483563)))) (dRet (dOp2 fMod (dOpL (f1 intD) (dCons (dOp2 fDiv (dIx (dVar 0) (dC (.int 1))) (dC (.int 367))) dNil)) (dVar 1)))))))
noncomputable def m__law_below : Mir := mir v__law_below 2 4
theorem fits__law_below : Fits 2 m__law_below := mir_fits
theorem o__law_below (E : En K mg base L) : ∃ a fd, FnP K "_law_below" s__law_below a fd ∧ mg "_law_below" = some (.ref a) ∧ FnOk Pg w K mg base (L2.CX Pg w) 1 a fd ["pool", "many"] (spD K mg (nt L) 2 m__law_below) := by
  obtain ⟨a, fd, F, hm⟩ := E.f__law_below.ex
  refine ⟨a, fd, F, hm, fn_okD F sc__law_below (fun fns bo O P cdv A outer s H Ex hr => ?_)⟩
  have hN : (n__law_below).Nodup := sc__law_below.nd
  exact (dss_cons (ds_if (dt_cmp op_gt h_gt (de_sub_ix (de_var 0) de_int) de_int) (dss_cons (ds_setIx2 0 2 rfl hN (de_callB call_divmod hl_divmod rfl E.b_divmod PyProof.Rows.Boot.«divmod» (da_cons (de_sub_ix (de_var 0) de_int) (da_cons (de_var 1) da_nil))) de_int) (dss_one (ds_ret (de_var 2)))) dss_nil) (dss_cons (ds_setIx 0 (de_addG (de_sub_ix (de_var 0) de_int) de_int) de_int) (dss_cons (ds_set (i := 3) hN (de_val (de_mod (de_callTy call_int1 hl_int rfl E.b_int PyProof.Rows.Boot.«int» (da_cons (de_addG (de_addG (de_mulG (de_sub_ix (de_var 0) de_int) de_int) (de_mulG de_int (de_sub_ix (de_var 0) de_int))) de_int) da_nil)) de_int))) (dss_cons (ds_setIx 0 (de_mod (de_callTy call_int1 hl_int rfl E.b_int PyProof.Rows.Boot.«int» (da_cons (de_addG (de_mulG (de_var 3) (de_addG (de_mod (de_callTy call_int1 hl_int rfl E.b_int PyProof.Rows.Boot.«int» (da_cons (de_var 3) da_nil)) de_int) de_int)) (de_sub_ix (de_var 0) de_int)) da_nil)) de_int) de_int) (dss_one (ds_ret (de_mod (de_callTy call_int1 hl_int rfl E.b_int PyProof.Rows.Boot.«int» (da_cons (de_div (de_sub_ix (de_var 0) de_int) de_int) da_nil)) (de_var 1))))))))
theorem c__law_below (E : En K mg base L) : Cal Pg w K mg base (nt L) 1 "_law_below" ["pool", "many"] m__law_below := by
  obtain ⟨a, fd, F, hm, G⟩ := o__law_below (Pg := Pg) (w := w) E
  exact ⟨a, fd, G, hm, F.kp, F.bindsN fun _ _ _ _ _ _ us hl => match us, hl with | [_, _], _ => rfl⟩
def n__law_same : List Str := ["told", "due", "fits", "k"]
theorem sc__law_same : FnScope n__law_same ["told", "due"] (defScope s__law_same) := ⟨rfl, rfl, rfl, by decide +kernel, rfl, by decide +kernel, by decide +kernel⟩
noncomputable def v__law_same (self : Mir) : Sv := (dSeq (dIfS (dOr (dTst (dOpL (f2 (fIsiC cCls)) (dCons (dVar 1) (dCons (dC (.ty "tuple")) dNil)))) (dTst (dOpL (f2 (fIsiC cCls)) (dCons (dVar 1) (dCons (dC (.ty "list")) dNil))))) (dSeq (dAsg 2 (dVal (dIf (dTst (dOpL (f2 (fIsiC cCls)) (dCons (dVar 1) (dCons (dC (.ty "tuple")) dNil)))) (dOpL (f2 (fIsiC cCls)) (dCons (dVar 0) (dCons (dC (.ty "tuple")) dNil))) (dOpL (f2 (fIsiC cCls)) (dCons (dVar 0) (dCons (dC (.ty "list")) dNil)))))) (dRet (dAndV (dVar 2) (dAndV (dOp2 fEq (dOpL (f1 lenD) (dCons (dVar 0) dNil)) (dOpL (f1 lenD) (dCons (dVar 1) dNil))) (dOpL (f1 allD) (dCons (dComp (dRng1 (dOpL (f1 lenD) (dCons (dVar 1) dNil))) (bName 3) dYes (dCall self (dCons (dIx (dVar 0) (dVar 3)) (dCons (dIx (dVar 1) (dVar 3)) dNil))) [3]) dNil)))))) dNext) (dSeq (dIfS (dTst (dOp2 fIsN (dVar 1) (dC .non))) (dRet (dOp2 fIsN (dVar 0) (dC .non))) dNext) (dSeq (dIfS (dTst (dOpL (f2 (fIsiC cCls)) (dCons (dVar 1) (dCons (dC (.ty "bool")) dNil)))) (dRet (dAndV (dOpL (f2 (fIsiC cCls)) (dCons (dVar 0) (dCons (dC (.ty "bool")) dNil))) (dOp2 fEq (dVar 0) (dVar 1)))) dNext) (dSeq (dIfS (dTst (dOpL (f2 (fIsiC cCls)) (dCons (dVar 1) (dCons (dC (.ty "int")) dNil)))) (dRet (dAndV (dOpL (f2 (fIsiC cCls)) (dCons (dVar 0) (dCons (dC (.ty "int")) dNil))) (dAndV (dNotV (dOpL (f2 (fIsiC cCls)) (dCons (dVar 0) (dCons (dC (.ty "bool")) dNil)))) (dOp2 fEq (dVar 0) (dVar 1))))) dNext) (dRet (dAndV (dOpL (f2 (fIsiC cCls)) (dCons (dVar 1) (dCons (dC (.ty "str")) dNil))) (dAndV (dOpL (f2 (fIsiC cCls)) (dCons (dVar 0) (dCons (dC (.ty "str")) dNil))) (dOp2 fEq (dVar 0) (dVar 1)))))))))
noncomputable def m__law_same : Nat → Mir
  | 0 => fun _ _ => .bad
  | k + 1 => mir (v__law_same (m__law_same k)) 2 4
theorem fits__law_same0 : ∀ {k : Nat}, Fits 2 (m__law_same k)
  | 0 => fun _ _ _ => rfl
  | k + 1 => mir_fits
theorem fits__law_same : Fits 2 (m__law_same 8) := fits__law_same0
theorem cn__law_same (E : En K mg base L) : ∀ k : Nat, Cal Pg w K mg base (nt L) (1 + k) "_law_same" ["told", "due"] (m__law_same k)
  | 0 => by
    obtain ⟨a, fd, F, hm⟩ := E.f__law_same.ex
    exact ⟨a, fd, fn_bad F sc__law_same, hm, F.kp, F.bindsN fun _ _ _ _ _ _ us hl => match us, hl with | [_, _], _ => rfl⟩
  | k + 1 => by
    have cr := cn__law_same E k
    have mr : Fits 2 (m__law_same k) := fits__law_same0
    obtain ⟨a, fd, F, hm⟩ := E.f__law_same.ex
    refine ⟨a, fd, fn_okD F sc__law_same (fun fns bo O P cdv A outer s H Ex hr => ?_), hm, F.kp, F.bindsN fun _ _ _ _ _ _ us hl => match us, hl with | [_, _], _ => rfl⟩
    have hN : (n__law_same).Nodup := sc__law_same.nd
    generalize hself : m__law_same k = self at cr mr ⊢
    exact (dss_cons (ds_if (PW.pt (dw_or (dt_val (de_callB call_isi (hl_isiC E.cls) rfl E.b_isinstance PyProof.Rows.Boot.«isinstance» (da_cons (de_var 1) (da_cons (de_ty rfl E.b_tuple PyProof.Rows.Boot.«tuple») da_nil)))) (dw_or1 (dt_val (de_callB call_isi (hl_isiC E.cls) rfl E.b_isinstance PyProof.Rows.Boot.«isinstance» (da_cons (de_var 1) (da_cons (de_ty rfl E.b_list PyProof.Rows.Boot.«list») da_nil))))))) (dss_cons (ds_set (i := 2) hN (de_val (de_ifx (dt_val (de_callB call_isi (hl_isiC E.cls) rfl E.b_isinstance PyProof.Rows.Boot.«isinstance» (da_cons (de_var 1) (da_cons (de_ty rfl E.b_tuple PyProof.Rows.Boot.«tuple») da_nil)))) (de_callB call_isi (hl_isiC E.cls) rfl E.b_isinstance PyProof.Rows.Boot.«isinstance» (da_cons (de_var 0) (da_cons (de_ty rfl E.b_tuple PyProof.Rows.Boot.«tuple») da_nil))) (de_callB call_isi (hl_isiC E.cls) rfl E.b_isinstance PyProof.Rows.Boot.«isinstance» (da_cons (de_var 0) (da_cons (de_ty rfl E.b_list PyProof.Rows.Boot.«list») da_nil)))))) (dss_one (ds_ret (de_and (de_var 2) (de_and (de_cmp (op_eqD (u64 hr)) h_eq (de_callB call_len hl_len rfl E.b_len PyProof.Rows.Boot.«len» (da_cons (de_var 0) da_nil)) (de_callB call_len hl_len rfl E.b_len PyProof.Rows.Boot.«len» (da_cons (de_var 1) da_nil))) (de_one (de_callB (cr_all rfl) hl_all rfl E.b_all PyProof.Rows.Boot.«all» (da_cons (de_lc (own := [("k", 3)]) rfl hN (di_dj (di_rng1 rfl E.b_range (de_callB call_len hl_len rfl E.b_len PyProof.Rows.Boot.«len» (da_cons (de_var 1) da_nil)))) (blkOk_by rfl) (by decide) (fun O P s H C cl fp => (dg_name hN)) (fun O P s H C cl fp => dts_nil) (fun O P s H C cl fp => (de_call cr mr hr L2.takes0 rfl (da_cons (de_sub_ix (de_var 0) (de_var 3)) (da_cons (de_sub_ix (de_var 1) (de_var 3)) da_nil))))) da_nil)))))))) dss_nil) (dss_cons (ds_if (dt_cmp op_isN h_isN (de_var 1) de_non) (dss_one (ds_ret (de_cmp op_isN h_isN (de_var 0) de_non))) dss_nil) (dss_cons (ds_if (dt_val (de_callB call_isi (hl_isiC E.cls) rfl E.b_isinstance PyProof.Rows.Boot.«isinstance» (da_cons (de_var 1) (da_cons (de_ty rfl E.b_bool PyProof.Rows.Boot.«bool») da_nil)))) (dss_one (ds_ret (de_and (de_callB call_isi (hl_isiC E.cls) rfl E.b_isinstance PyProof.Rows.Boot.«isinstance» (da_cons (de_var 0) (da_cons (de_ty rfl E.b_bool PyProof.Rows.Boot.«bool») da_nil))) (de_one (de_cmp (op_eqD (u64 hr)) h_eq (de_var 0) (de_var 1)))))) dss_nil) (dss_cons (ds_if (dt_val (de_callB call_isi (hl_isiC E.cls) rfl E.b_isinstance PyProof.Rows.Boot.«isinstance» (da_cons (de_var 1) (da_cons (de_ty rfl E.b_int PyProof.Rows.Boot.«int») da_nil)))) (dss_one (ds_ret (de_and (de_callB call_isi (hl_isiC E.cls) rfl E.b_isinstance PyProof.Rows.Boot.«isinstance» (da_cons (de_var 0) (da_cons (de_ty rfl E.b_int PyProof.Rows.Boot.«int») da_nil))) (de_and (de_not (de_callB call_isi (hl_isiC E.cls) rfl E.b_isinstance PyProof.Rows.Boot.«isinstance» (da_cons (de_var 0) (da_cons (de_ty rfl E.b_bool PyProof.Rows.Boot.«bool») da_nil)))) (de_one (de_cmp (op_eqD (u64 hr)) h_eq (de_var 0) (de_var 1))))))) dss_nil) (dss_one (ds_ret (de_and (de_callB call_isi (hl_isiC E.cls) rfl E.b_isinstance PyProof.Rows.Boot.«isinstance» (da_cons (de_var 1) (da_cons (de_ty rfl E.b_str PyProof.Rows.Boot.«str») da_nil))) (de_and (de_callB call_isi (hl_isiC E.cls) rfl E.b_isinstance PyProof.Rows.Boot.«isinstance» (da_cons (de_var 0) (da_cons (de_ty rfl E.b_str PyProof.Rows.Boot.«str») da_nil))) (de_one (de_cmp (op_eqD (u64 hr)) h_eq (de_var 0) (de_var 1)))))))))))
theorem c__law_same (E : En K mg base L) : Cal Pg w K mg base (nt L) 9 "_law_same" ["told", "due"] (m__law_same 8) := (cn__law_same E 8).mono (by decide)
def n__law_fr : List Str := ["n", "m", "low", "high"]
theorem sc__law_fr : FnScope n__law_fr ["n", "m"] (defScope s__law_fr) := ⟨rfl, rfl, rfl, by decide +kernel, rfl, by decide +kernel, by decide +kernel⟩
noncomputable def v__law_fr : Sv := (dSeq (dPar2 2 3 (dVal (dOpL (f1 absD) (dCons (dVar 1) dNil))) (dVal (dOpL (f1 absD) (dCons (dVar 0) dNil)))) (dSeq (dWhile (dTst (dOp2 fGt (dVar 3) (dC (.int 0)))) (dPar2 2 3 (dVal (dVar 3)) (dVal (dOp2 fMod (dOpL (f1 intD) (dCons (dVar 2) dNil)) (dVar 3))))) (dRet (dIf (dTst (dOp2 fGt (dVar 1) (dC (.int 0)))) (dOpL fTup (dCons (dOp2 fDiv (dVar 0) (dVar 2)) (dCons (dOp2 fDiv (dVar 1) (dVar 2)) dNil))) (dOpL fTup (dCons (dOp2 fDiv (dOp1 fNeg (dVar 0)) (dVar 2)) (dCons (dOp2 fDiv (dOp1 fNeg (dVar 1)) (dVar 2)) dNil)))))))
noncomputable def m__law_fr : Mir := mir v__law_fr 2 4
theorem fits__law_fr : Fits 2 m__law_fr := mir_fits
theorem o__law_fr (E : En K mg base L) : ∃ a fd, FnP K "_law_fr" s__law_fr a fd ∧ mg "_law_fr" = some (.ref a) ∧ FnOk Pg w K mg base (L2.CX Pg w) 1 a fd ["n", "m"] (spD K mg (nt L) 2 m__law_fr) := by
  obtain ⟨a, fd, F, hm⟩ := E.f__law_fr.ex
  refine ⟨a, fd, F, hm, fn_okD F sc__law_fr (fun fns bo O P cdv A outer s H Ex hr => ?_)⟩
  have hN : (n__law_fr).Nodup := sc__law_fr.nd
  exact (dss_cons (ds_par2 2 3 rfl hN (de_val (de_callB call_abs hl_abs rfl E.b_abs PyProof.Rows.Boot.«abs» (da_cons (de_var 1) da_nil))) (fun O => (de_val (de_callB call_abs hl_abs rfl E.b_abs PyProof.Rows.Boot.«abs» (da_cons (de_var 0) da_nil))))) (dss_cons (ds_while (passes_of rfl) (dt_cmp op_gt h_gt (de_var 3) de_int) (dss_one (ds_par2 2 3 rfl hN (de_val (de_var 3)) (fun O => (de_val (de_mod (de_callTy call_int1 hl_int rfl E.b_int PyProof.Rows.Boot.«int» (da_cons (de_var 2) da_nil)) (de_var 3))))))) (dss_one (ds_ret (de_ifx (dt_cmp op_gt h_gt (de_var 1) de_int) (de_tup (da_cons (de_div (de_var 0) (de_var 2)) (da_cons (de_div (de_var 1) (de_var 2)) da_nil))) (de_tup (da_cons (de_div (de_neg (de_var 0)) (de_var 2)) (da_cons (de_div (de_neg (de_var 1)) (de_var 2)) da_nil))))))))
theorem c__law_fr (E : En K mg base L) : Cal Pg w K mg base (nt L) 1 "_law_fr" ["n", "m"] m__law_fr := by
  obtain ⟨a, fd, F, hm, G⟩ := o__law_fr (Pg := Pg) (w := w) E
  exact ⟨a, fd, G, hm, F.kp, F.bindsN fun _ _ _ _ _ _ us hl => match us, hl with | [_, _], _ => rfl⟩
def n_is_between : List Str := ["value", "least", "most"]
theorem sc_is_between : FnScope n_is_between ["value", "least", "most"] (defScope s_is_between) := ⟨rfl, rfl, rfl, by decide +kernel, rfl, by decide +kernel, by decide +kernel⟩
noncomputable def v_is_between : Sv := (dRet (dAndV (dCall m_is_whole (dCons (dVar 0) dNil)) (dChain fLe fLe (dVar 1) (dVar 0) (dVar 2))))
noncomputable def m_is_between : Mir := mir v_is_between 3 3
theorem fits_is_between : Fits 3 m_is_between := mir_fits
theorem o_is_between (E : En K mg base L) : ∃ a fd, FnP K "is_between" s_is_between a fd ∧ mg "is_between" = some (.ref a) ∧ FnOk Pg w K mg base (L2.CX Pg w) 2 a fd ["value", "least", "most"] (spD K mg (nt L) 3 m_is_between) := by
  obtain ⟨a, fd, F, hm⟩ := E.f_is_between.ex
  refine ⟨a, fd, F, hm, fn_okD F sc_is_between (fun fns bo O P cdv A outer s H Ex hr => ?_)⟩
  have hN : (n_is_between).Nodup := sc_is_between.nd
  exact (dss_one (ds_ret (de_and (de_call ((c_is_whole E).mono (by decide)) fits_is_whole hr (takes_of rfl rfl rfl rfl) rfl (da_cons (de_var 0) da_nil)) (de_one (de_chain op_le op_le h_le h_le (de_var 1) (de_var 0) (de_var 2))))))
theorem c_is_between (E : En K mg base L) : Cal Pg w K mg base (nt L) 2 "is_between" ["value", "least", "most"] m_is_between := by
  obtain ⟨a, fd, F, hm, G⟩ := o_is_between (Pg := Pg) (w := w) E
  exact ⟨a, fd, G, hm, F.kp, F.bindsN fun _ _ _ _ _ _ us hl => match us, hl with | [_, _, _], _ => rfl⟩
def n_is_name : List Str := ["value"]
theorem sc_is_name : FnScope n_is_name ["value"] (defScope s_is_name) := ⟨rfl, rfl, rfl, by decide +kernel, rfl, by decide +kernel, by decide +kernel⟩
noncomputable def v_is_name : Sv := (dRet (dAndV (dCall m_is_word (dCons (dVar 0) dNil)) (dAndV (dOp2 fLe (dOpL (f1 lenD) (dCons (dVar 0) dNil)) (dC c_MOST_LETTERS)) (dOp2 fNotInS (dVar 0) (dC c_WORDS)))))
noncomputable def m_is_name : Mir := mir v_is_name 1 1
theorem fits_is_name : Fits 1 m_is_name := mir_fits
theorem o_is_name (E : En K mg base L) : ∃ a fd, FnP K "is_name" s_is_name a fd ∧ mg "is_name" = some (.ref a) ∧ FnOk Pg w K mg base (L2.CX Pg w) 2 a fd ["value"] (spD K mg (nt L) 1 m_is_name) := by
  obtain ⟨a, fd, F, hm⟩ := E.f_is_name.ex
  refine ⟨a, fd, F, hm, fn_okD F sc_is_name (fun fns bo O P cdv A outer s H Ex hr => ?_)⟩
  have hN : (n_is_name).Nodup := sc_is_name.nd
  exact (dss_one (ds_ret (de_and (de_call ((c_is_word E).mono (by decide)) fits_is_word hr (takes_of rfl rfl rfl rfl) rfl (da_cons (de_var 0) da_nil)) (de_and (de_cmp op_le h_le (de_callB call_len hl_len rfl E.b_len PyProof.Rows.Boot.«len» (da_cons (de_var 0) da_nil)) (dk_MOST_LETTERS E)) (de_one (de_cmp (OpR.or (OpR.or (op_notInD (u65 hr)) (op_notInT (u65 hr))) op_notIn_sign) h_notInS (de_var 0) (dk_WORDS E) (by with_unfolding_all rfl)))))))
theorem c_is_name (E : En K mg base L) : Cal Pg w K mg base (nt L) 2 "is_name" ["value"] m_is_name := by
  obtain ⟨a, fd, F, hm, G⟩ := o_is_name (Pg := Pg) (w := w) E
  exact ⟨a, fd, G, hm, F.kp, F.bindsN fun _ _ _ _ _ _ us hl => match us, hl with | [_], _ => rfl⟩
def n_is_pair : List Str := ["value"]
theorem sc_is_pair : FnScope n_is_pair ["value"] (defScope s_is_pair) := ⟨rfl, rfl, rfl, by decide +kernel, rfl, by decide +kernel, by decide +kernel⟩
noncomputable def v_is_pair : Sv := (dRet (dCall m_is_tuple_of (dCons (dVar 0) (dCons (dC (.int 2)) dNil))))
noncomputable def m_is_pair : Mir := mir v_is_pair 1 1
theorem fits_is_pair : Fits 1 m_is_pair := mir_fits
theorem o_is_pair (E : En K mg base L) : ∃ a fd, FnP K "is_pair" s_is_pair a fd ∧ mg "is_pair" = some (.ref a) ∧ FnOk Pg w K mg base (L2.CX Pg w) 2 a fd ["value"] (spD K mg (nt L) 1 m_is_pair) := by
  obtain ⟨a, fd, F, hm⟩ := E.f_is_pair.ex
  refine ⟨a, fd, F, hm, fn_okD F sc_is_pair (fun fns bo O P cdv A outer s H Ex hr => ?_)⟩
  have hN : (n_is_pair).Nodup := sc_is_pair.nd
  exact (dss_one (ds_ret (de_call ((c_is_tuple_of E).mono (by decide)) fits_is_tuple_of hr (takes_of rfl rfl rfl rfl) rfl (da_cons (de_var 0) (da_cons de_int da_nil)))))
theorem c_is_pair (E : En K mg base L) : Cal Pg w K mg base (nt L) 2 "is_pair" ["value"] m_is_pair := by
  obtain ⟨a, fd, F, hm, G⟩ := o_is_pair (Pg := Pg) (w := w) E
  exact ⟨a, fd, G, hm, F.kp, F.bindsN fun _ _ _ _ _ _ us hl => match us, hl with | [_], _ => rfl⟩
noncomputable def l_wrong_in_all_0 (cm : Option CM) : Ev := (dCallV 2 (fun _ => none) cm (dCons (dVar 1) dNil))
def n_wrong_in_all : List Str := ["value", "many", "is_right"]
theorem sc_wrong_in_all : FnScope n_wrong_in_all ["value", "many", "is_right"] (defScope s_wrong_in_all) := ⟨rfl, rfl, rfl, by decide +kernel, rfl, by decide +kernel, by decide +kernel⟩
noncomputable def v_wrong_in_all (cm : Option CM) : Sv := (dRet (dIf (dTst (dCall m_is_tuple_of (dCons (dVar 0) (dCons (dVar 1) dNil)))) (dCallH m_wrong_in (dCons (dVar 0) (dCons (dVar 1) (dCons (dVar 1) dNil))) 2 (lamM (l_wrong_in_all_0 cm) 2 3 [2])) (dOpL fLst (dCons (dC .non) dNil))))
noncomputable def m_wrong_in_all (cm : CM) : Mir := fun ds b => clean (mir (v_wrong_in_all (some cm)) 3 3 ds b)
theorem hfit_wrong_in_all (n : Nat) (hn : n = 3 := by rfl) : ∀ cm ds b, ds.length ≠ n → m_wrong_in_all cm ds b = .bad := fun cm ds b h => by
  subst hn
  unfold m_wrong_in_all mir
  rw [if_neg h]
  rfl
theorem c_wrong_in_all (E : En K mg base L) (kc : Nat) : HFn Pg w K mg base (nt L) (kc + 3 + 1) "wrong_in_all" 3 kc m_wrong_in_all := by
  obtain ⟨a, fd, F, hm, ht⟩ := E.f_wrong_in_all.ex
  refine hfn_of (dv := fun cm => v_wrong_in_all (some cm)) F sc_wrong_in_all hm (F.bindsN fun _ _ _ _ _ _ us hl => match us, hl with | [_, _, _], _ => rfl) fun bo O P cdv A outer s H Ex f' cm hcd hP hr => ?_
  have hN : (n_wrong_in_all).Nodup := sc_wrong_in_all.nd
  have tab : ∃ c P, TabB base mg c P ∧ cdv = .ref c ∧ (P, (envOfC "wrong_in_all" (defScope s_wrong_in_all) s.heap.objs.size a cdv).qual ++ "<lambda>") ∈ L ∧ ∀ p ∈ L, p.1 = P → p.2 = (envOfC "wrong_in_all" (defScope s_wrong_in_all) s.heap.objs.size a cdv).qual ++ "<lambda>" := by
    obtain ⟨c, P, h1, h2, h3, h4⟩ := ht
    exact ⟨c, P, h1, by rw [← hcd]; exact h2, h3, h4⟩
  exact (dss_one (ds_ret (de_ifx (dt_val (de_call ((c_is_tuple_of E).mono (by omega)) fits_is_tuple_of hr (takes_of rfl rfl rfl rfl) rfl (da_cons (de_var 0) (da_cons (de_var 1) da_nil)))) (de_callH (N2 := ["ahead", "each", "is_right"]) (ps2 := ["ahead", "each"]) (fr2 := ["is_right"]) (js := [2]) (ev := l_wrong_in_all_0 cm) (mh := m_wrong_in) (kp := kc) (kl := kc) (c_wrong_in E (kc + 1)) (hfit_wrong_in _) (hr.mono (by omega)) (takes_of rfl rfl rfl rfl) rfl ⟨tab, rfl, free_by rfl⟩ ⟨nscope_by (by decide +kernel), by decide +kernel, rfl, fun _ _ _ _ _ us hl => match us, hl with | [_, _], _ => rfl⟩ (dl_cons (de_var 0) (dl_cons (de_var 1) (dl_cons (de_var 1) (dl_one ⟨tab, rfl, free_by rfl⟩)))) rfl (by omega) hP (fun O P2 A2 outer2 s2 H2 Ex2 f2 c2 hP2 hr => (de_callV 2 gm_none hP2 hr (by omega) (takes_of rfl rfl rfl rfl) (da_cons (de_var 1) da_nil)))) (de_lst (da_cons de_non da_nil)))))
def n_plus : List Str := ["one", "two"]
theorem sc_plus : FnScope n_plus ["one", "two"] (defScope s_plus) := ⟨rfl, rfl, rfl, by decide +kernel, rfl, by decide +kernel, by decide +kernel⟩
noncomputable def v_plus : Sv := (dRet (dCall m_lowest (dCons (dOp2 fAddG (dOp2 fMulG (dIx (dVar 0) (dC (.int 0))) (dIx (dVar 1) (dC (.int 1)))) (dOp2 fMulG (dIx (dVar 1) (dC (.int 0))) (dIx (dVar 0) (dC (.int 1))))) (dCons (dOp2 fMulG (dIx (dVar 0) (dC (.int 1))) (dIx (dVar 1) (dC (.int 1)))) dNil))))
noncomputable def m_plus : Mir := mir v_plus 2 2
theorem fits_plus : Fits 2 m_plus := mir_fits
theorem o_plus (E : En K mg base L) : ∃ a fd, FnP K "plus" s_plus a fd ∧ mg "plus" = some (.ref a) ∧ FnOk Pg w K mg base (L2.CX Pg w) 2 a fd ["one", "two"] (spD K mg (nt L) 2 m_plus) := by
  obtain ⟨a, fd, F, hm⟩ := E.f_plus.ex
  refine ⟨a, fd, F, hm, fn_okD F sc_plus (fun fns bo O P cdv A outer s H Ex hr => ?_)⟩
  have hN : (n_plus).Nodup := sc_plus.nd
  exact (dss_one (ds_ret (de_call ((c_lowest E).mono (by decide)) fits_lowest hr (takes_of rfl rfl rfl rfl) rfl (da_cons (de_addG (de_mulG (de_sub_ix (de_var 0) de_int) (de_sub_ix (de_var 1) de_int)) (de_mulG (de_sub_ix (de_var 1) de_int) (de_sub_ix (de_var 0) de_int))) (da_cons (de_mulG (de_sub_ix (de_var 0) de_int) (de_sub_ix (de_var 1) de_int)) da_nil)))))
theorem c_plus (E : En K mg base L) : Cal Pg w K mg base (nt L) 2 "plus" ["one", "two"] m_plus := by
  obtain ⟨a, fd, F, hm, G⟩ := o_plus (Pg := Pg) (w := w) E
  exact ⟨a, fd, G, hm, F.kp, F.bindsN fun _ _ _ _ _ _ us hl => match us, hl with | [_, _], _ => rfl⟩
def n_minus : List Str := ["one", "two"]
theorem sc_minus : FnScope n_minus ["one", "two"] (defScope s_minus) := ⟨rfl, rfl, rfl, by decide +kernel, rfl, by decide +kernel, by decide +kernel⟩
noncomputable def v_minus : Sv := (dRet (dCall m_lowest (dCons (dOp2 fSub (dOp2 fMulG (dIx (dVar 0) (dC (.int 0))) (dIx (dVar 1) (dC (.int 1)))) (dOp2 fMulG (dIx (dVar 1) (dC (.int 0))) (dIx (dVar 0) (dC (.int 1))))) (dCons (dOp2 fMulG (dIx (dVar 0) (dC (.int 1))) (dIx (dVar 1) (dC (.int 1)))) dNil))))
noncomputable def m_minus : Mir := mir v_minus 2 2
theorem fits_minus : Fits 2 m_minus := mir_fits
theorem o_minus (E : En K mg base L) : ∃ a fd, FnP K "minus" s_minus a fd ∧ mg "minus" = some (.ref a) ∧ FnOk Pg w K mg base (L2.CX Pg w) 2 a fd ["one", "two"] (spD K mg (nt L) 2 m_minus) := by
  obtain ⟨a, fd, F, hm⟩ := E.f_minus.ex
  refine ⟨a, fd, F, hm, fn_okD F sc_minus (fun fns bo O P cdv A outer s H Ex hr => ?_)⟩
  have hN : (n_minus).Nodup := sc_minus.nd
  exact (dss_one (ds_ret (de_call ((c_lowest E).mono (by decide)) fits_lowest hr (takes_of rfl rfl rfl rfl) rfl (da_cons (de_sub (de_mulG (de_sub_ix (de_var 0) de_int) (de_sub_ix (de_var 1) de_int)) (de_mulG (de_sub_ix (de_var 1) de_int) (de_sub_ix (de_var 0) de_int))) (da_cons (de_mulG (de_sub_ix (de_var 0) de_int) (de_sub_ix (de_var 1) de_int)) da_nil)))))
theorem c_minus (E : En K mg base L) : Cal Pg w K mg base (nt L) 2 "minus" ["one", "two"] m_minus := by
  obtain ⟨a, fd, F, hm, G⟩ := o_minus (Pg := Pg) (w := w) E
  exact ⟨a, fd, G, hm, F.kp, F.bindsN fun _ _ _ _ _ _ us hl => match us, hl with | [_, _], _ => rfl⟩
def n_times : List Str := ["one", "two"]
theorem sc_times : FnScope n_times ["one", "two"] (defScope s_times) := ⟨rfl, rfl, rfl, by decide +kernel, rfl, by decide +kernel, by decide +kernel⟩
noncomputable def v_times : Sv := (dRet (dCall m_lowest (dCons (dOp2 fMulG (dIx (dVar 0) (dC (.int 0))) (dIx (dVar 1) (dC (.int 0)))) (dCons (dOp2 fMulG (dIx (dVar 0) (dC (.int 1))) (dIx (dVar 1) (dC (.int 1)))) dNil))))
noncomputable def m_times : Mir := mir v_times 2 2
theorem fits_times : Fits 2 m_times := mir_fits
theorem o_times (E : En K mg base L) : ∃ a fd, FnP K "times" s_times a fd ∧ mg "times" = some (.ref a) ∧ FnOk Pg w K mg base (L2.CX Pg w) 2 a fd ["one", "two"] (spD K mg (nt L) 2 m_times) := by
  obtain ⟨a, fd, F, hm⟩ := E.f_times.ex
  refine ⟨a, fd, F, hm, fn_okD F sc_times (fun fns bo O P cdv A outer s H Ex hr => ?_)⟩
  have hN : (n_times).Nodup := sc_times.nd
  exact (dss_one (ds_ret (de_call ((c_lowest E).mono (by decide)) fits_lowest hr (takes_of rfl rfl rfl rfl) rfl (da_cons (de_mulG (de_sub_ix (de_var 0) de_int) (de_sub_ix (de_var 1) de_int)) (da_cons (de_mulG (de_sub_ix (de_var 0) de_int) (de_sub_ix (de_var 1) de_int)) da_nil)))))
theorem c_times (E : En K mg base L) : Cal Pg w K mg base (nt L) 2 "times" ["one", "two"] m_times := by
  obtain ⟨a, fd, F, hm, G⟩ := o_times (Pg := Pg) (w := w) E
  exact ⟨a, fd, G, hm, F.kp, F.bindsN fun _ _ _ _ _ _ us hl => match us, hl with | [_, _], _ => rfl⟩
def n_lesser : List Str := ["one", "two"]
theorem sc_lesser : FnScope n_lesser ["one", "two"] (defScope s_lesser) := ⟨rfl, rfl, rfl, by decide +kernel, rfl, by decide +kernel, by decide +kernel⟩
noncomputable def v_lesser : Sv := (dRet (dIf (dTst (dCall m_is_less (dCons (dVar 1) (dCons (dVar 0) dNil)))) (dVar 1) (dVar 0)))
noncomputable def m_lesser : Mir := mir v_lesser 2 2
theorem fits_lesser : Fits 2 m_lesser := mir_fits
theorem o_lesser (E : En K mg base L) : ∃ a fd, FnP K "lesser" s_lesser a fd ∧ mg "lesser" = some (.ref a) ∧ FnOk Pg w K mg base (L2.CX Pg w) 2 a fd ["one", "two"] (spD K mg (nt L) 2 m_lesser) := by
  obtain ⟨a, fd, F, hm⟩ := E.f_lesser.ex
  refine ⟨a, fd, F, hm, fn_okD F sc_lesser (fun fns bo O P cdv A outer s H Ex hr => ?_)⟩
  have hN : (n_lesser).Nodup := sc_lesser.nd
  exact (dss_one (ds_ret (de_ifx (dt_val (de_call ((c_is_less E).mono (by decide)) fits_is_less hr (takes_of rfl rfl rfl rfl) rfl (da_cons (de_var 1) (da_cons (de_var 0) da_nil)))) (de_var 1) (de_var 0))))
theorem c_lesser (E : En K mg base L) : Cal Pg w K mg base (nt L) 2 "lesser" ["one", "two"] m_lesser := by
  obtain ⟨a, fd, F, hm, G⟩ := o_lesser (Pg := Pg) (w := w) E
  exact ⟨a, fd, G, hm, F.kp, F.bindsN fun _ _ _ _ _ _ us hl => match us, hl with | [_, _], _ => rfl⟩
def n_greater : List Str := ["one", "two"]
theorem sc_greater : FnScope n_greater ["one", "two"] (defScope s_greater) := ⟨rfl, rfl, rfl, by decide +kernel, rfl, by decide +kernel, by decide +kernel⟩
noncomputable def v_greater : Sv := (dRet (dIf (dTst (dCall m_is_less (dCons (dVar 0) (dCons (dVar 1) dNil)))) (dVar 1) (dVar 0)))
noncomputable def m_greater : Mir := mir v_greater 2 2
theorem fits_greater : Fits 2 m_greater := mir_fits
theorem o_greater (E : En K mg base L) : ∃ a fd, FnP K "greater" s_greater a fd ∧ mg "greater" = some (.ref a) ∧ FnOk Pg w K mg base (L2.CX Pg w) 2 a fd ["one", "two"] (spD K mg (nt L) 2 m_greater) := by
  obtain ⟨a, fd, F, hm⟩ := E.f_greater.ex
  refine ⟨a, fd, F, hm, fn_okD F sc_greater (fun fns bo O P cdv A outer s H Ex hr => ?_)⟩
  have hN : (n_greater).Nodup := sc_greater.nd
  exact (dss_one (ds_ret (de_ifx (dt_val (de_call ((c_is_less E).mono (by decide)) fits_is_less hr (takes_of rfl rfl rfl rfl) rfl (da_cons (de_var 0) (da_cons (de_var 1) da_nil)))) (de_var 1) (de_var 0))))
theorem c_greater (E : En K mg base L) : Cal Pg w K mg base (nt L) 2 "greater" ["one", "two"] m_greater := by
  obtain ⟨a, fd, F, hm, G⟩ := o_greater (Pg := Pg) (w := w) E
  exact ⟨a, fd, G, hm, F.kp, F.bindsN fun _ _ _ _ _ _ us hl => match us, hl with | [_, _], _ => rfl⟩
def n__law_one : List Str := ["pool", "some"]
theorem sc__law_one : FnScope n__law_one ["pool", "some"] (defScope s__law_one) := ⟨rfl, rfl, rfl, by decide +kernel, rfl, by decide +kernel, by decide +kernel⟩
noncomputable def v__law_one : Sv := (dRet (dIx (dVar 1) (dCall m__law_below (dCons (dVar 0) (dCons (dOpL (f1 lenD) (dCons (dVar 1) dNil)) dNil)))))
noncomputable def m__law_one : Mir := mir v__law_one 2 2
theorem fits__law_one : Fits 2 m__law_one := mir_fits
theorem o__law_one (E : En K mg base L) : ∃ a fd, FnP K "_law_one" s__law_one a fd ∧ mg "_law_one" = some (.ref a) ∧ FnOk Pg w K mg base (L2.CX Pg w) 2 a fd ["pool", "some"] (spD K mg (nt L) 2 m__law_one) := by
  obtain ⟨a, fd, F, hm⟩ := E.f__law_one.ex
  refine ⟨a, fd, F, hm, fn_okD F sc__law_one (fun fns bo O P cdv A outer s H Ex hr => ?_)⟩
  have hN : (n__law_one).Nodup := sc__law_one.nd
  exact (dss_one (ds_ret (de_sub_ix (de_var 1) (de_call ((c__law_below E).mono (by decide)) fits__law_below hr (takes_of rfl rfl rfl rfl) rfl (da_cons (de_var 0) (da_cons (de_callB call_len hl_len rfl E.b_len PyProof.Rows.Boot.«len» (da_cons (de_var 1) da_nil)) da_nil))))))
theorem c__law_one (E : En K mg base L) : Cal Pg w K mg base (nt L) 2 "_law_one" ["pool", "some"] m__law_one := by
  obtain ⟨a, fd, F, hm, G⟩ := o__law_one (Pg := Pg) (w := w) E
  exact ⟨a, fd, G, hm, F.kp, F.bindsN fun _ _ _ _ _ _ us hl => match us, hl with | [_, _], _ => rfl⟩
def n__law_plus : List Str := ["one", "two"]
theorem sc__law_plus : FnScope n__law_plus ["one", "two"] (defScope s__law_plus) := ⟨rfl, rfl, rfl, by decide +kernel, rfl, by decide +kernel, by decide +kernel⟩
noncomputable def v__law_plus : Sv := (dRet (dCall m__law_fr (dCons (dOp2 fAddG (dOp2 fMulG (dIx (dVar 0) (dC (.int 0))) (dIx (dVar 1) (dC (.int 1)))) (dOp2 fMulG (dIx (dVar 1) (dC (.int 0))) (dIx (dVar 0) (dC (.int 1))))) (dCons (dOp2 fMulG (dIx (dVar 0) (dC (.int 1))) (dIx (dVar 1) (dC (.int 1)))) dNil))))
noncomputable def m__law_plus : Mir := mir v__law_plus 2 2
theorem fits__law_plus : Fits 2 m__law_plus := mir_fits
theorem o__law_plus (E : En K mg base L) : ∃ a fd, FnP K "_law_plus" s__law_plus a fd ∧ mg "_law_plus" = some (.ref a) ∧ FnOk Pg w K mg base (L2.CX Pg w) 2 a fd ["one", "two"] (spD K mg (nt L) 2 m__law_plus) := by
  obtain ⟨a, fd, F, hm⟩ := E.f__law_plus.ex
  refine ⟨a, fd, F, hm, fn_okD F sc__law_plus (fun fns bo O P cdv A outer s H Ex hr => ?_)⟩
  have hN : (n__law_plus).Nodup := sc__law_plus.nd
  exact (dss_one (ds_ret (de_call ((c__law_fr E).mono (by decide)) fits__law_fr hr (takes_of rfl rfl rfl rfl) rfl (da_cons (de_addG (de_mulG (de_sub_ix (de_var 0) de_int) (de_sub_ix (de_var 1) de_int)) (de_mulG (de_sub_ix (de_var 1) de_int) (de_sub_ix (de_var 0) de_int))) (da_cons (de_mulG (de_sub_ix (de_var 0) de_int) (de_sub_ix (de_var 1) de_int)) da_nil)))))
theorem c__law_plus (E : En K mg base L) : Cal Pg w K mg base (nt L) 2 "_law_plus" ["one", "two"] m__law_plus := by
  obtain ⟨a, fd, F, hm, G⟩ := o__law_plus (Pg := Pg) (w := w) E
  exact ⟨a, fd, G, hm, F.kp, F.bindsN fun _ _ _ _ _ _ us hl => match us, hl with | [_, _], _ => rfl⟩
def n__law_times : List Str := ["one", "two"]
theorem sc__law_times : FnScope n__law_times ["one", "two"] (defScope s__law_times) := ⟨rfl, rfl, rfl, by decide +kernel, rfl, by decide +kernel, by decide +kernel⟩
noncomputable def v__law_times : Sv := (dRet (dCall m__law_fr (dCons (dOp2 fMulG (dIx (dVar 0) (dC (.int 0))) (dIx (dVar 1) (dC (.int 0)))) (dCons (dOp2 fMulG (dIx (dVar 0) (dC (.int 1))) (dIx (dVar 1) (dC (.int 1)))) dNil))))
noncomputable def m__law_times : Mir := mir v__law_times 2 2
theorem fits__law_times : Fits 2 m__law_times := mir_fits
theorem o__law_times (E : En K mg base L) : ∃ a fd, FnP K "_law_times" s__law_times a fd ∧ mg "_law_times" = some (.ref a) ∧ FnOk Pg w K mg base (L2.CX Pg w) 2 a fd ["one", "two"] (spD K mg (nt L) 2 m__law_times) := by
  obtain ⟨a, fd, F, hm⟩ := E.f__law_times.ex
  refine ⟨a, fd, F, hm, fn_okD F sc__law_times (fun fns bo O P cdv A outer s H Ex hr => ?_)⟩
  have hN : (n__law_times).Nodup := sc__law_times.nd
  exact (dss_one (ds_ret (de_call ((c__law_fr E).mono (by decide)) fits__law_fr hr (takes_of rfl rfl rfl rfl) rfl (da_cons (de_mulG (de_sub_ix (de_var 0) de_int) (de_sub_ix (de_var 1) de_int)) (da_cons (de_mulG (de_sub_ix (de_var 0) de_int) (de_sub_ix (de_var 1) de_int)) da_nil)))))
theorem c__law_times (E : En K mg base L) : Cal Pg w K mg base (nt L) 2 "_law_times" ["one", "two"] m__law_times := by
  obtain ⟨a, fd, F, hm, G⟩ := o__law_times (Pg := Pg) (w := w) E
  exact ⟨a, fd, G, hm, F.kp, F.bindsN fun _ _ _ _ _ _ us hl => match us, hl with | [_, _], _ => rfl⟩
def n_is_fraction : List Str := ["value", "each"]
theorem sc_is_fraction : FnScope n_is_fraction ["value"] (defScope s_is_fraction) := ⟨rfl, rfl, rfl, by decide +kernel, rfl, by decide +kernel, by decide +kernel⟩
noncomputable def v_is_fraction : Sv := (dSeq (dIfS (dOr (dNot (dTst (dCall m_is_pair (dCons (dVar 0) dNil)))) (dNot (dTst (dOpL (f1 allD) (dCons (dComp (dSeqI (dVar 0)) (bName 1) dYes (dCall m_is_whole (dCons (dVar 1) dNil)) [1]) dNil))))) (dRet (dC (.bl false))) dNext) (dRet (dAndV (dOp2 fGt (dIx (dVar 0) (dC (.int 1))) (dC (.int 0))) (dOp2 fEq (dOpL (f2 fGcd) (dCons (dIx (dVar 0) (dC (.int 0))) (dCons (dIx (dVar 0) (dC (.int 1))) dNil))) (dC (.int 1))))))
noncomputable def m_is_fraction : Mir := mir v_is_fraction 1 2
theorem fits_is_fraction : Fits 1 m_is_fraction := mir_fits
theorem o_is_fraction (E : En K mg base L) : ∃ a fd, FnP K "is_fraction" s_is_fraction a fd ∧ mg "is_fraction" = some (.ref a) ∧ FnOk Pg w K mg base (L2.CX Pg w) 3 a fd ["value"] (spD K mg (nt L) 1 m_is_fraction) := by
  obtain ⟨a, fd, F, hm⟩ := E.f_is_fraction.ex
  refine ⟨a, fd, F, hm, fn_okD F sc_is_fraction (fun fns bo O P cdv A outer s H Ex hr => ?_)⟩
  have hN : (n_is_fraction).Nodup := sc_is_fraction.nd
  exact (dss_cons (ds_if (PW.pt (dw_or (dt_not (dt_val (de_call ((c_is_pair E).mono (by decide)) fits_is_pair hr (takes_of rfl rfl rfl rfl) rfl (da_cons (de_var 0) da_nil)))) (dw_or1 (dt_not (dt_val (de_callB (cr_all rfl) hl_all rfl E.b_all PyProof.Rows.Boot.«all» (da_cons (de_lc (own := [("each", 1)]) rfl hN (di_dj (di_seq (de_var 0))) (blkOk_by rfl) (by decide) (fun O P s H C cl fp => (dg_name hN)) (fun O P s H C cl fp => dts_nil) (fun O P s H C cl fp => (de_call ((c_is_whole E).mono (by decide)) fits_is_whole hr L2.takes0 rfl (da_cons (de_var 1) da_nil)))) da_nil))))))) (dss_one (ds_ret de_bl)) dss_nil) (dss_one (ds_ret (de_and (de_cmp op_gt h_gt (de_sub_ix (de_var 0) de_int) de_int) (de_one (de_cmp (op_eqD (u64 hr)) h_eq (de_callF cr_gcd hl_gcd rfl E.g_gcd (da_cons (de_sub_ix (de_var 0) de_int) (da_cons (de_sub_ix (de_var 0) de_int) da_nil))) de_int))))))
theorem c_is_fraction (E : En K mg base L) : Cal Pg w K mg base (nt L) 3 "is_fraction" ["value"] m_is_fraction := by
  obtain ⟨a, fd, F, hm, G⟩ := o_is_fraction (Pg := Pg) (w := w) E
  exact ⟨a, fd, G, hm, F.kp, F.bindsN fun _ _ _ _ _ _ us hl => match us, hl with | [_], _ => rfl⟩
def n_total : List Str := ["some", "found", "each"]
theorem sc_total : FnScope n_total ["some"] (defScope s_total) := ⟨rfl, rfl, rfl, by decide +kernel, rfl, by decide +kernel, by decide +kernel⟩
noncomputable def v_total : Sv := (dSeq (dAsg 1 (dVal (dC c_NOTHING))) (dSeq (dFor (dSeqI (dVar 0)) (bName 2) (dAsg 1 (dVal (dCall m_plus (dCons (dVar 1) (dCons (dVar 2) dNil)))))) (dRet (dVar 1))))
noncomputable def m_total : Mir := mir v_total 1 3
theorem fits_total : Fits 1 m_total := mir_fits
theorem o_total (E : En K mg base L) : ∃ a fd, FnP K "total" s_total a fd ∧ mg "total" = some (.ref a) ∧ FnOk Pg w K mg base (L2.CX Pg w) 3 a fd ["some"] (spD K mg (nt L) 1 m_total) := by
  obtain ⟨a, fd, F, hm⟩ := E.f_total.ex
  refine ⟨a, fd, F, hm, fn_okD F sc_total (fun fns bo O P cdv A outer s H Ex hr => ?_)⟩
  have hN : (n_total).Nodup := sc_total.nd
  exact (dss_cons (ds_set (i := 1) hN (de_val (dk_NOTHING E))) (dss_cons (ds_for (passes_of rfl) rfl (di_seq (de_var 0)) (fun _ => (dg_name hN)) (fun _ => (dss_one (ds_set (i := 1) hN (de_val (de_call ((c_plus E).mono (by decide)) fits_plus hr (takes_of rfl rfl rfl rfl) rfl (da_cons (de_var 1) (da_cons (de_var 2) da_nil)))))))) (dss_one (ds_ret (de_var 1)))))
theorem c_total (E : En K mg base L) : Cal Pg w K mg base (nt L) 3 "total" ["some"] m_total := by
  obtain ⟨a, fd, F, hm, G⟩ := o_total (Pg := Pg) (w := w) E
  exact ⟨a, fd, G, hm, F.kp, F.bindsN fun _ _ _ _ _ _ us hl => match us, hl with | [_], _ => rfl⟩
noncomputable def l_wrong_in_people_0 : Ev := (dAndV (dCall m_is_name (dCons (dVar 1) dNil)) (dCall m_are_below (dCons (dVar 0) (dCons (dVar 1) dNil))))
def n_wrong_in_people : List Str := ["value"]
theorem sc_wrong_in_people : FnScope n_wrong_in_people ["value"] (defScope s_wrong_in_people) := ⟨rfl, rfl, rfl, by decide +kernel, rfl, by decide +kernel, by decide +kernel⟩
noncomputable def v_wrong_in_people : Sv := (dRet (dCallH m_wrong_in (dCons (dVar 0) (dCons (dC (.int 1)) (dCons (dC c_MOST_PEOPLE) dNil))) 2 (lamM (l_wrong_in_people_0) 2 2 [])))
noncomputable def m_wrong_in_people : Mir := mir v_wrong_in_people 1 1
theorem fits_wrong_in_people : Fits 1 m_wrong_in_people := mir_fits
theorem o_wrong_in_people (E : En K mg base L) : ∃ a fd, FnP K "wrong_in_people" s_wrong_in_people a fd ∧ mg "wrong_in_people" = some (.ref a) ∧ FnOk Pg w K mg base (L2.CX Pg w) 16 a fd ["value"] (spD K mg (nt L) 1 m_wrong_in_people) := by
  obtain ⟨a, fd, F, hm, ht⟩ := E.f_wrong_in_people.ex
  refine ⟨a, fd, F, hm, fn_okC F sc_wrong_in_people (fun fns bo O P cdv A outer s H Ex hcd hr => ?_)⟩
  have hN : (n_wrong_in_people).Nodup := sc_wrong_in_people.nd
  have tab : ∃ c P, TabB base mg c P ∧ cdv = .ref c ∧ (P, (envOfC "wrong_in_people" (defScope s_wrong_in_people) s.heap.objs.size a cdv).qual ++ "<lambda>") ∈ L ∧ ∀ p ∈ L, p.1 = P → p.2 = (envOfC "wrong_in_people" (defScope s_wrong_in_people) s.heap.objs.size a cdv).qual ++ "<lambda>" := by
    obtain ⟨c, P, h1, h2, h3, h4⟩ := ht
    exact ⟨c, P, h1, by rw [← hcd]; exact h2, h3, h4⟩
  exact (dss_one (ds_ret (de_callH (N2 := ["ahead", "each"]) (ps2 := ["ahead", "each"]) (fr2 := []) (js := []) (ev := l_wrong_in_people_0) (mh := m_wrong_in) (kp := 0) (kl := 12) (c_wrong_in E 13) (hfit_wrong_in _) (hr.mono (by decide)) (takes_of rfl rfl rfl rfl) rfl ⟨tab, rfl, free_by rfl⟩ ⟨nscope_by (by decide +kernel), by decide +kernel, rfl, fun _ _ _ _ _ us hl => match us, hl with | [_, _], _ => rfl⟩ (dl_cons (de_var 0) (dl_cons de_int (dl_cons (dk_MOST_PEOPLE E) (dl_one ⟨tab, rfl, free_by rfl⟩)))) rfl (by decide) pro_none (fun O P2 A2 outer2 s2 H2 Ex2 f2 c2 hP2 hr => (de_and (de_call ((c_is_name E).mono (by decide)) fits_is_name hr (takes_of rfl rfl rfl rfl) rfl (da_cons (de_var 1) da_nil)) (de_one (de_call ((c_are_below E).mono (by decide)) fits_are_below hr (takes_of rfl rfl rfl rfl) rfl (da_cons (de_var 0) (da_cons (de_var 1) da_nil)))))))))
theorem c_wrong_in_people (E : En K mg base L) : Cal Pg w K mg base (nt L) 16 "wrong_in_people" ["value"] m_wrong_in_people := by
  obtain ⟨a, fd, F, hm, G⟩ := o_wrong_in_people (Pg := Pg) (w := w) E
  exact ⟨a, fd, G, hm, F.kp, F.bindsN fun _ _ _ _ _ _ us hl => match us, hl with | [_], _ => rfl⟩
def n_check_number : List Str := ["number", "least", "most"]
theorem sc_check_number : FnScope n_check_number ["number", "least", "most"] (defScope s_check_number) := ⟨rfl, rfl, rfl, by decide +kernel, rfl, by decide +kernel, by decide +kernel⟩
noncomputable def v_check_number : Sv := (dIfS (dNot (dTst (dCall m_is_between (dCons (dVar 0) (dCons (dVar 1) (dCons (dVar 2) dNil)))))) dBad dNext)
noncomputable def m_check_number : Mir := mir v_check_number 3 3
theorem fits_check_number : Fits 3 m_check_number := mir_fits
theorem o_check_number (E : En K mg base L) : ∃ a fd, FnP K "check_number" s_check_number a fd ∧ mg "check_number" = some (.ref a) ∧ FnOk Pg w K mg base (L2.CX Pg w) 3 a fd ["number", "least", "most"] (spD K mg (nt L) 3 m_check_number) := by
  obtain ⟨a, fd, F, hm⟩ := E.f_check_number.ex
  refine ⟨a, fd, F, hm, fn_okD F sc_check_number (fun fns bo O P cdv A outer s H Ex hr => ?_)⟩
  have hN : (n_check_number).Nodup := sc_check_number.nd
  exact (dss_one (ds_if (dt_not (dt_val (de_call ((c_is_between E).mono (by decide)) fits_is_between hr (takes_of rfl rfl rfl rfl) rfl (da_cons (de_var 0) (da_cons (de_var 1) (da_cons (de_var 2) da_nil)))))) (dss_one ds_never) dss_nil))
theorem c_check_number (E : En K mg base L) : Cal Pg w K mg base (nt L) 3 "check_number" ["number", "least", "most"] m_check_number := by
  obtain ⟨a, fd, F, hm, G⟩ := o_check_number (Pg := Pg) (w := w) E
  exact ⟨a, fd, G, hm, F.kp, F.bindsN fun _ _ _ _ _ _ us hl => match us, hl with | [_, _, _], _ => rfl⟩
def n__law_less : List Str := ["one", "two"]
theorem sc__law_less : FnScope n__law_less ["one", "two"] (defScope s__law_less) := ⟨rfl, rfl, rfl, by decide +kernel, rfl, by decide +kernel, by decide +kernel⟩
noncomputable def v__law_less : Sv := (dRet (dCall m__law_plus (dCons (dVar 0) (dCons (dOpL fTup (dCons (dOp2 fSub (dC (.int 0)) (dIx (dVar 1) (dC (.int 0)))) (dCons (dIx (dVar 1) (dC (.int 1))) dNil))) dNil))))
noncomputable def m__law_less : Mir := mir v__law_less 2 2
theorem fits__law_less : Fits 2 m__law_less := mir_fits
theorem o__law_less (E : En K mg base L) : ∃ a fd, FnP K "_law_less" s__law_less a fd ∧ mg "_law_less" = some (.ref a) ∧ FnOk Pg w K mg base (L2.CX Pg w) 3 a fd ["one", "two"] (spD K mg (nt L) 2 m__law_less) := by
  obtain ⟨a, fd, F, hm⟩ := E.f__law_less.ex
  refine ⟨a, fd, F, hm, fn_okD F sc__law_less (fun fns bo O P cdv A outer s H Ex hr => ?_)⟩
  have hN : (n__law_less).Nodup := sc__law_less.nd
  exact (dss_one (ds_ret (de_call ((c__law_plus E).mono (by decide)) fits__law_plus hr (takes_of rfl rfl rfl rfl) rfl (da_cons (de_var 0) (da_cons (de_tup (da_cons (de_sub de_int (de_sub_ix (de_var 1) de_int)) (da_cons (de_sub_ix (de_var 1) de_int) da_nil))) da_nil)))))
theorem c__law_less (E : En K mg base L) : Cal Pg w K mg base (nt L) 3 "_law_less" ["one", "two"] m__law_less := by
  obtain ⟨a, fd, F, hm, G⟩ := o__law_less (Pg := Pg) (w := w) E
  exact ⟨a, fd, G, hm, F.kp, F.bindsN fun _ _ _ _ _ _ us hl => match us, hl with | [_, _], _ => rfl⟩
def n_is_sum : List Str := ["value"]
theorem sc_is_sum : FnScope n_is_sum ["value"] (defScope s_is_sum) := ⟨rfl, rfl, rfl, by decide +kernel, rfl, by decide +kernel, by decide +kernel⟩
noncomputable def v_is_sum : Sv := (dRet (dAndV (dCall m_is_fraction (dCons (dVar 0) dNil)) (dOp2 fGe (dIx (dVar 0) (dC (.int 0))) (dC (.int 0)))))
noncomputable def m_is_sum : Mir := mir v_is_sum 1 1
theorem fits_is_sum : Fits 1 m_is_sum := mir_fits
theorem o_is_sum (E : En K mg base L) : ∃ a fd, FnP K "is_sum" s_is_sum a fd ∧ mg "is_sum" = some (.ref a) ∧ FnOk Pg w K mg base (L2.CX Pg w) 4 a fd ["value"] (spD K mg (nt L) 1 m_is_sum) := by
  obtain ⟨a, fd, F, hm⟩ := E.f_is_sum.ex
  refine ⟨a, fd, F, hm, fn_okD F sc_is_sum (fun fns bo O P cdv A outer s H Ex hr => ?_)⟩
  have hN : (n_is_sum).Nodup := sc_is_sum.nd
  exact (dss_one (ds_ret (de_and (de_call ((c_is_fraction E).mono (by decide)) fits_is_fraction hr (takes_of rfl rfl rfl rfl) rfl (da_cons (de_var 0) da_nil)) (de_one (de_cmp op_ge h_ge (de_sub_ix (de_var 0) de_int) de_int)))))
theorem c_is_sum (E : En K mg base L) : Cal Pg w K mg base (nt L) 4 "is_sum" ["value"] m_is_sum := by
  obtain ⟨a, fd, F, hm, G⟩ := o_is_sum (Pg := Pg) (w := w) E
  exact ⟨a, fd, G, hm, F.kp, F.bindsN fun _ _ _ _ _ _ us hl => match us, hl with | [_], _ => rfl⟩
def n_mixed : List Str := ["row", "values", "much", "value"]
theorem sc_mixed : FnScope n_mixed ["row", "values"] (defScope s_mixed) := ⟨rfl, rfl, rfl, by decide +kernel, rfl, by decide +kernel, by decide +kernel⟩
noncomputable def v_mixed : Sv := (dRet (dCall m_total (dCons (dComp (dZip (dCons (dVar 0) (dCons (dVar 1) dNil))) (bTup ((bName 2) :: (bName 3) :: [])) dYes (dCall m_times (dCons (dVar 2) (dCons (dVar 3) dNil))) [2, 3]) dNil)))
noncomputable def m_mixed : Mir := mir v_mixed 2 4
theorem fits_mixed : Fits 2 m_mixed := mir_fits
theorem o_mixed (E : En K mg base L) : ∃ a fd, FnP K "mixed" s_mixed a fd ∧ mg "mixed" = some (.ref a) ∧ FnOk Pg w K mg base (L2.CX Pg w) 4 a fd ["row", "values"] (spD K mg (nt L) 2 m_mixed) := by
  obtain ⟨a, fd, F, hm⟩ := E.f_mixed.ex
  refine ⟨a, fd, F, hm, fn_okD F sc_mixed (fun fns bo O P cdv A outer s H Ex hr => ?_)⟩
  have hN : (n_mixed).Nodup := sc_mixed.nd
  exact (dss_one (ds_ret (de_call ((c_total E).mono (by decide)) fits_total hr (takes_of rfl rfl rfl rfl) rfl (da_cons (de_lc (own := [("much", 2), ("value", 3)]) rfl hN (di_dj (di_zip rfl E.b_zip (da_cons (de_var 0) (da_cons (de_var 1) da_nil)))) (blkOk_by rfl) (by decide) (fun O P s H C cl fp => (dg_tup rfl (dgs_cons (dg_name hN) (dgs_cons (dg_name hN) dgs_nil)))) (fun O P s H C cl fp => dts_nil) (fun O P s H C cl fp => (de_call ((c_times E).mono (by decide)) fits_times hr L2.takes0 rfl (da_cons (de_var 2) (da_cons (de_var 3) da_nil))))) da_nil))))
theorem c_mixed (E : En K mg base L) : Cal Pg w K mg base (nt L) 4 "mixed" ["row", "values"] m_mixed := by
  obtain ⟨a, fd, F, hm, G⟩ := o_mixed (Pg := Pg) (w := w) E
  exact ⟨a, fd, G, hm, F.kp, F.bindsN fun _ _ _ _ _ _ us hl => match us, hl with | [_, _], _ => rfl⟩
def n_check_many : List Str := ["many"]
theorem sc_check_many : FnScope n_check_many ["many"] (defScope s_check_many) := ⟨rfl, rfl, rfl, by decide +kernel, rfl, by decide +kernel, by decide +kernel⟩
noncomputable def v_check_many : Sv := (dDrop (dCall m_check_number (dCons (dVar 0) (dCons (dC (.int 0)) (dCons (dC c_MOST_BEATS) dNil)))))
noncomputable def m_check_many : Mir := mir v_check_many 1 1
theorem fits_check_many : Fits 1 m_check_many := mir_fits
theorem o_check_many (E : En K mg base L) : ∃ a fd, FnP K "check_many" s_check_many a fd ∧ mg "check_many" = some (.ref a) ∧ FnOk Pg w K mg base (L2.CX Pg w) 4 a fd ["many"] (spD K mg (nt L) 1 m_check_many) := by
  obtain ⟨a, fd, F, hm⟩ := E.f_check_many.ex
  refine ⟨a, fd, F, hm, fn_okD F sc_check_many (fun fns bo O P cdv A outer s H Ex hr => ?_)⟩
  have hN : (n_check_many).Nodup := sc_check_many.nd
  exact (dss_one (ds_expr (de_call ((c_check_number E).mono (by decide)) fits_check_number hr (takes_of rfl rfl rfl rfl) rfl (da_cons (de_var 0) (da_cons de_int (da_cons (dk_MOST_BEATS E) da_nil))))))
theorem c_check_many (E : En K mg base L) : Cal Pg w K mg base (nt L) 4 "check_many" ["many"] m_check_many := by
  obtain ⟨a, fd, F, hm, G⟩ := o_check_many (Pg := Pg) (w := w) E
  exact ⟨a, fd, G, hm, F.kp, F.bindsN fun _ _ _ _ _ _ us hl => match us, hl with | [_], _ => rfl⟩
def n_apart_by : List Str := ["one", "two", "much", "more"]
theorem sc_apart_by : FnScope n_apart_by ["one", "two"] (defScope s_apart_by) := ⟨rfl, rfl, rfl, by decide +kernel, rfl, by decide +kernel, by decide +kernel⟩
noncomputable def v_apart_by : Sv := (dRet (dCall m_minus (dCons (dC c_WHOLE) (dCons (dCall m_total (dCons (dComp (dZip (dCons (dVar 0) (dCons (dVar 1) dNil))) (bTup ((bName 2) :: (bName 3) :: [])) dYes (dCall m_lesser (dCons (dVar 2) (dCons (dVar 3) dNil))) [2, 3]) dNil)) dNil))))
noncomputable def m_apart_by : Mir := mir v_apart_by 2 4
theorem fits_apart_by : Fits 2 m_apart_by := mir_fits
theorem o_apart_by (E : En K mg base L) : ∃ a fd, FnP K "apart_by" s_apart_by a fd ∧ mg "apart_by" = some (.ref a) ∧ FnOk Pg w K mg base (L2.CX Pg w) 4 a fd ["one", "two"] (spD K mg (nt L) 2 m_apart_by) := by
  obtain ⟨a, fd, F, hm⟩ := E.f_apart_by.ex
  refine ⟨a, fd, F, hm, fn_okD F sc_apart_by (fun fns bo O P cdv A outer s H Ex hr => ?_)⟩
  have hN : (n_apart_by).Nodup := sc_apart_by.nd
  exact (dss_one (ds_ret (de_call ((c_minus E).mono (by decide)) fits_minus hr (takes_of rfl rfl rfl rfl) rfl (da_cons (dk_WHOLE E) (da_cons (de_call ((c_total E).mono (by decide)) fits_total hr (takes_of rfl rfl rfl rfl) rfl (da_cons (de_lc (own := [("much", 2), ("more", 3)]) rfl hN (di_dj (di_zip rfl E.b_zip (da_cons (de_var 0) (da_cons (de_var 1) da_nil)))) (blkOk_by rfl) (by decide) (fun O P s H C cl fp => (dg_tup rfl (dgs_cons (dg_name hN) (dgs_cons (dg_name hN) dgs_nil)))) (fun O P s H C cl fp => dts_nil) (fun O P s H C cl fp => (de_call ((c_lesser E).mono (by decide)) fits_lesser hr L2.takes0 rfl (da_cons (de_var 2) (da_cons (de_var 3) da_nil))))) da_nil)) da_nil)))))
theorem c_apart_by (E : En K mg base L) : Cal Pg w K mg base (nt L) 4 "apart_by" ["one", "two"] m_apart_by := by
  obtain ⟨a, fd, F, hm, G⟩ := o_apart_by (Pg := Pg) (w := w) E
  exact ⟨a, fd, G, hm, F.kp, F.bindsN fun _ _ _ _ _ _ us hl => match us, hl with | [_, _], _ => rfl⟩
def n_is_row : List Str := ["people", "value", "each"]
theorem sc_is_row : FnScope n_is_row ["people", "value"] (defScope s_is_row) := ⟨rfl, rfl, rfl, by decide +kernel, rfl, by decide +kernel, by decide +kernel⟩
noncomputable def v_is_row : Sv := (dRet (dAndV (dCall m_is_tuple_of (dCons (dVar 1) (dCons (dOpL (f1 lenD) (dCons (dVar 0) dNil)) dNil))) (dAndV (dOpL (f1 allD) (dCons (dComp (dSeqI (dVar 1)) (bName 2) dYes (dCall m_is_sum (dCons (dVar 2) dNil)) [2]) dNil)) (dOp2 fEq (dCall m_total (dCons (dVar 1) dNil)) (dC c_WHOLE)))))
noncomputable def m_is_row : Mir := mir v_is_row 2 3
theorem fits_is_row : Fits 2 m_is_row := mir_fits
theorem o_is_row (E : En K mg base L) : ∃ a fd, FnP K "is_row" s_is_row a fd ∧ mg "is_row" = some (.ref a) ∧ FnOk Pg w K mg base (L2.CX Pg w) 5 a fd ["people", "value"] (spD K mg (nt L) 2 m_is_row) := by
  obtain ⟨a, fd, F, hm⟩ := E.f_is_row.ex
  refine ⟨a, fd, F, hm, fn_okD F sc_is_row (fun fns bo O P cdv A outer s H Ex hr => ?_)⟩
  have hN : (n_is_row).Nodup := sc_is_row.nd
  exact (dss_one (ds_ret (de_and (de_call ((c_is_tuple_of E).mono (by decide)) fits_is_tuple_of hr (takes_of rfl rfl rfl rfl) rfl (da_cons (de_var 1) (da_cons (de_callB call_len hl_len rfl E.b_len PyProof.Rows.Boot.«len» (da_cons (de_var 0) da_nil)) da_nil))) (de_and (de_callB (cr_all rfl) hl_all rfl E.b_all PyProof.Rows.Boot.«all» (da_cons (de_lc (own := [("each", 2)]) rfl hN (di_dj (di_seq (de_var 1))) (blkOk_by rfl) (by decide) (fun O P s H C cl fp => (dg_name hN)) (fun O P s H C cl fp => dts_nil) (fun O P s H C cl fp => (de_call ((c_is_sum E).mono (by decide)) fits_is_sum hr L2.takes0 rfl (da_cons (de_var 2) da_nil)))) da_nil)) (de_one (de_cmp (op_eqD (u64 hr)) h_eq (de_call ((c_total E).mono (by decide)) fits_total hr (takes_of rfl rfl rfl rfl) rfl (da_cons (de_var 1) da_nil)) (dk_WHOLE E)))))))
theorem c_is_row (E : En K mg base L) : Cal Pg w K mg base (nt L) 5 "is_row" ["people", "value"] m_is_row := by
  obtain ⟨a, fd, F, hm, G⟩ := o_is_row (Pg := Pg) (w := w) E
  exact ⟨a, fd, G, hm, F.kp, F.bindsN fun _ _ _ _ _ _ us hl => match us, hl with | [_, _], _ => rfl⟩
def n_next_counts : List Str := ["circle", "rows", "columns", "column", "row"]
theorem sc_next_counts : FnScope n_next_counts ["circle", "rows"] (defScope s_next_counts) := ⟨rfl, rfl, rfl, by decide +kernel, rfl, by decide +kernel, by decide +kernel⟩
noncomputable def v_next_counts : Sv := (dSeq (dAsg 2 (dVal (dOp1 lz1 (dVar 1)))) (dRet (dOpL (f1 tupleD) (dCons (dComp (dSeqI (dProp "Circle" m_Circle_trust (dVar 0))) (bName 4) dYes (dOpL (f1 tupleD) (dCons (dComp (dSeqI (dVar 2)) (bName 3) dYes (dCall m_mixed (dCons (dVar 4) (dCons (dVar 3) dNil))) [3]) dNil)) [4]) dNil))))
noncomputable def m_next_counts : Mir := mir v_next_counts 2 5
theorem fits_next_counts : Fits 2 m_next_counts := mir_fits
theorem o_next_counts (E : En K mg base L) : ∃ a fd, FnP K "next_counts" s_next_counts a fd ∧ mg "next_counts" = some (.ref a) ∧ FnOk Pg w K mg base (L2.CX Pg w) 5 a fd ["circle", "rows"] (spD K mg (nt L) 2 m_next_counts) := by
  obtain ⟨a, fd, F, hm⟩ := E.f_next_counts.ex
  refine ⟨a, fd, F, hm, fn_okD F sc_next_counts (fun fns bo O P cdv A outer s H Ex hr => ?_)⟩
  have hN : (n_next_counts).Nodup := sc_next_counts.nd
  exact (dss_cons (ds_set (i := 2) hN (de_val (de_listZip rfl E.b_list rfl E.b_zip (de_var 1) rfl))) (dss_one (ds_ret (de_callTy call_tuple_ofX hl_tuple rfl E.b_tuple PyProof.Rows.Boot.«tuple» (da_cons (de_lc (own := [("row", 4)]) rfl hN (di_dj (di_seq (de_prop ((pr_Circle_trust E).mono (by decide)) hr (de_var 0)))) (blkOk_by rfl) (by decide) (fun O P s H C cl fp => (dg_name hN)) (fun O P s H C cl fp => dts_nil) (fun O P s H C cl fp => (de_callTy call_tuple_ofX hl_tuple rfl E.b_tuple PyProof.Rows.Boot.«tuple» (da_cons (de_lc (own := [("column", 3)]) rfl hN (di_dj (di_seq (de_var 2))) (blkOk_by rfl) (by decide) (fun O P s H C cl fp => (dg_name hN)) (fun O P s H C cl fp => dts_nil) (fun O P s H C cl fp => (de_call ((c_mixed E).mono (by decide)) fits_mixed hr L2.takes0 rfl (da_cons (de_var 4) (da_cons (de_var 3) da_nil))))) da_nil)))) da_nil)))))
theorem c_next_counts (E : En K mg base L) : Cal Pg w K mg base (nt L) 5 "next_counts" ["circle", "rows"] m_next_counts := by
  obtain ⟨a, fd, F, hm, G⟩ := o_next_counts (Pg := Pg) (w := w) E
  exact ⟨a, fd, G, hm, F.kp, F.bindsN fun _ _ _ _ _ _ us hl => match us, hl with | [_, _], _ => rfl⟩
def n_check_bound : List Str := ["bound"]
theorem sc_check_bound : FnScope n_check_bound ["bound"] (defScope s_check_bound) := ⟨rfl, rfl, rfl, by decide +kernel, rfl, by decide +kernel, by decide +kernel⟩
noncomputable def v_check_bound : Sv := (dIfS (dNot (dTst (dCall m_is_sum (dCons (dVar 0) dNil)))) dBad dNext)
noncomputable def m_check_bound : Mir := mir v_check_bound 1 1
theorem fits_check_bound : Fits 1 m_check_bound := mir_fits
theorem o_check_bound (E : En K mg base L) : ∃ a fd, FnP K "check_bound" s_check_bound a fd ∧ mg "check_bound" = some (.ref a) ∧ FnOk Pg w K mg base (L2.CX Pg w) 5 a fd ["bound"] (spD K mg (nt L) 1 m_check_bound) := by
  obtain ⟨a, fd, F, hm⟩ := E.f_check_bound.ex
  refine ⟨a, fd, F, hm, fn_okD F sc_check_bound (fun fns bo O P cdv A outer s H Ex hr => ?_)⟩
  have hN : (n_check_bound).Nodup := sc_check_bound.nd
  exact (dss_one (ds_if (dt_not (dt_val (de_call ((c_is_sum E).mono (by decide)) fits_is_sum hr (takes_of rfl rfl rfl rfl) rfl (da_cons (de_var 0) da_nil)))) (dss_one ds_never) dss_nil))
theorem c_check_bound (E : En K mg base L) : Cal Pg w K mg base (nt L) 5 "check_bound" ["bound"] m_check_bound := by
  obtain ⟨a, fd, F, hm, G⟩ := o_check_bound (Pg := Pg) (w := w) E
  exact ⟨a, fd, G, hm, F.kp, F.bindsN fun _ _ _ _ _ _ us hl => match us, hl with | [_], _ => rfl⟩
def n_strain_in : List Str := ["rows", "found", "at", "row", "other"]
theorem sc_strain_in : FnScope n_strain_in ["rows"] (defScope s_strain_in) := ⟨rfl, rfl, rfl, by decide +kernel, rfl, by decide +kernel, by decide +kernel⟩
noncomputable def v_strain_in : Sv := (dSeq (dAsg 1 (dVal (dC c_NOTHING))) (dSeq (dFor (dEnum (dVar 0)) (bTup ((bName 2) :: (bName 3) :: [])) (dFor (dSeqI (dSl (dVar 0) (dPart (dOp2 fAddG (dVar 2) (dC (.int 1)))) dNoPart)) (bName 4) (dAsg 1 (dVal (dCall m_greater (dCons (dVar 1) (dCons (dCall m_apart_by (dCons (dVar 3) (dCons (dVar 4) dNil))) dNil))))))) (dRet (dVar 1))))
noncomputable def m_strain_in : Mir := mir v_strain_in 1 5
theorem fits_strain_in : Fits 1 m_strain_in := mir_fits
theorem o_strain_in (E : En K mg base L) : ∃ a fd, FnP K "strain_in" s_strain_in a fd ∧ mg "strain_in" = some (.ref a) ∧ FnOk Pg w K mg base (L2.CX Pg w) 5 a fd ["rows"] (spD K mg (nt L) 1 m_strain_in) := by
  obtain ⟨a, fd, F, hm⟩ := E.f_strain_in.ex
  refine ⟨a, fd, F, hm, fn_okD F sc_strain_in (fun fns bo O P cdv A outer s H Ex hr => ?_)⟩
  have hN : (n_strain_in).Nodup := sc_strain_in.nd
  exact (dss_cons (ds_set (i := 1) hN (de_val (dk_NOTHING E))) (dss_cons (ds_for (passes_of rfl) rfl (di_enum rfl E.b_enumerate (de_var 0)) (fun _ => (dg_tup rfl (dgs_cons (dg_name hN) (dgs_cons (dg_name hN) dgs_nil)))) (fun _ => (dss_one (ds_for (passes_of rfl) rfl (di_seq (de_slice (de_var 0) (do_some (de_addG (de_var 2) de_int)) do_none)) (fun _ => (dg_name hN)) (fun _ => (dss_one (ds_set (i := 1) hN (de_val (de_call ((c_greater E).mono (by decide)) fits_greater hr (takes_of rfl rfl rfl rfl) rfl (da_cons (de_var 1) (da_cons (de_call ((c_apart_by E).mono (by decide)) fits_apart_by hr (takes_of rfl rfl rfl rfl) rfl (da_cons (de_var 3) (da_cons (de_var 4) da_nil))) da_nil))))))))))) (dss_one (ds_ret (de_var 1)))))
theorem c_strain_in (E : En K mg base L) : Cal Pg w K mg base (nt L) 5 "strain_in" ["rows"] m_strain_in := by
  obtain ⟨a, fd, F, hm, G⟩ := o_strain_in (Pg := Pg) (w := w) E
  exact ⟨a, fd, G, hm, F.kp, F.bindsN fun _ _ _ _ _ _ us hl => match us, hl with | [_], _ => rfl⟩
noncomputable def l_wrong_in_trust_0 : Ev := (dCall m_is_row (dCons (dVar 1) (dCons (dVar 0) dNil)))
def n_wrong_in_trust : List Str := ["people", "value"]
theorem sc_wrong_in_trust : FnScope n_wrong_in_trust ["people", "value"] (defScope s_wrong_in_trust) := ⟨rfl, rfl, rfl, by decide +kernel, rfl, by decide +kernel, by decide +kernel⟩
noncomputable def v_wrong_in_trust : Sv := (dRet (dCallH m_wrong_in_all (dCons (dVar 1) (dCons (dOpL (f1 lenD) (dCons (dVar 0) dNil)) dNil)) 1 (lamM (l_wrong_in_trust_0) 1 2 [0])))
noncomputable def m_wrong_in_trust : Mir := mir v_wrong_in_trust 2 2
theorem fits_wrong_in_trust : Fits 2 m_wrong_in_trust := mir_fits
theorem o_wrong_in_trust (E : En K mg base L) : ∃ a fd, FnP K "wrong_in_trust" s_wrong_in_trust a fd ∧ mg "wrong_in_trust" = some (.ref a) ∧ FnOk Pg w K mg base (L2.CX Pg w) 18 a fd ["people", "value"] (spD K mg (nt L) 2 m_wrong_in_trust) := by
  obtain ⟨a, fd, F, hm, ht⟩ := E.f_wrong_in_trust.ex
  refine ⟨a, fd, F, hm, fn_okC F sc_wrong_in_trust (fun fns bo O P cdv A outer s H Ex hcd hr => ?_)⟩
  have hN : (n_wrong_in_trust).Nodup := sc_wrong_in_trust.nd
  have tab : ∃ c P, TabB base mg c P ∧ cdv = .ref c ∧ (P, (envOfC "wrong_in_trust" (defScope s_wrong_in_trust) s.heap.objs.size a cdv).qual ++ "<lambda>") ∈ L ∧ ∀ p ∈ L, p.1 = P → p.2 = (envOfC "wrong_in_trust" (defScope s_wrong_in_trust) s.heap.objs.size a cdv).qual ++ "<lambda>" := by
    obtain ⟨c, P, h1, h2, h3, h4⟩ := ht
    exact ⟨c, P, h1, by rw [← hcd]; exact h2, h3, h4⟩
  exact (dss_one (ds_ret (de_callH (N2 := ["each", "people"]) (ps2 := ["each"]) (fr2 := ["people"]) (js := [0]) (ev := l_wrong_in_trust_0) (mh := m_wrong_in_all) (kp := 0) (kl := 12) (c_wrong_in_all E 13) (hfit_wrong_in_all _) (hr.mono (by decide)) (takes_of rfl rfl rfl rfl) rfl ⟨tab, rfl, free_by rfl⟩ ⟨nscope_by (by decide +kernel), by decide +kernel, rfl, fun _ _ _ _ _ us hl => match us, hl with | [_], _ => rfl⟩ (dl_cons (de_var 1) (dl_cons (de_callB call_len hl_len rfl E.b_len PyProof.Rows.Boot.«len» (da_cons (de_var 0) da_nil)) (dl_one ⟨tab, rfl, free_by rfl⟩))) rfl (by decide) pro_none (fun O P2 A2 outer2 s2 H2 Ex2 f2 c2 hP2 hr => (de_call ((c_is_row E).mono (by decide)) fits_is_row hr (takes_of rfl rfl rfl rfl) rfl (da_cons (de_var 1) (da_cons (de_var 0) da_nil)))))))
theorem c_wrong_in_trust (E : En K mg base L) : Cal Pg w K mg base (nt L) 18 "wrong_in_trust" ["people", "value"] m_wrong_in_trust := by
  obtain ⟨a, fd, F, hm, G⟩ := o_wrong_in_trust (Pg := Pg) (w := w) E
  exact ⟨a, fd, G, hm, F.kp, F.bindsN fun _ _ _ _ _ _ us hl => match us, hl with | [_, _], _ => rfl⟩
def n_counts_by : List Str := ["circle", "many", "rows", "_"]
theorem sc_counts_by : FnScope n_counts_by ["circle", "many"] (defScope s_counts_by) := ⟨rfl, rfl, rfl, by decide +kernel, rfl, by decide +kernel, by decide +kernel⟩
noncomputable def v_counts_by : Sv := (dSeq (dAsg 2 (dVal (dCall m_first_counts (dCons (dOpL (f1 lenD) (dCons (dProp "Circle" m_Circle_people (dVar 0)) dNil)) dNil)))) (dSeq (dFor (dRng1 (dVar 1)) (bName 3) (dAsg 2 (dVal (dCall m_next_counts (dCons (dVar 0) (dCons (dVar 2) dNil)))))) (dRet (dVar 2))))
noncomputable def m_counts_by : Mir := mir v_counts_by 2 4
theorem fits_counts_by : Fits 2 m_counts_by := mir_fits
theorem o_counts_by (E : En K mg base L) : ∃ a fd, FnP K "counts_by" s_counts_by a fd ∧ mg "counts_by" = some (.ref a) ∧ FnOk Pg w K mg base (L2.CX Pg w) 6 a fd ["circle", "many"] (spD K mg (nt L) 2 m_counts_by) := by
  obtain ⟨a, fd, F, hm⟩ := E.f_counts_by.ex
  refine ⟨a, fd, F, hm, fn_okD F sc_counts_by (fun fns bo O P cdv A outer s H Ex hr => ?_)⟩
  have hN : (n_counts_by).Nodup := sc_counts_by.nd
  exact (dss_cons (ds_set (i := 2) hN (de_val (de_call ((c_first_counts E).mono (by decide)) fits_first_counts hr (takes_of rfl rfl rfl rfl) rfl (da_cons (de_callB call_len hl_len rfl E.b_len PyProof.Rows.Boot.«len» (da_cons (de_prop ((pr_Circle_people E).mono (by decide)) hr (de_var 0)) da_nil)) da_nil)))) (dss_cons (ds_for (passes_of rfl) rfl (di_rng1 rfl E.b_range (de_var 1)) (fun _ => (dg_name hN)) (fun _ => (dss_one (ds_set (i := 2) hN (de_val (de_call ((c_next_counts E).mono (by decide)) fits_next_counts hr (takes_of rfl rfl rfl rfl) rfl (da_cons (de_var 0) (da_cons (de_var 2) da_nil)))))))) (dss_one (ds_ret (de_var 2)))))
theorem c_counts_by (E : En K mg base L) : Cal Pg w K mg base (nt L) 6 "counts_by" ["circle", "many"] m_counts_by := by
  obtain ⟨a, fd, F, hm, G⟩ := o_counts_by (Pg := Pg) (w := w) E
  exact ⟨a, fd, G, hm, F.kp, F.bindsN fun _ _ _ _ _ _ us hl => match us, hl with | [_, _], _ => rfl⟩
def n_beats_for_all_by : List Str := ["circle", "bound", "rows", "many"]
theorem sc_beats_for_all_by : FnScope n_beats_for_all_by ["circle", "bound"] (defScope s_beats_for_all_by) := ⟨rfl, rfl, rfl, by decide +kernel, rfl, by decide +kernel, by decide +kernel⟩
noncomputable def v_beats_for_all_by : Sv := (dSeq (dAsg 2 (dVal (dCall m_first_counts (dCons (dOpL (f1 lenD) (dCons (dProp "Circle" m_Circle_people (dVar 0)) dNil)) dNil)))) (dSeq (dFor (dRng1 (dOp2 fAddG (dC c_MOST_BEATS) (dC (.int 1)))) (bName 3) (dSeq (dIfS (dNot (dTst (dCall m_is_less (dCons (dVar 1) (dCons (dCall m_strain_in (dCons (dVar 2) dNil)) dNil))))) (dRet (dOpL fLst (dCons (dVar 3) dNil))) dNext) (dAsg 2 (dVal (dCall m_next_counts (dCons (dVar 0) (dCons (dVar 2) dNil))))))) (dRet (dOpL fLst dNil))))
noncomputable def m_beats_for_all_by : Mir := mir v_beats_for_all_by 2 4
theorem fits_beats_for_all_by : Fits 2 m_beats_for_all_by := mir_fits
theorem o_beats_for_all_by (E : En K mg base L) : ∃ a fd, FnP K "beats_for_all_by" s_beats_for_all_by a fd ∧ mg "beats_for_all_by" = some (.ref a) ∧ FnOk Pg w K mg base (L2.CX Pg w) 6 a fd ["circle", "bound"] (spD K mg (nt L) 2 m_beats_for_all_by) := by
  obtain ⟨a, fd, F, hm⟩ := E.f_beats_for_all_by.ex
  refine ⟨a, fd, F, hm, fn_okD F sc_beats_for_all_by (fun fns bo O P cdv A outer s H Ex hr => ?_)⟩
  have hN : (n_beats_for_all_by).Nodup := sc_beats_for_all_by.nd
  exact (dss_cons (ds_set (i := 2) hN (de_val (de_call ((c_first_counts E).mono (by decide)) fits_first_counts hr (takes_of rfl rfl rfl rfl) rfl (da_cons (de_callB call_len hl_len rfl E.b_len PyProof.Rows.Boot.«len» (da_cons (de_prop ((pr_Circle_people E).mono (by decide)) hr (de_var 0)) da_nil)) da_nil)))) (dss_cons (ds_for (passes_of rfl) rfl (di_rng1 rfl E.b_range (de_addG (dk_MOST_BEATS E) de_int)) (fun _ => (dg_name hN)) (fun _ => (dss_cons (ds_if (dt_not (dt_val (de_call ((c_is_less E).mono (by decide)) fits_is_less hr (takes_of rfl rfl rfl rfl) rfl (da_cons (de_var 1) (da_cons (de_call ((c_strain_in E).mono (by decide)) fits_strain_in hr (takes_of rfl rfl rfl rfl) rfl (da_cons (de_var 2) da_nil)) da_nil))))) (dss_one (ds_ret (de_lst (da_cons (de_var 3) da_nil)))) dss_nil) (dss_one (ds_set (i := 2) hN (de_val (de_call ((c_next_counts E).mono (by decide)) fits_next_counts hr (takes_of rfl rfl rfl rfl) rfl (da_cons (de_var 0) (da_cons (de_var 2) da_nil))))))))) (dss_one (ds_ret (de_lst da_nil)))))
theorem c_beats_for_all_by (E : En K mg base L) : Cal Pg w K mg base (nt L) 6 "beats_for_all_by" ["circle", "bound"] m_beats_for_all_by := by
  obtain ⟨a, fd, F, hm, G⟩ := o_beats_for_all_by (Pg := Pg) (w := w) E
  exact ⟨a, fd, G, hm, F.kp, F.bindsN fun _ _ _ _ _ _ us hl => match us, hl with | [_, _], _ => rfl⟩
def n_Circle : List Str := ["self", "people", "trust", "index"]
theorem sc_Circle : FnScope n_Circle ["self", "people", "trust"] (defScope s_Circle___init__) := ⟨rfl, rfl, rfl, by decide +kernel, rfl, by decide +kernel, by decide +kernel⟩
noncomputable def v_Circle : Sv := (dSeqN (dFor (dSeqI (dCall m_wrong_in_people (dCons (dVar 1) dNil))) (bName 3) dBad) (dSeqN (dFor (dSeqI (dCall m_wrong_in_trust (dCons (dVar 1) (dCons (dVar 2) dNil)))) (bName 3) dBad) (dSelf "Circle" (dOpL fTup (dCons (dVar 1) (dCons (dVar 2) dNil))))))
noncomputable def m_Circle : Mir := mirI v_Circle 2 4
theorem oo_Circle (E : En K mg base L) : ∃ (C f : Addr) (fd : FuncData), mg "Circle" = some (.ref C) ∧ Mk K C f ∧ FunD K "__init__" "Circle.__init__" (defArgs s_Circle___init__) (defBody s_Circle___init__) (defScope s_Circle___init__) [] [] f fd ∧ FnOk Pg w K mg base (L2.CX Pg w) 19 f fd ["self", "people", "trust"] (spI K mg (nt L) "Circle" 2 m_Circle) := by
  obtain ⟨C, fI, fd, h1, h2, h3, h4, F⟩ := E.cl_Circle.ex
  refine ⟨C, fI, fd, h1, h2, F, fn_okI F sc_Circle rfl E.cl_Circle.own rfl (fun x bo O P J cdv A outer s H Ex S hr => ?_)⟩
  have hN : (n_Circle).Nodup := sc_Circle.nd
  exact (dsn_cons (ds_for (passes_of rfl) rfl (di_seq (de_call ((c_wrong_in_people E).mono (by decide)) fits_wrong_in_people hr (takes_of rfl rfl rfl rfl) rfl (da_cons (de_var 1) da_nil))) (fun _ => (dg_name hN)) (fun _ => (dss_one ds_never))) (dsn_cons (ds_for (passes_of rfl) rfl (di_seq (de_call ((c_wrong_in_trust E).mono (by decide)) fits_wrong_in_trust hr (takes_of rfl rfl rfl rfl) rfl (da_cons (de_var 1) (da_cons (de_var 2) da_nil)))) (fun _ => (dg_name hN)) (fun _ => (dss_one ds_never))) (dsn_last S (de_tup (da_cons (de_var 1) (da_cons (de_var 2) da_nil))))))
theorem mk_Circle (E : En K mg base L) : MkC Pg w K mg base (nt L) 19 "Circle" 2 m_Circle := by
  obtain ⟨C, f, fd, h1, h2, F, G⟩ := oo_Circle (Pg := Pg) (w := w) E
  exact ⟨C, f, fd, ["self", "people", "trust"], h1, h2, G, F.bindsN fun _ _ _ _ _ _ us hl => match us, hl with | [_, _, _], _ => rfl, rfl⟩
def n_strain_by : List Str := ["circle", "many"]
theorem sc_strain_by : FnScope n_strain_by ["circle", "many"] (defScope s_strain_by) := ⟨rfl, rfl, rfl, by decide +kernel, rfl, by decide +kernel, by decide +kernel⟩
noncomputable def v_strain_by : Sv := (dRet (dCall m_strain_in (dCons (dCall m_counts_by (dCons (dVar 0) (dCons (dVar 1) dNil))) dNil)))
noncomputable def m_strain_by : Mir := mir v_strain_by 2 2
theorem fits_strain_by : Fits 2 m_strain_by := mir_fits
theorem o_strain_by (E : En K mg base L) : ∃ a fd, FnP K "strain_by" s_strain_by a fd ∧ mg "strain_by" = some (.ref a) ∧ FnOk Pg w K mg base (L2.CX Pg w) 7 a fd ["circle", "many"] (spD K mg (nt L) 2 m_strain_by) := by
  obtain ⟨a, fd, F, hm⟩ := E.f_strain_by.ex
  refine ⟨a, fd, F, hm, fn_okD F sc_strain_by (fun fns bo O P cdv A outer s H Ex hr => ?_)⟩
  have hN : (n_strain_by).Nodup := sc_strain_by.nd
  exact (dss_one (ds_ret (de_call ((c_strain_in E).mono (by decide)) fits_strain_in hr (takes_of rfl rfl rfl rfl) rfl (da_cons (de_call ((c_counts_by E).mono (by decide)) fits_counts_by hr (takes_of rfl rfl rfl rfl) rfl (da_cons (de_var 0) (da_cons (de_var 1) da_nil))) da_nil))))
theorem c_strain_by (E : En K mg base L) : Cal Pg w K mg base (nt L) 7 "strain_by" ["circle", "many"] m_strain_by := by
  obtain ⟨a, fd, F, hm, G⟩ := o_strain_by (Pg := Pg) (w := w) E
  exact ⟨a, fd, G, hm, F.kp, F.bindsN fun _ _ _ _ _ _ us hl => match us, hl with | [_, _], _ => rfl⟩
def n_beats_for_all : List Str := ["circle", "bound", "found"]
theorem sc_beats_for_all : FnScope n_beats_for_all ["circle", "bound"] (defScope s_beats_for_all) := ⟨rfl, rfl, rfl, by decide +kernel, rfl, by decide +kernel, by decide +kernel⟩
noncomputable def v_beats_for_all : Sv := (dSeq (dDrop (dCall m_check_circle (dCons (dVar 0) dNil))) (dSeq (dDrop (dCall m_check_bound (dCons (dVar 1) dNil))) (dSeq (dAsg 2 (dVal (dCall m_beats_for_all_by (dCons (dVar 0) (dCons (dVar 1) dNil))))) (dRet (dIf (dTst (dOp2 fNe (dVar 2) (dOpL fLst dNil))) (dIx (dVar 2) (dC (.int 0))) (dC .non))))))
noncomputable def m_beats_for_all : Mir := mir v_beats_for_all 2 3
theorem fits_beats_for_all : Fits 2 m_beats_for_all := mir_fits
theorem o_beats_for_all (E : En K mg base L) : ∃ a fd, FnP K "beats_for_all" s_beats_for_all a fd ∧ mg "beats_for_all" = some (.ref a) ∧ FnOk Pg w K mg base (L2.CX Pg w) 7 a fd ["circle", "bound"] (spD K mg (nt L) 2 m_beats_for_all) := by
  obtain ⟨a, fd, F, hm⟩ := E.f_beats_for_all.ex
  refine ⟨a, fd, F, hm, fn_okD F sc_beats_for_all (fun fns bo O P cdv A outer s H Ex hr => ?_)⟩
  have hN : (n_beats_for_all).Nodup := sc_beats_for_all.nd
  exact (dss_cons (ds_expr (de_call ((c_check_circle E).mono (by decide)) fits_check_circle hr (takes_of rfl rfl rfl rfl) rfl (da_cons (de_var 0) da_nil))) (dss_cons (ds_expr (de_call ((c_check_bound E).mono (by decide)) fits_check_bound hr (takes_of rfl rfl rfl rfl) rfl (da_cons (de_var 1) da_nil))) (dss_cons (ds_set (i := 2) hN (de_val (de_call ((c_beats_for_all_by E).mono (by decide)) fits_beats_for_all_by hr (takes_of rfl rfl rfl rfl) rfl (da_cons (de_var 0) (da_cons (de_var 1) da_nil))))) (dss_one (ds_ret (de_ifx (dt_cmp (op_neD (u64 hr)) h_ne (de_var 2) (de_lst da_nil)) (de_sub_ix (de_var 2) de_int) de_non))))))
theorem c_beats_for_all (E : En K mg base L) : Cal Pg w K mg base (nt L) 7 "beats_for_all" ["circle", "bound"] m_beats_for_all := by
  obtain ⟨a, fd, F, hm, G⟩ := o_beats_for_all (Pg := Pg) (w := w) E
  exact ⟨a, fd, G, hm, F.kp, F.bindsN fun _ _ _ _ _ _ us hl => match us, hl with | [_, _], _ => rfl⟩
def n_strain : List Str := ["circle", "many"]
theorem sc_strain : FnScope n_strain ["circle", "many"] (defScope s_strain) := ⟨rfl, rfl, rfl, by decide +kernel, rfl, by decide +kernel, by decide +kernel⟩
noncomputable def v_strain : Sv := (dSeq (dDrop (dCall m_check_circle (dCons (dVar 0) dNil))) (dSeq (dDrop (dCall m_check_many (dCons (dVar 1) dNil))) (dRet (dCall m_strain_by (dCons (dVar 0) (dCons (dVar 1) dNil))))))
noncomputable def m_strain : Mir := mir v_strain 2 2
theorem fits_strain : Fits 2 m_strain := mir_fits
theorem o_strain (E : En K mg base L) : ∃ a fd, FnP K "strain" s_strain a fd ∧ mg "strain" = some (.ref a) ∧ FnOk Pg w K mg base (L2.CX Pg w) 8 a fd ["circle", "many"] (spD K mg (nt L) 2 m_strain) := by
  obtain ⟨a, fd, F, hm⟩ := E.f_strain.ex
  refine ⟨a, fd, F, hm, fn_okD F sc_strain (fun fns bo O P cdv A outer s H Ex hr => ?_)⟩
  have hN : (n_strain).Nodup := sc_strain.nd
  exact (dss_cons (ds_expr (de_call ((c_check_circle E).mono (by decide)) fits_check_circle hr (takes_of rfl rfl rfl rfl) rfl (da_cons (de_var 0) da_nil))) (dss_cons (ds_expr (de_call ((c_check_many E).mono (by decide)) fits_check_many hr (takes_of rfl rfl rfl rfl) rfl (da_cons (de_var 1) da_nil))) (dss_one (ds_ret (de_call ((c_strain_by E).mono (by decide)) fits_strain_by hr (takes_of rfl rfl rfl rfl) rfl (da_cons (de_var 0) (da_cons (de_var 1) da_nil)))))))
theorem c_strain (E : En K mg base L) : Cal Pg w K mg base (nt L) 8 "strain" ["circle", "many"] m_strain := by
  obtain ⟨a, fd, F, hm, G⟩ := o_strain (Pg := Pg) (w := w) E
  exact ⟨a, fd, G, hm, F.kp, F.bindsN fun _ _ _ _ _ _ us hl => match us, hl with | [_, _], _ => rfl⟩
def n__law_right : List Str := ["pool", "p", "q", "many", "two", "gap", "power", "lap", "size", "people", "row", "like", "alone", "j", "k", "part", "rest", "rows", "due"]
theorem sc__law_right : FnScope n__law_right ["pool"] (defScope s__law_right) := ⟨rfl, rfl, rfl, by decide +kernel, rfl, by decide +kernel, by decide +kernel⟩
noncomputable def v__law_right : Sv := (dSeq (dPar3 1 2 3 (dVal (dCall m__law_fr (dCons (dCall m__law_below (dCons (dVar 0) (dCons (dC (.int 11)) dNil))) (dCons (dC (.int 10)) dNil)))) (dVal (dCall m__law_fr (dCons (dCall m__law_below (dCons (dVar 0) (dCons (dC (.int 11)) dNil))) (dCons (dC (.int 10)) dNil)))) (dVal (dOp2 fAddG (dC (.int 1)) (dCall m__law_below (dCons (dVar 0) (dCons (dC (.int 6)) dNil)))))) (dSeq (dAsg 4 (dVal (dCall (fitM 2 m_Circle) (dCons (dOpL fTup (dCons (dC (.str "b")) (dCons (dC (.str "c")) dNil))) (dCons (dOpL fTup (dCons (dOpL fTup (dCons (dCall m__law_less (dCons (dOpL fTup (dCons (dC (.int 1)) (dCons (dC (.int 1)) dNil))) (dCons (dVar 1) dNil))) (dCons (dVar 1) dNil))) (dCons (dOpL fTup (dCons (dVar 2) (dCons (dCall m__law_less (dCons (dOpL fTup (dCons (dC (.int 1)) (dCons (dC (.int 1)) dNil))) (dCons (dVar 2) dNil))) dNil))) dNil))) dNil))))) (dSeq (dAsg 5 (dVal (dCall m__law_less (dCons (dOpL fTup (dCons (dC (.int 1)) (dCons (dC (.int 1)) dNil))) (dCons (dCall m__law_plus (dCons (dVar 1) (dCons (dVar 2) dNil))) dNil))))) (dSeq (dPar2 5 6 (dVal (dOpL fTup (dCons (dOpL (f1 absD) (dCons (dIx (dVar 5) (dC (.int 0))) dNil)) (dCons (dIx (dVar 5) (dC (.int 1))) dNil)))) (dVal (dOpL fTup (dCons (dC (.int 1)) (dCons (dC (.int 1)) dNil))))) (dSeq (dFor (dRng1 (dVar 3)) (bName 7) (dAsg 6 (dVal (dCall m__law_times (dCons (dVar 6) (dCons (dVar 5) dNil)))))) (dSeq (dIfS (dNot (dTst (dCall (m__law_same 8) (dCons (dOpL fLst (dCons (dCall m_strain (dCons (dVar 4) (dCons (dC (.int 1)) dNil))) (dCons (dCall m_strain (dCons (dVar 4) (dCons (dVar 3) dNil))) dNil))) (dCons (dOpL fLst (dCons (dVar 5) (dCons (dVar 6) dNil))) dNil))))) (dRet (dC (.bl false))) dNext) (dSeq (dAsg 8 (dVal (dOp2 fAddG (dC (.int 2)) (dCall m__law_below (dCons (dVar 0) (dCons (dC (.int 4)) dNil)))))) (dSeq (dPar2 9 10 (dVal (dOpL (f1 tupleSD) (dCons (dSl (dC (.str "bcdfg")) dNoPart (dPart (dVar 8))) dNil))) (dVal (dCall m__law_one (dCons (dVar 0) (dCons (dOpL fTup (dCons (dOp2 fAddG (dOpL fTup (dCons (dOpL fTup (dCons (dC (.int 1)) (dCons (dC (.int 1)) dNil))) dNil)) (dOp2 fMulG (dOpL fTup (dCons (dOpL fTup (dCons (dC (.int 0)) (dCons (dC (.int 1)) dNil))) dNil)) (dOp2 fSub (dVar 8) (dC (.int 1))))) (dCons (dOp2 fMulG (dOpL fTup (dCons (dCall m__law_fr (dCons (dC (.int 1)) (dCons (dVar 8) dNil))) dNil)) (dVar 8)) dNil))) dNil))))) (dSeq (dPar2 11 12 (dVal (dCall (fitM 2 m_Circle) (dCons (dVar 9) (dCons (dOp2 fMulG (dOpL fTup (dCons (dVar 10) dNil)) (dVar 8)) dNil)))) (dVal (dCall (fitM 2 m_Circle) (dCons (dVar 9) (dCons (dOpL (f1 tupleD) (dCons (dComp (dRng1 (dVar 8)) (bName 14) dYes (dOpL (f1 tupleD) (dCons (dComp (dRng1 (dVar 8)) (bName 13) dYes (dIf (dTst (dOp2 fEq (dVar 13) (dVar 14))) (dOpL fTup (dCons (dC (.int 1)) (dCons (dC (.int 1)) dNil))) (dOpL fTup (dCons (dC (.int 0)) (dCons (dC (.int 1)) dNil)))) [13]) dNil)) [14]) dNil)) dNil))))) (dSeq (dIfS (dNot (dTst (dCall (m__law_same 8) (dCons (dOpL fLst (dCons (dCall m_strain (dCons (dVar 11) (dCons (dVar 3) dNil))) (dCons (dCall m_strain (dCons (dVar 12) (dCons (dVar 3) dNil))) (dCons (dCall m_beats_for_all (dCons (dVar 11) (dCons (dOpL fTup (dCons (dC (.int 0)) (dCons (dC (.int 1)) dNil))) dNil))) (dCons (dCall m_beats_for_all (dCons (dVar 12) (dCons (dOpL fTup (dCons (dC (.int 1)) (dCons (dC (.int 2)) dNil))) dNil))) dNil))))) (dCons (dOpL fLst (dCons (dOpL fTup (dCons (dC (.int 0)) (dCons (dC (.int 1)) dNil))) (dCons (dOpL fTup (dCons (dC (.int 1)) (dCons (dC (.int 1)) dNil))) (dCons (dC (.int 1)) (dCons (dC .non) dNil))))) dNil))))) (dRet (dC (.bl false))) dNext) (dSeq (dAsg 15 (dVal (dCall m__law_fr (dCons (dOp2 fAddG (dC (.int 1)) (dCall m__law_below (dCons (dVar 0) (dCons (dC (.int 4)) dNil)))) (dCons (dC (.int 5)) dNil))))) (dSeq (dAsg 16 (dVal (dCall m__law_less (dCons (dOpL fTup (dCons (dC (.int 1)) (dCons (dC (.int 1)) dNil))) (dCons (dVar 15) dNil))))) (dSeq (dAsg 17 (dOpL fLst (dCons (dOp2 fAddG (dOpL fTup (dCons (dOpL fTup (dCons (dC (.int 1)) (dCons (dC (.int 1)) dNil))) dNil)) (dOp2 fMulG (dOpL fTup (dCons (dOpL fTup (dCons (dC (.int 0)) (dCons (dC (.int 1)) dNil))) dNil)) (dOp2 fSub (dVar 8) (dC (.int 1))))) dNil))) (dSeq (dFor (dRng2 (dC (.int 1)) (dVar 8)) (bName 14) (dApp 17 (dOpL (f1 tupleD) (dCons (dComp (dRng1 (dVar 8)) (bName 13) dYes (dIf (dTst (dOp2 fEq (dVar 13) (dC (.int 0)))) (dVar 15) (dIf (dTst (dOp2 fEq (dVar 13) (dVar 14))) (dVar 16) (dOpL fTup (dCons (dC (.int 0)) (dCons (dC (.int 1)) dNil))))) [13]) dNil)))) (dSeq (dAsg 18 (dVal (dOpL fTup (dCons (dC (.int 1)) (dCons (dC (.int 1)) dNil))))) (dSeq (dFor (dRng1 (dVar 3)) (bName 7) (dAsg 18 (dVal (dCall m__law_times (dCons (dVar 18) (dCons (dVar 16) dNil)))))) (dFrz 17 (dRet (dCall (m__law_same 8) (dCons (dCall m_strain (dCons (dCall (fitM 2 m_Circle) (dCons (dVar 9) (dCons (dOpL (f1 tupleD) (dCons (dVar 17) dNil)) dNil))) (dCons (dVar 3) dNil))) (dCons (dVar 18) dNil)))))))))))))))))))))
noncomputable def m__law_right : Mir := mir v__law_right 1 19
theorem fits__law_right : Fits 1 m__law_right := mir_fits
theorem o__law_right (E : En K mg base L) : ∃ a fd, FnP K "_law_right" s__law_right a fd ∧ mg "_law_right" = some (.ref a) ∧ FnOk Pg w K mg base (L2.CX Pg w) 21 a fd ["pool"] (spD K mg (nt L) 1 m__law_right) := by
  obtain ⟨a, fd, F, hm⟩ := E.f__law_right.ex
  refine ⟨a, fd, F, hm, fn_okD F sc__law_right (fun fns bo O P cdv A outer s H Ex hr => ?_)⟩
  have hN : (n__law_right).Nodup := sc__law_right.nd
  exact (dss_cons (ds_par3 1 2 3 rfl hN (de_val (de_call ((c__law_fr E).mono (by decide)) fits__law_fr hr (takes_of rfl rfl rfl rfl) rfl (da_cons (de_call ((c__law_below E).mono (by decide)) fits__law_below hr (takes_of rfl rfl rfl rfl) rfl (da_cons (de_var 0) (da_cons de_int da_nil))) (da_cons de_int da_nil)))) (fun O => (de_val (de_call ((c__law_fr E).mono (by decide)) fits__law_fr hr (takes_of rfl rfl rfl rfl) rfl (da_cons (de_call ((c__law_below E).mono (by decide)) fits__law_below hr (takes_of rfl rfl rfl rfl) rfl (da_cons (de_var 0) (da_cons de_int da_nil))) (da_cons de_int da_nil))))) (fun O => (de_val (de_addG de_int (de_call ((c__law_below E).mono (by decide)) fits__law_below hr (takes_of rfl rfl rfl rfl) rfl (da_cons (de_var 0) (da_cons de_int da_nil))))))) (dss_cons (ds_set (i := 4) hN (de_val (de_make ((mk_Circle E).mono (by decide)) hr (takes_of rfl rfl rfl rfl) rfl (da_cons (de_tup (da_cons de_str (da_cons de_str da_nil))) (da_cons (de_tup (da_cons (de_tup (da_cons (de_call ((c__law_less E).mono (by decide)) fits__law_less hr (takes_of rfl rfl rfl rfl) rfl (da_cons (de_tup (da_cons de_int (da_cons de_int da_nil))) (da_cons (de_var 1) da_nil))) (da_cons (de_var 1) da_nil))) (da_cons (de_tup (da_cons (de_var 2) (da_cons (de_call ((c__law_less E).mono (by decide)) fits__law_less hr (takes_of rfl rfl rfl rfl) rfl (da_cons (de_tup (da_cons de_int (da_cons de_int da_nil))) (da_cons (de_var 2) da_nil))) da_nil))) da_nil))) da_nil))))) (dss_cons (ds_set (i := 5) hN (de_val (de_call ((c__law_less E).mono (by decide)) fits__law_less hr (takes_of rfl rfl rfl rfl) rfl (da_cons (de_tup (da_cons de_int (da_cons de_int da_nil))) (da_cons (de_call ((c__law_plus E).mono (by decide)) fits__law_plus hr (takes_of rfl rfl rfl rfl) rfl (da_cons (de_var 1) (da_cons (de_var 2) da_nil))) da_nil))))) (dss_cons (ds_par2 5 6 rfl hN (de_val (de_tup (da_cons (de_callB call_abs hl_abs rfl E.b_abs PyProof.Rows.Boot.«abs» (da_cons (de_sub_ix (de_var 5) de_int) da_nil)) (da_cons (de_sub_ix (de_var 5) de_int) da_nil)))) (fun O => (de_val (de_tup (da_cons de_int (da_cons de_int da_nil)))))) (dss_cons (ds_for (passes_of rfl) rfl (di_rng1 rfl E.b_range (de_var 3)) (fun _ => (dg_name hN)) (fun _ => (dss_one (ds_set (i := 6) hN (de_val (de_call ((c__law_times E).mono (by decide)) fits__law_times hr (takes_of rfl rfl rfl rfl) rfl (da_cons (de_var 6) (da_cons (de_var 5) da_nil)))))))) (dss_cons (ds_if (dt_not (dt_val (de_call ((c__law_same E).mono (by decide)) fits__law_same hr (takes_of rfl rfl rfl rfl) rfl (da_cons (de_lst (da_cons (de_call ((c_strain E).mono (by decide)) fits_strain hr (takes_of rfl rfl rfl rfl) rfl (da_cons (de_var 4) (da_cons de_int da_nil))) (da_cons (de_call ((c_strain E).mono (by decide)) fits_strain hr (takes_of rfl rfl rfl rfl) rfl (da_cons (de_var 4) (da_cons (de_var 3) da_nil))) da_nil))) (da_cons (de_lst (da_cons (de_var 5) (da_cons (de_var 6) da_nil))) da_nil))))) (dss_one (ds_ret de_bl)) dss_nil) (dss_cons (ds_set (i := 8) hN (de_val (de_addG de_int (de_call ((c__law_below E).mono (by decide)) fits__law_below hr (takes_of rfl rfl rfl rfl) rfl (da_cons (de_var 0) (da_cons de_int da_nil)))))) (dss_cons (ds_par2 9 10 rfl hN (de_val (de_callTy (call_tupleS rfl) hl_tupleS rfl E.b_tuple PyProof.Rows.Boot.«tuple» (da_cons (de_slice de_str do_none (do_some (de_var 8))) da_nil))) (fun O => (de_val (de_call ((c__law_one E).mono (by decide)) fits__law_one hr (takes_of rfl rfl rfl rfl) rfl (da_cons (de_var 0) (da_cons (de_tup (da_cons (de_addG (de_tup (da_cons (de_tup (da_cons de_int (da_cons de_int da_nil))) da_nil)) (de_mulG (de_tup (da_cons (de_tup (da_cons de_int (da_cons de_int da_nil))) da_nil)) (de_sub (de_var 8) de_int))) (da_cons (de_mulG (de_tup (da_cons (de_call ((c__law_fr E).mono (by decide)) fits__law_fr hr (takes_of rfl rfl rfl rfl) rfl (da_cons de_int (da_cons (de_var 8) da_nil))) da_nil)) (de_var 8)) da_nil))) da_nil)))))) (dss_cons (ds_par2 11 12 rfl hN (de_val (de_make ((mk_Circle E).mono (by decide)) hr (takes_of rfl rfl rfl rfl) rfl (da_cons (de_var 9) (da_cons (de_mulG (de_tup (da_cons (de_var 10) da_nil)) (de_var 8)) da_nil)))) (fun O => (de_val (de_make ((mk_Circle E).mono (by decide)) hr (takes_of rfl rfl rfl rfl) rfl (da_cons (de_var 9) (da_cons (de_callTy call_tuple_ofX hl_tuple rfl E.b_tuple PyProof.Rows.Boot.«tuple» (da_cons (de_lc (own := [("k", 14)]) rfl hN (di_dj (di_rng1 rfl E.b_range (de_var 8))) (blkOk_by rfl) (by decide) (fun O P s H C cl fp => (dg_name hN)) (fun O P s H C cl fp => dts_nil) (fun O P s H C cl fp => (de_callTy call_tuple_ofX hl_tuple rfl E.b_tuple PyProof.Rows.Boot.«tuple» (da_cons (de_lc (own := [("j", 13)]) rfl hN (di_dj (di_rng1 rfl E.b_range (de_var 8))) (blkOk_by rfl) (by decide) (fun O P s H C cl fp => (dg_name hN)) (fun O P s H C cl fp => dts_nil) (fun O P s H C cl fp => (de_ifx (dt_cmp (op_eqD (u64 hr)) h_eq (de_var 13) (de_var 14)) (de_tup (da_cons de_int (da_cons de_int da_nil))) (de_tup (da_cons de_int (da_cons de_int da_nil)))))) da_nil)))) da_nil)) da_nil)))))) (dss_cons (ds_if (dt_not (dt_val (de_call ((c__law_same E).mono (by decide)) fits__law_same hr (takes_of rfl rfl rfl rfl) rfl (da_cons (de_lst (da_cons (de_call ((c_strain E).mono (by decide)) fits_strain hr (takes_of rfl rfl rfl rfl) rfl (da_cons (de_var 11) (da_cons (de_var 3) da_nil))) (da_cons (de_call ((c_strain E).mono (by decide)) fits_strain hr (takes_of rfl rfl rfl rfl) rfl (da_cons (de_var 12) (da_cons (de_var 3) da_nil))) (da_cons (de_call ((c_beats_for_all E).mono (by decide)) fits_beats_for_all hr (takes_of rfl rfl rfl rfl) rfl (da_cons (de_var 11) (da_cons (de_tup (da_cons de_int (da_cons de_int da_nil))) da_nil))) (da_cons (de_call ((c_beats_for_all E).mono (by decide)) fits_beats_for_all hr (takes_of rfl rfl rfl rfl) rfl (da_cons (de_var 12) (da_cons (de_tup (da_cons de_int (da_cons de_int da_nil))) da_nil))) da_nil))))) (da_cons (de_lst (da_cons (de_tup (da_cons de_int (da_cons de_int da_nil))) (da_cons (de_tup (da_cons de_int (da_cons de_int da_nil))) (da_cons de_int (da_cons de_non da_nil))))) da_nil))))) (dss_one (ds_ret de_bl)) dss_nil) (dss_cons (ds_set (i := 15) hN (de_val (de_call ((c__law_fr E).mono (by decide)) fits__law_fr hr (takes_of rfl rfl rfl rfl) rfl (da_cons (de_addG de_int (de_call ((c__law_below E).mono (by decide)) fits__law_below hr (takes_of rfl rfl rfl rfl) rfl (da_cons (de_var 0) (da_cons de_int da_nil)))) (da_cons de_int da_nil))))) (dss_cons (ds_set (i := 16) hN (de_val (de_call ((c__law_less E).mono (by decide)) fits__law_less hr (takes_of rfl rfl rfl rfl) rfl (da_cons (de_tup (da_cons de_int (da_cons de_int da_nil))) (da_cons (de_var 15) da_nil))))) (dss_cons (ds_set (i := 17) hN (de_lst (da_cons (de_addG (de_tup (da_cons (de_tup (da_cons de_int (da_cons de_int da_nil))) da_nil)) (de_mulG (de_tup (da_cons (de_tup (da_cons de_int (da_cons de_int da_nil))) da_nil)) (de_sub (de_var 8) de_int))) da_nil))) (dss_cons (ds_for (passes_of rfl) rfl (di_rng2 rfl E.b_range de_int (de_var 8)) (fun _ => (dg_name hN)) (fun _ => (dss_one (ds_app 17 (de_callTy call_tuple_ofX hl_tuple rfl E.b_tuple PyProof.Rows.Boot.«tuple» (da_cons (de_lc (own := [("j", 13)]) rfl hN (di_dj (di_rng1 rfl E.b_range (de_var 8))) (blkOk_by rfl) (by decide) (fun O P s H C cl fp => (dg_name hN)) (fun O P s H C cl fp => dts_nil) (fun O P s H C cl fp => (de_ifx (dt_cmp (op_eqD (u64 hr)) h_eq (de_var 13) de_int) (de_var 15) (de_ifx (dt_cmp (op_eqD (u64 hr)) h_eq (de_var 13) (de_var 14)) (de_var 16) (de_tup (da_cons de_int (da_cons de_int da_nil))))))) da_nil)))))) (dss_cons (ds_set (i := 18) hN (de_val (de_tup (da_cons de_int (da_cons de_int da_nil))))) (dss_cons (ds_for (passes_of rfl) rfl (di_rng1 rfl E.b_range (de_var 3)) (fun _ => (dg_name hN)) (fun _ => (dss_one (ds_set (i := 18) hN (de_val (de_call ((c__law_times E).mono (by decide)) fits__law_times hr (takes_of rfl rfl rfl rfl) rfl (da_cons (de_var 18) (da_cons (de_var 16) da_nil)))))))) (dss_frz 17 (dss_one (ds_ret (de_call ((c__law_same E).mono (by decide)) fits__law_same hr (takes_of rfl rfl rfl rfl) rfl (da_cons (de_call ((c_strain E).mono (by decide)) fits_strain hr (takes_of rfl rfl rfl rfl) rfl (da_cons (de_make ((mk_Circle E).mono (by decide)) hr (takes_of rfl rfl rfl rfl) rfl (da_cons (de_var 9) (da_cons (de_callTy call_tuple_ofX hl_tuple rfl E.b_tuple PyProof.Rows.Boot.«tuple» (da_cons (de_var 17) da_nil)) da_nil))) (da_cons (de_var 3) da_nil))) (da_cons (de_var 18) da_nil))))))))))))))))))))))
theorem c__law_right (E : En K mg base L) : Cal Pg w K mg base (nt L) 21 "_law_right" ["pool"] m__law_right := by
  obtain ⟨a, fd, F, hm, G⟩ := o__law_right (Pg := Pg) (w := w) E
  exact ⟨a, fd, G, hm, F.kp, F.bindsN fun _ _ _ _ _ _ us hl => match us, hl with | [_], _ => rfl⟩
def n_law : List Str := ["script", "lap", "pool", "again"]
theorem sc_law : FnScope n_law ["script"] (defScope s_law) := ⟨rfl, rfl, rfl, by decide +kernel, rfl, by decide +kernel, by decide +kernel⟩
noncomputable def v_law : Sv := (dSeq (dFor (dRng1 (dOpL (f2 fMax) (dCons (dC (.int 1)) (dCons (dOpL (f2 fMin) (dCons (dOpL (f1 lenD) (dCons (dVar 0) dNil)) (dCons (dC (.int 3)) dNil))) dNil)))) (bName 1) (dSeq (dAsg 2 (dCall m__law_pool (dCons (dVar 0) (dCons (dVar 1) dNil)))) (dPool 2 (dIfS (dNot (dTst (dOpL (f1 allD) (dCons (dComp (dRng1 (dC (.int 4))) (bName 3) dYes (dCall m__law_right (dCons (dVar 2) dNil)) [3]) dNil)))) (dRet (dC (.bl false))) dNext)))) (dRet (dC (.bl true))))
noncomputable def m_law : Mir := mir v_law 1 4
theorem fits_law : Fits 1 m_law := mir_fits
theorem k_law (E : En K mg base L) {a : Addr} {fd : FuncData} (F : FnP K "law" s_law a fd) : ∀ (bo : Option Addr), FnOk Pg w K mg base (L2.CX Pg w) 22 a fd ["script"] (spD0 K mg (nt L) 1 m_law) := by
  intro _
  refine fn_ok0 F sc_law (fun fns O P cdv A outer s H Ex hr => ?_)
  have hN : (n_law).Nodup := sc_law.nd
  have hb : (bpOf K mg (nt L) fns none O H Ex P).R.bo = none := rfl
  exact (dss_cons (ds_for (passes_of rfl) rfl (di_rng1 rfl E.b_range (de_callB (call_max2 rfl) hl_max rfl E.b_max PyProof.Rows.Boot.«max» (da_cons de_int (da_cons (de_callB (call_min2 rfl) hl_min rfl E.b_min PyProof.Rows.Boot.«min» (da_cons (de_callB call_len hl_len rfl E.b_len PyProof.Rows.Boot.«len» (da_cons (de_var 0) da_nil)) (da_cons de_int da_nil))) da_nil)))) (fun _ => (dg_name hN)) (fun _ => (dss_cons (ds_set (i := 2) hN (de_call ((c__law_pool E).mono (by decide)) fits__law_pool hr (takes_of rfl rfl rfl rfl) rfl (da_cons (de_var 0) (da_cons (de_var 1) da_nil)))) (dss_one (ds_pool 2 hb fun a => (ds_if (dt_not (dt_val (de_callB (cr_all rfl) hl_all rfl E.b_all PyProof.Rows.Boot.«all» (da_cons (de_lc (own := [("again", 3)]) rfl hN (di_dj (di_rng1 rfl E.b_range de_int)) (blkOk_by rfl) (by decide) (fun O P s H C cl fp => (dg_name hN)) (fun O P s H C cl fp => dts_nil) (fun O P s H C cl fp => (de_call ((c__law_right E).mono (by decide)) fits__law_right hr L2.takes0 rfl (da_cons (de_var 2) da_nil)))) da_nil)))) (dss_one (ds_ret de_bl)) dss_nil)))))) (dss_one (ds_ret de_bl)))
end
end W

set_option Elab.async false
set_option linter.all false
set_option maxRecDepth 100000
set_option maxHeartbeats 2000000
set_option exponentiation.threshold 20000
namespace P
open PySem DL W
theorem lowest_ev (n m : Int) (b : Bw) (hm : m ≠ 0) (hs : m.natAbs < 2 ^ 9000) : m_lowest [.int n, .int m] b = .ok (.val (rq (Rat.divInt n m))) b := by
  unfold m_lowest
  by_cases hp : m > 0
  · obtain ⟨h1, h2, h3, h4⟩ := low_num n m _ hm rfl
    rw [if_pos hp] at h1 h2 h3 h4
    simp [x_mir, v_lowest, ent, hp, div_ok h3 h4 hs, h1, h2, LIM, rq]
  · obtain ⟨h1, h2, h3, h4⟩ := low_num n m _ hm rfl
    rw [if_neg hp] at h1 h2 h3 h4
    simp [x_mir, v_lowest, ent, hp, div_ok h3 h4 hs, h1, h2, LIM, rq]
theorem plus_ev (p q : Rat) (b : Bw) (hp : Sm 4000 p) (hq : Sm 4000 q) : m_plus [rq p, rq q] b = .ok (.val (rq (p + q))) b := by
  have m1 : mulOk p.num q.den = true := mul_ok hp.1 hq.2
  have m2 : mulOk q.num p.den = true := mul_ok hq.1 hp.2
  have m3 : mulOk p.den q.den = true := mul_ok hp.2 hq.2
  have l := lowest_ev (p.num * q.den + q.num * p.den) (p.den * q.den) b (Int.mul_ne_zero (den_ne p) (den_ne q)) (dd9 (k := 4000) (Nat.le_refl _) hp.2 hq.2)
  rw [divInt_add] at l
  simp [m_plus, x_mir, v_plus, ent, rq, m1, m2, m3]
  rw [l]
  rfl
theorem minus_ev (p q : Rat) (b : Bw) (hp : Sm 4000 p) (hq : Sm 4000 q) : m_minus [rq p, rq q] b = .ok (.val (rq (p - q))) b := by
  have m1 : mulOk p.num q.den = true := mul_ok hp.1 hq.2
  have m2 : mulOk q.num p.den = true := mul_ok hq.1 hp.2
  have m3 : mulOk p.den q.den = true := mul_ok hp.2 hq.2
  have l := lowest_ev (p.num * q.den - q.num * p.den) (p.den * q.den) b (Int.mul_ne_zero (den_ne p) (den_ne q)) (dd9 (k := 4000) (Nat.le_refl _) hp.2 hq.2)
  rw [divInt_sub] at l
  simp [m_minus, x_mir, v_minus, ent, rq, m1, m2, m3]
  rw [l]
  rfl
theorem times_ev (p q : Rat) (b : Bw) (hp : Sm 4000 p) (hq : Sm 4000 q) : m_times [rq p, rq q] b = .ok (.val (rq (p * q))) b := by
  have m1 : mulOk p.num q.num = true := mul_ok hp.1 hq.1
  have m2 : mulOk p.den q.den = true := mul_ok hp.2 hq.2
  have l := lowest_ev (p.num * q.num) (p.den * q.den) b (Int.mul_ne_zero (den_ne p) (den_ne q)) (dd9 (k := 4000) (Nat.le_refl _) hp.2 hq.2)
  rw [divInt_mul'] at l
  simp [m_times, x_mir, v_times, ent, rq, m1, m2]
  rw [l]
  rfl
theorem less_ev (p q : Rat) (b : Bw) (hp : Sm 4000 p) (hq : Sm 4000 q) : m_is_less [rq p, rq q] b = .ok (.val (.bl (decide (p < q)))) b := by
  have m1 : mulOk p.num q.den = true := mul_ok hp.1 hq.2
  have m2 : mulOk q.num p.den = true := mul_ok hq.1 hp.2
  have e : decide (p < q) = decide (p.num * q.den < q.num * p.den) := by
    rw [decide_eq_decide]
    exact Rat.lt_iff p q
  simp [m_is_less, x_mir, v_is_less, ent, rq, m1, m2, e]
theorem lesser_ev (p q : Rat) (b : Bw) (hp : Sm 4000 p) (hq : Sm 4000 q) : m_lesser [rq p, rq q] b = .ok (.val (rq (if q < p then q else p))) b := by
  have l := less_ev q p b hq hp
  simp [m_lesser, x_mir, v_lesser, ent, l]
  by_cases h : q < p <;> simp [h]
theorem greater_ev (p q : Rat) (b : Bw) (hp : Sm 4000 p) (hq : Sm 4000 q) : m_greater [rq p, rq q] b = .ok (.val (rq (if p < q then q else p))) b := by
  have l := less_ev p q b hp hq
  simp [m_greater, x_mir, v_greater, ent, l]
  by_cases h : p < q <;> simp [h]
theorem total_ev {n M : Nat} (l : List Rat) (d : D) (b : Bw) (hd : d = .lst (l.map rq) ∨ d = .tup (l.map rq)) (hl : ∀ q ∈ l, Bq n M q) (n0 : 0 < n) (hn : n < 2 ^ 4000) (hM : l.length * M < 2 ^ 4000) : m_total [d] b = .ok (.val (rq (sumR l))) b := by
  obtain ⟨x', h1⟩ := add_loop (m := m_plus) (b := b) (s0 := .val d) hn hM (fun p q hp hq => plus_ev p q b hp hq) l 0 0 .un hl (by rw [Nat.zero_mul]; exact Bq.zero n0) (by omega)
  rcases hd with rfl | rfl
  · simp [m_total, x_mir, v_total, ent, c_NOTHING, ← zero_rq, h1, sumR]
  · simp [m_total, x_mir, v_total, ent, c_NOTHING, ← zero_rq, h1, sumR]
theorem law_fr_ev (n m : Int) (b : Bw) (hm : m ≠ 0) (hs : m.natAbs < 2 ^ 9000) : m__law_fr [.int n, .int m] b = .ok (.val (rq (Rat.divInt n m))) b := by
  have ab : ∀ k : Int, (if k < 0 then -k else k) = ((k.natAbs : Nat) : Int) := fun k => by split <;> omega
  have lp := dWhile_eq (t := frT) (body := frB) (n.natAbs + 1) (gcd_loop (.val (.int n)) (.val (.int m)) b n.natAbs m.natAbs) (fun z => by cases z)
  have e : Nat.gcd m.natAbs n.natAbs = Nat.gcd n.natAbs m.natAbs := Nat.gcd_comm _ _
  rw [e] at lp
  obtain ⟨h1, h2, h3, h4⟩ := low_num n m _ hm rfl
  unfold m__law_fr
  by_cases hp : m > 0
  · rw [if_pos hp] at h1 h2 h3 h4
    simp [x_mir, v__law_fr, ent, ab, lp, hp, div_ok h3 h4 hs, h1, h2, LIM, rq]
  · rw [if_neg hp] at h1 h2 h3 h4
    have g0 : (Nat.gcd n.natAbs m.natAbs : Int) ≠ 0 := by omega
    have h5 : (Nat.gcd n.natAbs m.natAbs : Int).natAbs ≤ m.natAbs := by omega
    have q : ∀ x : Int, (-x).fdiv (Nat.gcd n.natAbs m.natAbs : Int) = x.fdiv (-(Nat.gcd n.natAbs m.natAbs : Int)) := fun x => by
      rw [← Int.neg_fdiv_neg (-x), Int.neg_neg]
    have h6 := q n
    have h7 := q m
    rw [h1] at h6
    rw [h2] at h7
    simp [x_mir, v__law_fr, ent, ab, lp, hp, div_ok g0 h5 hs, h6, h7, LIM, rq]
theorem law_plus_ev (p q : Rat) (b : Bw) (hp : Sm 4000 p) (hq : Sm 4000 q) : m__law_plus [rq p, rq q] b = .ok (.val (rq (p + q))) b := by
  have m1 : mulOk p.num q.den = true := mul_ok hp.1 hq.2
  have m2 : mulOk q.num p.den = true := mul_ok hq.1 hp.2
  have m3 : mulOk p.den q.den = true := mul_ok hp.2 hq.2
  have l := law_fr_ev (p.num * q.den + q.num * p.den) (p.den * q.den) b (Int.mul_ne_zero (den_ne p) (den_ne q)) (dd9 (k := 4000) (Nat.le_refl _) hp.2 hq.2)
  rw [divInt_add] at l
  simp [m__law_plus, x_mir, v__law_plus, ent, rq, m1, m2, m3]
  rw [l]
  rfl
theorem law_times_ev (p q : Rat) (b : Bw) (hp : Sm 4000 p) (hq : Sm 4000 q) : m__law_times [rq p, rq q] b = .ok (.val (rq (p * q))) b := by
  have m1 : mulOk p.num q.num = true := mul_ok hp.1 hq.1
  have m2 : mulOk p.den q.den = true := mul_ok hp.2 hq.2
  have l := law_fr_ev (p.num * q.num) (p.den * q.den) b (Int.mul_ne_zero (den_ne p) (den_ne q)) (dd9 (k := 4000) (Nat.le_refl _) hp.2 hq.2)
  rw [divInt_mul'] at l
  simp [m__law_times, x_mir, v__law_times, ent, rq, m1, m2]
  rw [l]
  rfl
theorem law_lessB_ev (p q : Rat) (b : Bw) (hp : Sm 4000 p) (hq : Sm 4000 q) : m__law_less [rq p, rq q] b = .ok (.val (rq (p - q))) b := by
  have l := law_plus_ev p (-q) b hp hq.neg
  have e : (0 : Int) - q.num = (-q).num := by rw [Rat.neg_num]; omega
  have e2 : (q.den : Int) = ((-q).den : Int) := rfl
  rw [Rat.sub_eq_add_neg]
  simp [m__law_less, x_mir, v__law_less, ent, rq, LIM]
  have l' : m__law_plus [D.tup [D.int p.num, D.int ↑p.den], D.tup [D.int (-q.num), D.int ↑q.den]] b = Res.ok (Wv.val (rq (p + -q))) b := l
  rw [l']
  rfl
end P

set_option Elab.async false
set_option linter.all false
set_option maxRecDepth 100000
set_option maxHeartbeats 2000000
set_option exponentiation.threshold 20000
namespace P
open PySem DL W
theorem below_ev {n : Nat} {b : Bw} (I : Inv n b) (hn : n ≤ 1000000) (m : Nat) (h1 : 0 < m) (h2 : m ≤ 1000000) : ∃ (i : Nat) (b' : Bw), m__law_below [.bowl, .int (m : Nat)] b = .ok (.val (.int (i : Nat))) b' ∧ i < m ∧ Inv (n + 1) b' := by
  obtain ⟨o, s, c, rfl, ho, hs, hs2, hc, hc2⟩ := I
  have m1 : (0 : Int) < (m : Int) := by omega
  have m2 : (m : Int) < 1073741824 := by omega
  by_cases z : 0 < o
  · have q1 := Int.emod_nonneg o (show (m : Int) ≠ 0 by omega)
    have q2 := Int.emod_lt_of_pos o m1
    refine ⟨(o % (m : Int)).toNat, some [o / m, s, c], ?_, by omega, _, _, _, rfl, Int.ediv_nonneg ho (by omega), hs, hs2, hc, by omega⟩
    have e : ((o % (m : Int)).toNat : Int) = o % m := Int.toNat_of_nonneg q1
    rw [e]
    simp [m__law_below, x_mir, v__law_below, ent, z, fDivmod, m1, m2, fI2, isHold, h1]
  · have e1 : mulOk s 48677 = true := mul_small (na_lt hs hs2 (by decide)) (by decide)
    have e2 : mulOk 3413 (c + 1) = true := mul_small (by decide) (na_lt (k := 2000000) (by omega) (by omega) (by decide))
    have p1 := fm_pos (s * 48677 + 3413 * (c + 1) + 61) (y := 2147483563) (by decide)
    have p2 := fm_pos ((s * 48677 + 3413 * (c + 1) + 61).fmod 2147483563) (y := 4001) (by decide)
    have e3 : mulOk ((s * 48677 + 3413 * (c + 1) + 61).fmod 2147483563) (((s * 48677 + 3413 * (c + 1) + 61).fmod 2147483563).fmod 4001 + 17911) = true := mul_small (na_lt p1.1 p1.2 (by decide)) (na_lt (k := 30000) (by omega) (by omega) (by decide))
    have p3 := fm_pos ((s * 48677 + 3413 * (c + 1) + 61).fmod 2147483563 * (((s * 48677 + 3413 * (c + 1) + 61).fmod 2147483563).fmod 4001 + 17911) + (c + 1)) (y := 2147483563) (by decide)
    have p4 := fm_pos (((s * 48677 + 3413 * (c + 1) + 61).fmod 2147483563 * (((s * 48677 + 3413 * (c + 1) + 61).fmod 2147483563).fmod 4001 + 17911) + (c + 1)).fmod 2147483563 |>.fdiv 367) (y := (m : Int)) m1
    have d1 : divOk 367 = true := by decide
    refine ⟨((((s * 48677 + 3413 * (c + 1) + 61).fmod 2147483563 * (((s * 48677 + 3413 * (c + 1) + 61).fmod 2147483563).fmod 4001 + 17911) + (c + 1)).fmod 2147483563 |>.fdiv 367).fmod m).toNat, some [o, ((s * 48677 + 3413 * (c + 1) + 61).fmod 2147483563 * (((s * 48677 + 3413 * (c + 1) + 61).fmod 2147483563).fmod 4001 + 17911) + (c + 1)).fmod 2147483563, c + 1], ?_, ?_, _, _, _, rfl, ho, p3.1, by omega, by omega, by omega⟩
    · rw [Int.toNat_of_nonneg p4.1]
      have m0 : ¬ ((m : Int) = 0) := by omega
      have m0' : ¬ (m = 0) := by omega
      simp [m__law_below, x_mir, v__law_below, ent, z, e1, e2, e3, isHold, d1, m0, m0']
    · omega
theorem one_ev {n : Nat} {b : Bw} (I : Inv n b) (hn : n ≤ 1000000) (l : List D) (d0 : D) (hd : d0 = .tup l ∨ d0 = .lst l) (h1 : 0 < l.length) (h2 : l.length ≤ 1000000) : ∃ (d : D) (b' : Bw), m__law_one [.bowl, d0] b = .ok (.val d) b' ∧ d ∈ l ∧ Inv (n + 1) b' := by
  obtain ⟨i, b', e, hi, I'⟩ := below_ev I hn l.length h1 h2
  refine ⟨l[i], b', ?_, List.getElem_mem hi, I'⟩
  rcases hd with rfl | rfl
  · simp [m__law_one, x_mir, v__law_one, ent, e, atI_nat l i hi]
  · simp [m__law_one, x_mir, v__law_one, ent, e, atI_nat l i hi]
theorem pool_loop {b : Bw} {v0 v1 v2 : DL.Slot} : ∀ (ms : List Int) (s : Int) (x : DL.Slot), 0 ≤ s → s < 2147483629 → ∃ s' x', forL (bName 4) (dAsg 3 (dVal (dOp2 fMod (dOpL (f1 intD) (dCons (dOp2 fAddG (dOp2 fAddG (dOp2 fMulG (dVar 3) (dC (.int 40699))) (dOp2 fMod (dOpL (f1 intD) (dCons (dVar 4) dNil)) (dC (.int 2147483587)))) (dC (.int 23))) dNil)) (dC (.int 2147483629))))) (ms.map D.int) [v0, v1, v2, .val (.int s), x] b = .nx [v0, v1, v2, .val (.int s'), x'] b ∧ 0 ≤ s' ∧ s' < 2147483629
  | [], s, x, h1, h2 => ⟨s, x, rfl, h1, h2⟩
  | m :: ms, s, x, h1, h2 => by
    have e1 : mulOk s 40699 = true := mul_small (na_lt h1 h2 (by decide)) (by decide)
    have p := fm_pos (s * 40699 + m.fmod 2147483587 + 23) (y := 2147483629) (by decide)
    obtain ⟨s', x', e, q1, q2⟩ := pool_loop (b := b) (v0 := v0) (v1 := v1) (v2 := v2) ms _ (.val (.int m)) p.1 p.2
    refine ⟨s', x', ?_, q1, q2⟩
    rw [List.map_cons, x_forC]
    simp [e1, e]
theorem pool_ev (ns : List Int) (k : Nat) (hk : k ≤ 3) (b : Bw) : ∃ o s : Int, m__law_pool [.lst (ns.map D.int), .int (k : Nat)] b = .ok (.own (.lst [.int o, .int s, .int 0])) b ∧ 0 ≤ o ∧ 0 ≤ s ∧ s < 2147483629 := by
  have cell : ∃ c : Int, (dIf (dTst (dOp2 fLtG (dVar 1) (dOpL (f1 lenD) (dCons (dVar 0) dNil)))) (dOpL (f1 intD) (dCons (dIx (dVar 0) (dVar 1)) dNil)) (dOp2 fAddG (dOp2 fMulG (dC (.int 11863)) (dVar 1)) (dC (.int 1237)))) [.val (.lst (ns.map D.int)), .val (.int (k : Nat)), .un, .un, .un] b = .ok (.val (.int c)) b := by
    by_cases h : k < ns.length
    · refine ⟨ns[k], ?_⟩
      have a := atI_nat (ns.map D.int) k (by simpa using h)
      rw [List.getElem_map] at a
      simp [h, a]
    · have e1 : mulOk 11863 k = true := mul_small (by decide) (na_lt (k := 10) (by omega) (by omega) (by decide))
      exact ⟨_, by simp [h, e1]; rfl⟩
  obtain ⟨c, hc⟩ := cell
  obtain ⟨ms, hms⟩ := cut_ints ns none (some 63)
  have e1 : mulOk 9013 k = true := mul_small (by decide) (na_lt (k := 10) (by omega) (by omega) (by decide))
  obtain ⟨s', x', e2, q1, q2⟩ := pool_loop (b := b) (v0 := .val (.lst (ns.map D.int))) (v1 := .val (.int (k : Nat))) (v2 := .val (.int c)) ms (101797 + 9013 * (k : Nat)) .un (by omega) (by omega)
  have e3 : mulOk s' 97 = true := mul_small (na_lt q1 q2 (by decide)) (by decide)
  have p1 := fm_pos c (y := 2147483587) (by decide)
  have e4 : mulOk (c.fmod 2147483587) 31013 = true := mul_small (na_lt p1.1 p1.2 (by decide)) (by decide)
  have p2 := fm_pos (s' * 97 + c.fmod 2147483587 * 31013 + 7) (y := 2147483629) (by decide)
  have pw : fPow (.int 10) (.int 15) = some (.val (.int 1000000000000000)) := rfl
  simp only [m__law_pool, x_mir, v__law_pool]
  generalize (dIf (dTst (dOp2 fLtG (dVar 1) (dOpL (f1 lenD) (dCons (dVar 0) dNil)))) (dOpL (f1 intD) (dCons (dIx (dVar 0) (dVar 1)) dNil)) (dOp2 fAddG (dOp2 fMulG (dC (.int 11863)) (dVar 1)) (dC (.int 1237)))) = E at hc ⊢
  by_cases z : c < 0
  · refine ⟨-c, _, ?_, by omega, p2.1, p2.2⟩
    simp [ent, hc, dSl, dNoPart, dPart, part1, fSl, hms, e1, e2, e3, e4, z, LIM]
  · by_cases z2 : 1000000000000000 ≤ c
    · refine ⟨c, _, ?_, by omega, p2.1, p2.2⟩
      simp [ent, hc, dSl, dNoPart, dPart, part1, fSl, hms, e1, e2, e3, e4, z, z2, LIM, pw]
    · refine ⟨0, _, ?_, by omega, p2.1, p2.2⟩
      simp [ent, hc, dSl, dNoPart, dPart, part1, fSl, hms, e1, e2, e3, e4, z, z2, LIM, pw]
theorem noBows_ints : ∀ ns : List Int, noBows (ns.map D.int) = true
  | [] => rfl
  | n :: ns => by
    rw [List.map_cons]
    unfold noBows
    rw [noBows_ints ns]
    rfl
noncomputable abbrev poolB : Sv := (dSeq (dAsg 2 (dCall m__law_pool (dCons (dVar 0) (dCons (dVar 1) dNil)))) (dPool 2 (dIfS (dNot (dTst (dOpL (f1 allD) (dCons (dComp (dRng1 (dC (.int 4))) (bName 3) dYes (dCall m__law_right (dCons (dVar 2) dNil)) [3]) dNil)))) (dRet (dC (.bl false))) dNext)))
theorem pool_step (H : ∀ (n : Nat) (b : Bw), Inv n b → n + 10000 ≤ 1000000 → ∃ b', m__law_right [.bowl] b = .ok (.val (.bl true)) b' ∧ Inv (n + 10000) b') (ns : List Int) (k : Nat) (hk : k ≤ 3) : poolB [.val (.lst (ns.map D.int)), .val (.int (k : Nat)), .un, .un] none = .nx [.val (.lst (ns.map D.int)), .val (.int (k : Nat)), .un, .un] none := by
  obtain ⟨o, s, e1, ho, hs, hs2⟩ := pool_ev ns k hk none
  have I : Inv 0 (some [o, s, 0]) := ⟨o, s, 0, rfl, ho, hs, hs2, by decide, by decide⟩
  have rg := rng1_eq 4 (some [o, s, 0]) (by decide)
  have rg : rng1 (.int 4) (some [o, s, 0]) = .ok ((List.range 4).map fun (i : Nat) => D.int (i : Nat)) (some [o, s, 0]) := rg
  obtain ⟨r, b', e2, lr, qr, I2⟩ := compL_st (bd := bName 3) (te := dCall m__law_right (dCons (dVar 2) dNil)) (env := [.val (.lst (ns.map D.int)), .val (.int (k : Nat)), .val .bowl, .un]) 10000 (fun (i : Nat) => D.int (i : Nat)) (fun d => d = .bl true) (List.range 4) 0 _ I (by decide) (fun a _ n b I hn => by
    obtain ⟨b1, e, I1⟩ := H n b I hn
    exact ⟨_, .val (.bl true), b1, rfl, by simp [e], rfl, I1⟩)
  have er : r = r.map fun _ => D.bl true := by
    apply List.ext_getElem
    · simp
    · intro i h1 h2
      rw [List.getElem_map]
      exact qr _ (List.getElem_mem h1)
  have ab : asBls r = some (List.replicate r.length true) := by
    have := asBls_rep r
    rw [← er] at this
    exact this
  obtain ⟨o', s', c', rfl, _⟩ := I2
  have nb := noBows_ints ns
  simp [e1, dPool, asInts, dRng1, rg, noOwn, wipeE, e2, ab, vB, poolE, slotNB, noBow, nb, all_rep]
theorem pool_laps (H : ∀ (n : Nat) (b : Bw), Inv n b → n + 10000 ≤ 1000000 → ∃ b', m__law_right [.bowl] b = .ok (.val (.bl true)) b' ∧ Inv (n + 10000) b') (ns : List Int) : ∀ (ks : List Nat) (s1 : DL.Slot), (∀ k ∈ ks, k ≤ 3) → ∃ s1', forL (bName 1) poolB (ks.map fun (i : Nat) => D.int (i : Nat)) [.val (.lst (ns.map D.int)), s1, .un, .un] none = .nx [.val (.lst (ns.map D.int)), s1', .un, .un] none
  | [], s1, _ => ⟨s1, rfl⟩
  | k :: ks, s1, h => by
    obtain ⟨s1', e⟩ := pool_laps H ns ks (.val (.int (k : Nat))) fun x hx => h x (List.mem_cons_of_mem _ hx)
    refine ⟨s1', ?_⟩
    rw [List.map_cons, x_forC]
    simp only [x_bName, List.set_cons_succ, List.set_cons_zero]
    rw [pool_step H ns k (h k List.mem_cons_self)]
    exact e
theorem law_of_right (H : ∀ (n : Nat) (b : Bw), Inv n b → n + 10000 ≤ 1000000 → ∃ b', m__law_right [.bowl] b = .ok (.val (.bl true)) b' ∧ Inv (n + 10000) b') (ns : List Int) : m_law [.lst (ns.map D.int)] none = .ok (.val (.bl true)) none := by
  obtain ⟨m, m3, e0⟩ : ∃ m : Nat, m ≤ 3 ∧ (dOpL (f2 fMax) (dCons (dC (.int 1)) (dCons (dOpL (f2 fMin) (dCons (dOpL (f1 lenD) (dCons (dVar 0) dNil)) (dCons (dC (.int 3)) dNil))) dNil))) [.val (.lst (ns.map D.int)), .un, .un, .un] none = .ok (.val (.int (m : Nat))) none := by
    refine ⟨max 1 (min ns.length 3), by omega, ?_⟩
    have z : (if (if (3 : Int) < (ns.length : Int) then (3 : Int) else (ns.length : Int)) > 1 then (if (3 : Int) < (ns.length : Int) then (3 : Int) else (ns.length : Int)) else 1) = ((max 1 (min ns.length 3) : Nat) : Int) := by
      split <;> split at * <;> omega
    rw [← z]
    simp
  have rg := rng1_eq m none (by omega)
  obtain ⟨s1', e⟩ := pool_laps H ns (List.range m) .un fun k hk => by
    have := List.mem_range.mp hk
    omega
  unfold m_law v_law
  rw [x_mir]
  simp only [x_dSeq, x_dFor, ent, dRng1]
  have e0 := e0
  generalize (dOpL (f2 fMax) (dCons (dC (.int 1)) (dCons (dOpL (f2 fMin) (dCons (dOpL (f1 lenD) (dCons (dVar 0) dNil)) (dCons (dC (.int 3)) dNil))) dNil))) = E at e0 ⊢
  have e : forL (bName 1) poolB ((List.range m).map fun (i : Nat) => D.int (i : Nat)) [.val (.lst (ns.map D.int)), .un, .un, .un] none = _ := e
  simp [ent, e0, rg, e]
end P

set_option Elab.async false
set_option linter.all false
set_option maxRecDepth 100000
set_option maxHeartbeats 2000000
set_option exponentiation.threshold 20000
namespace P
open PySem DL W
end P

set_option Elab.async false
set_option linter.all false
set_option maxRecDepth 100000
set_option maxHeartbeats 2000000
set_option exponentiation.threshold 20000
namespace P
open PySem DL W
end P

set_option Elab.async false
set_option linter.all false
set_option maxRecDepth 100000
set_option maxHeartbeats 2000000
set_option exponentiation.threshold 20000
namespace P
open PySem DL W
theorem is_fraction_ev (q : Rat) (b : Bw) : m_is_fraction [rq q] b = .ok (.val (.bl true)) b := by
  have red : Nat.gcd q.num.natAbs q.den = 1 := q.reduced
  have dp : (0 : Int) < q.den := by have := q.den_pos; omega
  have c : compL (bName 1) dYes (dCall m_is_whole (dCons (dVar 1) dNil)) [.val (rq q), .un] [.int q.num, .int q.den] b = .ok [.bl true, .bl true] b := by
    have w : ∀ i : Int, m_is_whole [.int i] b = .ok (.val (.bl true)) b := fun i => by
      simp [m_is_whole, x_mir, v_is_whole, ent, tyN, isTy, isiB, vB]
    unfold compL
    simp only [x_bName]
    simp [w, compL]
  simp [m_is_fraction, x_mir, v_is_fraction, ent, m_is_pair, v_is_pair, m_is_tuple_of, v_is_tuple_of, tyN, isTy, isiB, vB, rq, noOwn, wipeE]
  have c' : compL (bName 1) dYes (dCall m_is_whole (dCons (dVar 1) dNil)) [.val (.tup [.int q.num, .int q.den]), .un] [.int q.num, .int q.den] b = .ok [.bl true, .bl true] b := c
  rw [c']
  simp [asBls, vB, dp, red, q.den_pos]
theorem is_sum_ev (q : Rat) (hq : 0 ≤ q) (b : Bw) : m_is_sum [rq q] b = .ok (.val (.bl true)) b := by
  have h := is_fraction_ev q b
  have n : (0 : Int) ≤ q.num := Rat.num_nonneg.mpr hq
  have i0 : ixB (rq q) (.int 0) b = .ok (.val (.int q.num)) b := rfl
  simp [m_is_sum, x_mir, v_is_sum, ent, h, i0, n]
theorem is_word_ev (s : Str) (h : NmOk s) (b : Bw) : m_is_word [.str s] b = .ok (.val (.bl true)) b := by
  have c := compL_map (bd := bName 1) (tt := dYes) (te := dOp2 fInS (dVar 1) (dC c_LETTERS)) (env := [.val (.str s), .un]) (b := b) (fun c => D.str (sg c)) (fun _ => D.bl true) s.cps.toList fun c hc => by
    refine ⟨_, .val (.bl true), rfl, rfl, ?_, rfl⟩
    have m : c ∈ Str.cps "abcdefghijklmnopqrstuvwxyz" := by
      have := abc_mem (h.let_ c hc)
      simpa using this
    simp [c_LETTERS, fInS, sg, m, vB]
  have ok := okSigns_let (s := s) (by have := h.le; omega) h.let_
  have ne : (s == ("" : Str)) = false := by
    rw [beq_eq_false_iff_ne]
    intro e
    have := h.pos
    rw [e] at this
    exact absurd this (by decide)
  have sm : signs s = s.cps.toList.map fun c => D.str (sg c) := rfl
  simp [m_is_word, x_mir, v_is_word, ent, tyN, isTy, isiB, vB, fNe, pureD, eqD, ne, str1, ok, sm, noOwn, wipeE, c, asBls_rep, all_rep]
theorem is_name_ev (s : Str) (h : NmOk s) (b : Bw) : m_is_name [.str s] b = .ok (.val (.bl true)) b := by
  have w := is_word_ev s h b
  have e : c_WORDS = .tup (WS.map .str) := rfl
  have ni := notIn_strT s WS
  have l8 : s.length ≤ 8 := by simpa [Str.length] using h.le
  have no : WS.contains s = false := by simpa using h.no
  simp [m_is_name, x_mir, v_is_name, ent, w, c_MOST_LETTERS, (show (s.length : Int) ≤ 8 by omega), e, ni, h.no]
theorem are_below0_ev (s : Str) (b : Bw) : m_are_below [.tup [], .str s] b = .ok (.val (.bl true)) b := by
  simp [m_are_below, x_mir, v_are_below, ent, fEq, pureD, pureDs, eqD, eqDs, vB, PD, LIM]
theorem are_below_ev (l : List Str) (x s : Str) (hx : x.cps.toList < s.cps.toList) (b : Bw) : m_are_below [.tup ((l ++ [x]).map .str), .str s] b = .ok (.val (.bl true)) b := by
  have e : eqDs ((l ++ [x]).map D.str) [] = false := by
    cases l <;> simp [eqDs]
  have p : pureDs 59 ((l ++ [x]).map D.str) = true := pureDs_str _ _
  have at_ : L2.atI ((l ++ [x]).map D.str) (-1) = some (.str x) := by
    have h2 : ((l ++ [x]).map D.str)[l.length]? = some (.str x) := by simp
    have h1 : (-1 : Int) + (((l ++ [x]).map D.str).length : Int) = (l.length : Nat) := by simp; omega
    unfold L2.atI L2.ixN
    rw [if_neg (show ¬ (0 : Int) ≤ -1 by decide), h1, if_pos (by simp; omega), Option.bind_some, Int.toNat_natCast]
    exact h2
  simp only [m_are_below, x_mir, v_are_below]
  simp [-List.map_append, ent, fEq, pureD, pureDs, p, eqD, e, vB, PD, LIM, at_, hx]
noncomputable abbrev wiB (cm : Option CM) : Sv := (dIfS (dOr (dTst (dOp2 fEq (dVar 4) (dVar 2))) (dNot (dTst (dCallV 3 (fun _ => none) cm (dCons (dSl (dVar 0) dNoPart (dPart (dVar 4))) (dCons (dVar 5) dNil)))))) (dRet (dOpL fLst (dCons (dVar 4) dNil))) dNext)
theorem wi_loop (lm : Mir) (l : List D) (least most : Nat) (b : Bw) (nc : noClos l = true) (hlm : ∀ (i : Nat) (h : i < l.length), lm [.tup (l.take i), l[i]] b = .ok (.val (.bl true)) b) (h2 : l.length ≤ most) : ∀ (r : List D) (i : Nat) (s4 s5 : DL.Slot), l.drop i = r →
    ∃ s4' s5', forL (bTup [bName 4, bName 5]) (wiB (some (2, lm))) (enumL i r) [.val (.tup l), .val (.int (least : Nat)), .val (.int (most : Nat)), .val (.clo 0), s4, s5] b = .nx [.val (.tup l), .val (.int (least : Nat)), .val (.int (most : Nat)), .val (.clo 0), s4', s5'] b
  | [], i, s4, s5, _ => ⟨s4, s5, rfl⟩
  | q :: r, i, s4, s5, h => by
    have hi : i < l.length := by
      by_cases z : i < l.length
      · exact z
      · rw [List.drop_eq_nil_of_le (by omega)] at h
        cases h
    have hq : l[i] = q ∧ l.drop (i + 1) = r := by
      rw [List.drop_eq_getElem_cons hi] at h
      exact List.cons.inj h
    obtain ⟨t4, t5, e⟩ := wi_loop lm l least most b nc hlm h2 r (i + 1) (.val (.int (i : Nat))) (.val q) hq.2
    have ne : ((i : Int) == (most : Int)) = false := beq_eq_false_iff_ne.mpr (by omega)
    have hl := hlm i hi
    rw [hq.1] at hl
    have n1 : noClo q = true := noClos_mem nc q (by rw [← hq.1]; exact List.getElem_mem hi)
    have n2 := noClos_take nc i
    have call : dCallV 3 (fun _ => none) (some (2, lm)) (dCons (dSl (dVar 0) dNoPart (dPart (dVar 4))) (dCons (dVar 5) dNil)) [.val (.tup l), .val (.int (least : Nat)), .val (.int (most : Nat)), .val (.clo 0), .val (.int (i : Nat)), .val q] b = .ok (.val (.bl true)) b := by
      unfold dCallV vClo
      simp [fSl, cut_take, noClos, noClo, n1, n2, hl]
    refine ⟨t4, t5, ?_⟩
    unfold enumL
    rw [x_forC]
    simp [ne, call, e]
theorem wi_ev (lm : Mir) (l : List D) (least most : Nat) (b : Bw) (nc : noClos l = true) (hlm : ∀ (i : Nat) (h : i < l.length), lm [.tup (l.take i), l[i]] b = .ok (.val (.bl true)) b) (h1 : least ≤ l.length) (h2 : l.length ≤ most) : m_wrong_in (2, lm) [.tup l, .int (least : Nat), .int (most : Nat), .clo 0] b = .ok (.own (.lst [])) b := by
  obtain ⟨t4, t5, e⟩ := wi_loop lm l least most b nc hlm h2 l 0 .un .un rfl
  have ir : ¬ (l.length < least) := by omega
  unfold m_wrong_in
  simp [x_mir, v_wrong_in, ent, tyN, isTy, isiB, vB, enum1, e, ir, LIM, clean, noClo, noClos]
theorem wrong_people_ev (ns : List Str) (h : Nms ns) (h1 : 1 ≤ ns.length) (h5 : ns.length ≤ 5) (b : Bw) : m_wrong_in_people [.tup (ns.map .str)] b = .ok (.own (.lst [])) b := by
  have hlm : ∀ (env : Sls) (i : Nat) (hi : i < (ns.map D.str).length), lamM l_wrong_in_people_0 2 2 [] env [.tup ((ns.map D.str).take i), (ns.map D.str)[i]] b = .ok (.val (.bl true)) b := fun env i hi => by
    have hi' : i < ns.length := by simpa using hi
    have nm := is_name_ev ns[i] (h.ok _ (List.getElem_mem hi')) b
    have below : m_are_below [.tup ((ns.map D.str).take i), .str ns[i]] b = .ok (.val (.bl true)) b := by
      cases i with
      | zero => exact are_below0_ev _ b
      | succ j =>
        have hj : j < ns.length := by omega
        have tk : (ns.map D.str).take (j + 1) = (ns.take j ++ [ns[j]]).map .str := by
          rw [← List.map_take, List.take_succ_eq_append_getElem hj]
        rw [tk]
        refine are_below_ev _ _ _ ?_ b
        exact List.pairwise_iff_getElem.mp h.asc j (j + 1) hj hi' (by omega)
    have e : (ns.map D.str)[i] = .str ns[i] := by simp
    rw [e]
    unfold lamM
    simp [lamEnt, l_wrong_in_people_0, nm, below, clean, noClo]
  have w := wi_ev (lamM l_wrong_in_people_0 2 2 [] [.val (.tup (ns.map .str))]) (ns.map .str) 1 5 b (noClos_str ns) (hlm _) (by simpa using h1) (by simpa using h5)
  simp [m_wrong_in_people, x_mir, v_wrong_in_people, ent, c_MOST_PEOPLE, noClos, noClo, noClos_str]
  exact congrArg (fun z : Res Wv => (Res.toS z fun w b1 => .rt w b1).toR) w
theorem is_row_ev (ns : List Str) (r : List Rat) (h : RowOk ns.length r) (h5 : ns.length ≤ 5) (b : Bw) : m_is_row [.tup (ns.map .str), rowD r] b = .ok (.val (.bl true)) b := by
  have c := compL_map (bd := bName 2) (tt := dYes) (te := dCall m_is_sum (dCons (dVar 2) dNil)) (env := [.val (.tup (ns.map .str)), .val (rowD r), .un]) (b := b) rq (fun _ => D.bl true) r fun q hq => by
    have e := is_sum_ev q (h.pos q hq) b
    refine ⟨_, .val (.bl true), rfl, rfl, ?_, rfl⟩
    simp [e]
  have t := total_ev r (rowD r) b (.inr rfl) h.bq L20pos (Nat.lt_of_lt_of_le (by decide : L20 < 2 ^ 30) (Nat.pow_le_pow_right (by decide) (by decide))) (by
    rw [h.len]
    exact Nat.lt_of_le_of_lt (Nat.mul_le_mul_right _ h5) (Nat.lt_of_lt_of_le (by decide : 5 * (4 * L20) < 2 ^ 40) (Nat.pow_le_pow_right (by decide) (by decide))))
  rw [h.sum] at t
  have one : rq 1 = .tup [.int 1, .int 1] := rfl
  have len := h.len
  have wh : fEq (rq 1) c_WHOLE = some (.val (.bl true)) := rfl
  simp [m_is_row, x_mir, v_is_row, ent, m_is_tuple_of, v_is_tuple_of, tyN, isTy, isiB, vB, rowD, len, noOwn, wipeE]
  have c' : compL (bName 2) dYes (dCall m_is_sum (dCons (dVar 2) dNil)) [.val (.tup (ns.map .str)), .val (.tup (r.map rq)), .un] (r.map rq) b = .ok (r.map fun _ => D.bl true) b := c
  have t' : m_total [.tup (r.map rq)] b = .ok (.val (rq 1)) b := t
  rw [c']
  simp [asBls_rep, all_rep, vB, t', wh]
theorem wrong_trust_ev (ns : List Str) (T : List (List Rat)) (h : Circ ns T) (b : Bw) : m_wrong_in_trust [.tup (ns.map .str), .tup (T.map rowD)] b = .ok (.own (.lst [])) b := by
  have len := h.sz
  -- the caller's function
  have inner : ∀ (env : Sls), env = [.val (.tup (ns.map .str)), .val (.tup (T.map rowD))] → ∀ r ∈ T, lamM l_wrong_in_trust_0 1 2 [0] env [rowD r] b = .ok (.val (.bl true)) b := fun env he r hr => by
    subst he
    have e := is_row_ev ns r (h.row r hr) h.five b
    unfold lamM
    simp [lamEnt, capSlot, l_wrong_in_trust_0, e, clean, noClo]
  have mid : ∀ (lm : Mir), (∀ r ∈ T, lm [rowD r] b = .ok (.val (.bl true)) b) → m_wrong_in_all (1, lm) [.tup (T.map rowD), .int (ns.length : Nat), .clo 0] b = .ok (.own (.lst [])) b := fun lm hl => by
    have hlm : ∀ (env : Sls) (i : Nat) (hi : i < (T.map rowD).length), env = [.val (.tup (T.map rowD)), .val (.int (ns.length : Nat)), .val (.clo 0)] → lamM (l_wrong_in_all_0 (some (1, lm))) 2 3 [2] env [.tup ((T.map rowD).take i), (T.map rowD)[i]] b = .ok (.val (.bl true)) b := fun env i hi he => by
      subst he
      have hi' : i < T.length := by simpa using hi
      have e : (T.map rowD)[i] = rowD T[i] := by simp
      have q := hl T[i] (List.getElem_mem hi')
      have nr : noClo (rowD T[i]) = true := noClos_rq _
      rw [e]
      unfold lamM
      simp [lamEnt, capSlot, l_wrong_in_all_0, dCallV, vClo, noClos, nr, q, clean, noClo]
    have w := wi_ev (lamM (l_wrong_in_all_0 (some (1, lm))) 2 3 [2] [.val (.tup (T.map rowD)), .val (.int (ns.length : Nat)), .val (.clo 0)]) (T.map rowD) ns.length ns.length b (noClos_rows T) (fun i hi => hlm _ i hi rfl) (by simp [len]) (by simp [len])
    unfold m_wrong_in_all
    simp [x_mir, v_wrong_in_all, ent, m_is_tuple_of, v_is_tuple_of, tyN, isTy, isiB, vB, len, noClos, noClo, noClos_rows]
    refine congrArg (fun z : Res Wv => clean (Res.toS z fun w b1 => .rt w b1).toR) w |>.trans ?_
    rfl
  have m := mid _ (inner _ rfl)
  simp [m_wrong_in_trust, x_mir, v_wrong_in_trust, ent, noClos, noClo, noClos_rows]
  exact congrArg (fun z : Res Wv => (Res.toS z fun w b1 => .rt w b1).toR) m
theorem make_ev (ns : List Str) (T : List (List Rat)) (h : Circ ns T) (b : Bw) : m_Circle [.tup (ns.map .str), .tup (T.map rowD)] b = .ok (.val (cirO ns T)) b := by
  have p := wrong_people_ev ns h.nm h.one h.five b
  have t := wrong_trust_ev ns T h b
  have nc : noClos [.tup (ns.map D.str), .tup (T.map rowD)] = true := by simp [noClos, noClo, noClos_str, noClos_rows]
  unfold m_Circle mirI
  rw [if_pos ⟨rfl, nc⟩]
  simp [v_Circle, ent, p, t, dSelf, LIM, noClo, noClos, noClos_str, noClos_rows, RS.toI, cirO, cirD]
theorem check_circle_ev (ns : List Str) (T : List (List Rat)) (b : Bw) : m_check_circle [cirO ns T] b = .ok (.val .non) b := by
  have h : ("Circle" : Str) ∈ cCls := by decide +kernel
  simp [m_check_circle, x_mir, v_check_circle, ent, cirO, h, vB]
theorem people_ev (ns : List Str) (T : List (List Rat)) (b : Bw) : m_Circle_people [cirO ns T] b = .ok (.val (.tup (ns.map .str))) b := by
  have f : dFld "Circle" (dVar 0) [.val (cirO ns T)] b = .ok (.val (cirD ns T)) b := x_dFld _ rfl
  simp [m_Circle_people, x_mir, v_Circle_people, ent, f, cirD]
theorem trust_ev (ns : List Str) (T : List (List Rat)) (b : Bw) : m_Circle_trust [cirO ns T] b = .ok (.val (.tup (T.map rowD))) b := by
  have f : dFld "Circle" (dVar 0) [.val (cirO ns T)] b = .ok (.val (cirD ns T)) b := x_dFld _ rfl
  simp [m_Circle_trust, x_mir, v_Circle_trust, ent, f, cirD]
theorem dPeople_ev {ea : Ev} {env : Sls} {b : Bw} (ns : List Str) (T : List (List Rat)) (h : ea env b = .ok (.val (cirO ns T)) b) : dProp "Circle" m_Circle_people ea env b = .ok (.val (.tup (ns.map .str))) b := by
  have p : m_Circle_people [.obj "Circle" [cirD ns T]] b = .ok (.val (.tup (ns.map .str))) b := people_ev ns T b
  rw [x_dProp, h]
  show (if ("Circle" : Str) = "Circle" then okR (m_Circle_people [.obj "Circle" [cirD ns T]] b) else .bad) = _
  rw [if_pos rfl, p]
  rfl
theorem dTrust_ev {ea : Ev} {env : Sls} {b : Bw} (ns : List Str) (T : List (List Rat)) (h : ea env b = .ok (.val (cirO ns T)) b) : dProp "Circle" m_Circle_trust ea env b = .ok (.val (.tup (T.map rowD))) b := by
  have p : m_Circle_trust [.obj "Circle" [cirD ns T]] b = .ok (.val (.tup (T.map rowD))) b := trust_ev ns T b
  rw [x_dProp, h]
  show (if ("Circle" : Str) = "Circle" then okR (m_Circle_trust [.obj "Circle" [cirD ns T]] b) else .bad) = _
  rw [if_pos rfl, p]
  rfl
end P

set_option Elab.async false
set_option linter.all false
set_option maxRecDepth 100000
set_option maxHeartbeats 2000000
set_option exponentiation.threshold 20000
namespace P
open PySem DL W
theorem mixed_ev {N M c : Nat} {r m : List Rat} (hr : RowOk c r) (hm : ∀ q ∈ m, Bq N M q) (hl : m.length = c) (h5 : c ≤ 5) (n0 : 0 < N) (hN : L20 * N < 2 ^ 4000) (hM : 5 * (4 * L20 * M) < 2 ^ 4000) (b : Bw) : m_mixed [rowD r, rowD m] b = .ok (.val (rq (dotQ r m))) b := by
  have key : ∀ (r m : List Rat), (∀ q ∈ r, Bq L20 (4 * L20) q) → (∀ q ∈ m, Bq N M q) → compL (bTup ((bName 2) :: (bName 3) :: [])) dYes (dCall m_times (dCons (dVar 2) (dCons (dVar 3) dNil))) [.val (rowD r), .val (rowD m), .un, .un] (zipD (r.map rq) (m.map rq)) b = .ok ((List.zipWith (· * ·) r m).map rq) b := fun r0 m0 => by
    generalize rowD r0 = R
    generalize rowD m0 = S
    revert m0
    induction r0 with
    | nil => intro m0 _ _; rfl
    | cons x r0 ih =>
      intro m0 h1 h2
      cases m0 with
      | nil => rfl
      | cons y m0 =>
        have bx := h1 x List.mem_cons_self
        have by_ := h2 y List.mem_cons_self
        have small : L20 < 2 ^ 4000 := Nat.lt_of_le_of_lt (Nat.le_mul_of_pos_right _ n0) hN
        have small4 : 4 * L20 < 2 ^ 4000 := Nat.lt_of_lt_of_le (by decide : 4 * L20 < 2 ^ 40) (Nat.pow_le_pow_right (by decide) (by decide))
        have sN : N < 2 ^ 4000 := Nat.lt_of_le_of_lt (Nat.le_mul_of_pos_left _ L20pos) hN
        have sM : M < 2 ^ 4000 := Nat.lt_of_le_of_lt (by
          have : 0 < 4 * L20 := by decide
          have := Nat.le_mul_of_pos_left M this
          omega) hM
        have e := times_ev x y b (bx.sm small small4) (by_.sm sN sM)
        have ih' := ih m0 (fun q hq => h1 q (List.mem_cons_of_mem _ hq)) fun q hq => h2 q (List.mem_cons_of_mem _ hq)
        rw [List.map_cons, List.map_cons]
        unfold zipD compL
        simp [e, ih']
  have c := key r m hr.bq hm
  have t := total_ev (List.zipWith (· * ·) r m) (.lst ((List.zipWith (· * ·) r m).map rq)) b (.inl rfl) (zip_bq hr.bq hm) (Nat.mul_pos L20pos n0) hN (by
    rw [zip_len (by rw [hr.len, hl]), hl]
    exact Nat.lt_of_le_of_lt (Nat.mul_le_mul_right _ h5) hM)
  have rl : ∀ z, rowD z = .tup (z.map rq) := fun _ => rfl
  simp only [rl] at c
  simp [-List.map_zipWith, m_mixed, x_mir, v_mixed, ent, rl, noOwn, wipeE, c, t, dotQ]
def sP : Nat → D → Prop
  | 0, _ => False
  | _ + 1, .int _ => True
  | _ + 1, .bl _ => True
  | _ + 1, .non => True
  | _ + 1, .str _ => True
  | k + 1, .tup l => l.length ≤ 500000 ∧ ∀ d ∈ l, sP k d
  | k + 1, .lst l => l.length ≤ 500000 ∧ ∀ d ∈ l, sP k d
  | _ + 1, _ => False
theorem sP_rq (k : Nat) (q : Rat) : sP (k + 2) (rq q) := ⟨by simp, fun d hd => by
  simp only [List.mem_cons, List.not_mem_nil, or_false] at hd
  rcases hd with rfl | rfl <;> exact trivial⟩
theorem sP_row (k : Nat) (r : List Rat) (h : r.length ≤ 500000) : sP (k + 3) (rowD r) := ⟨by simpa [rowD] using h, fun d hd => by
  obtain ⟨q, _, rfl⟩ := List.mem_map.mp hd
  exact sP_rq k q⟩
theorem same_ev (b : Bw) : ∀ (k : Nat) (d : D), sP k d → m__law_same k [d, d] b = .ok (.val (.bl true)) b
  | k + 1, .int i, _ => by simp [m__law_same, x_mir, v__law_same, ent, tyN, isTy, isiB, vB, isNon]
  | k + 1, .bl i, _ => by cases i <;> simp [m__law_same, x_mir, v__law_same, ent, tyN, isTy, isiB, vB, isNon, fEq, pureD, eqD, PD]
  | k + 1, .non, _ => by simp [m__law_same, x_mir, v__law_same, ent, tyN, isTy, isiB, vB, isNon]
  | k + 1, .str s, _ => by simp [m__law_same, x_mir, v__law_same, ent, tyN, isTy, isiB, vB, isNon, fEq, pureD, eqD, PD]
  | k + 1, .tup l, h => by
    have c := same_seq (self := m__law_same k) (b := b) (.val (.tup l)) _ (.val (.bl true)) h.1 (fun d hd => same_ev b k d (h.2 d hd)) (.inl rfl) rfl
    simp [m__law_same, x_mir, v__law_same, ent, tyN, isTy, isiB, vB, isNon, dRng1, rng1_eq _ _ h.1, noOwn, wipeE, c, asBls_yes l.length _ List.length_range]
  | k + 1, .lst l, h => by
    have c := same_seq (self := m__law_same k) (b := b) (.val (.lst l)) _ (.val (.bl true)) h.1 (fun d hd => same_ev b k d (h.2 d hd)) (.inr rfl) rfl
    simp [m__law_same, x_mir, v__law_same, ent, tyN, isTy, isiB, vB, isNon, dRng1, rng1_eq _ _ h.1, noOwn, wipeE, c, asBls_yes l.length _ List.length_range]
end P

set_option Elab.async false
set_option linter.all false
set_option maxRecDepth 100000
set_option maxHeartbeats 2000000
set_option exponentiation.threshold 20000
namespace P
open PySem DL W
theorem check_many_ev (t : Nat) (ht : t ≤ 40) (b : Bw) : m_check_many [.int (t : Nat)] b = .ok (.val .non) b := by
  have a2 : (t : Int) ≤ 40 := by omega
  have w : ∀ i : Int, m_is_whole [.int i] b = .ok (.val (.bl true)) b := fun i => by
    simp [m_is_whole, x_mir, v_is_whole, ent, tyN, isTy, isiB, vB]
  simp [m_check_many, x_mir, v_check_many, ent, c_MOST_BEATS, m_check_number, v_check_number, m_is_between, v_is_between, w, a2]
end P

set_option Elab.async false
set_option linter.all false
set_option maxRecDepth 100000
set_option maxHeartbeats 2000000
set_option exponentiation.threshold 20000
namespace P
open PySem DL W
end P

set_option Elab.async false
set_option linter.all false
set_option maxRecDepth 100000
set_option maxHeartbeats 2000000
set_option exponentiation.threshold 20000
namespace P
open PySem DL W
theorem first_counts_ev (T : List (List Rat)) (n : Nat) (h5 : n ≤ 5) (b : Bw) : m_first_counts [.int (n : Nat)] b = .ok (.val (.tup ((cntQ T n 0).map rowD))) b := by
  have r := rng1_eq n b (by omega)
  have inner : ∀ i : Nat, compL (bName 1) dYes (dIf (dTst (dOp2 fEq (dVar 2) (dVar 1))) (dC c_WHOLE) (dC c_NOTHING)) [.val (.int (n : Nat)), .un, .val (.int (i : Nat))] ((List.range n).map fun (i : Nat) => D.int (i : Nat)) b = .ok ((unitQ n i).map rq) b := fun i => by
    have c := compL_map (bd := bName 1) (tt := dYes) (te := (dIf (dTst (dOp2 fEq (dVar 2) (dVar 1))) (dC c_WHOLE) (dC c_NOTHING))) (env := [.val (.int (n : Nat)), .un, .val (.int (i : Nat))]) (b := b) (fun (i : Nat) => D.int (i : Nat)) (fun k => rq (if k = i then 1 else 0)) (List.range n) fun k hk => by
      refine ⟨_, .val (rq (if k = i then 1 else 0)), rfl, rfl, ?_, rfl⟩
      by_cases z : k = i
      · subst z
        simp
        rfl
      · have z2 : ¬ ((i : Int) = (k : Int)) := by omega
        have z3 : ¬ i = k := by omega
        simp [z, z2, z3]
        rfl
    rw [c]
    simp [unitQ]
  have c := compL_map (bd := bName 2) (tt := dYes) (te := dOpL (f1 tupleD) (dCons (dComp (dRng1 (dVar 0)) (bName 1) dYes (dIf (dTst (dOp2 fEq (dVar 2) (dVar 1))) (dC c_WHOLE) (dC c_NOTHING)) [1]) dNil)) (env := [.val (.int (n : Nat)), .un, .un]) (b := b) (fun (i : Nat) => D.int (i : Nat)) (fun i => rowD (unitQ n i)) (List.range n) fun i hi => by
    refine ⟨_, .val (rowD (unitQ n i)), rfl, rfl, ?_, rfl⟩
    have q := inner i
    generalize (dIf (dTst (dOp2 fEq (dVar 2) (dVar 1))) (dC c_WHOLE) (dC c_NOTHING)) = G at q ⊢
    simp [r, noOwn, wipeE, q, rowD]
  rw [cnt_zero]
  generalize hG : dOpL (f1 tupleD) (dCons (dComp (dRng1 (dVar 0)) (bName 1) dYes (dIf (dTst (dOp2 fEq (dVar 2) (dVar 1))) (dC c_WHOLE) (dC c_NOTHING)) [1]) dNil) = G at c
  simp [m_first_counts, x_mir, v_first_counts, ent, hG, r, noOwn, wipeE, c]
theorem rowsOf_rows : ∀ R : List (List Rat), rowsOf (R.map rowD) = some (R.map fun r => r.map rq)
  | [] => rfl
  | r :: R => by
    rw [List.map_cons]
    show (rowsOf (R.map rowD)).map _ = _
    rw [rowsOf_rows R]
    rfl
theorem lz_cnt (T : List (List Rat)) (n t : Nat) (h1 : 1 ≤ n) (h5 : n ≤ 5) (hc : ∀ c ∈ colQ T n t, c.length = n) : lz1 (.tup ((cntQ T n t).map rowD)) = some (.own (.lst ((colQ T n t).map rowD))) := by
  show (rowsOf ((cntQ T n t).map rowD)).bind _ = _
  rw [rowsOf_rows]
  have l0 : (cntQ T n t).length = n := rows_len _ _
  have lr : ∀ r ∈ cntQ T n t, r.length = n := fun r hr => by rw [rows_row _ _ r hr, col_len]
  have hd : (((cntQ T n t).map fun r => r.map rq).headD []).length = n := by
    cases e : cntQ T n t with
    | nil =>
      rw [e] at l0
      simp at l0
      omega
    | cons r R =>
      have := lr r (by rw [e]; exact List.mem_cons_self)
      simpa using this
  have ok : okLZ ((cntQ T n t).map fun r => r.map rq) = true := by
    unfold okLZ
    rw [hd, Bool.and_eq_true]
    refine ⟨by cases cntQ T n t <;> simp, ?_⟩
    rw [List.length_map, l0]
    rw [Bool.and_eq_true, Bool.and_eq_true, Bool.and_eq_true, Bool.and_eq_true]
    refine ⟨⟨decide_eq_true h1, decide_eq_true h5⟩, ⟨decide_eq_true h1, decide_eq_true (by omega)⟩, List.all_eq_true.mpr fun d hd' => ?_⟩
    obtain ⟨r, hr, rfl⟩ := List.mem_map.mp hd'
    exact decide_eq_true (by rw [List.length_map]; exact lr r hr)
  show (if okLZ ((cntQ T n t).map fun r => r.map rq) then some (Wv.own (.lst (colsD ((cntQ T n t).map fun r => r.map rq)))) else none) = _
  rw [if_pos ok]
  congr 3
  unfold colsD
  rw [hd]
  apply List.ext_getElem
  · simp [col_len]
  · intro j g1 g2
    have hj : j < n := by simpa using g1
    have lcn := col_len T n t
    have hjc : j < (colQ T n t).length := by rw [lcn]; exact hj
    rw [List.getElem_map, List.getElem_map, List.getElem_range, List.map_map]
    show D.tup _ = D.tup _
    congr 1
    have lc := hc (colQ T n t)[j] (List.getElem_mem _)
    apply List.ext_getElem
    · simp [l0, lc]
    · intro i k1 k2
      have hi : i < n := by simpa [l0] using k1
      rw [List.getElem_map, List.getElem_map]
      show ((cntQ T n t)[i].map rq).getD j D.non = _
      have e : (cntQ T n t)[i] = (colQ T n t).map fun c => c.getD i 0 := by
        unfold cntQ rowsT
        rw [List.getElem_map, List.getElem_range]
      rw [e, List.map_map, List.getD_eq_getElem?_getD, List.getElem?_eq_getElem (by rw [List.length_map, col_len]; exact hj), List.getElem_map]
      show rq ((colQ T n t)[j].getD i 0) = _
      rw [List.getD_eq_getElem?_getD, List.getElem?_eq_getElem (by rw [lc]; exact hi)]
      rfl
theorem next_counts_ev (ns : List Str) (T : List (List Rat)) (h : Circ ns T) (t : Nat) (ht : t < 40) (b : Bw) : m_next_counts [cirO ns T, .tup ((cntQ T ns.length t).map rowD)] b = .ok (.val (.tup ((cntQ T ns.length (t + 1)).map rowD))) b := by
  have lz := lz_cnt T ns.length t h.one h.five fun c hc => by
    obtain ⟨j, _, rfl⟩ := List.mem_map.mp hc
    exact after_len h (unit_len _ _) t
  have f := (fit40.less (s := t + 1) (by omega)).one
  have inner : ∀ r ∈ T, compL (bName 3) dYes (dCall m_mixed (dCons (dVar 4) (dCons (dVar 3) dNil))) [.val (cirO ns T), .val (.tup ((cntQ T ns.length t).map rowD)), .val (.lst ((colQ T ns.length t).map rowD)), .un, .val (rowD r)] ((colQ T ns.length t).map rowD) b = .ok (((colQ T ns.length t).map fun c => dotQ r c).map rq) b := fun r hr => by
    have c := compL_map (bd := bName 3) (tt := dYes) (te := dCall m_mixed (dCons (dVar 4) (dCons (dVar 3) dNil))) (env := [.val (cirO ns T), .val (.tup ((cntQ T ns.length t).map rowD)), .val (.lst ((colQ T ns.length t).map rowD)), .un, .val (rowD r)]) (b := b) rowD (fun c => rq (dotQ r c)) (colQ T ns.length t) fun c hc => by
      obtain ⟨j, _, rfl⟩ := List.mem_map.mp hc
      have e := mixed_ev (h.row r hr) (after_bq h (unit_bq ns.length j) (by decide) (unit_len _ _) t) (after_len h (unit_len _ _) t) h.five (Nat.mul_pos (Nat.pow_pos L20pos) (by decide)) f.1 f.2 b
      refine ⟨_, .val (rq (dotQ r (afterQ T (unitQ ns.length j) t))), rfl, rfl, ?_, rfl⟩
      simp [e]
    rw [c, List.map_map]
    rfl
  have p : dProp "Circle" m_Circle_trust (dVar 0) [.val (cirO ns T), .val (.tup ((cntQ T ns.length t).map rowD)), .val (.lst ((colQ T ns.length t).map rowD)), .un, .un] b = .ok (.val (.tup (T.map rowD))) b := dTrust_ev ns T rfl
  have c := compL_map (bd := bName 4) (tt := dYes) (te := dOpL (f1 tupleD) (dCons (dComp (dSeqI (dVar 2)) (bName 3) dYes (dCall m_mixed (dCons (dVar 4) (dCons (dVar 3) dNil))) [3]) dNil)) (env := [.val (cirO ns T), .val (.tup ((cntQ T ns.length t).map rowD)), .val (.lst ((colQ T ns.length t).map rowD)), .un, .un]) (b := b) rowD (fun r => rowD ((colQ T ns.length t).map fun c => dotQ r c)) T fun r hr => by
    refine ⟨_, .val (rowD ((colQ T ns.length t).map fun c => dotQ r c)), rfl, rfl, ?_, rfl⟩
    have q := inner r hr
    generalize (colQ T ns.length t).map rowD = L at q ⊢
    generalize (cntQ T ns.length t).map rowD = L2 at q ⊢
    generalize dCall m_mixed (dCons (dVar 4) (dCons (dVar 3) dNil)) = G at q ⊢
    simp [-List.map_map, noOwn, wipeE, q]
    rfl
  rw [next_rows h t]
  generalize (colQ T ns.length t).map rowD = L at lz p c
  generalize (cntQ T ns.length t).map rowD = L2 at lz p c ⊢
  generalize hG : dOpL (f1 tupleD) (dCons (dComp (dSeqI (dVar 2)) (bName 3) dYes (dCall m_mixed (dCons (dVar 4) (dCons (dVar 3) dNil))) [3]) dNil) = G at c
  simp [m_next_counts, x_mir, v_next_counts, ent, lz, p, hG, noOwn, wipeE, c]
theorem counts_loop (ns : List Str) (T : List (List Rat)) (h : Circ ns T) (x1 : DL.Slot) (b : Bw) : ∀ (ds : List D) (t : Nat) (x3 : DL.Slot), t + ds.length ≤ 40 →
    ∃ x3', forL (bName 3) (dAsg 2 (dVal (dCall m_next_counts (dCons (dVar 0) (dCons (dVar 2) dNil))))) ds [.val (cirO ns T), x1, .val (.tup ((cntQ T ns.length t).map rowD)), x3] b = .nx [.val (cirO ns T), x1, .val (.tup ((cntQ T ns.length (t + ds.length)).map rowD)), x3'] b
  | [], t, x3, _ => ⟨x3, rfl⟩
  | d :: ds, t, x3, hf => by
    rw [List.length_cons, show t + (ds.length + 1) = t + 1 + ds.length by omega] at hf ⊢
    have e := next_counts_ev ns T h t (by omega) b
    obtain ⟨y, e2⟩ := counts_loop ns T h x1 b ds (t + 1) (.val d) hf
    refine ⟨y, ?_⟩
    rw [x_forC]
    simp [-List.map_map, e]
    exact e2
theorem counts_by_ev (ns : List Str) (T : List (List Rat)) (h : Circ ns T) (t : Nat) (ht : t ≤ 40) (b : Bw) : m_counts_by [cirO ns T, .int (t : Nat)] b = .ok (.val (.tup ((cntQ T ns.length t).map rowD))) b := by
  obtain ⟨y, e⟩ := counts_loop ns T h (.val (.int (t : Nat))) b ((List.range t).map fun (i : Nat) => D.int (i : Nat)) 0 .un (by simpa using ht)
  have r := rng1_eq t b (by omega)
  have f := first_counts_ev T ns.length h.five b
  simp only [List.length_map, List.length_range, Nat.zero_add] at e
  have p : dProp "Circle" m_Circle_people (dVar 0) [.val (cirO ns T), .val (.int (t : Nat)), .un, .un] b = .ok (.val (.tup (ns.map .str))) b := dPeople_ev ns T rfl
  generalize (cntQ T ns.length 0).map rowD = L0 at e f
  generalize (cntQ T ns.length t).map rowD = L1 at e ⊢
  generalize (List.range t).map (fun (i : Nat) => D.int (i : Nat)) = L2 at e r
  simp [m_counts_by, x_mir, v_counts_by, ent, p, f, r, e]
end P

set_option Elab.async false
set_option linter.all false
set_option maxRecDepth 100000
set_option maxHeartbeats 2000000
set_option exponentiation.threshold 20000
namespace P
open PySem DL W
theorem min_bq {N M : Nat} : ∀ (p q : List Rat), (∀ x ∈ p, Bq N M x) → (∀ x ∈ q, Bq N M x) → ∀ x ∈ List.zipWith minQ p q, Bq N M x
  | [], _, _, _, x, h => by simp at h
  | _ :: _, [], _, _, x, h => by simp at h
  | a :: p, b :: q, h1, h2, x, h => by
    rw [List.zipWith_cons_cons] at h
    rcases List.mem_cons.mp h with rfl | h
    · unfold minQ
      split
      · exact h2 b List.mem_cons_self
      · exact h1 a List.mem_cons_self
    · exact min_bq p q (fun x hx => h1 x (List.mem_cons_of_mem _ hx)) (fun x hx => h2 x (List.mem_cons_of_mem _ hx)) x h
theorem one_sm : Sm 4000 1 := ⟨Nat.one_lt_two_pow (by decide), Nat.one_lt_two_pow (by decide)⟩
theorem sum_sm {N M : Nat} {l : List Rat} (n0 : 0 < N) (hl : ∀ x ∈ l, Bq N M x) (hN : N < 2 ^ 1000) (hM : l.length * M < 2 ^ 1000) : Sm 1000 (sumR l) := (Bq.sum n0 hl).sm hN hM
theorem ap_sm {N M : Nat} {p q : List Rat} (n0 : 0 < N) (h1 : ∀ x ∈ p, Bq N M x) (h2 : ∀ x ∈ q, Bq N M x) (l5 : p.length ≤ 5) (hN : N < 2 ^ 1000) (hM : 5 * M < 2 ^ 1000) : Sm 2001 (apQ p q) := by
  have s := sum_sm n0 (min_bq p q h1 h2) hN (Nat.lt_of_le_of_lt (Nat.mul_le_mul_right _ (by rw [List.length_zipWith]; omega)) hM)
  exact (Sm.sub (k := 1000) ⟨Nat.one_lt_two_pow (by decide), Nat.one_lt_two_pow (by decide)⟩ s)
theorem apart_ev {N M : Nat} (p q : List Rat) (n0 : 0 < N) (h1 : ∀ x ∈ p, Bq N M x) (h2 : ∀ x ∈ q, Bq N M x) (l5 : p.length ≤ 5) (hN : N < 2 ^ 1000) (hM : 5 * M < 2 ^ 1000) (b : Bw) : m_apart_by [rowD p, rowD q] b = .ok (.val (rq (apQ p q))) b := by
  have up : (2 : Nat) ^ 1000 ≤ 2 ^ 4000 := Nat.pow_le_pow_right (by decide) (by decide)
  have sN : N < 2 ^ 4000 := Nat.lt_of_lt_of_le hN up
  have sM : M < 2 ^ 4000 := Nat.lt_of_le_of_lt (by omega) (Nat.lt_of_lt_of_le hM up)
  have keyc : ∀ (R S : DL.Slot) (p q : List Rat), (∀ x ∈ p, Bq N M x) → (∀ x ∈ q, Bq N M x) → compL (bTup ((bName 2) :: (bName 3) :: [])) dYes (dCall m_lesser (dCons (dVar 2) (dCons (dVar 3) dNil))) [R, S, .un, .un] (zipD (p.map rq) (q.map rq)) b = .ok ((List.zipWith minQ p q).map rq) b := fun R S p => by
    induction p with
    | nil => intro q _ _; rfl
    | cons x p ih =>
      intro q g1 g2
      cases q with
      | nil => rfl
      | cons y q =>
        have e := lesser_ev x y b ((g1 x List.mem_cons_self).sm sN sM) ((g2 y List.mem_cons_self).sm sN sM)
        have ih' := ih q (fun z hz => g1 z (List.mem_cons_of_mem _ hz)) fun z hz => g2 z (List.mem_cons_of_mem _ hz)
        rw [List.map_cons, List.map_cons]
        unfold zipD compL
        simp [e, ih', minQ]
  have c := keyc (.val (rowD p)) (.val (rowD q)) p q h1 h2
  have lz : (List.zipWith minQ p q).length ≤ 5 := by rw [List.length_zipWith]; omega
  have mb := min_bq p q h1 h2
  have t := total_ev (List.zipWith minQ p q) (.lst ((List.zipWith minQ p q).map rq)) b (.inl rfl) mb n0 sN (Nat.lt_of_le_of_lt (Nat.mul_le_mul_right _ lz) (Nat.lt_of_lt_of_le hM up))
  have s := sum_sm n0 mb hN (Nat.lt_of_le_of_lt (Nat.mul_le_mul_right _ lz) hM)
  have m : m_minus [c_WHOLE, rq (sumR (List.zipWith minQ p q))] b = .ok (.val (rq (1 - sumR (List.zipWith minQ p q)))) b := minus_ev 1 _ b one_sm (s.mono (by decide))
  have rl : ∀ z, rowD z = .tup (z.map rq) := fun _ => rfl
  simp only [rl] at c
  simp [-List.map_zipWith, m_apart_by, x_mir, v_apart_by, ent, rl, noOwn, wipeE, c, t, m, apQ]
def strainP : List (List Rat) → Rat → Rat
  | [], a => a
  | r :: R, a => strainP R (mxL (R.map fun q => apQ r q) a)
theorem strainP_ge : ∀ (R : List (List Rat)) (a : Rat), a ≤ strainP R a
  | [], a => Rat.le_refl
  | r :: R, a => Rat.le_trans (mx_ge (R.map fun q => apQ r q) a).1 (strainP_ge R _)
theorem strainP_all (sym : ∀ p q : List Rat, apQ p q = apQ q p) : ∀ (R : List (List Rat)) (a : Rat), (∀ p ∈ R, apQ p p ≤ a) → ∀ p ∈ R, ∀ q ∈ R, apQ p q ≤ strainP R a
  | [], _, _, p, hp, _, _ => by simp at hp
  | r :: R, a, h0, p, hp, q, hq => by
    have ha := (mx_ge (R.map fun q => apQ r q) a).1
    have hb := (mx_ge (R.map fun q => apQ r q) a).2
    have ge := strainP_ge R (mxL (R.map fun q => apQ r q) a)
    show apQ p q ≤ strainP R (mxL (R.map fun q => apQ r q) a)
    rcases List.mem_cons.mp hp with e | hp2
    · rcases List.mem_cons.mp hq with e2 | hq2
      · rw [e, e2]
        exact Rat.le_trans (h0 _ List.mem_cons_self) (Rat.le_trans ha ge)
      · rw [e]
        exact Rat.le_trans (hb _ (List.mem_map.mpr ⟨q, hq2, rfl⟩)) ge
    · rcases List.mem_cons.mp hq with e2 | hq2
      · rw [e2, sym]
        exact Rat.le_trans (hb _ (List.mem_map.mpr ⟨p, hp2, rfl⟩)) ge
      · exact strainP_all sym R _ (fun p hp => Rat.le_trans (h0 p (List.mem_cons_of_mem _ hp)) ha) p hp2 q hq2
theorem strainP_le {x : Rat} : ∀ (R : List (List Rat)) (a : Rat), a ≤ x → (∀ p ∈ R, ∀ q ∈ R, apQ p q ≤ x) → strainP R a ≤ x
  | [], a, h, _ => h
  | r :: R, a, h, g => by
    refine strainP_le R _ ?_ fun p hp q hq => g p (List.mem_cons_of_mem _ hp) q (List.mem_cons_of_mem _ hq)
    rcases mx_mem (R.map fun q => apQ r q) a with e | e
    · rw [e]
      exact h
    · obtain ⟨q, hq, eq⟩ := List.mem_map.mp e
      rw [← eq]
      exact g r List.mem_cons_self q (List.mem_cons_of_mem _ hq)
theorem minQ_comm (a b : Rat) : minQ a b = minQ b a := by
  unfold minQ
  split <;> split <;> grind
theorem ap_comm (p q : List Rat) : apQ p q = apQ q p := by
  unfold apQ
  rw [List.zipWith_comm]
  congr 3
  funext a b
  exact minQ_comm b a
theorem ap_self : ∀ p : List Rat, List.zipWith minQ p p = p
  | [] => rfl
  | a :: p => by
    rw [List.zipWith_cons_cons, ap_self p]
    congr 1
    unfold minQ
    split <;> rfl
theorem strainP_eq {R : List (List Rat)} (h : ∀ p ∈ R, sumR p = 1) : strainP R 0 = strainQ R := by
  have z : ∀ p ∈ R, apQ p p ≤ 0 := fun p hp => by
    unfold apQ
    rw [ap_self, h p hp]
    grind
  have a := strainP_le (x := strainQ R) R 0 (strain_nn R) fun p hp q hq => strain_ge hp hq
  have b := strain_le (R := R) (strainP_ge R 0) (strainP_all ap_comm R 0 z)
  grind
theorem cut_drop (l : List D) (i : Nat) : cutD l (some (i : Int)) none = l.drop i := by
  unfold cutD
  rw [HT.sIx_none, HT.sIx_nat]
  rcases Nat.le_total i l.length with h | h
  · rw [Nat.min_eq_left h, List.take_of_length_le (by rw [List.length_drop]; exact Nat.le_refl _)]
  · rw [Nat.min_eq_right h, List.drop_eq_nil_of_le (Nat.le_refl _), List.drop_eq_nil_of_le h]
    simp
noncomputable abbrev stI : Sv := (dAsg 1 (dVal (dCall m_greater (dCons (dVar 1) (dCons (dCall m_apart_by (dCons (dVar 3) (dCons (dVar 4) dNil))) dNil)))))
noncomputable abbrev stO : Sv := (dFor (dSeqI (dSl (dVar 0) (dPart (dOp2 fAddG (dVar 2) (dC (.int 1)))) dNoPart)) (bName 4) stI)
theorem mx_sm {k : Nat} {l : List Rat} {a : Rat} (ha : Sm k a) (hl : ∀ x ∈ l, Sm k x) : Sm k (mxL l a) := by
  rcases mx_mem l a with e | e
  · rw [e]; exact ha
  · exact hl _ e
theorem st_in {N M : Nat} (n0 : 0 < N) (hN : N < 2 ^ 1000) (hM : 5 * M < 2 ^ 1000) (v0 v2 : DL.Slot) (r : List Rat) (hr : r.length ≤ 5 ∧ ∀ x ∈ r, Bq N M x) (b : Bw) : ∀ (R : List (List Rat)) (a : Rat) (x4 : DL.Slot), Sm 2001 a → (∀ q ∈ R, ∀ x ∈ q, Bq N M x) →
    ∃ x4', forL (bName 4) stI (R.map rowD) [v0, .val (rq a), v2, .val (rowD r), x4] b = .nx [v0, .val (rq (mxL (R.map fun q => apQ r q) a)), v2, .val (rowD r), x4'] b ∧ Sm 2001 (mxL (R.map fun q => apQ r q) a)
  | [], a, x4, ha, _ => ⟨x4, rfl, ha⟩
  | q :: R, a, x4, ha, hR => by
    have e := apart_ev r q n0 hr.2 (hR q List.mem_cons_self) hr.1 hN hM b
    have s := ap_sm n0 hr.2 (hR q List.mem_cons_self) hr.1 hN hM
    have g := greater_ev a (apQ r q) b (ha.mono (by decide)) (s.mono (by decide))
    obtain ⟨y, e2, s2⟩ := st_in n0 hN hM v0 v2 r hr b R (if a < apQ r q then apQ r q else a) (.val (rowD q)) (by split <;> assumption) fun z hz => hR z (List.mem_cons_of_mem _ hz)
    refine ⟨y, ?_, s2⟩
    have st : stI [v0, .val (rq a), v2, .val (rowD r), .val (rowD q)] b = .nx [v0, .val (rq (if a < apQ r q then apQ r q else a)), v2, .val (rowD r), .val (rowD q)] b := by
      unfold stI
      simp [e, g]
    rw [List.map_cons, x_forC]
    generalize stI = S at st e2 ⊢
    simp only [x_bName, List.set_cons_succ, List.set_cons_zero, st]
    exact e2
theorem st_out {N M : Nat} (n0 : 0 < N) (hN : N < 2 ^ 1000) (hM : 5 * M < 2 ^ 1000) (rows : List (List Rat)) (hr : ∀ r ∈ rows, r.length ≤ 5 ∧ ∀ x ∈ r, Bq N M x) (hL : rows.length ≤ 5) (b : Bw) : ∀ (R : List (List Rat)) (i : Nat) (a : Rat) (x2 x3 x4 : DL.Slot), rows.drop i = R → Sm 2001 a →
    ∃ x2' x3' x4', forL (bTup ((bName 2) :: (bName 3) :: [])) stO (enumL i (R.map rowD)) [.val (.tup (rows.map rowD)), .val (rq a), x2, x3, x4] b = .nx [.val (.tup (rows.map rowD)), .val (rq (strainP R a)), x2', x3', x4'] b
  | [], i, a, x2, x3, x4, _, _ => ⟨x2, x3, x4, rfl⟩
  | r :: R, i, a, x2, x3, x4, hd, ha => by
    have mem : ∀ q ∈ r :: R, q ∈ rows := fun q hq => List.mem_of_mem_drop (by rw [hd]; exact hq)
    have hd2 : rows.drop (i + 1) = R := by rw [← List.drop_drop, hd]; rfl
    obtain ⟨y, e, s⟩ := st_in n0 hN hM (.val (.tup (rows.map rowD))) (.val (.int (i : Nat))) r (hr r (mem r List.mem_cons_self)) b R a x4 ha fun q hq => (hr q (mem q (List.mem_cons_of_mem _ hq))).2
    obtain ⟨y2, y3, y4, e2⟩ := st_out n0 hN hM rows hr hL b R (i + 1) (mxL (R.map fun q => apQ r q) a) (.val (.int (i : Nat))) (.val (rowD r)) y hd2 s
    refine ⟨y2, y3, y4, ?_⟩
    have cut : cutD (rows.map rowD) (some ((i : Int) + 1)) none = R.map rowD := by
      have := cut_drop (rows.map rowD) (i + 1)
      rw [← List.map_drop, hd2] at this
      exact this
    have st : stO [.val (.tup (rows.map rowD)), .val (rq a), .val (.int (i : Nat)), .val (rowD r), x4] b = .nx [.val (.tup (rows.map rowD)), .val (rq (mxL (R.map fun q => apQ r q) a)), .val (.int (i : Nat)), .val (rowD r), y] b := by
      unfold stO
      generalize stI = S at e ⊢
      generalize rows.map rowD = L at cut e ⊢
      generalize R.map rowD = L2 at cut e
      simp [fSl, cut, e]
    rw [List.map_cons]
    unfold enumL
    rw [x_forC]
    generalize stO = S at st e2 ⊢
    simp only [x_bTup, x_bEachC, x_bEach0, x_bName, Option.bind_some, List.set_cons_succ, List.set_cons_zero, st]
    exact e2
theorem strain_in_ev {N M : Nat} (n0 : 0 < N) (hN : N < 2 ^ 1000) (hM : 5 * M < 2 ^ 1000) (rows : List (List Rat)) (hr : ∀ r ∈ rows, r.length ≤ 5 ∧ ∀ x ∈ r, Bq N M x) (hL : rows.length ≤ 5) (b : Bw) : m_strain_in [.tup (rows.map rowD)] b = .ok (.val (rq (strainP rows 0))) b := by
  obtain ⟨x2, x3, x4, e⟩ := st_out n0 hN hM rows hr hL b rows 0 0 .un .un .un rfl (Sm0 _ (by decide))
  have ev : v_strain_in = (dSeq (dAsg 1 (dVal (dC c_NOTHING))) (dSeq (dFor (dEnum (dVar 0)) (bTup ((bName 2) :: (bName 3) :: [])) stO) (dRet (dVar 1)))) := rfl
  have nul : c_NOTHING = rq 0 := rfl
  unfold m_strain_in
  rw [ev, x_mir]
  generalize stO = S at e ⊢
  generalize rows.map rowD = L at e ⊢
  simp [ent, nul, enum1, e]
theorem cnt_bq {ns : List Str} {T : List (List Rat)} (h : Circ ns T) (t : Nat) : ∀ r ∈ cntQ T ns.length t, r.length = ns.length ∧ ∀ q ∈ r, Bq (L20 ^ t * 60) ((20 * L20) ^ t * 1200) q := fun r hr => by
  refine ⟨by rw [rows_row _ _ r hr, col_len], fun q hq => ?_⟩
  obtain ⟨i, hi, rfl⟩ := List.mem_map.mp hr
  obtain ⟨c, hc, rfl⟩ := List.mem_map.mp hq
  obtain ⟨j, _, rfl⟩ := List.mem_map.mp hc
  have hi := List.mem_range.mp hi
  have l := after_len h (unit_len ns.length j) t
  have g : (afterQ T (unitQ ns.length j) t).getD i 0 = (afterQ T (unitQ ns.length j) t)[i] := by
    rw [List.getD_eq_getElem?_getD, List.getElem?_eq_getElem (by omega)]
    rfl
  rw [g]
  exact after_bq h (unit_bq _ _) (by decide) (unit_len _ _) t _ (List.getElem_mem _)
theorem sizes20 (t : Nat) (ht : t ≤ 20) : L20 ^ t * 60 < 2 ^ 1000 ∧ 5 * ((20 * L20) ^ t * 1200) < 2 ^ 1000 := by
  have a : L20 ≤ 2 ^ 28 := by decide
  have b : 20 * L20 ≤ 2 ^ 33 := by decide
  have p1 : L20 ^ t ≤ 2 ^ 560 := Nat.le_trans (Nat.pow_le_pow_left a t) (by rw [← Nat.pow_mul]; exact Nat.pow_le_pow_right (by decide) (by omega))
  have p2 : (20 * L20) ^ t ≤ 2 ^ 660 := Nat.le_trans (Nat.pow_le_pow_left b t) (by rw [← Nat.pow_mul]; exact Nat.pow_le_pow_right (by decide) (by omega))
  constructor
  · refine Nat.lt_of_le_of_lt (Nat.mul_le_mul p1 (show 60 ≤ 2 ^ 6 by decide)) ?_
    rw [← Nat.pow_add]
    exact Nat.pow_lt_pow_right (by decide) (by decide)
  · refine Nat.lt_of_le_of_lt (Nat.mul_le_mul (show 5 ≤ 2 ^ 3 by decide) (Nat.mul_le_mul p2 (show 1200 ≤ 2 ^ 11 by decide))) ?_
    rw [← Nat.pow_add, ← Nat.pow_add]
    exact Nat.pow_lt_pow_right (by decide) (by decide)
theorem pos60 (t : Nat) : 0 < L20 ^ t * 60 := Nat.mul_pos (Nat.pow_pos L20pos) (by decide)
theorem strain_ev (ns : List Str) (T : List (List Rat)) (h : Circ ns T) (t : Nat) (ht : t ≤ 20) (b : Bw) : m_strain [cirO ns T, .int (t : Nat)] b = .ok (.val (rq (strainQ (cntQ T ns.length t)))) b := by
  have c1 := check_circle_ev ns T b
  have c2 := check_many_ev t (by omega) b
  have e := counts_by_ev ns T h t (by omega) b
  have h5 := h.five
  obtain ⟨z1, z2⟩ := sizes20 t ht
  have s := strain_in_ev (pos60 t) z1 z2 (cntQ T ns.length t) (fun r hr => ⟨by rw [(cnt_bq h t r hr).1]; exact h5, (cnt_bq h t r hr).2⟩) (by rw [cntQ, rows_len]; exact h5) b
  rw [strainP_eq (cnt_sum h t)] at s
  have by_ : m_strain_by [cirO ns T, .int (t : Nat)] b = .ok (.val (rq (strainQ (cntQ T ns.length t)))) b := by
    generalize (cntQ T ns.length t).map rowD = L at e s
    simp [m_strain_by, x_mir, v_strain_by, ent, e, s]
  simp [m_strain, x_mir, v_strain, ent, c1, c2, by_]
theorem strain_in_cnt (ns : List Str) (T : List (List Rat)) (h : Circ ns T) (t : Nat) (ht : t ≤ 20) (b : Bw) : m_strain_in [.tup ((cntQ T ns.length t).map rowD)] b = .ok (.val (rq (strainQ (cntQ T ns.length t)))) b := by
  have s := sizes20 t ht
  have l : (cntQ T ns.length t).length = ns.length := rows_len _ _
  have h5 := h.five
  have e := strain_in_ev (pos60 t) s.1 s.2 (cntQ T ns.length t) (fun r hr => ⟨by have := (cnt_bq h t r hr).1; omega, (cnt_bq h t r hr).2⟩) (by omega) b
  rw [strainP_eq (cnt_sum h t)] at e
  exact e
end P

set_option Elab.async false
set_option linter.all false
set_option maxRecDepth 100000
set_option maxHeartbeats 2000000
set_option exponentiation.threshold 20000
namespace P
open PySem DL W
noncomputable abbrev baB : Sv := (dSeq (dIfS (dNot (dTst (dCall m_is_less (dCons (dVar 1) (dCons (dCall m_strain_in (dCons (dVar 2) dNil)) dNil))))) (dRet (dOpL fLst (dCons (dVar 3) dNil))) dNext) (dAsg 2 (dVal (dCall m_next_counts (dCons (dVar 0) (dCons (dVar 2) dNil))))))
theorem ba_more (ns : List Str) (T : List (List Rat)) (h : Circ ns T) (β : Rat) (hβ : Sm 4000 β) (t : Nat) (ht : t ≤ 20) (sm : Sm 4000 (strainQ (cntQ T ns.length t))) (z : β < strainQ (cntQ T ns.length t)) (x3 : DL.Slot) (b : Bw) : baB [.val (cirO ns T), .val (rq β), .val (.tup ((cntQ T ns.length t).map rowD)), x3] b = .nx [.val (cirO ns T), .val (rq β), .val (.tup ((cntQ T ns.length (t + 1)).map rowD)), x3] b := by
  have e1 := strain_in_cnt ns T h t ht b
  have e2 := less_ev β (strainQ (cntQ T ns.length t)) b hβ sm
  have e3 := next_counts_ev ns T h t (by omega) b
  unfold baB
  generalize (cntQ T ns.length t).map rowD = R at e1 e3 ⊢
  simp [e1, e2, z, e3]
theorem ba_stop (ns : List Str) (T : List (List Rat)) (h : Circ ns T) (β : Rat) (hβ : Sm 4000 β) (t : Nat) (ht : t ≤ 20) (sm : Sm 4000 (strainQ (cntQ T ns.length t))) (z : ¬ β < strainQ (cntQ T ns.length t)) (k : Nat) (b : Bw) : baB [.val (cirO ns T), .val (rq β), .val (.tup ((cntQ T ns.length t).map rowD)), .val (.int (k : Nat))] b = .rt (.own (.lst [.int (k : Nat)])) b := by
  have e1 := strain_in_cnt ns T h t ht b
  have e2 := less_ev β (strainQ (cntQ T ns.length t)) b hβ sm
  unfold baB
  generalize (cntQ T ns.length t).map rowD = R at e1 ⊢
  simp [e1, e2, z, LIM]
theorem ba_never (ns : List Str) (T : List (List Rat)) (h : Circ ns T) (hc : ∀ t, cntQ T ns.length t = cntQ T ns.length 0) (β : Rat) (hβ : Sm 4000 β) (sm : Sm 4000 (strainQ (cntQ T ns.length 0))) (z : β < strainQ (cntQ T ns.length 0)) (b : Bw) : ∀ (ds : List D) (x3 : DL.Slot), ∃ env, forL (bName 3) baB ds [.val (cirO ns T), .val (rq β), .val (.tup ((cntQ T ns.length 0).map rowD)), x3] b = .nx env b
  | [], x3 => ⟨_, rfl⟩
  | d :: ds, x3 => by
    obtain ⟨env, ih⟩ := ba_never ns T h hc β hβ sm z b ds (.val d)
    have st := ba_more ns T h β hβ 0 (by omega) sm z (.val d) b
    rw [hc 1] at st
    refine ⟨env, ?_⟩
    rw [x_forC]
    generalize baB = S at st ih ⊢
    simp only [x_bName, List.set_cons_succ, List.set_cons_zero, st, ih]
theorem ba_first (n : Nat) (T : List (List Rat)) (h5 : n ≤ 5) (b : Bw) : m_first_counts [.int (n : Nat)] b = .ok (.val (.tup ((cntQ T n 0).map rowD))) b := first_counts_ev T n h5 b
theorem bfa_none (ns : List Str) (T : List (List Rat)) (h : Circ ns T) (hc : ∀ t, cntQ T ns.length t = cntQ T ns.length 0) (β : Rat) (hβ : Sm 4000 β) (h0 : 0 ≤ β) (sm : Sm 4000 (strainQ (cntQ T ns.length 0))) (z : β < strainQ (cntQ T ns.length 0)) (b : Bw) : m_beats_for_all [cirO ns T, rq β] b = .ok (.val .non) b := by
  have c1 := check_circle_ev ns T b
  have c2 := is_sum_ev β h0 b
  have f := first_counts_ev T ns.length h.five b
  have r : rng1 (.int 41) b = .ok ((List.range 41).map fun (i : Nat) => D.int (i : Nat)) b := rng1_eq 41 b (by decide)
  have ne0 : fNe (.lst []) (.lst []) = some (.val (.bl false)) := rfl
  have cb : m_check_bound [rq β] b = .ok (.val .non) b := by simp [m_check_bound, x_mir, v_check_bound, ent, c2]
  have ev : v_beats_for_all_by = (dSeq (dAsg 2 (dVal (dCall m_first_counts (dCons (dOpL (f1 lenD) (dCons (dProp "Circle" m_Circle_people (dVar 0)) dNil)) dNil)))) (dSeq (dFor (dRng1 (dOp2 fAddG (dC c_MOST_BEATS) (dC (.int 1)))) (bName 3) baB) (dRet (dOpL fLst dNil)))) := rfl
  obtain ⟨env, e2⟩ := ba_never ns T h hc β hβ sm z b ((List.range 41).map fun (i : Nat) => D.int (i : Nat)) .un
  have pe := dPeople_ev (ea := dVar 0) (env := [.val (cirO ns T), .val (rq β), .un, .un]) (b := b) ns T (by simp)
  have by_ : m_beats_for_all_by [cirO ns T, rq β] b = .ok (.own (.lst [])) b := by
    unfold m_beats_for_all_by
    rw [ev, x_mir]
    generalize baB = S at e2 ⊢
    generalize (List.range 41).map (fun (i : Nat) => D.int (i : Nat)) = L at e2 r
    generalize (cntQ T ns.length 0).map rowD = R at e2 f
    simp [ent, c_MOST_BEATS, r, e2, LIM, pe, f]
  simp [-x_neL, m_beats_for_all, x_mir, v_beats_for_all, ent, c1, cb, by_, ne0]
theorem bfa_one (ns : List Str) (T : List (List Rat)) (h : Circ ns T) (β : Rat) (hβ : Sm 4000 β) (h0 : 0 ≤ β) (sm : Sm 4000 (strainQ (cntQ T ns.length 0))) (z : β < strainQ (cntQ T ns.length 0)) (sm1 : Sm 4000 (strainQ (cntQ T ns.length 1))) (z1 : ¬ β < strainQ (cntQ T ns.length 1)) (b : Bw) : m_beats_for_all [cirO ns T, rq β] b = .ok (.val (.int 1)) b := by
  have c1 := check_circle_ev ns T b
  have c2 := is_sum_ev β h0 b
  have f := first_counts_ev T ns.length h.five b
  have r : rng1 (.int 41) b = .ok ((List.range 41).map fun (i : Nat) => D.int (i : Nat)) b := rng1_eq 41 b (by decide)
  have cb : m_check_bound [rq β] b = .ok (.val .non) b := by simp [m_check_bound, x_mir, v_check_bound, ent, c2]
  have ev : v_beats_for_all_by = (dSeq (dAsg 2 (dVal (dCall m_first_counts (dCons (dOpL (f1 lenD) (dCons (dProp "Circle" m_Circle_people (dVar 0)) dNil)) dNil)))) (dSeq (dFor (dRng1 (dOp2 fAddG (dC c_MOST_BEATS) (dC (.int 1)))) (bName 3) baB) (dRet (dOpL fLst dNil)))) := rfl
  have pe := dPeople_ev (ea := dVar 0) (env := [.val (cirO ns T), .val (rq β), .un, .un]) (b := b) ns T (by simp)
  have s0 := ba_more ns T h β hβ 0 (by omega) sm z (.val (.int (0 : Nat))) b
  have s1 := ba_stop ns T h β hβ 1 (by omega) sm1 z1 1 b
  have e2 : forL (bName 3) baB ((List.range 41).map fun (i : Nat) => D.int (i : Nat)) [.val (cirO ns T), .val (rq β), .val (.tup ((cntQ T ns.length 0).map rowD)), .un] b = .rt (.own (.lst [.int (1 : Nat)])) b := by
    rw [show (List.range 41).map (fun (i : Nat) => D.int (i : Nat)) = .int (0 : Nat) :: .int (1 : Nat) :: (List.range' 2 39).map (fun (i : Nat) => D.int (i : Nat)) from rfl, x_forC]
    generalize (List.range' 2 39).map (fun (i : Nat) => D.int (i : Nat)) = L
    generalize baB = S at s0 s1 ⊢
    simp only [x_bName, List.set_cons_succ, List.set_cons_zero, s0, x_forC, s1]
  have by_ : m_beats_for_all_by [cirO ns T, rq β] b = .ok (.own (.lst [.int 1])) b := by
    unfold m_beats_for_all_by
    rw [ev, x_mir]
    generalize baB = S at e2 ⊢
    generalize (List.range 41).map (fun (i : Nat) => D.int (i : Nat)) = L at e2 r
    generalize (cntQ T ns.length 0).map rowD = R at e2 f
    simp [ent, c_MOST_BEATS, r, e2, LIM, pe, f]
  have ne1 : fNe (.lst [.int 1]) (.lst []) = some (.val (.bl true)) := rfl
  simp [-x_neL, m_beats_for_all, x_mir, v_beats_for_all, ent, c1, cb, by_, ne1]
end P

set_option Elab.async false
set_option linter.all false
set_option maxRecDepth 100000
set_option maxHeartbeats 2000000
set_option exponentiation.threshold 20000
namespace P
open PySem DL W
noncomputable abbrev r0 : Sv := (dPar3 1 2 3 (dVal (dCall m__law_fr (dCons (dCall m__law_below (dCons (dVar 0) (dCons (dC (.int 11)) dNil))) (dCons (dC (.int 10)) dNil)))) (dVal (dCall m__law_fr (dCons (dCall m__law_below (dCons (dVar 0) (dCons (dC (.int 11)) dNil))) (dCons (dC (.int 10)) dNil)))) (dVal (dOp2 fAddG (dC (.int 1)) (dCall m__law_below (dCons (dVar 0) (dCons (dC (.int 6)) dNil))))))
noncomputable abbrev r1 : Sv := (dAsg 4 (dVal (dCall (fitM 2 m_Circle) (dCons (dOpL fTup (dCons (dC (.str "b")) (dCons (dC (.str "c")) dNil))) (dCons (dOpL fTup (dCons (dOpL fTup (dCons (dCall m__law_less (dCons (dOpL fTup (dCons (dC (.int 1)) (dCons (dC (.int 1)) dNil))) (dCons (dVar 1) dNil))) (dCons (dVar 1) dNil))) (dCons (dOpL fTup (dCons (dVar 2) (dCons (dCall m__law_less (dCons (dOpL fTup (dCons (dC (.int 1)) (dCons (dC (.int 1)) dNil))) (dCons (dVar 2) dNil))) dNil))) dNil))) dNil)))))
noncomputable abbrev r2 : Sv := (dAsg 5 (dVal (dCall m__law_less (dCons (dOpL fTup (dCons (dC (.int 1)) (dCons (dC (.int 1)) dNil))) (dCons (dCall m__law_plus (dCons (dVar 1) (dCons (dVar 2) dNil))) dNil)))))
noncomputable abbrev r3 : Sv := (dPar2 5 6 (dVal (dOpL fTup (dCons (dOpL (f1 absD) (dCons (dIx (dVar 5) (dC (.int 0))) dNil)) (dCons (dIx (dVar 5) (dC (.int 1))) dNil)))) (dVal (dOpL fTup (dCons (dC (.int 1)) (dCons (dC (.int 1)) dNil)))))
noncomputable abbrev r4B : Sv := (dAsg 6 (dVal (dCall m__law_times (dCons (dVar 6) (dCons (dVar 5) dNil)))))
noncomputable abbrev r4 : Sv := (dFor (dRng1 (dVar 3)) (bName 7) r4B)
noncomputable abbrev r5 : Sv := (dIfS (dNot (dTst (dCall (m__law_same 8) (dCons (dOpL fLst (dCons (dCall m_strain (dCons (dVar 4) (dCons (dC (.int 1)) dNil))) (dCons (dCall m_strain (dCons (dVar 4) (dCons (dVar 3) dNil))) dNil))) (dCons (dOpL fLst (dCons (dVar 5) (dCons (dVar 6) dNil))) dNil))))) (dRet (dC (.bl false))) dNext)
noncomputable abbrev r6 : Sv := (dAsg 8 (dVal (dOp2 fAddG (dC (.int 2)) (dCall m__law_below (dCons (dVar 0) (dCons (dC (.int 4)) dNil))))))
noncomputable abbrev r7 : Sv := (dPar2 9 10 (dVal (dOpL (f1 tupleSD) (dCons (dSl (dC (.str "bcdfg")) dNoPart (dPart (dVar 8))) dNil))) (dVal (dCall m__law_one (dCons (dVar 0) (dCons (dOpL fTup (dCons (dOp2 fAddG (dOpL fTup (dCons (dOpL fTup (dCons (dC (.int 1)) (dCons (dC (.int 1)) dNil))) dNil)) (dOp2 fMulG (dOpL fTup (dCons (dOpL fTup (dCons (dC (.int 0)) (dCons (dC (.int 1)) dNil))) dNil)) (dOp2 fSub (dVar 8) (dC (.int 1))))) (dCons (dOp2 fMulG (dOpL fTup (dCons (dCall m__law_fr (dCons (dC (.int 1)) (dCons (dVar 8) dNil))) dNil)) (dVar 8)) dNil))) dNil)))))
noncomputable abbrev r8 : Sv := (dPar2 11 12 (dVal (dCall (fitM 2 m_Circle) (dCons (dVar 9) (dCons (dOp2 fMulG (dOpL fTup (dCons (dVar 10) dNil)) (dVar 8)) dNil)))) (dVal (dCall (fitM 2 m_Circle) (dCons (dVar 9) (dCons (dOpL (f1 tupleD) (dCons (dComp (dRng1 (dVar 8)) (bName 14) dYes (dOpL (f1 tupleD) (dCons (dComp (dRng1 (dVar 8)) (bName 13) dYes (dIf (dTst (dOp2 fEq (dVar 13) (dVar 14))) (dOpL fTup (dCons (dC (.int 1)) (dCons (dC (.int 1)) dNil))) (dOpL fTup (dCons (dC (.int 0)) (dCons (dC (.int 1)) dNil)))) [13]) dNil)) [14]) dNil)) dNil)))))
noncomputable abbrev r9 : Sv := (dIfS (dNot (dTst (dCall (m__law_same 8) (dCons (dOpL fLst (dCons (dCall m_strain (dCons (dVar 11) (dCons (dVar 3) dNil))) (dCons (dCall m_strain (dCons (dVar 12) (dCons (dVar 3) dNil))) (dCons (dCall m_beats_for_all (dCons (dVar 11) (dCons (dOpL fTup (dCons (dC (.int 0)) (dCons (dC (.int 1)) dNil))) dNil))) (dCons (dCall m_beats_for_all (dCons (dVar 12) (dCons (dOpL fTup (dCons (dC (.int 1)) (dCons (dC (.int 2)) dNil))) dNil))) dNil))))) (dCons (dOpL fLst (dCons (dOpL fTup (dCons (dC (.int 0)) (dCons (dC (.int 1)) dNil))) (dCons (dOpL fTup (dCons (dC (.int 1)) (dCons (dC (.int 1)) dNil))) (dCons (dC (.int 1)) (dCons (dC .non) dNil))))) dNil))))) (dRet (dC (.bl false))) dNext)
noncomputable abbrev r10 : Sv := (dAsg 15 (dVal (dCall m__law_fr (dCons (dOp2 fAddG (dC (.int 1)) (dCall m__law_below (dCons (dVar 0) (dCons (dC (.int 4)) dNil)))) (dCons (dC (.int 5)) dNil)))))
noncomputable abbrev r11 : Sv := (dAsg 16 (dVal (dCall m__law_less (dCons (dOpL fTup (dCons (dC (.int 1)) (dCons (dC (.int 1)) dNil))) (dCons (dVar 15) dNil)))))
noncomputable abbrev r12 : Sv := (dAsg 17 (dOpL fLst (dCons (dOp2 fAddG (dOpL fTup (dCons (dOpL fTup (dCons (dC (.int 1)) (dCons (dC (.int 1)) dNil))) dNil)) (dOp2 fMulG (dOpL fTup (dCons (dOpL fTup (dCons (dC (.int 0)) (dCons (dC (.int 1)) dNil))) dNil)) (dOp2 fSub (dVar 8) (dC (.int 1))))) dNil)))
noncomputable abbrev r13B : Sv := (dApp 17 (dOpL (f1 tupleD) (dCons (dComp (dRng1 (dVar 8)) (bName 13) dYes (dIf (dTst (dOp2 fEq (dVar 13) (dC (.int 0)))) (dVar 15) (dIf (dTst (dOp2 fEq (dVar 13) (dVar 14))) (dVar 16) (dOpL fTup (dCons (dC (.int 0)) (dCons (dC (.int 1)) dNil))))) [13]) dNil)))
noncomputable abbrev r13 : Sv := (dFor (dRng2 (dC (.int 1)) (dVar 8)) (bName 14) r13B)
noncomputable abbrev r14 : Sv := (dAsg 18 (dVal (dOpL fTup (dCons (dC (.int 1)) (dCons (dC (.int 1)) dNil)))))
noncomputable abbrev r15B : Sv := (dAsg 18 (dVal (dCall m__law_times (dCons (dVar 18) (dCons (dVar 16) dNil)))))
noncomputable abbrev r15 : Sv := (dFor (dRng1 (dVar 3)) (bName 7) r15B)
noncomputable abbrev rZ : Sv := (dFrz 17 (dRet (dCall (m__law_same 8) (dCons (dCall m_strain (dCons (dCall (fitM 2 m_Circle) (dCons (dVar 9) (dCons (dOpL (f1 tupleD) (dCons (dVar 17) dNil)) dNil))) (dCons (dVar 3) dNil))) (dCons (dVar 18) dNil)))))
theorem r_eq : W.v__law_right = (dSeq r0 (dSeq r1 (dSeq r2 (dSeq r3 (dSeq r4 (dSeq r5 (dSeq r6 (dSeq r7 (dSeq r8 (dSeq r9 (dSeq r10 (dSeq r11 (dSeq r12 (dSeq r13 (dSeq r14 (dSeq r15 rZ)))))))))))))))) := rfl

theorem en_sm {q : Rat} (h : En q) : Sm 40 q := h.2.sm (by decide) (by decide)
theorem o11 : (D.tup [.int 1, .int 1]) = rq 1 := rfl
theorem o01 : (D.tup [.int 0, .int 1]) = rq 0 := rfl
theorem s0 {n : Nat} {b : Bw} (I : Inv n b) (hn : n + 3 ≤ 1000000) (x1 x2 x3 x4 x5 x6 x7 x8 x9 x10 x11 x12 x13 x14 x15 x16 x17 x18 : DL.Slot) : ∃ (i j t : Nat) (b' : Bw), i ≤ 10 ∧ j ≤ 10 ∧ 1 ≤ t ∧ t ≤ 6 ∧ r0 [.val .bowl, x1, x2, x3, x4, x5, x6, x7, x8, x9, x10, x11, x12, x13, x14, x15, x16, x17, x18] b = .nx [.val .bowl, .val (rq (Rat.divInt (i : Nat) (10 : Nat))), .val (rq (Rat.divInt (j : Nat) (10 : Nat))), .val (.int (t : Nat)), x4, x5, x6, x7, x8, x9, x10, x11, x12, x13, x14, x15, x16, x17, x18] b' ∧ Inv (n + 3) b' := by
  obtain ⟨i, b1, e1, hi, I1⟩ := below_ev I (by omega) 11 (by decide) (by decide)
  obtain ⟨j, b2, e2, hj, I2⟩ := below_ev I1 (by omega) 11 (by decide) (by decide)
  obtain ⟨m, b3, e3, hm, I3⟩ := below_ev I2 (by omega) 6 (by decide) (by decide)
  have f1 : m__law_fr [.int (i : Nat), .int 10] b1 = .ok (.val (rq (Rat.divInt (i : Nat) (10 : Nat)))) b1 := law_fr_ev i 10 b1 (by decide) (by decide)
  have f2 : m__law_fr [.int (j : Nat), .int 10] b2 = .ok (.val (rq (Rat.divInt (j : Nat) (10 : Nat)))) b2 := law_fr_ev j 10 b2 (by decide) (by decide)
  obtain ⟨t, ht⟩ : ∃ t, t = m + 1 := ⟨_, rfl⟩
  have c : (1 : Int) + (m : Int) = (t : Int) := by omega
  have e1' : m__law_below [.bowl, .int 11] b = .ok (.val (.int (i : Nat))) b1 := e1
  have e2' : m__law_below [.bowl, .int 11] b1 = .ok (.val (.int (j : Nat))) b2 := e2
  have e3' : m__law_below [.bowl, .int 6] b2 = .ok (.val (.int (m : Nat))) b3 := e3
  refine ⟨i, j, t, b3, by omega, by omega, by omega, by omega, ?_, I3⟩
  generalize (Rat.divInt (i : Nat) (10 : Nat)) = p at f1 ⊢
  generalize (Rat.divInt (j : Nat) (10 : Nat)) = q at f2 ⊢
  unfold r0
  simp [e1', e2', e3', f1, f2, c]
theorem b98 : ("b" : Str) = sg 98 := by decide +kernel
theorem c99 : ("c" : Str) = sg 99 := by decide +kernel
theorem s1 {p q : Rat} (hp : En p) (hq : En q) (hc : Circ (nmsN 2) (twoT p q)) (x3 x4 x5 x6 x7 x8 x9 x10 x11 x12 x13 x14 x15 x16 x17 x18 : DL.Slot) (b : Bw) : r1 [.val .bowl, .val (rq p), .val (rq q), x3, x4, x5, x6, x7, x8, x9, x10, x11, x12, x13, x14, x15, x16, x17, x18] b = .nx [.val .bowl, .val (rq p), .val (rq q), x3, .val (cirO (nmsN 2) (twoT p q)), x5, x6, x7, x8, x9, x10, x11, x12, x13, x14, x15, x16, x17, x18] b := by
  have mk := make_ev (nmsN 2) (twoT p q) hc b
  have mk' : m_Circle [.tup [.str "b", .str "c"], .tup [.tup [rq (1 - p), rq p], .tup [rq q, rq (1 - q)]]] b = .ok (.val (cirO (nmsN 2) (twoT p q))) b := by
    rw [b98, c99]
    exact mk
  have l1 := law_lessB_ev 1 p b one_sm ((en_sm hp).mono (by decide))
  have l2 := law_lessB_ev 1 q b one_sm ((en_sm hq).mono (by decide))
  unfold r1
  simp [LIM, o11, l1, l2, mk']
theorem s2 {p q : Rat} (hp : En p) (hq : En q) (x3 x4 x5 x6 x7 x8 x9 x10 x11 x12 x13 x14 x15 x16 x17 x18 : DL.Slot) (b : Bw) : r2 [.val .bowl, .val (rq p), .val (rq q), x3, x4, x5, x6, x7, x8, x9, x10, x11, x12, x13, x14, x15, x16, x17, x18] b = .nx [.val .bowl, .val (rq p), .val (rq q), x3, x4, .val (rq (1 - (p + q))), x6, x7, x8, x9, x10, x11, x12, x13, x14, x15, x16, x17, x18] b := by
  have sp := (en_sm hp).add (en_sm hq)
  have l1 := law_plus_ev p q b ((en_sm hp).mono (by decide)) ((en_sm hq).mono (by decide))
  have l2 := law_lessB_ev 1 (p + q) b one_sm (sp.mono (by decide))
  unfold r2
  simp [LIM, o11, l1, l2]
theorem abs_rq (g : Rat) : D.tup [.int (if g.num < 0 then -g.num else g.num), .int g.den] = rq (absQ g) := by
  unfold absQ
  by_cases h : g < 0
  · have h2 : g.num < 0 := by
      have := mt Rat.num_nonneg.mp (Rat.not_le.mpr h)
      omega
    rw [if_pos h, if_pos h2]
    unfold rq
    rw [Rat.neg_num, Rat.neg_den]
  · have h2 : ¬ g.num < 0 := by
      have := Rat.num_nonneg.mpr (Rat.not_lt.mp h)
      omega
    rw [if_neg h, if_neg h2]
    rfl
theorem s3 (g : Rat) (x1 x2 x3 x4 x6 x7 x8 x9 x10 x11 x12 x13 x14 x15 x16 x17 x18 : DL.Slot) (b : Bw) : r3 [.val .bowl, x1, x2, x3, x4, .val (rq g), x6, x7, x8, x9, x10, x11, x12, x13, x14, x15, x16, x17, x18] b = .nx [.val .bowl, x1, x2, x3, x4, .val (rq (absQ g)), .val (rq 1), x7, x8, x9, x10, x11, x12, x13, x14, x15, x16, x17, x18] b := by
  have i0 : ixB (rq g) (.int 0) b = .ok (.val (.int g.num)) b := by simp [rq]
  have i1 : ixB (rq g) (.int 1) b = .ok (.val (.int g.den)) b := by simp [rq]
  unfold r3
  simp [LIM, o11, i0, i1, abs_rq]
def Ps (t : Nat) (g : Rat) : Prop := ∀ k ≤ t, Sm 400 (g ^ k)
theorem pow_bq {n m : Nat} {g : Rat} (h : Bq n m g) : ∀ k : Nat, Bq (n ^ k) (m ^ k) (g ^ k)
  | 0 => by
    rw [Rat.pow_zero]
    exact ⟨by simp, 1, by rw [Rat.divInt_eq_div]; simp; grind, by simp⟩
  | k + 1 => by
    rw [Rat.pow_succ, Nat.pow_succ, Nat.pow_succ]
    exact (pow_bq h k).mul h
theorem ps_of {g : Rat} (h : Sm 40 g) : Ps 6 g := fun k hk => by
  have a := (pow_bq (g := g) (n := g.den) (m := g.num.natAbs) ⟨g.den_pos, g.num, (Rat.num_divInt_den g).symm, Nat.le_refl _⟩) k
  have u : ∀ x : Nat, x < 2 ^ 40 → x ^ k < 2 ^ 400 := fun x hx => by
    refine Nat.lt_of_le_of_lt (Nat.pow_le_pow_left (Nat.le_of_lt hx) k) ?_
    rw [← Nat.pow_mul]
    exact Nat.pow_lt_pow_right (by decide) (by omega)
  exact a.sm (u _ h.2) (u _ h.1)
theorem s4 {g : Rat} {t : Nat} (h : Ps t g) (x1 x2 x3 x4 x8 x9 x10 x11 x12 x13 x14 x15 x16 x17 x18 : DL.Slot) (b : Bw) : ∀ (ds : List D) (k : Nat) (x7 : DL.Slot), k + ds.length = t → ∃ y, forL (bName 7) r4B ds [.val .bowl, x1, x2, x3, x4, .val (rq g), .val (rq (g ^ k)), x7, x8, x9, x10, x11, x12, x13, x14, x15, x16, x17, x18] b = .nx [.val .bowl, x1, x2, x3, x4, .val (rq g), .val (rq (g ^ t)), y, x8, x9, x10, x11, x12, x13, x14, x15, x16, x17, x18] b
  | [], k, x7, hk => ⟨x7, by
    have : k = t := by simpa using hk
    subst this
    rfl⟩
  | d :: ds, k, x7, hk => by
    rw [List.length_cons] at hk
    obtain ⟨y, ih⟩ := s4 h x1 x2 x3 x4 x8 x9 x10 x11 x12 x13 x14 x15 x16 x17 x18 b ds (k + 1) (.val d) (by omega)
    refine ⟨y, ?_⟩
    have g1 : Sm 400 g := by
      have := h 1 (by omega)
      rw [Rat.pow_succ, Rat.pow_zero, Rat.one_mul] at this
      exact this
    have e := law_times_ev (g ^ k) g b ((h k (by omega)).mono (by decide)) (g1.mono (by decide))
    rw [← Rat.pow_succ] at e
    have st : r4B [.val .bowl, x1, x2, x3, x4, .val (rq g), .val (rq (g ^ k)), .val d, x8, x9, x10, x11, x12, x13, x14, x15, x16, x17, x18] b = .nx [.val .bowl, x1, x2, x3, x4, .val (rq g), .val (rq (g ^ (k + 1))), .val d, x8, x9, x10, x11, x12, x13, x14, x15, x16, x17, x18] b := by
      unfold r4B
      simp [e]
    rw [x_forC]
    generalize r4B = S at st ih ⊢
    simp only [x_bName, List.set_cons_succ, List.set_cons_zero, st, ih]
theorem s15 {g : Rat} {t : Nat} (h : Ps t g) (x1 x2 x3 x4 x5 x6 x8 x9 x10 x11 x12 x13 x14 x15 x17 : DL.Slot) (b : Bw) : ∀ (ds : List D) (k : Nat) (x7 : DL.Slot), k + ds.length = t → ∃ y, forL (bName 7) r15B ds [.val .bowl, x1, x2, x3, x4, x5, x6, x7, x8, x9, x10, x11, x12, x13, x14, x15, .val (rq g), x17, .val (rq (g ^ k))] b = .nx [.val .bowl, x1, x2, x3, x4, x5, x6, y, x8, x9, x10, x11, x12, x13, x14, x15, .val (rq g), x17, .val (rq (g ^ t))] b
  | [], k, x7, hk => ⟨x7, by
    have : k = t := by simpa using hk
    subst this
    rfl⟩
  | d :: ds, k, x7, hk => by
    rw [List.length_cons] at hk
    obtain ⟨y, ih⟩ := s15 h x1 x2 x3 x4 x5 x6 x8 x9 x10 x11 x12 x13 x14 x15 x17 b ds (k + 1) (.val d) (by omega)
    refine ⟨y, ?_⟩
    have g1 : Sm 400 g := by
      have := h 1 (by omega)
      rw [Rat.pow_succ, Rat.pow_zero, Rat.one_mul] at this
      exact this
    have e := law_times_ev (g ^ k) g b ((h k (by omega)).mono (by decide)) (g1.mono (by decide))
    rw [← Rat.pow_succ] at e
    have st : r15B [.val .bowl, x1, x2, x3, x4, x5, x6, .val d, x8, x9, x10, x11, x12, x13, x14, x15, .val (rq g), x17, .val (rq (g ^ k))] b = .nx [.val .bowl, x1, x2, x3, x4, x5, x6, .val d, x8, x9, x10, x11, x12, x13, x14, x15, .val (rq g), x17, .val (rq (g ^ (k + 1)))] b := by
      unfold r15B
      simp [e]
    rw [x_forC]
    generalize r15B = S at st ih ⊢
    simp only [x_bName, List.set_cons_succ, List.set_cons_zero, st, ih]
theorem s5 {p q : Rat} (hc : Circ (nmsN 2) (twoT p q)) (t : Nat) (ht : t ≤ 6) (x1 x2 x7 x8 x9 x10 x11 x12 x13 x14 x15 x16 x17 x18 : DL.Slot) (b : Bw) : r5 [.val .bowl, x1, x2, .val (.int (t : Nat)), .val (cirO (nmsN 2) (twoT p q)), .val (rq (absQ (1 - (p + q)))), .val (rq (absQ (1 - (p + q)) ^ t)), x7, x8, x9, x10, x11, x12, x13, x14, x15, x16, x17, x18] b = .nx [.val .bowl, x1, x2, .val (.int (t : Nat)), .val (cirO (nmsN 2) (twoT p q)), .val (rq (absQ (1 - (p + q)))), .val (rq (absQ (1 - (p + q)) ^ t)), x7, x8, x9, x10, x11, x12, x13, x14, x15, x16, x17, x18] b := by
  have e1 : m_strain [cirO (nmsN 2) (twoT p q), .int 1] b = .ok (.val (rq (absQ (1 - (p + q))))) b := by
    have := strain_ev (nmsN 2) (twoT p q) hc 1 (by omega) b
    rw [two_strain hc, Rat.pow_succ, Rat.pow_zero, Rat.one_mul] at this
    exact this
  have e2 := strain_ev (nmsN 2) (twoT p q) hc t (by omega) b
  rw [two_strain hc] at e2
  have q1 := same_ev b 8 (.lst [rq (absQ (1 - (p + q))), rq (absQ (1 - (p + q)) ^ t)]) ⟨by simp, fun d hd => by
    simp only [List.mem_cons, List.not_mem_nil, or_false] at hd
    rcases hd with rfl | rfl <;> exact sP_rq 5 _⟩
  unfold r5
  generalize absQ (1 - (p + q)) ^ t = A at e2 q1 ⊢
  generalize absQ (1 - (p + q)) = G at e1 q1 ⊢
  generalize twoT p q = T at e1 e2 ⊢
  simp [e1, e2, LIM, q1]
theorem s6 {n : Nat} {b : Bw} (I : Inv n b) (hn : n + 1 ≤ 1000000) (x1 x2 x3 x4 x5 x6 x7 x8 x9 x10 x11 x12 x13 x14 x15 x16 x17 x18 : DL.Slot) : ∃ (m : Nat) (b' : Bw), 2 ≤ m ∧ m ≤ 5 ∧ r6 [.val .bowl, x1, x2, x3, x4, x5, x6, x7, x8, x9, x10, x11, x12, x13, x14, x15, x16, x17, x18] b = .nx [.val .bowl, x1, x2, x3, x4, x5, x6, x7, .val (.int (m : Nat)), x9, x10, x11, x12, x13, x14, x15, x16, x17, x18] b' ∧ Inv (n + 1) b' := by
  obtain ⟨i, b1, e1, hi, I1⟩ := below_ev I (by omega) 4 (by decide) (by decide)
  obtain ⟨m, hm⟩ : ∃ m, m = 2 + i := ⟨_, rfl⟩
  have c : (2 : Int) + (i : Int) = (m : Int) := by omega
  have e1' : m__law_below [.bowl, .int 4] b = .ok (.val (.int (i : Nat))) b1 := e1
  refine ⟨m, b1, by omega, by omega, ?_, I1⟩
  unfold r6
  simp [e1', c]
noncomputable abbrev eN : Ev := (dOpL (f1 tupleSD) (dCons (dSl (dC (.str "bcdfg")) dNoPart (dPart (dVar 8))) dNil))
theorem cutN (m : Nat) (h2 : 2 ≤ m) (h5 : m ≤ 5) : okS (L2.cutS "bcdfg" none (some (m : Nat))) = true ∧ okSigns (L2.cutS "bcdfg" none (some (m : Nat))) = true ∧ (L2.cutS "bcdfg" none (some (m : Nat))).cps.toList = ([98, 99, 100, 102, 103] : List Nat).take m := by
  rcases (by omega : m = 2 ∨ m = 3 ∨ m = 4 ∨ m = 5) with rfl | rfl | rfl | rfl <;> decide +kernel
theorem names_ev (m : Nat) (h2 : 2 ≤ m) (h5 : m ≤ 5) (x1 x2 x3 x4 x5 x6 x7 x9 x10 x11 x12 x13 x14 x15 x16 x17 x18 : DL.Slot) (b : Bw) : eN [.val .bowl, x1, x2, x3, x4, x5, x6, x7, .val (.int (m : Nat)), x9, x10, x11, x12, x13, x14, x15, x16, x17, x18] b = .ok (.val (.tup ((nmsN m).map .str))) b := by
  obtain ⟨k1, k2, k3⟩ := cutN m h2 h5
  have f : fSl (.str "bcdfg") none (some (m : Nat)) = some (.val (.str (L2.cutS "bcdfg" none (some (m : Nat))))) := if_pos k1
  have g : tupleSD (.str (L2.cutS "bcdfg" none (some (m : Nat)))) = some (.val (.tup ((nmsN m).map .str))) := by
    show (if okSigns (L2.cutS "bcdfg" none (some (m : Nat))) then some (Wv.val (.tup (signs (L2.cutS "bcdfg" none (some (m : Nat)))))) else none) = _
    rw [if_pos k2]
    unfold signs nmsN
    rw [k3, List.map_take, List.map_take]
    rfl
  unfold eN
  generalize L2.cutS "bcdfg" none (some (m : Nat)) = Z at f g
  generalize D.str "bcdfg" = W at f ⊢
  simp [dSl, dNoPart, dPart, part1, f, g]
noncomputable abbrev eU : Ev := (dOp2 fAddG (dOpL fTup (dCons (dOpL fTup (dCons (dC (.int 1)) (dCons (dC (.int 1)) dNil))) dNil)) (dOp2 fMulG (dOpL fTup (dCons (dOpL fTup (dCons (dC (.int 0)) (dCons (dC (.int 1)) dNil))) dNil)) (dOp2 fSub (dVar 8) (dC (.int 1)))))
theorem unit_ev (m : Nat) (h2 : 2 ≤ m) (h5 : m ≤ 5) (x1 x2 x3 x4 x5 x6 x7 x9 x10 x11 x12 x13 x14 x15 x16 x17 x18 : DL.Slot) (b : Bw) : eU [.val .bowl, x1, x2, x3, x4, x5, x6, x7, .val (.int (m : Nat)), x9, x10, x11, x12, x13, x14, x15, x16, x17, x18] b = .ok (.val (rowD (unitQ m 0))) b := by
  unfold eU
  rcases (by omega : m = 2 ∨ m = 3 ∨ m = 4 ∨ m = 5) with rfl | rfl | rfl | rfl <;> simp [LIM, repOk] <;> rfl
noncomputable abbrev eM : Ev := (dOp2 fMulG (dOpL fTup (dCons (dCall m__law_fr (dCons (dC (.int 1)) (dCons (dVar 8) dNil))) dNil)) (dVar 8))
theorem mean_ev (m : Nat) (h2 : 2 ≤ m) (h5 : m ≤ 5) (x1 x2 x3 x4 x5 x6 x7 x9 x10 x11 x12 x13 x14 x15 x16 x17 x18 : DL.Slot) (b : Bw) : eM [.val .bowl, x1, x2, x3, x4, x5, x6, x7, .val (.int (m : Nat)), x9, x10, x11, x12, x13, x14, x15, x16, x17, x18] b = .ok (.val (rowD (List.replicate m (Rat.divInt (1 : Nat) (m : Nat))))) b := by
  have f : m__law_fr [.int 1, .int (m : Nat)] b = .ok (.val (rq (Rat.divInt (1 : Nat) (m : Nat)))) b := law_fr_ev 1 m b (by omega) (Nat.lt_of_le_of_lt (show (m : Int).natAbs ≤ 5 by omega) (by decide))
  generalize Rat.divInt (1 : Nat) (m : Nat) = z at f ⊢
  have rep : repOk (m : Nat) 1 = true := by
    unfold repOk
    simp
    omega
  unfold eM
  simp [LIM, f, rep, rowD]
theorem s7 {n : Nat} {b : Bw} (I : Inv n b) (hn : n + 1 ≤ 1000000) (m : Nat) (h2 : 2 ≤ m) (h5 : m ≤ 5) (x1 x2 x3 x4 x5 x6 x7 x9 x10 x11 x12 x13 x14 x15 x16 x17 x18 : DL.Slot) : ∃ (r : List Rat) (b' : Bw), RowOk m r ∧ r7 [.val .bowl, x1, x2, x3, x4, x5, x6, x7, .val (.int (m : Nat)), x9, x10, x11, x12, x13, x14, x15, x16, x17, x18] b = .nx [.val .bowl, x1, x2, x3, x4, x5, x6, x7, .val (.int (m : Nat)), .val (.tup ((nmsN m).map .str)), .val (rowD r), x11, x12, x13, x14, x15, x16, x17, x18] b' ∧ Inv (n + 1) b' := by
  have e1 := names_ev m h2 h5 x1 x2 x3 x4 x5 x6 x7 x9 x10 x11 x12 x13 x14 x15 x16 x17 x18 b
  have e2 := unit_ev m h2 h5 x1 x2 x3 x4 x5 x6 x7 x9 x10 x11 x12 x13 x14 x15 x16 x17 x18 b
  have e3 := mean_ev m h2 h5 x1 x2 x3 x4 x5 x6 x7 x9 x10 x11 x12 x13 x14 x15 x16 x17 x18 b
  obtain ⟨d, b1, e4, hd, I1⟩ := one_ev I (by omega) [rowD (unitQ m 0), rowD (List.replicate m (Rat.divInt (1 : Nat) (m : Nat)))] _ (.inl rfl) (by simp) (by simp)
  have fin : ∀ r, RowOk m r → d = rowD r → ∃ (r : List Rat) (b' : Bw), RowOk m r ∧ r7 [.val .bowl, x1, x2, x3, x4, x5, x6, x7, .val (.int (m : Nat)), x9, x10, x11, x12, x13, x14, x15, x16, x17, x18] b = .nx [.val .bowl, x1, x2, x3, x4, x5, x6, x7, .val (.int (m : Nat)), .val (.tup ((nmsN m).map .str)), .val (rowD r), x11, x12, x13, x14, x15, x16, x17, x18] b' ∧ Inv (n + 1) b' := fun r hr hd => by
    subst hd
    refine ⟨r, b1, hr, ?_, I1⟩
    have ev : r7 = (dPar2 9 10 (dVal eN) (dVal (dCall m__law_one (dCons (dVar 0) (dCons (dOpL fTup (dCons eU (dCons eM dNil))) dNil))))) := rfl
    rw [ev]
    generalize eN = A at e1 ⊢
    generalize eU = B at e2 ⊢
    generalize eM = C at e3 ⊢
    generalize (nmsN m).map D.str = N at e1 ⊢
    generalize rowD (List.replicate m (Rat.divInt (1 : Nat) (m : Nat))) = W at e3 e4
    simp [e1, e2, e3, LIM, e4]
  simp only [List.mem_cons, List.not_mem_nil, or_false] at hd
  rcases hd with rfl | rfl
  · exact fin _ (unit_row (by omega)) rfl
  · exact fin _ (mean_row (by omega) h5) rfl
noncomputable abbrev eI : Ev := (dIf (dTst (dOp2 fEq (dVar 13) (dVar 14))) (dOpL fTup (dCons (dC (.int 1)) (dCons (dC (.int 1)) dNil))) (dOpL fTup (dCons (dC (.int 0)) (dCons (dC (.int 1)) dNil))))
noncomputable abbrev eJ : Ev := (dOpL (f1 tupleD) (dCons (dComp (dRng1 (dVar 8)) (bName 13) dYes eI [13]) dNil))
noncomputable abbrev eK : Ev := (dOpL (f1 tupleD) (dCons (dComp (dRng1 (dVar 8)) (bName 14) dYes eJ [14]) dNil))
theorem alone_ev (m : Nat) (h5 : m ≤ 5) (x1 x2 x3 x4 x5 x6 x7 x9 x10 x11 x12 x15 x16 x17 x18 : DL.Slot) (b : Bw) : eK [.val .bowl, x1, x2, x3, x4, x5, x6, x7, .val (.int (m : Nat)), x9, x10, x11, x12, .un, .un, x15, x16, x17, x18] b = .ok (.val (.tup ((uT m).map rowD))) b := by
  have r := rng1_eq m b (by omega)
  have inner : ∀ k : Nat, compL (bName 13) dYes eI [.val .bowl, x1, x2, x3, x4, x5, x6, x7, .val (.int (m : Nat)), x9, x10, x11, x12, .un, .val (.int (k : Nat)), x15, x16, x17, x18] ((List.range m).map fun (i : Nat) => D.int (i : Nat)) b = .ok ((unitQ m k).map rq) b := fun k => by
    have c := compL_map (bd := bName 13) (tt := dYes) (te := eI) (env := [.val .bowl, x1, x2, x3, x4, x5, x6, x7, .val (.int (m : Nat)), x9, x10, x11, x12, .un, .val (.int (k : Nat)), x15, x16, x17, x18]) (b := b) (fun (i : Nat) => D.int (i : Nat)) (fun j => rq (if j = k then 1 else 0)) (List.range m) fun j hj => by
      refine ⟨_, .val (rq (if j = k then 1 else 0)), rfl, rfl, ?_, rfl⟩
      unfold eI
      by_cases z : j = k
      · subst z
        simp [LIM, o11]
      · have z2 : ¬ ((j : Int) = (k : Int)) := by omega
        simp [z, z2, LIM, o01]
    rw [c]
    simp [unitQ]
  have c := compL_map (bd := bName 14) (tt := dYes) (te := eJ) (env := [.val .bowl, x1, x2, x3, x4, x5, x6, x7, .val (.int (m : Nat)), x9, x10, x11, x12, .un, .un, x15, x16, x17, x18]) (b := b) (fun (i : Nat) => D.int (i : Nat)) (fun i => rowD (unitQ m i)) (List.range m) fun k hk => by
    refine ⟨_, .val (rowD (unitQ m k)), rfl, rfl, ?_, rfl⟩
    have q := inner k
    unfold eJ
    generalize eI = G at q ⊢
    simp [r, noOwn, wipeE, q, rowD]
  unfold eK
  generalize eJ = G at c ⊢
  simp [r, noOwn, wipeE, c, uT]
theorem s8 (m : Nat) (h2 : 2 ≤ m) (h5 : m ≤ 5) {r : List Rat} (hr : RowOk m r) (x1 x2 x3 x4 x5 x6 x7 x11 x12 x15 x16 x17 x18 : DL.Slot) (b : Bw) : r8 [.val .bowl, x1, x2, x3, x4, x5, x6, x7, .val (.int (m : Nat)), .val (.tup ((nmsN m).map .str)), .val (rowD r), x11, x12, .un, .un, x15, x16, x17, x18] b = .nx [.val .bowl, x1, x2, x3, x4, x5, x6, x7, .val (.int (m : Nat)), .val (.tup ((nmsN m).map .str)), .val (rowD r), .val (cirO (nmsN m) (List.replicate m r)), .val (cirO (nmsN m) (uT m)), .un, .un, x15, x16, x17, x18] b := by
  have e1 := make_ev (nmsN m) (List.replicate m r) (like_circ (by omega) h5 hr) b
  have e2 := make_ev (nmsN m) (uT m) (alone_circ (by omega) h5) b
  have e3 := alone_ev m h5 x1 x2 x3 x4 x5 x6 x7 (.val (.tup ((nmsN m).map .str))) (.val (rowD r)) x11 x12 x15 x16 x17 x18 b
  have rep : repOk (m : Nat) 1 = true := by
    unfold repOk
    simp
    omega
  rw [List.map_replicate] at e1
  have ev : r8 = (dPar2 11 12 (dVal (dCall (fitM 2 m_Circle) (dCons (dVar 9) (dCons (dOp2 fMulG (dOpL fTup (dCons (dVar 10) dNil)) (dVar 8)) dNil)))) (dVal (dCall (fitM 2 m_Circle) (dCons (dVar 9) (dCons eK dNil))))) := rfl
  rw [ev]
  generalize eK = A at e3 ⊢
  generalize (nmsN m).map D.str = N at e1 e2 e3 ⊢
  generalize (uT m).map rowD = U at e2 e3
  simp [LIM, rep, e1, e3, e2]
def hfQ : Rat := ⟨1, 2, by decide, by decide⟩
theorem s9 (m : Nat) (h2 : 2 ≤ m) (h5 : m ≤ 5) {r : List Rat} (hr : RowOk m r) (t : Nat) (h1 : 1 ≤ t) (ht : t ≤ 6) (x1 x2 x4 x5 x6 x7 x8 x9 x10 x13 x14 x15 x16 x17 x18 : DL.Slot) (b : Bw) : r9 [.val .bowl, x1, x2, .val (.int (t : Nat)), x4, x5, x6, x7, x8, x9, x10, .val (cirO (nmsN m) (List.replicate m r)), .val (cirO (nmsN m) (uT m)), x13, x14, x15, x16, x17, x18] b = .nx [.val .bowl, x1, x2, .val (.int (t : Nat)), x4, x5, x6, x7, x8, x9, x10, .val (cirO (nmsN m) (List.replicate m r)), .val (cirO (nmsN m) (uT m)), x13, x14, x15, x16, x17, x18] b := by
  have lc := like_circ (by omega) h5 hr
  have ac := alone_circ (n := m) (by omega) h5
  have ln := nmsN_len h5
  have lz : ∀ k, strainQ (cntQ (List.replicate m r) (nmsN m).length (k + 1)) = 0 := like_strain lc fun p hp => List.eq_of_mem_replicate hp
  have l0 : strainQ (cntQ (List.replicate m r) (nmsN m).length 0) = 1 := strain_zero lc (by omega)
  have a0 : strainQ (cntQ (uT m) (nmsN m).length 0) = 1 := strain_zero ac (by omega)
  have az : ∀ k, cntQ (uT m) (nmsN m).length k = cntQ (uT m) (nmsN m).length 0 := alone_cnt fun m' hl => alone_beat m' (by rw [hl, ln])
  have e1 := strain_ev _ _ lc t (by omega) b
  obtain ⟨k, rfl⟩ : ∃ k, t = k + 1 := ⟨t - 1, by omega⟩
  rw [lz] at e1
  have e2 := strain_ev _ _ ac (k + 1) (by omega) b
  rw [az, a0] at e2
  have e3 : m_beats_for_all [cirO (nmsN m) (List.replicate m r), rq 0] b = .ok (.val (.int 1)) b := bfa_one _ _ lc 0 (Sm0 _ (by decide)) Rat.le_refl (by rw [l0]; exact one_sm) (by rw [l0]; decide) (by rw [lz 0]; exact Sm0 _ (by decide)) (by rw [lz 0]; decide) b
  have e4 : m_beats_for_all [cirO (nmsN m) (uT m), .tup [.int 1, .int 2]] b = .ok (.val .non) b := bfa_none _ _ ac az hfQ ⟨by decide, by decide⟩ (by decide) (by rw [a0]; exact one_sm) (by rw [a0]; decide) b
  have q1 := same_ev b 8 (.lst [rq 0, rq 1, .int 1, .non]) ⟨by simp, fun d hd => by
    simp only [List.mem_cons, List.not_mem_nil, or_false] at hd
    rcases hd with rfl | rfl | rfl | rfl
    · exact sP_rq 5 _
    · exact sP_rq 5 _
    · trivial
    · trivial⟩
  unfold r9
  generalize cirO (nmsN m) (List.replicate m r) = A at e1 e3 ⊢
  generalize cirO (nmsN m) (uT m) = B at e2 e4 ⊢
  generalize ((k + 1 : Nat) : Int) = t at e1 e2 ⊢
  simp [LIM, o01, o11, e1, e2, e3, e4, q1]
theorem s10 {n : Nat} {b : Bw} (I : Inv n b) (hn : n + 1 ≤ 1000000) (x1 x2 x3 x4 x5 x6 x7 x8 x9 x10 x11 x12 x13 x14 x15 x16 x17 x18 : DL.Slot) : ∃ (k : Nat) (b' : Bw), k ≤ 5 ∧ r10 [.val .bowl, x1, x2, x3, x4, x5, x6, x7, x8, x9, x10, x11, x12, x13, x14, x15, x16, x17, x18] b = .nx [.val .bowl, x1, x2, x3, x4, x5, x6, x7, x8, x9, x10, x11, x12, x13, x14, .val (rq (Rat.divInt (k : Nat) (5 : Nat))), x16, x17, x18] b' ∧ Inv (n + 1) b' := by
  obtain ⟨i, b1, e1, hi, I1⟩ := below_ev I (by omega) 4 (by decide) (by decide)
  obtain ⟨m, hm⟩ : ∃ m, m = 1 + i := ⟨_, rfl⟩
  have c : (1 : Int) + (i : Int) = (m : Int) := by omega
  have e1' : m__law_below [.bowl, .int 4] b = .ok (.val (.int (i : Nat))) b1 := e1
  have f : m__law_fr [.int (m : Nat), .int 5] b1 = .ok (.val (rq (Rat.divInt (m : Nat) (5 : Nat)))) b1 := law_fr_ev m 5 b1 (by decide) (by decide)
  refine ⟨m, b1, by omega, ?_, I1⟩
  unfold r10
  generalize Rat.divInt (m : Nat) (5 : Nat) = z at f ⊢
  simp [e1', c, f]
theorem s11 {f : Rat} (hf : En f) (x1 x2 x3 x4 x5 x6 x7 x8 x9 x10 x11 x12 x13 x14 x16 x17 x18 : DL.Slot) (b : Bw) : r11 [.val .bowl, x1, x2, x3, x4, x5, x6, x7, x8, x9, x10, x11, x12, x13, x14, .val (rq f), x16, x17, x18] b = .nx [.val .bowl, x1, x2, x3, x4, x5, x6, x7, x8, x9, x10, x11, x12, x13, x14, .val (rq f), .val (rq (1 - f)), x17, x18] b := by
  have l1 := law_lessB_ev 1 f b one_sm ((en_sm hf).mono (by decide))
  unfold r11
  simp [LIM, o11, l1]
theorem s12 (m : Nat) (h2 : 2 ≤ m) (h5 : m ≤ 5) (x1 x2 x3 x4 x5 x6 x7 x9 x10 x11 x12 x13 x14 x15 x16 x17 x18 : DL.Slot) (b : Bw) : r12 [.val .bowl, x1, x2, x3, x4, x5, x6, x7, .val (.int (m : Nat)), x9, x10, x11, x12, x13, x14, x15, x16, x17, x18] b = .nx [.val .bowl, x1, x2, x3, x4, x5, x6, x7, .val (.int (m : Nat)), x9, x10, x11, x12, x13, x14, x15, x16, .own (.lst [rowD (unitQ m 0)]), x18] b := by
  have e2 := unit_ev m h2 h5 x1 x2 x3 x4 x5 x6 x7 x9 x10 x11 x12 x13 x14 x15 x16 x17 x18 b
  have ev : r12 = (dAsg 17 (dOpL fLst (dCons eU dNil))) := rfl
  rw [ev]
  generalize eU = A at e2 ⊢
  simp [e2, LIM]
noncomputable abbrev eL : Ev := (dIf (dTst (dOp2 fEq (dVar 13) (dC (.int 0)))) (dVar 15) (dIf (dTst (dOp2 fEq (dVar 13) (dVar 14))) (dVar 16) (dOpL fTup (dCons (dC (.int 0)) (dCons (dC (.int 1)) dNil)))))
theorem lone_ev (m k : Nat) (f : Rat) (h5 : m ≤ 5) (acc : List D) (ha : acc.length ≤ 10) (x1 x2 x3 x4 x5 x6 x7 x9 x10 x11 x12 x18 : DL.Slot) (b : Bw) : r13B [.val .bowl, x1, x2, x3, x4, x5, x6, x7, .val (.int (m : Nat)), x9, x10, x11, x12, .un, .val (.int (k : Nat)), .val (rq f), .val (rq (1 - f)), .own (.lst acc), x18] b = .nx [.val .bowl, x1, x2, x3, x4, x5, x6, x7, .val (.int (m : Nat)), x9, x10, x11, x12, .un, .val (.int (k : Nat)), .val (rq f), .val (rq (1 - f)), .own (.lst (acc ++ [rowD (loneR m f k)])), x18] b := by
  have r := rng1_eq m b (by omega)
  have c := compL_map (bd := bName 13) (tt := dYes) (te := eL) (env := [.val .bowl, x1, x2, x3, x4, x5, x6, x7, .val (.int (m : Nat)), x9, x10, x11, x12, .un, .val (.int (k : Nat)), .val (rq f), .val (rq (1 - f)), .own (.lst acc), x18]) (b := b) (fun (i : Nat) => D.int (i : Nat)) (fun j => rq (if j = 0 then f else if j = k then 1 - f else 0)) (List.range m) fun j hj => by
    refine ⟨_, .val (rq (if j = 0 then f else if j = k then 1 - f else 0)), rfl, rfl, ?_, rfl⟩
    unfold eL
    by_cases z0 : j = 0
    · subst z0
      simp
    · have z1 : ¬ ((j : Int) = 0) := by omega
      by_cases z : j = k
      · subst z
        simp [z0, z1]
      · have z2 : ¬ ((j : Int) = (k : Int)) := by omega
        simp [z0, z1, z, z2, LIM, o01]
  have ev : r13B = (dApp 17 (dOpL (f1 tupleD) (dCons (dComp (dRng1 (dVar 8)) (bName 13) dYes eL [13]) dNil))) := rfl
  have lim : acc.length < LIM := Nat.lt_of_le_of_lt ha (by decide)
  rw [ev]
  generalize eL = G at c ⊢
  simp [r, noOwn, wipeE, c, loneR, rowD, lim]
theorem s13 (m : Nat) (f : Rat) (h5 : m ≤ 5) (x1 x2 x3 x4 x5 x6 x7 x9 x10 x11 x12 x18 : DL.Slot) (b : Bw) : ∀ (c i : Nat) (acc : List D) (x14 : DL.Slot), acc.length + c ≤ 10 → ∃ y, forL (bName 14) r13B ((List.range' i c).map fun (i : Nat) => D.int (i : Nat)) [.val .bowl, x1, x2, x3, x4, x5, x6, x7, .val (.int (m : Nat)), x9, x10, x11, x12, .un, x14, .val (rq f), .val (rq (1 - f)), .own (.lst acc), x18] b = .nx [.val .bowl, x1, x2, x3, x4, x5, x6, x7, .val (.int (m : Nat)), x9, x10, x11, x12, .un, y, .val (rq f), .val (rq (1 - f)), (.own (.lst (acc ++ (List.range' i c).map fun k => rowD (loneR m f k)))), x18] b
  | 0, i, acc, x14, h => ⟨x14, by
    show RS.nx _ _ = _
    simp⟩
  | c + 1, i, acc, x14, h => by
    have st := lone_ev m i f h5 acc (by omega) x1 x2 x3 x4 x5 x6 x7 x9 x10 x11 x12 x18 b
    obtain ⟨y, ih⟩ := s13 m f h5 x1 x2 x3 x4 x5 x6 x7 x9 x10 x11 x12 x18 b c (i + 1) (acc ++ [rowD (loneR m f i)]) (.val (.int (i : Nat))) (by simp; omega)
    refine ⟨y, ?_⟩
    rw [show List.range' i (c + 1) = i :: List.range' (i + 1) c from rfl, List.map_cons, List.map_cons, x_forC]
    rw [List.append_assoc, List.singleton_append] at ih
    generalize r13B = S at st ih ⊢
    simp only [x_bName, List.set_cons_succ, List.set_cons_zero, st, ih]
theorem s14 (x1 x2 x3 x4 x5 x6 x7 x8 x9 x10 x11 x12 x13 x14 x15 x16 x17 x18 : DL.Slot) (b : Bw) : r14 [.val .bowl, x1, x2, x3, x4, x5, x6, x7, x8, x9, x10, x11, x12, x13, x14, x15, x16, x17, x18] b = .nx [.val .bowl, x1, x2, x3, x4, x5, x6, x7, x8, x9, x10, x11, x12, x13, x14, x15, x16, x17, .val (rq 1)] b := by
  unfold r14
  simp [LIM, o11]
theorem sZ (m : Nat) (h2 : 2 ≤ m) (h5 : m ≤ 5) {f : Rat} (hf : En f) (hf' : En (1 - f)) (t : Nat) (ht : t ≤ 6) (x1 x2 x4 x5 x6 x7 x8 x10 x11 x12 x13 x14 x15 x16 : DL.Slot) (b : Bw) : rZ [.val .bowl, x1, x2, .val (.int (t : Nat)), x4, x5, x6, x7, x8, .val (.tup ((nmsN m).map .str)), x10, x11, x12, x13, x14, x15, x16, .own (.lst ((loneT m f).map rowD)), .val (rq ((1 - f) ^ t))] b = .rt (.val (.bl true)) b := by
  have lc := lone_circ (n := m) (by omega) h5 hf hf'
  have mk := make_ev _ _ lc b
  have ln := nmsN_len h5
  have e1 := strain_ev _ _ lc t (by omega) b
  rw [lone_strain lc (fun m' hl => lone_beat (by omega) f m' (by rw [hl, ln])) hf'.1 (by omega) t] at e1
  have q1 := same_ev b 8 (rq ((1 - f) ^ t)) (sP_rq 6 _)
  unfold rZ
  generalize (1 - f) ^ t = A at e1 q1 ⊢
  generalize (loneT m f).map rowD = B at mk ⊢
  generalize (nmsN m).map D.str = N at mk ⊢
  simp [frzS, mk, e1, q1]
theorem rg2 (m : Nat) (h2 : 1 ≤ m) (h5 : m ≤ 5) (b : Bw) : rng2 (.int 1) (.int (m : Nat)) b = .ok ((List.range' 1 (m - 1)).map fun (i : Nat) => D.int (i : Nat)) b := by
  have ok : (rngOk 1 && rngOk (m : Nat)) = true := by
    unfold rngOk
    simp
    omega
  show (if rngOk 1 && rngOk (m : Nat) then Res.ok (rngL 1 (m : Nat)) b else .bad) = _
  rw [if_pos ok]
  congr 1
  unfold rngL
  rw [List.range'_eq_map_range, List.map_map]
  have e : ((m : Int) - 1).toNat = m - 1 := by omega
  rw [e]
  refine List.map_congr_left fun x _ => ?_
  show D.int (1 + (x : Int)) = D.int ((1 + x : Nat) : Int)
  congr 1
theorem gap_sm {p q : Rat} (hp : En p) (hq : En q) : Sm 40 (absQ (1 - (p + q))) := by
  have b : Bq L20 (4 * L20 + (4 * L20 + 4 * L20)) (1 + -(p + q)) := en1.2.add (hp.2.add hq.2).neg
  have s : Sm 40 (1 - (p + q)) := by
    rw [Rat.sub_eq_add_neg]
    exact b.sm (by decide) (by decide)
  unfold absQ
  split
  · exact s.neg
  · exact s
theorem law_ok (ns : List Int) : m_law [.lst (ns.map D.int)] none = .ok (.val (.bl true)) none := law_of_right (fun n b I hn => by
  obtain ⟨i, j, t, b1, hi, hj, h1, h6, e0, I1⟩ := s0 I (by omega) .un .un .un .un .un .un .un .un .un .un .un .un .un .un .un .un .un .un
  have ep := (en_fr (s := 10) (by decide) (by decide) hi).1
  have eq := (en_fr (s := 10) (by decide) (by decide) hj).1
  have hc := two_circ hi hj
  generalize Rat.divInt (i : Nat) (10 : Nat) = p at ep hc e0
  generalize Rat.divInt (j : Nat) (10 : Nat) = q at eq hc e0
  have e1 := s1 ep eq hc (.val (.int (t : Nat))) .un .un .un .un .un .un .un .un .un .un .un .un .un .un .un b1
  have e2 := s2 ep eq (.val (.int (t : Nat))) (.val (cirO (nmsN 2) (twoT p q))) .un .un .un .un .un .un .un .un .un .un .un .un .un .un b1
  have e3 := s3 (1 - (p + q)) (.val (rq p)) (.val (rq q)) (.val (.int (t : Nat))) (.val (cirO (nmsN 2) (twoT p q))) .un .un .un .un .un .un .un .un .un .un .un .un .un b1
  have ps := ps_of (gap_sm ep eq)
  have rt : ∀ bb, rng1 (.int (t : Nat)) bb = .ok ((List.range t).map fun (i : Nat) => D.int (i : Nat)) bb := fun bb => rng1_eq t bb (by omega)
  have psT : Ps t (absQ (1 - (p + q))) := fun k hk => ps k (by omega)
  obtain ⟨y7, e4⟩ := s4 psT (.val (rq p)) (.val (rq q)) (.val (.int (t : Nat))) (.val (cirO (nmsN 2) (twoT p q))) .un .un .un .un .un .un .un .un .un .un .un b1 ((List.range t).map fun (i : Nat) => D.int (i : Nat)) 0 .un (by simp)
  rw [Rat.pow_zero] at e4
  have e4' : r4 [.val .bowl, .val (rq p), .val (rq q), .val (.int (t : Nat)), .val (cirO (nmsN 2) (twoT p q)), .val (rq (absQ (1 - (p + q)))), .val (rq 1), .un, .un, .un, .un, .un, .un, .un, .un, .un, .un, .un, .un] b1 = .nx [.val .bowl, .val (rq p), .val (rq q), .val (.int (t : Nat)), .val (cirO (nmsN 2) (twoT p q)), .val (rq (absQ (1 - (p + q)))), .val (rq (absQ (1 - (p + q)) ^ t)), y7, .un, .un, .un, .un, .un, .un, .un, .un, .un, .un, .un] b1 := by
    unfold r4
    generalize r4B = S at e4 ⊢
    generalize (List.range t).map (fun (i : Nat) => D.int (i : Nat)) = R at e4 rt
    simp [rt, e4]
  have e5 := s5 hc t h6 (.val (rq p)) (.val (rq q)) (y7) .un .un .un .un .un .un .un .un .un .un .un b1
  obtain ⟨m, b2, h2, h5, e6, I2⟩ := s6 I1 (by omega) (.val (rq p)) (.val (rq q)) (.val (.int (t : Nat))) (.val (cirO (nmsN 2) (twoT p q))) (.val (rq (absQ (1 - (p + q))))) (.val (rq (absQ (1 - (p + q)) ^ t))) (y7) .un .un .un .un .un .un .un .un .un .un .un
  obtain ⟨r, b3, hr, e7, I3⟩ := s7 I2 (by omega) m h2 h5 (.val (rq p)) (.val (rq q)) (.val (.int (t : Nat))) (.val (cirO (nmsN 2) (twoT p q))) (.val (rq (absQ (1 - (p + q))))) (.val (rq (absQ (1 - (p + q)) ^ t))) (y7) .un .un .un .un .un .un .un .un .un .un
  have e8 := s8 m h2 h5 hr (.val (rq p)) (.val (rq q)) (.val (.int (t : Nat))) (.val (cirO (nmsN 2) (twoT p q))) (.val (rq (absQ (1 - (p + q))))) (.val (rq (absQ (1 - (p + q)) ^ t))) (y7) .un .un .un .un .un .un b3
  have e9 := s9 m h2 h5 hr t h1 h6 (.val (rq p)) (.val (rq q)) (.val (cirO (nmsN 2) (twoT p q))) (.val (rq (absQ (1 - (p + q))))) (.val (rq (absQ (1 - (p + q)) ^ t))) (y7) (.val (.int (m : Nat))) (.val (.tup ((nmsN m).map .str))) (.val (rowD r)) .un .un .un .un .un .un b3
  obtain ⟨k, b4, hk, e10, I4⟩ := s10 I3 (by omega) (.val (rq p)) (.val (rq q)) (.val (.int (t : Nat))) (.val (cirO (nmsN 2) (twoT p q))) (.val (rq (absQ (1 - (p + q))))) (.val (rq (absQ (1 - (p + q)) ^ t))) (y7) (.val (.int (m : Nat))) (.val (.tup ((nmsN m).map .str))) (.val (rowD r)) (.val (cirO (nmsN m) (List.replicate m r))) (.val (cirO (nmsN m) (uT m))) .un .un .un .un .un .un
  have ef := (en_fr (s := 5) (by decide) (by decide) hk).1
  have ef' := (en_fr (s := 5) (by decide) (by decide) hk).2
  generalize Rat.divInt (k : Nat) (5 : Nat) = f at ef ef' e10
  have e11 := s11 ef (.val (rq p)) (.val (rq q)) (.val (.int (t : Nat))) (.val (cirO (nmsN 2) (twoT p q))) (.val (rq (absQ (1 - (p + q))))) (.val (rq (absQ (1 - (p + q)) ^ t))) (y7) (.val (.int (m : Nat))) (.val (.tup ((nmsN m).map .str))) (.val (rowD r)) (.val (cirO (nmsN m) (List.replicate m r))) (.val (cirO (nmsN m) (uT m))) .un .un .un .un .un b4
  have e12 := s12 m h2 h5 (.val (rq p)) (.val (rq q)) (.val (.int (t : Nat))) (.val (cirO (nmsN 2) (twoT p q))) (.val (rq (absQ (1 - (p + q))))) (.val (rq (absQ (1 - (p + q)) ^ t))) (y7) (.val (.tup ((nmsN m).map .str))) (.val (rowD r)) (.val (cirO (nmsN m) (List.replicate m r))) (.val (cirO (nmsN m) (uT m))) .un .un (.val (rq f)) (.val (rq (1 - f))) .un .un b4
  obtain ⟨y14, e13⟩ := s13 m f h5 (.val (rq p)) (.val (rq q)) (.val (.int (t : Nat))) (.val (cirO (nmsN 2) (twoT p q))) (.val (rq (absQ (1 - (p + q))))) (.val (rq (absQ (1 - (p + q)) ^ t))) (y7) (.val (.tup ((nmsN m).map .str))) (.val (rowD r)) (.val (cirO (nmsN m) (List.replicate m r))) (.val (cirO (nmsN m) (uT m))) .un b4 (m - 1) 1 [rowD (unitQ m 0)] .un (by simp; omega)
  have lt : [rowD (unitQ m 0)] ++ (List.range' 1 (m - 1)).map (fun k => rowD (loneR m f k)) = (loneT m f).map rowD := by
    unfold loneT
    rw [List.map_cons, List.map_map]
    rfl
  rw [lt] at e13
  have rr2 := rg2 m (by omega) h5 b4
  have e13' : r13 [.val .bowl, .val (rq p), .val (rq q), .val (.int (t : Nat)), .val (cirO (nmsN 2) (twoT p q)), .val (rq (absQ (1 - (p + q)))), .val (rq (absQ (1 - (p + q)) ^ t)), y7, .val (.int (m : Nat)), .val (.tup ((nmsN m).map .str)), .val (rowD r), .val (cirO (nmsN m) (List.replicate m r)), .val (cirO (nmsN m) (uT m)), .un, .un, .val (rq f), .val (rq (1 - f)), .own (.lst [rowD (unitQ m 0)]), .un] b4 = .nx [.val .bowl, .val (rq p), .val (rq q), .val (.int (t : Nat)), .val (cirO (nmsN 2) (twoT p q)), .val (rq (absQ (1 - (p + q)))), .val (rq (absQ (1 - (p + q)) ^ t)), y7, .val (.int (m : Nat)), .val (.tup ((nmsN m).map .str)), .val (rowD r), .val (cirO (nmsN m) (List.replicate m r)), .val (cirO (nmsN m) (uT m)), .un, y14, .val (rq f), .val (rq (1 - f)), .own (.lst ((loneT m f).map rowD)), .un] b4 := by
    unfold r13
    generalize r13B = S at e13 ⊢
    generalize (List.range' 1 (m - 1)).map (fun (i : Nat) => D.int (i : Nat)) = R at e13 rr2
    simp [rr2, e13]
  have e14 := s14 (.val (rq p)) (.val (rq q)) (.val (.int (t : Nat))) (.val (cirO (nmsN 2) (twoT p q))) (.val (rq (absQ (1 - (p + q))))) (.val (rq (absQ (1 - (p + q)) ^ t))) (y7) (.val (.int (m : Nat))) (.val (.tup ((nmsN m).map .str))) (.val (rowD r)) (.val (cirO (nmsN m) (List.replicate m r))) (.val (cirO (nmsN m) (uT m))) .un (y14) (.val (rq f)) (.val (rq (1 - f))) (.own (.lst ((loneT m f).map rowD))) .un b4
  have psF : Ps t (1 - f) := fun k hk => ps_of (en_sm ef') k (by omega)
  obtain ⟨z7, e15⟩ := s15 psF (.val (rq p)) (.val (rq q)) (.val (.int (t : Nat))) (.val (cirO (nmsN 2) (twoT p q))) (.val (rq (absQ (1 - (p + q))))) (.val (rq (absQ (1 - (p + q)) ^ t))) (.val (.int (m : Nat))) (.val (.tup ((nmsN m).map .str))) (.val (rowD r)) (.val (cirO (nmsN m) (List.replicate m r))) (.val (cirO (nmsN m) (uT m))) .un (y14) (.val (rq f)) (.own (.lst ((loneT m f).map rowD))) b4 ((List.range t).map fun (i : Nat) => D.int (i : Nat)) 0 y7 (by simp)
  rw [Rat.pow_zero] at e15
  have e15' : r15 [.val .bowl, .val (rq p), .val (rq q), .val (.int (t : Nat)), .val (cirO (nmsN 2) (twoT p q)), .val (rq (absQ (1 - (p + q)))), .val (rq (absQ (1 - (p + q)) ^ t)), y7, .val (.int (m : Nat)), .val (.tup ((nmsN m).map .str)), .val (rowD r), .val (cirO (nmsN m) (List.replicate m r)), .val (cirO (nmsN m) (uT m)), .un, y14, .val (rq f), .val (rq (1 - f)), .own (.lst ((loneT m f).map rowD)), .val (rq 1)] b4 = .nx [.val .bowl, .val (rq p), .val (rq q), .val (.int (t : Nat)), .val (cirO (nmsN 2) (twoT p q)), .val (rq (absQ (1 - (p + q)))), .val (rq (absQ (1 - (p + q)) ^ t)), z7, .val (.int (m : Nat)), .val (.tup ((nmsN m).map .str)), .val (rowD r), .val (cirO (nmsN m) (List.replicate m r)), .val (cirO (nmsN m) (uT m)), .un, y14, .val (rq f), .val (rq (1 - f)), .own (.lst ((loneT m f).map rowD)), .val (rq ((1 - f) ^ t))] b4 := by
    unfold r15
    generalize r15B = S at e15 ⊢
    generalize (List.range t).map (fun (i : Nat) => D.int (i : Nat)) = R at e15 rt
    simp [rt, e15]
  have eZ := sZ m h2 h5 ef ef' t h6 (.val (rq p)) (.val (rq q)) (.val (cirO (nmsN 2) (twoT p q))) (.val (rq (absQ (1 - (p + q))))) (.val (rq (absQ (1 - (p + q)) ^ t))) (z7) (.val (.int (m : Nat))) (.val (rowD r)) (.val (cirO (nmsN m) (List.replicate m r))) (.val (cirO (nmsN m) (uT m))) .un (y14) (.val (rq f)) (.val (rq (1 - f))) b4
  refine ⟨b4, ?_, I4.mono (by omega)⟩
  unfold m__law_right
  rw [r_eq, x_mir]
  generalize r0 = R0 at e0 ⊢
  generalize r1 = R1 at e1 ⊢
  generalize r2 = R2 at e2 ⊢
  generalize r3 = R3 at e3 ⊢
  generalize r4 = R4 at e4' ⊢
  generalize r5 = R5 at e5 ⊢
  generalize r6 = R6 at e6 ⊢
  generalize r7 = R7 at e7 ⊢
  generalize r8 = R8 at e8 ⊢
  generalize r9 = R9 at e9 ⊢
  generalize r10 = R10 at e10 ⊢
  generalize r11 = R11 at e11 ⊢
  generalize r12 = R12 at e12 ⊢
  generalize r13 = R13 at e13' ⊢
  generalize r14 = R14 at e14 ⊢
  generalize r15 = R15 at e15' ⊢
  generalize rZ = RZ at eZ ⊢
  simp only [ent]
  simp [e0, e1, e2, e3, e4', e5, e6, e7, e8, e9, e10, e11, e12, e13', e14, e15', eZ]) ns
end P

set_option Elab.async false
set_option linter.all false
set_option maxRecDepth 100000
set_option maxHeartbeats 0
namespace HH
open PySem PySem.Spec PyProof.Rows L2 DL LamX NdefX W
abbrev tb (K : PySem.W.Frag) : List (Addr × Str) := [((He.cT K ("wrong_in_all", none)).2, ("wrong_in_all" ++ ".<locals>." : Str) ++ "<lambda>"), ((He.cT K ("wrong_in_people", none)).2, ("wrong_in_people" ++ ".<locals>." : Str) ++ "<lambda>"), ((He.cT K ("wrong_in_trust", none)).2, ("wrong_in_trust" ++ ".<locals>." : Str) ++ "<lambda>")]
theorem en {w : World} {h : Heap} {K : PySem.W.Frag} {mg : Str → Option Value} (X : K.In h) (G : h.Ns mainGlobals mg) (c : SaysY fa fn gt tf ex w h K) (nd : (tb K).map (·.1) |>.Nodup) (base : Heap) (TB : ∀ p ∈ tf, TabB base mg (He.cT K p).1 (He.cT K p).2) : En K mg base (tb K) where
  f_is_whole := ⟨by
    obtain ⟨fd, F⟩ := c.x.t.d.def_ 0 (d := d_is_whole) rfl
    exact ⟨_, fd, F, He.glo_ok X G (c.x.t.d.fact 0 (f := .glo "is_whole") rfl)⟩⟩
  f_is_between := ⟨by
    obtain ⟨fd, F⟩ := c.x.t.d.def_ 1 (d := d_is_between) rfl
    exact ⟨_, fd, F, He.glo_ok X G (c.x.t.d.fact 1 (f := .glo "is_between") rfl)⟩⟩
  f_is_word := ⟨by
    obtain ⟨fd, F⟩ := c.x.t.d.def_ 2 (d := d_is_word) rfl
    exact ⟨_, fd, F, He.glo_ok X G (c.x.t.d.fact 2 (f := .glo "is_word") rfl)⟩⟩
  f_is_name := ⟨by
    obtain ⟨fd, F⟩ := c.x.t.d.def_ 3 (d := d_is_name) rfl
    exact ⟨_, fd, F, He.glo_ok X G (c.x.t.d.fact 3 (f := .glo "is_name") rfl)⟩⟩
  f_is_tuple_of := ⟨by
    obtain ⟨fd, F⟩ := c.x.t.d.def_ 4 (d := d_is_tuple_of) rfl
    exact ⟨_, fd, F, He.glo_ok X G (c.x.t.d.fact 4 (f := .glo "is_tuple_of") rfl)⟩⟩
  f_is_pair := ⟨by
    obtain ⟨fd, F⟩ := c.x.t.d.def_ 5 (d := d_is_pair) rfl
    exact ⟨_, fd, F, He.glo_ok X G (c.x.t.d.fact 5 (f := .glo "is_pair") rfl)⟩⟩
  f_wrong_in := ⟨by
    obtain ⟨fd, F⟩ := c.x.t.d.def_ 6 (d := d_wrong_in) rfl
    exact ⟨_, fd, F, He.glo_ok X G (c.x.t.d.fact 6 (f := .glo "wrong_in") rfl)⟩⟩
  f_wrong_in_all := ⟨by
    obtain ⟨fd, F⟩ := c.x.t.d.def_ 7 (d := d_wrong_in_all) rfl
    exact ⟨_, fd, F, He.glo_ok X G (c.x.t.d.fact 7 (f := .glo "wrong_in_all") rfl), _, _, TB ("wrong_in_all", none) (by simp [tf]), code_of (x := "wrong_in_all") (st := s_wrong_in_all) F, (by simp), tb_uniq nd (by simp)⟩⟩
  f_are_below := ⟨by
    obtain ⟨fd, F⟩ := c.x.t.d.def_ 8 (d := d_are_below) rfl
    exact ⟨_, fd, F, He.glo_ok X G (c.x.t.d.fact 8 (f := .glo "are_below") rfl)⟩⟩
  f_lowest := ⟨by
    obtain ⟨fd, F⟩ := c.x.t.d.def_ 9 (d := d_lowest) rfl
    exact ⟨_, fd, F, He.glo_ok X G (c.x.t.d.fact 9 (f := .glo "lowest") rfl)⟩⟩
  f_is_fraction := ⟨by
    obtain ⟨fd, F⟩ := c.x.t.d.def_ 10 (d := d_is_fraction) rfl
    exact ⟨_, fd, F, He.glo_ok X G (c.x.t.d.fact 10 (f := .glo "is_fraction") rfl)⟩⟩
  f_plus := ⟨by
    obtain ⟨fd, F⟩ := c.x.t.d.def_ 11 (d := d_plus) rfl
    exact ⟨_, fd, F, He.glo_ok X G (c.x.t.d.fact 11 (f := .glo "plus") rfl)⟩⟩
  f_minus := ⟨by
    obtain ⟨fd, F⟩ := c.x.t.d.def_ 12 (d := d_minus) rfl
    exact ⟨_, fd, F, He.glo_ok X G (c.x.t.d.fact 12 (f := .glo "minus") rfl)⟩⟩
  f_times := ⟨by
    obtain ⟨fd, F⟩ := c.x.t.d.def_ 13 (d := d_times) rfl
    exact ⟨_, fd, F, He.glo_ok X G (c.x.t.d.fact 13 (f := .glo "times") rfl)⟩⟩
  f_is_less := ⟨by
    obtain ⟨fd, F⟩ := c.x.t.d.def_ 14 (d := d_is_less) rfl
    exact ⟨_, fd, F, He.glo_ok X G (c.x.t.d.fact 14 (f := .glo "is_less") rfl)⟩⟩
  f_lesser := ⟨by
    obtain ⟨fd, F⟩ := c.x.t.d.def_ 15 (d := d_lesser) rfl
    exact ⟨_, fd, F, He.glo_ok X G (c.x.t.d.fact 15 (f := .glo "lesser") rfl)⟩⟩
  f_greater := ⟨by
    obtain ⟨fd, F⟩ := c.x.t.d.def_ 16 (d := d_greater) rfl
    exact ⟨_, fd, F, He.glo_ok X G (c.x.t.d.fact 16 (f := .glo "greater") rfl)⟩⟩
  f_total := ⟨by
    obtain ⟨fd, F⟩ := c.x.t.d.def_ 17 (d := d_total) rfl
    exact ⟨_, fd, F, He.glo_ok X G (c.x.t.d.fact 17 (f := .glo "total") rfl)⟩⟩
  f_wrong_in_people := ⟨by
    obtain ⟨fd, F⟩ := c.x.t.d.def_ 18 (d := d_wrong_in_people) rfl
    exact ⟨_, fd, F, He.glo_ok X G (c.x.t.d.fact 18 (f := .glo "wrong_in_people") rfl), _, _, TB ("wrong_in_people", none) (by simp [tf]), code_of (x := "wrong_in_people") (st := s_wrong_in_people) F, (by simp), tb_uniq nd (by simp)⟩⟩
  f_is_sum := ⟨by
    obtain ⟨fd, F⟩ := c.x.t.d.def_ 19 (d := d_is_sum) rfl
    exact ⟨_, fd, F, He.glo_ok X G (c.x.t.d.fact 19 (f := .glo "is_sum") rfl)⟩⟩
  f_is_row := ⟨by
    obtain ⟨fd, F⟩ := c.x.t.d.def_ 20 (d := d_is_row) rfl
    exact ⟨_, fd, F, He.glo_ok X G (c.x.t.d.fact 20 (f := .glo "is_row") rfl)⟩⟩
  f_wrong_in_trust := ⟨by
    obtain ⟨fd, F⟩ := c.x.t.d.def_ 21 (d := d_wrong_in_trust) rfl
    exact ⟨_, fd, F, He.glo_ok X G (c.x.t.d.fact 21 (f := .glo "wrong_in_trust") rfl), _, _, TB ("wrong_in_trust", none) (by simp [tf]), code_of (x := "wrong_in_trust") (st := s_wrong_in_trust) F, (by simp), tb_uniq nd (by simp)⟩⟩
  f_mixed := ⟨by
    obtain ⟨fd, F⟩ := c.x.t.d.def_ 22 (d := d_mixed) rfl
    exact ⟨_, fd, F, He.glo_ok X G (c.x.t.d.fact 22 (f := .glo "mixed") rfl)⟩⟩
  f_first_counts := ⟨by
    obtain ⟨fd, F⟩ := c.x.t.d.def_ 23 (d := d_first_counts) rfl
    exact ⟨_, fd, F, He.glo_ok X G (c.x.t.d.fact 23 (f := .glo "first_counts") rfl)⟩⟩
  f_next_counts := ⟨by
    obtain ⟨fd, F⟩ := c.x.t.d.def_ 24 (d := d_next_counts) rfl
    exact ⟨_, fd, F, He.glo_ok X G (c.x.t.d.fact 24 (f := .glo "next_counts") rfl)⟩⟩
  f_counts_by := ⟨by
    obtain ⟨fd, F⟩ := c.x.t.d.def_ 25 (d := d_counts_by) rfl
    exact ⟨_, fd, F, He.glo_ok X G (c.x.t.d.fact 25 (f := .glo "counts_by") rfl)⟩⟩
  f_check_circle := ⟨by
    obtain ⟨fd, F⟩ := c.x.t.d.def_ 26 (d := d_check_circle) rfl
    exact ⟨_, fd, F, He.glo_ok X G (c.x.t.d.fact 26 (f := .glo "check_circle") rfl)⟩⟩
  f_check_number := ⟨by
    obtain ⟨fd, F⟩ := c.x.t.d.def_ 27 (d := d_check_number) rfl
    exact ⟨_, fd, F, He.glo_ok X G (c.x.t.d.fact 27 (f := .glo "check_number") rfl)⟩⟩
  f_check_many := ⟨by
    obtain ⟨fd, F⟩ := c.x.t.d.def_ 28 (d := d_check_many) rfl
    exact ⟨_, fd, F, He.glo_ok X G (c.x.t.d.fact 28 (f := .glo "check_many") rfl)⟩⟩
  f_check_bound := ⟨by
    obtain ⟨fd, F⟩ := c.x.t.d.def_ 29 (d := d_check_bound) rfl
    exact ⟨_, fd, F, He.glo_ok X G (c.x.t.d.fact 29 (f := .glo "check_bound") rfl)⟩⟩
  f_apart_by := ⟨by
    obtain ⟨fd, F⟩ := c.x.t.d.def_ 30 (d := d_apart_by) rfl
    exact ⟨_, fd, F, He.glo_ok X G (c.x.t.d.fact 30 (f := .glo "apart_by") rfl)⟩⟩
  f_strain_in := ⟨by
    obtain ⟨fd, F⟩ := c.x.t.d.def_ 31 (d := d_strain_in) rfl
    exact ⟨_, fd, F, He.glo_ok X G (c.x.t.d.fact 31 (f := .glo "strain_in") rfl)⟩⟩
  f_strain_by := ⟨by
    obtain ⟨fd, F⟩ := c.x.t.d.def_ 32 (d := d_strain_by) rfl
    exact ⟨_, fd, F, He.glo_ok X G (c.x.t.d.fact 32 (f := .glo "strain_by") rfl)⟩⟩
  f_beats_for_all_by := ⟨by
    obtain ⟨fd, F⟩ := c.x.t.d.def_ 33 (d := d_beats_for_all_by) rfl
    exact ⟨_, fd, F, He.glo_ok X G (c.x.t.d.fact 33 (f := .glo "beats_for_all_by") rfl)⟩⟩
  f_strain := ⟨by
    obtain ⟨fd, F⟩ := c.x.t.d.def_ 34 (d := d_strain) rfl
    exact ⟨_, fd, F, He.glo_ok X G (c.x.t.d.fact 34 (f := .glo "strain") rfl)⟩⟩
  f_beats_for_all := ⟨by
    obtain ⟨fd, F⟩ := c.x.t.d.def_ 35 (d := d_beats_for_all) rfl
    exact ⟨_, fd, F, He.glo_ok X G (c.x.t.d.fact 35 (f := .glo "beats_for_all") rfl)⟩⟩
  f__law_pool := ⟨by
    obtain ⟨fd, F⟩ := c.x.t.d.def_ 36 (d := d__law_pool) rfl
    exact ⟨_, fd, F, He.glo_ok X G (c.x.t.d.fact 36 (f := .glo "_law_pool") rfl)⟩⟩
  f__law_below := ⟨by
    obtain ⟨fd, F⟩ := c.x.t.d.def_ 37 (d := d__law_below) rfl
    exact ⟨_, fd, F, He.glo_ok X G (c.x.t.d.fact 37 (f := .glo "_law_below") rfl)⟩⟩
  f__law_one := ⟨by
    obtain ⟨fd, F⟩ := c.x.t.d.def_ 38 (d := d__law_one) rfl
    exact ⟨_, fd, F, He.glo_ok X G (c.x.t.d.fact 38 (f := .glo "_law_one") rfl)⟩⟩
  f__law_same := ⟨by
    obtain ⟨fd, F⟩ := c.x.t.d.def_ 39 (d := d__law_same) rfl
    exact ⟨_, fd, F, He.glo_ok X G (c.x.t.d.fact 39 (f := .glo "_law_same") rfl)⟩⟩
  f__law_fr := ⟨by
    obtain ⟨fd, F⟩ := c.x.t.d.def_ 40 (d := d__law_fr) rfl
    exact ⟨_, fd, F, He.glo_ok X G (c.x.t.d.fact 40 (f := .glo "_law_fr") rfl)⟩⟩
  f__law_plus := ⟨by
    obtain ⟨fd, F⟩ := c.x.t.d.def_ 41 (d := d__law_plus) rfl
    exact ⟨_, fd, F, He.glo_ok X G (c.x.t.d.fact 41 (f := .glo "_law_plus") rfl)⟩⟩
  f__law_times := ⟨by
    obtain ⟨fd, F⟩ := c.x.t.d.def_ 42 (d := d__law_times) rfl
    exact ⟨_, fd, F, He.glo_ok X G (c.x.t.d.fact 42 (f := .glo "_law_times") rfl)⟩⟩
  f__law_less := ⟨by
    obtain ⟨fd, F⟩ := c.x.t.d.def_ 43 (d := d__law_less) rfl
    exact ⟨_, fd, F, He.glo_ok X G (c.x.t.d.fact 43 (f := .glo "_law_less") rfl)⟩⟩
  f__law_right := ⟨by
    obtain ⟨fd, F⟩ := c.x.t.d.def_ 44 (d := d__law_right) rfl
    exact ⟨_, fd, F, He.glo_ok X G (c.x.t.d.fact 44 (f := .glo "_law_right") rfl)⟩⟩
  b_abs := He.free_ok X G (c.x.t.d.fact 46 (f := .free "abs") rfl)
  b_all := He.free_ok X G (c.x.t.d.fact 47 (f := .free "all") rfl)
  b_bool := He.free_ok X G (c.x.t.d.fact 48 (f := .free "bool") rfl)
  b_divmod := He.free_ok X G (c.x.t.d.fact 49 (f := .free "divmod") rfl)
  b_enumerate := He.free_ok X G (c.x.t.d.fact 50 (f := .free "enumerate") rfl)
  b_int := He.free_ok X G (c.x.t.d.fact 51 (f := .free "int") rfl)
  b_isinstance := He.free_ok X G (c.x.t.d.fact 52 (f := .free "isinstance") rfl)
  b_len := He.free_ok X G (c.x.t.d.fact 53 (f := .free "len") rfl)
  b_list := He.free_ok X G (c.x.t.d.fact 54 (f := .free "list") rfl)
  b_max := He.free_ok X G (c.x.t.d.fact 55 (f := .free "max") rfl)
  b_min := He.free_ok X G (c.x.t.d.fact 56 (f := .free "min") rfl)
  b_range := He.free_ok X G (c.x.t.d.fact 57 (f := .free "range") rfl)
  b_str := He.free_ok X G (c.x.t.d.fact 58 (f := .free "str") rfl)
  b_tuple := He.free_ok X G (c.x.t.d.fact 59 (f := .free "tuple") rfl)
  b_zip := He.free_ok X G (c.x.t.d.fact 60 (f := .free "zip") rfl)
  cls := clsF_of (fun c hc => by
    simp only [cCls, List.mem_cons, List.not_mem_nil, or_false] at hc
    rcases hc with rfl
    · exact He.glo_ok X G (c.x.t.d.fact 68 (f := .glo "Circle") rfl)) (fun c hc => by
    simp only [cCls, List.mem_cons, List.not_mem_nil, or_false] at hc
    rcases hc with rfl
    · exact He.cls_ok (c.x.t.d.fact 69 (f := .cls "Circle") rfl)) (Bool.and_eq_true_iff.mp c.ex_).1
  cl_Circle := ⟨by
    obtain ⟨fd, F⟩ := c.x.t.d.def_ 46 (d := d_Circle___init__) rfl
    exact ⟨_, _, fd, He.glo_ok X G (c.x.t.d.fact 68 (f := .glo "Circle") rfl), He.mkr_ok (c.x.t.d.fact 70 (f := .mkr "Circle") rfl), He.cls_ok (c.x.t.d.fact 69 (f := .cls "Circle") rfl), He.noat_ok (c.x.t.d.fact 71 (f := .noat "Circle" "all_told") rfl), F⟩⟩
  p_Circle_people := ⟨by
    obtain ⟨hp, fd, F⟩ := c.get 0 (t := g_Circle_people) rfl
    exact ⟨_, _, _, fd, He.glo_ok X G (c.x.t.d.fact 68 (f := .glo "Circle") rfl), He.cls_ok (c.x.t.d.fact 69 (f := .cls "Circle") rfl), hp, F⟩⟩
  p_Circle_trust := ⟨by
    obtain ⟨hp, fd, F⟩ := c.get 1 (t := g_Circle_trust) rfl
    exact ⟨_, _, _, fd, He.glo_ok X G (c.x.t.d.fact 68 (f := .glo "Circle") rfl), He.cls_ok (c.x.t.d.fact 69 (f := .cls "Circle") rfl), hp, F⟩⟩
  g_gcd := PySem.W.mg_of X G (He.eqO_ok (Bool.and_eq_true_iff.mp (Bool.and_eq_true_iff.mp (Bool.and_eq_true_iff.mp c.ex_).2).2).1)
  k_LETTERS := He.str_ok X G (c.x.t.d.fact 61 (f := .str "LETTERS" "abcdefghijklmnopqrstuvwxyz") rfl)
  k_MOST_LETTERS := He.int_ok X G (c.x.t.d.fact 62 (f := .int "MOST_LETTERS" 8) rfl)
  k_WORDS := ⟨_, He.glo_ok X G (c.x.t.d.fact 63 (f := .glo "WORDS") rfl), fun H => He.tupB_ok (Bool.and_eq_true_iff.mp (Bool.and_eq_true_iff.mp (Bool.and_eq_true_iff.mp (Bool.and_eq_true_iff.mp (Bool.and_eq_true_iff.mp c.ex_).2).2).2).1).1 H, nodB_ok (Bool.and_eq_true_iff.mp (Bool.and_eq_true_iff.mp (Bool.and_eq_true_iff.mp (Bool.and_eq_true_iff.mp (Bool.and_eq_true_iff.mp c.ex_).2).2).2).1).2⟩
  k_NOTHING := ⟨_, He.glo_ok X G (c.x.t.d.fact 64 (f := .glo "NOTHING") rfl), fun H => He.tupB_ok (Bool.and_eq_true_iff.mp (Bool.and_eq_true_iff.mp (Bool.and_eq_true_iff.mp (Bool.and_eq_true_iff.mp (Bool.and_eq_true_iff.mp (Bool.and_eq_true_iff.mp c.ex_).2).2).2).2).1).1 H, nodB_ok (Bool.and_eq_true_iff.mp (Bool.and_eq_true_iff.mp (Bool.and_eq_true_iff.mp (Bool.and_eq_true_iff.mp (Bool.and_eq_true_iff.mp (Bool.and_eq_true_iff.mp c.ex_).2).2).2).2).1).2⟩
  k_WHOLE := ⟨_, He.glo_ok X G (c.x.t.d.fact 65 (f := .glo "WHOLE") rfl), fun H => He.tupB_ok (Bool.and_eq_true_iff.mp (Bool.and_eq_true_iff.mp (Bool.and_eq_true_iff.mp (Bool.and_eq_true_iff.mp (Bool.and_eq_true_iff.mp (Bool.and_eq_true_iff.mp (Bool.and_eq_true_iff.mp c.ex_).2).2).2).2).2).1).1 H, nodB_ok (Bool.and_eq_true_iff.mp (Bool.and_eq_true_iff.mp (Bool.and_eq_true_iff.mp (Bool.and_eq_true_iff.mp (Bool.and_eq_true_iff.mp (Bool.and_eq_true_iff.mp (Bool.and_eq_true_iff.mp c.ex_).2).2).2).2).2).1).2⟩
  k_MOST_PEOPLE := He.int_ok X G (c.x.t.d.fact 66 (f := .int "MOST_PEOPLE" 5) rfl)
  k_MOST_BEATS := He.int_ok X G (c.x.t.d.fact 67 (f := .int "MOST_BEATS" 40) rfl)
theorem law_ok (ns : List Int) (hl : ns.length ≤ 63) (hb : ∀ z ∈ ns, Builtin.Int.intBits z ≤ 1048576) : ∃ b, m_law [.lst (ns.map D.int)] none = .ok (.val (.bl true)) b := ⟨none, P.law_ok ns⟩
theorem facts {w : World} {h : Heap} {K : PySem.W.Frag} {mg : Str → Option Value} {f : Addr} (X : K.In h) (G : h.Ns mainGlobals mg) (hfa : mg ("law" : Str) = some (.ref f)) (c : SaysY fa fn gt tf ex w h K) : LawAtS PySem.Challenge.rw_mindmeans_k35_whole_strains_by_formula w K (L2.CX (PySem.Challenge.rw_mindmeans_k35_whole_strains_by_formula).prog w) 22 63 "script" mg f h := by
  obtain ⟨fd, F⟩ := c.x.t.d.def_ 45 (d := d_law) rfl
  have e := hfa.symm.trans (He.glo_ok X G (c.x.t.d.fact 45 (f := .glo "law") rfl))
  cases e
  have b := FunD.bindsA (ps := ["script"]) F fun _ _ _ _ _ _ us hl => match us, hl with | [_], _ => rfl
  refine ⟨fd, tf.map (He.cT K), spD0 K mg (nt (tb K)) 1 m_law, fun p hp => ?_, fun p hp => ?_, fun p hp => ?_, fun s u => b s [u] rfl, fun H a ns hl hbits hH hS => ?_, fun base _ _ TB => ?_⟩
  · obtain ⟨q, hq, rfl⟩ := List.mem_map.mp hp
    exact c.x.empty q hq
  · obtain ⟨q, hq, rfl⟩ := List.mem_map.mp hp
    exact c.x.out q hq
  · obtain ⟨q, hq, rfl⟩ := List.mem_map.mp hp
    exact PySem.W.codeHd_of_K X (c.x.hd q hq)
  · refine sp_law hl (fun p hp => ?_) hS (law_ok ns hl hbits)
    have hz : ∃ q ∈ tf, p.1 = (He.cT K q).2 := by
      simp only [tb, List.mem_cons, List.not_mem_nil, or_false] at hp
      simp only [tf, List.mem_cons, List.not_mem_nil, or_false]
      first
        | exact ⟨_, rfl, by rw [hp]⟩
        | (rcases hp with rfl | rfl | rfl <;> exact ⟨_, by simp, rfl⟩)
    obtain ⟨q, hq, e⟩ := hz
    exact TabS.nil (by rw [e]; exact hH _ (List.mem_map.mpr ⟨q, hq, rfl⟩))
  · exact k_law (en X G c (of_decide_eq_true (Bool.and_eq_true_iff.mp (Bool.and_eq_true_iff.mp c.ex_).2).1) base fun p hp => TB _ (List.mem_map.mpr ⟨p, hp, rfl⟩)) F none
end HH
open PySem PySem.W PySem.Calls PyProof.Rows
theorem PySem.Challenge.cw_mindmeans_k35_whole_strains_by_formula_holds : PySem.Challenge.rw_mindmeans_k35_whole_strains_by_formula.Holds := by
  w_on; o_law
  refine HandSHeadRun.head_imp (r := OpenLaw.row PySem.Challenge.rw_mindmeans_k35_whole_strains_by_formula) (q := view (OpenLaw.row PySem.Challenge.rw_mindmeans_k35_whole_strains_by_formula).prog [0, 68]) (H := HH.hk) (ob := HH.ob) (M := 4000) (loose := HH.names) (d := HandSHeadRun.topDef (OpenLaw.row PySem.Challenge.rw_mindmeans_k35_whole_strains_by_formula).prog 68) (kwd := []) HH.ob_eq HH.run
    (by kernel_rfl) (by kernel_rfl) (by kernel_rfl) (by rfl) (by first | assumption | decide +kernel) (by decide +kernel) ⟨rfl, rfl, rfl, rfl, rfl, by decide +kernel⟩ ?hw ?hc
  case hw => w_witness2
  case hc =>
    refine DL.walk_ofET (l := PySem.Challenge.rw_mindmeans_k35_whole_strains_by_formula) (n := 63) (k := 22) (x := "script") (CX := fun w => L2.CX (PySem.Challenge.rw_mindmeans_k35_whole_strains_by_formula).prog w) rfl (by decide) (by kernel_rfl) ⟨rfl, by decide, by decide⟩ ?F (fun _ _ _ _ _ z => DL.cx_false z)
    intro w mg fa h Y G hmg0
    obtain ⟨K, KX, c⟩ := Y
    have hmg : mg ("law" : PySem.Str) = some (.ref fa) := by
      have e : (HandSHeadRun.topDef (OpenLaw.row PySem.Challenge.rw_mindmeans_k35_whole_strains_by_formula).prog 68).name = ("law" : PySem.Str) := by kernel_rfl
      rw [← e]
      exact hmg0
    exact ⟨K, KX, HH.facts KX G hmg c⟩

