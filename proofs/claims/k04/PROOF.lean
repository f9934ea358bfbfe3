import PyProof.Rows.All
import Wide.All
import OpenK.AllK
import Wide.FinOn
import HandS.ForMost
import HandS.Star
import HandS.SlotsOwn
import HandS.Codes
import HandS.Head2
import HandS.HeadEnd
import HandS.HeadHook3
import HandS.Property
import HandS.ClsMeth
import HandS.HeadHook4
import PySem.Challenge.RW_mirrorturns_k04_whole_beams_undone
import HandS.Lambda
import HandS.Style
import HandS.TupAny
import KE.GoesEnum
import HandS.DictComp
import HandS.IsInst
import HandS.Conv
import HandS.OwnEq
import HandS.ListEq
import HandS.GenBody
import HandS.GenYield
import HandS.GenCall
import HandS.GenList
import HandS.ReplaceLit
import HandS.ReplaceList
import PyProof.ListStr
import HandS.Deep
import HandS.WordsExc
import HandS.ExcOwn
import HandS.SetFor
import HandS.ExcIs
import HandS.HeadWalk
import KE.OsMirror
import HandS.Text
set_option Elab.async false
set_option linter.all false
set_option maxRecDepth 100000
set_option maxHeartbeats 0
/-! MTH0: the head's hook, the Bools that it asks: over the kit alone. -/
namespace MT
open PySem PySem.Spec PyProof.Rows L2
abbrev Frag := PySem.W.Frag
/-- a def: where, its name, qualified name, statement -/
structure MD where
  at_ : Frag → Addr
  name : Str
  qual : Str
  st : Stmt
def fnAt (K : Frag) (a : Addr) : He.FnW := match K.lookup a with
  | some ⟨_, _, .func fd, _⟩ => some (fd.name, fd.qualname, fd.params, fd.body, fd.scope, fd.globals, fd.closure, fd.builtins)
  | _ => none
def MD.val (d : MD) : He.FnW := some (d.name, d.qual, defArgs d.st, .stmts (defBody d.st), defScope d.st, mainGlobals, [], builtinsNs)
def isNon : Value → Bool
  | .none => true
  | _ => false
theorem isNon_ok {v : Value} (h : isNon v = true) : v = .none := by cases v <;> first | rfl | cases h
def MD.ok (K : Frag) (d : MD) : Bool := match K.lookup (d.at_ K) with
  | some ⟨_, _, .func fd, _⟩ => PySem.W.codeIn K fd.code d.qual && isNon fd.defaults
  | _ => false
theorem MD.fun_ {K : Frag} {d : MD} (e : fnAt K (d.at_ K) = d.val) (c : d.ok K = true) : ∃ fd, Fun K d.name d.qual d.st (d.at_ K) fd := by
  unfold fnAt at e
  unfold MD.ok at c
  cases q : K.lookup (d.at_ K) with
  | none => rw [q] at c; cases c
  | some o =>
    obtain ⟨oc, od, dt, osl⟩ := o
    rw [q] at c e
    cases dt with
    | func fd =>
      obtain ⟨n1, n2, n3, n4, n5, n6, n7, n8, n9, n10, n11, n12, n13, n14, n15⟩ := fd
      have e2 : (some (n1, n2, n3, n4, n5, n6, n7, n15) : He.FnW) = some (d.name, d.qual, defArgs d.st, .stmts (defBody d.st), defScope d.st, mainGlobals, [], builtinsNs) := e
      simp only [Option.some.injEq, Prod.mk.injEq] at e2
      obtain ⟨h1, h2, h3, h4, h5, h6, h7, h8⟩ := e2
      subst h1 h2 h3 h4 h5 h6 h7 h8
      obtain ⟨k1, k2⟩ := He.ba (show (PySem.W.codeIn K n13 d.qual && isNon n8) = true from c)
      have k3 := isNon_ok k2
      subst k3
      refine ⟨_, ⟨oc, od, n9, n10, n11, n12, n13, n14, osl, rfl, q, k1⟩, ?_⟩
      show (match K.lookup (d.at_ K) with
      | some ⟨_, _, .func _, _⟩ => true
      | some ⟨_, _, .cls _, _⟩ => PySem.W.specialIn K (.ref (d.at_ K)) "__call__" == some (some (.builtin "type.__call__"))
      | _ => false) = true
      rw [q]
    | _ => cases c
abbrev AlM : Type := (Bool × List He.FnW) × List (Option (List (Option (Str × Int))))
def obsM (ex : List (Frag → Bool)) (fn : List MD) (ts : List He.Tab) (K : Frag) : AlM := ((((ex.all fun f => f K) && fn.all fun d => d.ok K), fn.map fun d => fnAt K (d.at_ K)), ts.map fun t => He.dicW K (t.1 K))
def valM (fn : List MD) (ts : List He.Tab) (w : World) : AlM := ((true, fn.map MD.val), ts.map fun t => some (He.keysIn w.params t.2))
def SaysM (ex : List (Frag → Bool)) (fn : List MD) (ts : List He.Tab) (w : World) (K : Frag) : Prop := obsM ex fn ts K = valM fn ts w
def obsMG (n : Nat) (ex : List (Frag → Bool)) (fn : List MD) (ts : List He.Tab) (g : Addr → Option Obj) : AlM := obsM ex fn ts (He.frG g (cStatics :: He.asD g n))
def hookM (n : Nat) (ex : List (Frag → Bool)) (fn : List MD) (ts : List He.Tab) : PySem.W.Hook where
  α := AlM
  obs := fun s => obsMG n ex fn ts s.heap.get?
  val := fun w => valM fn ts w
  says := fun w h => ∃ K : Frag, K.In h ∧ SaysM ex fn ts w K
  of := fun _ _ e => ⟨_, He.frG_in, e⟩
  keeps := fun _ _ _ ⟨K, hK, c⟩ k => ⟨K, PySem.W.Frag.In.keeps hK k, c⟩
theorem obsMG_eq {n : Nat} {ex : List (Frag → Bool)} {fn : List MD} {ts : List He.Tab} {g : Addr → Option Obj} {s : Shared} (h : ∀ a, g a = s.heap.get? a) : obsMG n ex fn ts g = (hookM n ex fn ts).obs s := by
  have e : g = s.heap.get? := funext h
  rw [e] <;> rfl
section
variable {ex : List (Frag → Bool)} {fn : List MD} {ts : List He.Tab} {w : World} {K : Frag}
theorem SaysM.fact (c : SaysM ex fn ts w K) (i : Nat) {f : Frag → Bool} (h : ex[i]? = some f := by rfl) : f K = true := by
  have c1 := (He.ba (show ((ex.all fun f => f K) && fn.all fun d => d.ok K) = true from congrArg (fun z : AlM => z.1.1) c)).1
  exact List.all_eq_true.mp c1 f (List.mem_of_getElem? h)
theorem SaysM.def_ (c : SaysM ex fn ts w K) (i : Nat) {d : MD} (h : fn[i]? = some d := by rfl) : ∃ fd, Fun K d.name d.qual d.st (d.at_ K) fd := by
  have c2 := (He.ba (show ((ex.all fun f => f K) && fn.all fun d => d.ok K) = true from congrArg (fun z : AlM => z.1.1) c)).2
  have e : fn.map (fun d => fnAt K (d.at_ K)) = fn.map MD.val := congrArg (fun z : AlM => z.1.2) c
  have e2 : (fn.map fun d => fnAt K (d.at_ K))[i]? = (fn.map MD.val)[i]? := by rw [e]
  rw [List.getElem?_map, List.getElem?_map, h] at e2
  exact MD.fun_ (Option.some.inj e2) (List.all_eq_true.mp c2 d (List.mem_of_getElem? h))
theorem SaysM.tab (c : SaysM ex fn ts w K) (i : Nat) {t : He.Tab} (h : ts[i]? = some t := by rfl) : He.dicW K (t.1 K) = some (He.keysIn w.params t.2) := by
  have e : ts.map (fun t => He.dicW K (t.1 K)) = ts.map fun t => some (He.keysIn w.params t.2) := congrArg (fun z : AlM => z.2) c
  have e2 : (ts.map fun t => He.dicW K (t.1 K))[i]? = (ts.map fun t => some (He.keysIn w.params t.2))[i]? := by rw [e]
  rw [List.getElem?_map, List.getElem?_map, h] at e2
  exact Option.some.inj e2
end
/-! ### facts of the class Room -/
def cR (K : Frag) : Addr := He.ga K "Room"
/-- a method, by the class -/
def atM (C m : Str) (K : Frag) : Addr := He.ma K (He.ga K C) m
def atG (x : Str) (K : Frag) : Addr := He.ga K x
/-- a property's getter -/
def atP (C m : Str) (K : Frag) : Addr := match PySem.W.recIn K (He.ma K (He.ga K C) m) "property" with
  | some (.ref g :: _) => g
  | _ => 0
/-- a classmethod's record, its def -/
def recC (C m : Str) (K : Frag) : Addr := match PySem.W.findCls K (.ref (He.ga K C)) (.type "type") m with
  | some (.get _ (.ref p) _ _) => p
  | _ => 0
def atC (C m : Str) (K : Frag) : Addr := match PySem.W.recIn K (recC C m K) "classmethod" with
  | some (.ref g :: _) => g
  | _ => 0
def bCls (C : Str) (K : Frag) : Bool := (He.Fa.cls C).ok K
def bNe (C : Str) (K : Frag) : Bool := decide (He.ga K C ≠ cR K)
def bNo (C f : Str) (K : Frag) : Bool := (He.Fa.noat C f).ok K
def bFree (x : Str) (K : Frag) : Bool := (He.Fa.free x).ok K
def bGlo (x : Str) (K : Frag) : Bool := (He.Fa.glo x).ok K
def bStr (x z : Str) (K : Frag) : Bool := (He.Fa.str x z).ok K
def bInt (x : Str) (z : Int) (K : Frag) : Bool := (He.Fa.int x z).ok K
def bMeth (C m : Str) (K : Frag) : Bool := (He.Fa.meth C m).ok K
def bMk (C : Str) (K : Frag) : Bool := (He.Fa.mkr C).ok K
def bTup (x : Str) (vs : List He.Dv) (K : Frag) : Bool := He.tupB K x vs
def bFind (C f : Str) (v : Value) (K : Frag) : Bool := He.eqO (PySem.W.findIn K (.ref (He.ga K C)) f) (some (some v))
def bFn (C m : Str) (K : Frag) : Bool := He.eqO (PySem.W.findIn K (.ref (He.ga K C)) m) (some (some (.ref (atM C m K)))) && (PySem.W.isFn K (.ref (atM C m K)) && PySem.W.fnIn K (atM C m K))
def bProp (C m : Str) (K : Frag) : Bool := He.eqO (PySem.W.findIn K (.ref (He.ga K C)) m) (some (some (.ref (atM C m K)))) && (He.eqO (PySem.W.specialIn K (.ref (atM C m K)) "__get__") (some (some (.builtin "property.__get__"))) && (decide (PySem.W.takesIn K (.ref (atM C m K)) = some true) && (match PySem.W.recIn K (atM C m K) "property" with
  | some (.ref g :: _) => decide (g = atP C m K)
  | _ => false)))
def bRead (C : Str) (K : Frag) : Bool := PySem.W.readsIn K (He.ga K C) (.type "type") && He.eqO (PySem.W.specialIn K (.ref (He.ga K C)) "__getattribute__") (some (some (.builtin "type.__getattribute__")))
def bCV (C f : Str) (v : He.Dv) (K : Frag) : Bool := match PySem.W.findCls K (.ref (He.ga K C)) (.type "type") f with
  | some (.val u) => He.relB (v.v K) u
  | _ => false
def bCM (C m : Str) (K : Frag) : Bool := (match PySem.W.findCls K (.ref (He.ga K C)) (.type "type") m with
  | some (.get (.builtin b) (.ref p) .none (.ref c)) => decide (b = "classmethod.__get__") && (decide (p = recC C m K) && decide (c = He.ga K C))
  | _ => false) && ((match PySem.W.recIn K (recC C m K) "classmethod" with
  | some (.ref g :: _) => decide (g = atC C m K)
  | _ => false) && PySem.W.fnIn K (atC C m K))
def bRoomI (K : Frag) : Bool := He.eqO (PySem.W.findIn K (.ref (cR K)) "__class__") (some (some (.builtin "object.__class__"))) && (He.eqO (PySem.W.specialIn K (.builtin "object.__class__") "__get__") (some (some (.builtin "getset_descriptor.__get__"))) && (decide (PySem.W.takesIn K (.builtin "object.__class__") = some true) && decide (PySem.W.mroIn K (cR K) (.type "object") = some true)))
def kvE (e : DictEntry) : Option (Str × Str) := match e.key, e.val with
  | .str x _, .str y _ => some (x, y)
  | _, _ => none
def bTab (x : Str) (kvs : List (Str × Str)) (K : Frag) : Bool := match K.lookup (He.ga K x) with
  | some ⟨_, _, .dict es _, _⟩ => decide (es.toList.map kvE = kvs.map some)
  | _ => false
end MT

/-! MTH1: the head's hook with an empty table of code objects; the classes of errors. -/
namespace MT
open PySem PySem.Spec PyProof.Rows L2
def errNamesH : List Str := ["InvalidRoom", "UnknownPort", "UnknownTile", "InvalidNumber", "OtherRoom", "TooMany", "Contradiction", "NotTurning", "InvalidName", "UnknownName", "InvalidOperation"]
def okNames : List Str := ["UnknownPort", "UnknownTile", "InvalidNumber", "OtherRoom", "TooMany", "Contradiction", "NotTurning", "InvalidName", "UnknownName"]
def bErr (c : Str) (K : Frag) : Bool :=
  PySem.W.excIn K (He.ga K c) He.veBase "ValueError.__new__" && (PySem.W.keepIn K (.ref (He.ga K c)) && (decide (PySem.W.subIn K (.ref (He.ga K c)) (.type "BaseException") = some true) && (decide (PySem.W.typeIn K (.ref (He.ga K c)) = some (.type "type")) &&
  (He.eqO (PySem.W.findIn K (.ref (He.ga K c)) "__getattribute__") (some (some (.builtin "BaseException.__getattribute__"))) && (He.eqO (PySem.W.findIn K (.ref (He.ga K c)) "__getattr__") (some none) && (PySem.W.hasDictIn K (He.ga K c) &&
  (He.eqO (PySem.W.findIn K (.ref (He.ga K c)) "__class__") (some (some (.builtin "object.__class__"))) && (He.eqO (PySem.W.specialIn K (.builtin "object.__class__") "__get__") (some (some (.builtin "getset_descriptor.__get__"))) &&
  (decide (PySem.W.takesIn K (.builtin "object.__class__") = some true) && (decide (PySem.W.mroIn K (He.ga K c) (.type "object") = some true) &&
  (errNamesH.all (fun t => decide (PySem.W.kitOne K (.ref (He.ga K c)) (.ref (He.ga K t)) = some (decide (t = c)))) && (decide (PySem.W.kitOne K (.ref (He.ga K c)) (.type "ValueError") = some true) && decide (PySem.W.exmOne K (.ref (He.ga K c)) (.ref (He.ga K "MirrorError")) = some true)))))))))))))
def bErrs (K : Frag) : Bool := okNames.all fun c => bErr c K
abbrev AlMX : Type := AlM × Bool
def obsMXG (n : Nat) (ex : List (Frag → Bool)) (fn : List MD) (ts : List He.Tab) (tf : List He.Defn) (g : Addr → Option Obj) : AlMX := (obsM ex fn ts (He.frT g (cStatics :: He.asD g n)), He.tabsB g tf (He.frT g (cStatics :: He.asD g n)))
structure SaysMX (ex : List (Frag → Bool)) (fn : List MD) (ts : List He.Tab) (tf : List He.Defn) (w : World) (h : Heap) (K : Frag) : Prop where
  m : SaysM ex fn ts w K
  hd : ∀ p ∈ tf, PySem.W.codeHdIn K (He.cT K p).1 (He.cT K p).2 = true
  out : ∀ p ∈ tf, K.lookup (He.cT K p).2 = none
  empty : ∀ p ∈ tf, h.get? (He.cT K p).2 = some { cls := .none, data := .fields #[] }
theorem saysMX_of {n : Nat} {ex : List (Frag → Bool)} {fn : List MD} {ts : List He.Tab} {tf : List He.Defn} {w : World} {h : Heap} (e : obsMXG n ex fn ts tf h.get? = (valM fn ts w, true)) : SaysMX ex fn ts tf w h (He.frT h.get? (cStatics :: He.asD h.get? n)) := by
  have e1 : obsM ex fn ts (He.frT h.get? (cStatics :: He.asD h.get? n)) = valM fn ts w := congrArg (fun z : AlMX => z.1) e
  have e2 : He.tabsB h.get? tf (He.frT h.get? (cStatics :: He.asD h.get? n)) = true := congrArg (fun z : AlMX => z.2) e
  have key : ∀ p ∈ tf, PySem.W.codeHdIn (He.frT h.get? (cStatics :: He.asD h.get? n)) (He.cT (He.frT h.get? (cStatics :: He.asD h.get? n)) p).1 (He.cT (He.frT h.get? (cStatics :: He.asD h.get? n)) p).2 = true ∧ ∃ o, h.get? (He.cT (He.frT h.get? (cStatics :: He.asD h.get? n)) p).2 = some o ∧ He.emptyTab o = true := fun p hp => by
    obtain ⟨h3, h4⟩ := He.ba (List.all_eq_true.mp e2 p hp)
    refine ⟨h3, ?_⟩
    cases q : h.get? (He.cT (He.frT h.get? (cStatics :: He.asD h.get? n)) p).2 with
    | none => rw [q] at h4; cases h4
    | some o => rw [q] at h4; exact ⟨o, rfl, h4⟩
  exact ⟨e1, fun p hp => (key p hp).1, fun p hp => let ⟨_, o, q, z⟩ := key p hp; He.frT_none q z, fun p hp => by
    obtain ⟨_, o, q, z⟩ := key p hp
    rw [q, He.emptyTab_eq z]⟩
def hookMX (n : Nat) (ex : List (Frag → Bool)) (fn : List MD) (ts : List He.Tab) (tf : List He.Defn) : PySem.W.Hook where
  α := AlMX
  obs := fun s => obsMXG n ex fn ts tf s.heap.get?
  val := fun w => (valM fn ts w, true)
  says := fun w h => ∃ K : Frag, K.In h ∧ SaysMX ex fn ts tf w h K
  of := fun _ _ e => ⟨_, He.frT_in, saysMX_of e⟩
  keeps := fun _ _ _ ⟨K, hK, c⟩ k => ⟨K, PySem.W.Frag.In.keeps hK k, ⟨c.m, c.hd, c.out, fun p hp => k _ _ (c.empty p hp)⟩⟩
theorem obsMXG_eq {n : Nat} {ex : List (Frag → Bool)} {fn : List MD} {ts : List He.Tab} {tf : List He.Defn} {g : Addr → Option Obj} {s : Shared} (h : ∀ a, g a = s.heap.get? a) : obsMXG n ex fn ts tf g = (hookMX n ex fn ts tf).obs s := by
  have e : g = s.heap.get? := funext h
  rw [e] <;> rfl
end MT

namespace MT
open PySem PySem.Spec PyProof.Rows L2
def top (i : Nat) : Stmt := PySem.Challenge.pw_mirrorturns_k04_whole_beams_undone.main.body.getD i (.Pass ⟨0, 0, 0, 0⟩)
abbrev s_is_int_in : Stmt := top 22
abbrev s_thrown : Stmt := top 23
abbrev s___init__ : Stmt := inClass (top 24) 2
abbrev s_parse : Stmt := inClass (top 24) 3
abbrev s_rows : Stmt := inClass (top 24) 4
abbrev s_text : Stmt := inClass (top 24) 5
abbrev s_size : Stmt := inClass (top 24) 6
abbrev s_turning : Stmt := inClass (top 24) 7
abbrev s_entry : Stmt := inClass (top 24) 9
abbrev s_exit_of : Stmt := inClass (top 24) 10
abbrev s___len__ : Stmt := inClass (top 24) 15
abbrev s_has_port : Stmt := inClass (top 24) 12
abbrev s_beam : Stmt := inClass (top 24) 13
abbrev s___call__ : Stmt := inClass (top 24) 14
abbrev s___eq__ : Stmt := inClass (top 24) 16
abbrev s___bool__ : Stmt := inClass (top 24) 17
abbrev s___getitem__ : Stmt := inClass (top 24) 18
abbrev s___invert__ : Stmt := inClass (top 24) 20
abbrev s_check_port : Stmt := top 25
abbrev s_path : Stmt := top 26
abbrev s_send : Stmt := top 27
abbrev s_unsent : Stmt := top 28
abbrev s__law_random : Stmt := top 30
abbrev s__law_room : Stmt := top 31
abbrev s__law_below : Stmt := top 32
abbrev s__law_lines : Stmt := top 33
abbrev s__law_equal : Stmt := top 34
abbrev s__law_error_of : Stmt := top 35
abbrev s_law : Stmt := top 36
end MT
/-! The head of law_k04_whole_beams_undone: what the top leaves, and the end. -/
namespace MT
open PySem PySem.Spec PyProof.Rows L2
def exL : List (Frag → Bool) := [bCls "Room",
  bNo "Room" "lines",
  bNo "Room" "ports",
  bRoomI,
  bFind "Room" "__ne__" (.builtin "object.__ne__"),
  bGlo "Room",
  bGlo "TURNED",
  bTab "TURNED" [(("r" : Str), ("f" : Str)), (("f" : Str), ("r" : Str))],
  bStr "EMPTY" ".",
  bStr "SIGNS" ".rfRF",
  bGlo "UP",
  bTup "UP" (([(-1), 0] : List Int).map He.Dv.int),
  bGlo "DOWN",
  bTup "DOWN" (([1, 0] : List Int).map He.Dv.int),
  bGlo "LEFT",
  bTup "LEFT" (([0, (-1)] : List Int).map He.Dv.int),
  bGlo "RIGHT",
  bTup "RIGHT" (([0, 1] : List Int).map He.Dv.int),
  bRead "Room",
  bCV "Room" "MAX_SIZE" (.int 8),
  bCV "Room" "MAX_TURNING" (.int 10),
  bFree "len",
  bFree "isinstance",
  bFree "int",
  bFree "bool",
  bFree "str",
  bFree "min",
  bFree "any",
  bFree "all",
  bFree "list",
  bFree "range",
  bFree "enumerate",
  bFree "abs",
  bFree "tuple",
  bFree "ValueError",
  bGlo "MirrorError",
  bGlo "InvalidRoom",
  bGlo "UnknownPort",
  bGlo "UnknownTile",
  bGlo "InvalidNumber",
  bGlo "OtherRoom",
  bGlo "TooMany",
  bGlo "Contradiction",
  bGlo "NotTurning",
  bGlo "InvalidName",
  bGlo "UnknownName",
  bGlo "InvalidOperation",
  bErrs,
  bGlo "is_int_in",
  bGlo "thrown",
  bMk "Room",
  bCM "Room" "parse",
  bProp "Room" "rows",
  bProp "Room" "text",
  bProp "Room" "size",
  bProp "Room" "turning",
  bMeth "Room" "entry",
  bMeth "Room" "exit_of",
  bFn "Room" "__len__",
  bMeth "Room" "has_port",
  bMeth "Room" "beam",
  bFn "Room" "__call__",
  bFn "Room" "__eq__",
  bFn "Room" "__bool__",
  bFn "Room" "__getitem__",
  bMeth "Room" "__invert__",
  bGlo "check_port",
  bGlo "path",
  bGlo "send",
  bGlo "unsent",
  bGlo "_law_random",
  bGlo "_law_room",
  bGlo "_law_below",
  bGlo "_law_lines",
  bGlo "_law_equal",
  bGlo "_law_error_of",
  bGlo "law"]
def fnL : List MD := [⟨atG "is_int_in", "is_int_in", "is_int_in", s_is_int_in⟩,
  ⟨atG "thrown", "thrown", "thrown", s_thrown⟩,
  ⟨atM "Room" "__init__", "__init__", "Room.__init__", s___init__⟩,
  ⟨atC "Room" "parse", "parse", "Room.parse", s_parse⟩,
  ⟨atP "Room" "rows", "rows", "Room.rows", s_rows⟩,
  ⟨atP "Room" "text", "text", "Room.text", s_text⟩,
  ⟨atP "Room" "size", "size", "Room.size", s_size⟩,
  ⟨atP "Room" "turning", "turning", "Room.turning", s_turning⟩,
  ⟨atM "Room" "entry", "entry", "Room.entry", s_entry⟩,
  ⟨atM "Room" "exit_of", "exit_of", "Room.exit_of", s_exit_of⟩,
  ⟨atM "Room" "__len__", "__len__", "Room.__len__", s___len__⟩,
  ⟨atM "Room" "has_port", "has_port", "Room.has_port", s_has_port⟩,
  ⟨atM "Room" "beam", "beam", "Room.beam", s_beam⟩,
  ⟨atM "Room" "__call__", "__call__", "Room.__call__", s___call__⟩,
  ⟨atM "Room" "__eq__", "__eq__", "Room.__eq__", s___eq__⟩,
  ⟨atM "Room" "__bool__", "__bool__", "Room.__bool__", s___bool__⟩,
  ⟨atM "Room" "__getitem__", "__getitem__", "Room.__getitem__", s___getitem__⟩,
  ⟨atM "Room" "__invert__", "__invert__", "Room.__invert__", s___invert__⟩,
  ⟨atG "check_port", "check_port", "check_port", s_check_port⟩,
  ⟨atG "path", "path", "path", s_path⟩,
  ⟨atG "send", "send", "send", s_send⟩,
  ⟨atG "unsent", "unsent", "unsent", s_unsent⟩,
  ⟨atG "_law_random", "_law_random", "_law_random", s__law_random⟩,
  ⟨atG "_law_room", "_law_room", "_law_room", s__law_room⟩,
  ⟨atG "_law_below", "_law_below", "_law_below", s__law_below⟩,
  ⟨atG "_law_lines", "_law_lines", "_law_lines", s__law_lines⟩,
  ⟨atG "_law_equal", "_law_equal", "_law_equal", s__law_equal⟩,
  ⟨atG "_law_error_of", "_law_error_of", "_law_error_of", s__law_error_of⟩,
  ⟨atG "law", "law", "law", s_law⟩]
def tsL : List He.Tab := [(atG "TURNED", [("r" : Str), ("f" : Str)])]
def tfL : List He.Defn := [("law", none)]
abbrev hk : PySem.W.Hook := hookMX 6 exL fnL tsL tfL
def ob (s : PySem.W.SharedT) : AlMX := obsMXG 6 exL fnL tsL tfL (HandSHeadRun.getT s)
theorem ob_eq (s : PySem.W.SharedT) : ob s = hk.obs s.abs := obsMXG_eq (HandSHeadRun.getT_eq s)
abbrev RR : PySem.W.OpenRow := PySem.W.OpenLaw.row PySem.Challenge.rw_mirrorturns_k04_whole_beams_undone
def loose0 : List PySem.Str := ["_wall", "MirrorError", "InvalidRoom", "UnknownPort", "UnknownTile", "InvalidNumber", "OtherRoom", "TooMany", "Contradiction", "NotTurning", "InvalidName", "UnknownName", "InvalidOperation", "EMPTY", "TURNED", "SIGNS", "UP", "DOWN", "LEFT", "RIGHT", "is_int_in", "thrown", "Room", "check_port", "path", "send", "unsent", "_law_random", "_law_room", "_law_below"]
def loose1 : List PySem.Str := ["_law_lines", "_law_equal", "_law_error_of"]
abbrev looseL : List PySem.Str := loose0 ++ loose1
theorem run0f (w : World) : HandSHeadRun.RunEq RR (PySem.W.view RR.prog [36]) hk ob 8000 looseL (w.withFollow "special-get-raises" false) := by
  intro os
  kernel_rfl
theorem run0t (w : World) : HandSHeadRun.RunEq RR (PySem.W.view RR.prog [36]) hk ob 8000 looseL (w.withFollow "special-get-raises" true) := by
  intro os
  kernel_rfl
theorem run (w : World) : HandSHeadRun.RunEq RR (PySem.W.view RR.prog [36]) hk ob 8000 looseL w := PySem.W.byRow2 "special-get-raises" (P := fun w => HandSHeadRun.RunEq RR (PySem.W.view RR.prog [36]) hk ob 8000 looseL w) run0f run0t w
end MT

/-! MT1: values, store, results; the relation to the layer's heap; readings T. -/
namespace MT
open PySem L2

/-- a value of the little language: tuples and rooms are trees, lists and other objects stand in the store -/
inductive D where
  | non | bl (b : Bool) | int (i : Int) | str (s : Str)
  | loc (n : Nat)
  | tup (xs : List D)
  | fl (xs : List D)
  | kl (xs : List D)
  | room (ls : List Str)
  | adr (a : Addr)

inductive Cell where
  | lst (xs : List D)
  | dK (kvs : List (Key × D))
  | dT (kvs : List (List Key × D))
  | ins (c : Str) (fs : List (Str × D))

abbrev Store := List Cell
abbrev EnvD := List (Option D)
structure Exn where
  cls : Str
  fs : List (Str × D)
inductive Res (α : Type) where
  | ok (a : α) (m : Store)
  | exc (x : Exn) (m : Store)
  | bad
inductive ResS where
  | nxt (e : EnvD) (m : Store)
  | ret (d : D) (m : Store)
  | exc (x : Exn) (e : EnvD) (m : Store)
  | bad
def Res.bind {α β : Type} (r : Res α) (f : α → Store → Res β) : Res β := match r with
  | .ok a m => f a m
  | .exc x m => .exc x m
  | .bad => .bad
abbrev Pg := EnvD → Store → Res D
abbrev PgL := EnvD → Store → Res (List D)
abbrev PgS := EnvD → Store → ResS
abbrev Fn := List D → Store → Res D

/-- what the top has left: the written part, the class Room, the other classes -/
structure G where
  K : PySem.W.Frag
  CR : Addr
  cl : Str → Addr
  /-- the tables of code objects, with their code objects' names -/
  T : List (Addr × Str) := []

def heightS (ls : List Str) : Nat := ls.length
def widthS (ls : List Str) : Nat := match ls with | [] => 0 | l :: _ => l.length
def portsV (ls : List Str) : List V := (List.range (2 * (heightS ls + widthS ls))).map fun i => V.int (i : Nat)
def isTurnC (c : Nat) : Bool := c == 114 || c == 102
def isSignC (c : Nat) : Bool := c == 46 || c == 114 || c == 102 || c == 82 || c == 70
def turnCount (ls : List Str) : Nat := ((ls.map fun l => (l.cps.toList.filter isTurnC).length).sum)
/-- a valid room's rows -/
def Valid (ls : List Str) : Prop := 1 ≤ ls.length ∧ ls.length ≤ 8 ∧ 1 ≤ widthS ls ∧ widthS ls ≤ 8 ∧
  (∀ l ∈ ls, l.length = widthS ls ∧ ∀ c ∈ l.cps.toList, isSignC c = true) ∧ turnCount ls ≤ 10

def RoomAt (g : G) (H : Hp) (p : Addr) (ls : List Str) : Prop := ∃ (dx t q : Addr) (o : Obj),
  H p = some (.ins g.CR dx [(("lines" : Str), .ref t), (("ports" : Str), .ref q)]) ∧ SqT g.K H t (ls.map V.str) ∧ H q = some (.frz o (.lst (portsV ls))) ∧ Valid ls

/-- a list that nobody writes -/
def SqF (H : Hp) (a : Addr) (xs : List V) : Prop := ∃ o, H a = some (.frz o (.lst xs))
/-- .. or that is a part of the text behind the top -/
def SqK (K : PySem.W.Frag) (H : Hp) (a : Addr) (xs : List V) : Prop := (∃ o, H a = some (.frz o (.lst xs))) ∨
    ∃ (o : Obj) (its : Array Value) (n : Nat), K.lookup a = some o ∧ o.cls = .type "list" ∧ o.dict = none ∧ o.data = .seq its n ∧ its.size ≤ sizeLine ∧ Vals xs its.toList
theorem SqF.sq {K : PySem.W.Frag} {H : Hp} {a : Addr} {xs : List V} (h : SqF H a xs) : SqL K H a xs := .inl (.inr h)
theorem SqK.sq {K : PySem.W.Frag} {H : Hp} {a : Addr} {xs : List V} (h : SqK K H a xs) : SqL K H a xs := by
  rcases h with ⟨o, h⟩ | h
  · exact .inl (.inr ⟨o, h⟩)
  · exact .inr h
mutual
inductive DenV (g : G) (ρ : List Addr) (H : Hp) : D → V → Prop where
  | non : DenV g ρ H .non .non
  | bl (b : Bool) : DenV g ρ H (.bl b) (.bl b)
  | int (i : Int) : DenV g ρ H (.int i) (.int i)
  | str (s : Str) : DenV g ρ H (.str s) (.str s)
  | loc {n : Nat} {a : Addr} (h : ρ[n]? = some a) : DenV g ρ H (.loc n) (.ref a)
  | tup {p : Addr} {ds : List D} {vs : List V} (h : SqT g.K H p vs) (hl : DenL g ρ H ds vs) : DenV g ρ H (.tup ds) (.ref p)
  | fl {p : Addr} {ds : List D} {vs : List V} (h : SqF H p vs) (hl : DenL g ρ H ds vs) : DenV g ρ H (.fl ds) (.ref p)
  | kl {p : Addr} {ds : List D} {vs : List V} (h : SqK g.K H p vs) (hl : DenL g ρ H ds vs) : DenV g ρ H (.kl ds) (.ref p)
  | room {p : Addr} {ls : List Str} (h : RoomAt g H p ls) : DenV g ρ H (.room ls) (.ref p)
  | adr (a : Addr) : DenV g ρ H (.adr a) (.ref a)
inductive DenL (g : G) (ρ : List Addr) (H : Hp) : List D → List V → Prop where
  | nil : DenL g ρ H [] []
  | cons {d : D} {v : V} {ds : List D} {vs : List V} (h : DenV g ρ H d v) (hl : DenL g ρ H ds vs) : DenL g ρ H (d :: ds) (v :: vs)
end

def CellAt (g : G) (ρ : List Addr) (H : Hp) (a : Addr) : Cell → Prop
  | .lst ds => ∃ vs, H a = some (.lst vs) ∧ DenL g ρ H ds vs
  | .dK kvs => ∃ vs, H a = some (.dK ((kvs.map (·.1)).zip vs)) ∧ DenL g ρ H (kvs.map (·.2)) vs
  | .dT kvs => ∃ vs, H a = some (.dT ((kvs.map (·.1)).zip vs)) ∧ DenL g ρ H (kvs.map (·.2)) vs
  | .ins c fs => ∃ dx vs, H a = some (.ins (g.cl c) dx ((fs.map (·.1)).zip vs)) ∧ DenL g ρ H (fs.map (·.2)) vs ∧ g.cl c ≠ g.CR

structure RelS (g : G) (ρ : List Addr) (m : Store) (H : Hp) : Prop where
  len : ρ.length = m.length
  nd : ∀ (i j : Nat) (a : Addr), ρ[i]? = some a → ρ[j]? = some a → i = j
  at_ : ∀ (i : Nat) (a : Addr) (c : Cell), ρ[i]? = some a → m[i]? = some c → CellAt g ρ H a c
  tabs : LamX.Tabs g.T H

def RelE (g : G) (ρ : List Addr) (H : Hp) (ε : EnvD) (σ : L2.St) : Prop :=
  ε.length = σ.length ∧ ∀ (i : Nat) (d : D), ε[i]? = some (some d) → ∃ v, σ[i]? = some (some v) ∧ DenV g ρ H d v

/-- what only grows -/
structure Up (g : G) (ρ : List Addr) (H : Hp) (ρ' : List Addr) (H' : Hp) : Prop where
  ext : ∀ (n : Nat) (a : Addr), ρ[n]? = some a → ρ'[n]? = some a
  tup : ∀ a xs, H a = some (.tup xs) → H' a = some (.tup xs)
  frz : ∀ a o u, H a = some (.frz o u) → H' a = some (.frz o u)
  rm : ∀ a dx fs, H a = some (.ins g.CR dx fs) → H' a = some (.ins g.CR dx fs)

variable {g : G} {ρ ρ' ρ1 ρ2 : List Addr} {H H' H1 H2 : Hp} {m m' : Store} {ε : EnvD} {σ : L2.St}

theorem Up.refl : Up g ρ H ρ H := ⟨fun _ _ h => h, fun _ _ h => h, fun _ _ _ h => h, fun _ _ _ h => h⟩
theorem Up.trans (a : Up g ρ H ρ1 H1) (b : Up g ρ1 H1 ρ2 H2) : Up g ρ H ρ2 H2 :=
  ⟨fun n x h => b.ext n x (a.ext n x h), fun x xs h => b.tup x xs (a.tup x xs h), fun x o u h => b.frz x o u (a.frz x o u h), fun x dx fs h => b.rm x dx fs (a.rm x dx fs h)⟩
theorem Up.sqt (u : Up g ρ H ρ' H') {p : Addr} {vs : List V} (h : SqT g.K H p vs) : SqT g.K H' p vs := by
  rcases h with (h | ⟨o, h⟩) | h
  · exact .inl (.inl (u.tup _ _ h))
  · exact .inl (.inr ⟨o, u.frz _ _ _ h⟩)
  · exact .inr h
theorem Up.room (u : Up g ρ H ρ' H') {p : Addr} {ls : List Str} (h : RoomAt g H p ls) : RoomAt g H' p ls := by
  obtain ⟨dx, t, q, o, h1, h2, h3, h4⟩ := h
  exact ⟨dx, t, q, o, u.rm _ _ _ h1, u.sqt h2, u.frz _ _ _ h3, h4⟩
theorem Up.sqf (u : Up g ρ H ρ' H') {p : Addr} {vs : List V} (h : SqF H p vs) : SqF H' p vs := let ⟨o, h⟩ := h; ⟨o, u.frz _ _ _ h⟩
theorem Up.sqk (u : Up g ρ H ρ' H') {p : Addr} {vs : List V} (h : SqK g.K H p vs) : SqK g.K H' p vs := by
  rcases h with ⟨o, h⟩ | h
  · exact .inl ⟨o, u.frz _ _ _ h⟩
  · exact .inr h
mutual
theorem DenV.up (u : Up g ρ H ρ' H') : ∀ {d : D} {v : V}, DenV g ρ H d v → DenV g ρ' H' d v
  | _, _, .non => .non
  | _, _, .bl b => .bl b
  | _, _, .int i => .int i
  | _, _, .str s => .str s
  | _, _, .loc h => .loc (u.ext _ _ h)
  | _, _, .tup h hl => .tup (u.sqt h) (DenL.up u hl)
  | _, _, .fl h hl => .fl (u.sqf h) (DenL.up u hl)
  | _, _, .kl h hl => .kl (u.sqk h) (DenL.up u hl)
  | _, _, .room h => .room (u.room h)
  | _, _, .adr a => .adr a
theorem DenL.up (u : Up g ρ H ρ' H') : ∀ {ds : List D} {vs : List V}, DenL g ρ H ds vs → DenL g ρ' H' ds vs
  | _, _, .nil => .nil
  | _, _, .cons h hl => .cons (h.up u) (DenL.up u hl)
end

/-! ### results -/
def Fin (g : G) (W : Exn → List Addr → Hp → L2.St → Prop) (ρ : List Addr) (H : Hp) (σ : L2.St) (r : Res D) (Q : VK) : Prop := match r with
  | .ok d m => ∀ ρ' H' v, Up g ρ H ρ' H' → RelS g ρ' m H' → DenV g ρ' H' d v → Q v H'
  | .exc x m => ∀ ρ' H', Up g ρ H ρ' H' → RelS g ρ' m H' → W x ρ' H' σ
  | .bad => False
/-- what is wished of an exception -/
abbrev Wx := Exn → List Addr → Hp → L2.St → Prop
variable {W : Wx} {r : Res D} {Q : VK}
theorem Fin.up (u : Up g ρ H ρ' H') (h : Fin g W ρ H σ r Q) : Fin g W ρ' H' σ r Q := by
  cases r with
  | ok d m => exact fun ρ2 H2 v u2 => h ρ2 H2 v (u.trans u2)
  | exc x m => exact fun ρ2 H2 u2 => h ρ2 H2 (u.trans u2)
  | bad => exact h
/-- values xs have been reckoned (ds in the little language); f goes on -/
def At (g : G) (W : Wx) (xs : List V) (σ : L2.St) (H : Hp) (f : EnvD → List D → Store → Res D) (Q : VK) : Prop :=
  ∃ ε ρ m ds, RelE g ρ H ε σ ∧ RelS g ρ m H ∧ DenL g ρ H ds xs ∧ Fin g W ρ H σ (f ε ds m) Q
/-- the reading of a program -/
def T (g : G) (W : Wx) (p : Pg) : TE := fun σ H Q => At g W [] σ H (fun ε _ m => p ε m) Q
theorem RelE.up (u : Up g ρ H ρ' H') (h : RelE g ρ H ε σ) : RelE g ρ' H' ε σ := ⟨h.1, fun i d e => let ⟨v, a, b⟩ := h.2 i d e; ⟨v, a, b.up u⟩⟩
theorem DenL.length {ds : List D} {vs : List V} (h : DenL g ρ H ds vs) : ds.length = vs.length := by
  induction ds generalizing vs with
  | nil => cases h; rfl
  | cons d ds ih => cases h with | cons a b => simp [ih b]
theorem DenL.append {ds es : List D} {vs ws : List V} (a : DenL g ρ H ds vs) (b : DenL g ρ H es ws) : DenL g ρ H (ds ++ es) (vs ++ ws) := by
  induction ds generalizing vs with
  | nil => cases a; exact b
  | cons d ds ih => cases a with | cons h hl => exact .cons h (ih hl)
theorem Fin.bind {r : Res D} {k : D → Store → Res D} {Q' : VK} (h : Fin g W ρ H σ (r.bind k) Q) (hk : ∀ ρ' H' v d m', Up g ρ H ρ' H' → RelS g ρ' m' H' → DenV g ρ' H' d v → Fin g W ρ' H' σ (k d m') Q → Q' v H') : Fin g W ρ H σ r Q' := by
  cases r with
  | ok d m => exact fun ρ' H' v u s dv => hk ρ' H' v d m u s dv (Fin.up u h)
  | exc x m => exact h
  | bad => exact h
theorem At.bind {xs : List V} {p : Pg} {f0 f : EnvD → List D → Store → Res D} (h : At g W xs σ H f0 Q) (hf : ∀ ε ds m, ds.length = xs.length → f0 ε ds m = (p ε m).bind fun d m' => f ε (ds ++ [d]) m') :
    T g W p σ H fun v H1 => At g W (xs ++ [v]) σ H1 f Q := by
  obtain ⟨ε, ρ, m, ds, e, s, l, h⟩ := h
  rw [hf ε ds m l.length] at h
  exact ⟨ε, ρ, m, [], e, s, .nil, Fin.bind h fun ρ' H' v d m' u s' dv q => ⟨ε, ρ', m', ds ++ [d], e.up u, s', (l.up u).append (.cons dv .nil), q⟩⟩
theorem PE.imp {X : Cx} {e : Expr} {t t' : TE} (h : PE X e t) (i : ∀ σ H Q, t' σ H Q → t σ H Q) : PE X e t' := ⟨fun pins s σ H Q I q => h.run pins s σ H Q I (i σ H Q q)⟩
end MT

/-! MT2: store lemmas; first rules. -/
namespace MT
open PySem L2
variable {g : G} {ρ ρ' ρ1 ρ2 : List Addr} {H H' H1 H2 : Hp} {m m' : Store} {ε : EnvD} {σ : L2.St} {W : Wx} {r : Res D} {Q Q' : VK} {X : Cx}

def lim : Nat := 1000000
theorem lim_le {n : Nat} (h : n ≤ lim) : n ≤ sizeLine := by rw [sizeLine_eq]; exact Nat.le_trans h (by decide)
theorem lim_lt {n : Nat} (h : n ≤ lim) : n < sizeLine := by rw [sizeLine_eq]; exact Nat.lt_of_le_of_lt h (by decide)

theorem Fin.okc {d : D} {v : V} (h : Fin g W ρ H σ (.ok d m) Q) (s : RelS g ρ m H) (dv : DenV g ρ H d v) : Q v H := h ρ H v .refl s dv
theorem Fin.mono (h : Fin g W ρ H σ r Q) (hq : ∀ v H', Q v H' → Q' v H') : Fin g W ρ H σ r Q' := by
  cases r with
  | ok d m => exact fun ρ' H' v u s dv => hq _ _ (h ρ' H' v u s dv)
  | exc x m => exact h
  | bad => exact h
theorem T.mono {p : Pg} (h : T g W p σ H Q) (hq : ∀ v H', Q v H' → Q' v H') : T g W p σ H Q' := by
  obtain ⟨ε, ρ, m, ds, e, s, l, h⟩ := h
  exact ⟨ε, ρ, m, ds, e, s, l, h.mono hq⟩
theorem At.one {x : V} {f : EnvD → List D → Store → Res D} (h : At g W [x] σ H f Q) : ∃ ε ρ m d, RelE g ρ H ε σ ∧ RelS g ρ m H ∧ DenV g ρ H d x ∧ Fin g W ρ H σ (f ε [d] m) Q := by
  obtain ⟨ε, ρ, m, ds, e, s, l, h⟩ := h
  cases l with | cons a l => cases l with | nil => exact ⟨ε, ρ, m, _, e, s, a, h⟩
theorem At.two {x y : V} {f : EnvD → List D → Store → Res D} (h : At g W [x, y] σ H f Q) : ∃ ε ρ m d e, RelE g ρ H ε σ ∧ RelS g ρ m H ∧ DenV g ρ H d x ∧ DenV g ρ H e y ∧ Fin g W ρ H σ (f ε [d, e] m) Q := by
  obtain ⟨ε, ρ, m, ds, e, s, l, h⟩ := h
  cases l with | cons a l => cases l with | cons b l => cases l with | nil => exact ⟨ε, ρ, m, _, _, e, s, a, b, h⟩

theorem DenL.get {ds : List D} {vs : List V} (h : DenL g ρ H ds vs) {i : Nat} {d : D} (e : ds[i]? = some d) : ∃ v, vs[i]? = some v ∧ DenV g ρ H d v := by
  induction ds generalizing vs i with
  | nil => simp at e
  | cons a ds ih =>
    cases h with
    | cons a b =>
      cases i with
      | zero => simp at e; subst e; exact ⟨_, rfl, a⟩
      | succ i => simp at e; obtain ⟨v, h1, h2⟩ := ih b e; exact ⟨v, by simpa using h1, h2⟩
theorem DenL.set {ds : List D} {vs : List V} (h : DenL g ρ H ds vs) {i : Nat} {d : D} {v : V} (e : DenV g ρ H d v) : DenL g ρ H (ds.set i d) (vs.set i v) := by
  induction ds generalizing vs i with
  | nil => cases h; exact .nil
  | cons a ds ih =>
    cases h with
    | cons a b =>
      cases i with
      | zero => exact .cons e b
      | succ i => exact .cons a (ih b)
theorem DenL.take {ds : List D} {vs : List V} (h : DenL g ρ H ds vs) (n : Nat) : DenL g ρ H (ds.take n) (vs.take n) := by
  induction ds generalizing vs n with
  | nil => cases h; simpa using DenL.nil
  | cons a ds ih =>
    cases h with
    | cons a b =>
      cases n with
      | zero => exact .nil
      | succ n => exact .cons a (ih b n)
theorem DenL.drop {ds : List D} {vs : List V} (h : DenL g ρ H ds vs) (n : Nat) : DenL g ρ H (ds.drop n) (vs.drop n) := by
  induction ds generalizing vs n with
  | nil => cases h; simpa using DenL.nil
  | cons a ds ih =>
    cases h with
    | cons a b =>
      cases n with
      | zero => exact .cons a b
      | succ n => exact ih b n
theorem DenL.ints {ns : List Int} : DenL g ρ H (ns.map D.int) (ns.map V.int) := by
  induction ns with
  | nil => exact .nil
  | cons n ns ih => exact .cons (.int n) ih
theorem DenL.strs {ns : List Str} : DenL g ρ H (ns.map D.str) (ns.map V.str) := by
  induction ns with
  | nil => exact .nil
  | cons n ns ih => exact .cons (.str n) ih

/-! ### the store -/
theorem RelS.addr (s : RelS g ρ m H) {n : Nat} {c : Cell} (e : m[n]? = some c) : ∃ a, ρ[n]? = some a ∧ CellAt g ρ H a c := by
  have h1 : n < m.length := (List.getElem?_eq_some_iff.mp e).1
  have h2 : n < ρ.length := by rw [s.len]; exact h1
  exact ⟨ρ[n], List.getElem?_eq_getElem h2, s.at_ n _ c (List.getElem?_eq_getElem h2) e⟩
theorem DenV.loc_ {n : Nat} {v : V} (h : DenV g ρ H (.loc n) v) : ∃ a, v = .ref a ∧ ρ[n]? = some a := by
  cases h with | loc h => exact ⟨_, rfl, h⟩
/-- a cell that is read -/
theorem RelS.cell (s : RelS g ρ m H) {n : Nat} {c : Cell} {v : V} (h : DenV g ρ H (.loc n) v) (e : m[n]? = some c) : ∃ a, v = .ref a ∧ ρ[n]? = some a ∧ CellAt g ρ H a c := by
  obtain ⟨a, rfl, ha⟩ := h.loc_
  exact ⟨a, rfl, ha, s.at_ n a c ha e⟩
/-- the items of a list -/
def lsD (m : Store) : D → Option (List D)
  | .loc n => match m[n]? with
    | some (.lst xs) => some xs
    | _ => none
  | .fl xs => some xs
  | _ => none
theorem RelS.seq (s : RelS g ρ m H) {d : D} {v : V} {xs : List D} (h : DenV g ρ H d v) (e : lsD m d = some xs) : ∃ a vs, v = .ref a ∧ Rd H a (.lst vs) ∧ DenL g ρ H xs vs := by
  cases h with
  | @loc n p hp =>
    simp only [lsD] at e
    split at e
    · rename_i ys hc
      cases e
      obtain ⟨_, e1, _, vs, hv, l⟩ := s.cell (.loc hp) hc
      cases e1
      exact ⟨p, vs, rfl, .inl hv, l⟩
    · cases e
  | @fl p ds vs hp l => cases e; exact ⟨p, vs, rfl, .inr hp, l⟩
  | _ => cases e
/-- the items of a list or tuple -/
def itsD (m : Store) : D → Option (List D)
  | .tup xs => some xs
  | d => lsD m d
theorem RelS.its (s : RelS g ρ m H) {d : D} {v : V} {xs : List D} (h : DenV g ρ H d v) (e : itsD m d = some xs) : ∃ a vs, v = .ref a ∧ (SqL g.K H a vs ∨ SqT g.K H a vs) ∧ DenL g ρ H xs vs := by
  have gen : lsD m d = some xs → ∃ a vs, v = .ref a ∧ (SqL g.K H a vs ∨ SqT g.K H a vs) ∧ DenL g ρ H xs vs := fun e =>
    let ⟨a, vs, e1, r, l⟩ := s.seq h e
    ⟨a, vs, e1, .inl (.inl r), l⟩
  cases h with
  | @tup p ds vs hp l => cases e; exact ⟨p, vs, rfl, .inr hp, l⟩
  | _ => exact gen e
theorem CellAt.ex {a : Addr} {c : Cell} (h : CellAt g ρ H a c) : ∃ o, H a = some o := by
  cases c with
  | lst ds => obtain ⟨vs, h, _⟩ := h; exact ⟨_, h⟩
  | dK kvs => obtain ⟨vs, h, _⟩ := h; exact ⟨_, h⟩
  | dT kvs => obtain ⟨vs, h, _⟩ := h; exact ⟨_, h⟩
  | ins c fs => obtain ⟨dx, vs, h, _⟩ := h; exact ⟨_, h⟩
/-- a cell at an address that stays -/
theorem CellAt.up {a : Addr} {c : Cell} (h : CellAt g ρ H a c) (u : Up g ρ H ρ' H') (ha : H' a = H a) : CellAt g ρ' H' a c := by
  cases c with
  | lst ds => obtain ⟨vs, h, l⟩ := h; exact ⟨vs, ha.trans h, l.up u⟩
  | dK kvs => obtain ⟨vs, h, l⟩ := h; exact ⟨vs, ha.trans h, l.up u⟩
  | dT kvs => obtain ⟨vs, h, l⟩ := h; exact ⟨vs, ha.trans h, l.up u⟩
  | ins c fs => obtain ⟨dx, vs, h, l, n⟩ := h; exact ⟨dx, vs, ha.trans h, l.up u, n⟩
theorem Up.new {p : Addr} {o : HO} (hp : H p = none) : Up g ρ H ρ (upd H p o) :=
  ⟨fun _ _ h => h, fun a xs h => by rw [upd_ne (ne_of_none h hp)]; exact h, fun a o u h => by rw [upd_ne (ne_of_none h hp)]; exact h, fun a dx fs h => by rw [upd_ne (ne_of_none h hp)]; exact h⟩
theorem Up.app {p : Addr} : Up g ρ H (ρ ++ [p]) H :=
  ⟨fun n a h => by rw [List.getElem?_append_left (List.getElem?_eq_some_iff.mp h).1]; exact h, fun _ _ h => h, fun _ _ _ h => h, fun _ _ _ h => h⟩
theorem tabs_keep {T : List (Addr × Str)} (t : LamX.Tabs T H) (k1 : ∀ b ps, H b = some (.tbl ps) → H' b = some (.tbl ps)) (k2 : ∀ b φ, H b = some (.ext φ) → H' b = some (.ext φ)) : LamX.Tabs T H' := fun p hp => by
  obtain ⟨ps, h1, h2, h3⟩ := t p hp
  refine ⟨ps, k1 _ _ h1, h2, fun pos cv hc => ?_⟩
  obtain ⟨c, e1, e2⟩ := h3 pos cv hc
  exact ⟨c, e1, k2 _ _ e2⟩
theorem tabs_new {T : List (Addr × Str)} {p : Addr} {o : HO} (t : LamX.Tabs T H) (hp : H p = none) : LamX.Tabs T (upd H p o) :=
  tabs_keep t (fun b ps h => by rw [upd_ne (ne_of_none h hp)]; exact h) fun b φ h => by rw [upd_ne (ne_of_none h hp)]; exact h
theorem RelS.up (s : RelS g ρ m H) (u : Up g ρ H ρ H') (t : LamX.Tabs g.T H') (k : ∀ i a, ρ[i]? = some a → i < m.length → H' a = H a) : RelS g ρ m H' :=
  ⟨s.len, s.nd, fun i a c h1 h2 => (s.at_ i a c h1 h2).up u (k i a h1 (List.getElem?_eq_some_iff.mp h2).1), t⟩
/-- a new thing that is no cell -/
theorem RelS.off (s : RelS g ρ m H) {p : Addr} {o : HO} (hp : H p = none) : RelS g ρ m (upd H p o) :=
  ⟨s.len, s.nd, fun i a c h1 h2 => by
    have h := s.at_ i a c h1 h2
    obtain ⟨u, hu⟩ := h.ex
    exact h.up (Up.new hp) (upd_ne (ne_of_none hu hp)), tabs_new s.tabs hp⟩
/-- a new cell -/
theorem RelS.push (s : RelS g ρ m H) {p : Addr} {o : HO} {c : Cell} (hp : H p = none) (hc : CellAt g (ρ ++ [p]) (upd H p o) p c) : RelS g (ρ ++ [p]) (m ++ [c]) (upd H p o) := by
  have old : ∀ i a, ρ[i]? = some a → a ≠ p := fun i a h e => by
    have h1 : i < m.length := by rw [← s.len]; exact (List.getElem?_eq_some_iff.mp h).1
    obtain ⟨u, hu⟩ := (s.at_ i a _ h (List.getElem?_eq_getElem h1)).ex
    rw [e, hp] at hu; cases hu
  refine ⟨by simp [s.len], fun i j a h1 h2 => ?_, fun i a c' h1 h2 => ?_, tabs_new s.tabs hp⟩
  · by_cases hi : i < ρ.length
    · rw [List.getElem?_append_left hi] at h1
      by_cases hj : j < ρ.length
      · rw [List.getElem?_append_left hj] at h2
        exact s.nd i j a h1 h2
      · rw [List.getElem?_append_right (by omega)] at h2
        have : a = p := by
          cases hk : j - ρ.length with
          | zero => rw [hk] at h2; simpa using h2.symm
          | succ k => rw [hk] at h2; simp at h2
        exact absurd this (old i a h1)
    · have e1 : i = ρ.length ∧ a = p := by
        rw [List.getElem?_append_right (by omega)] at h1
        cases hk : i - ρ.length with
        | zero => rw [hk] at h1; exact ⟨by omega, by simpa using h1.symm⟩
        | succ k => rw [hk] at h1; simp at h1
      by_cases hj : j < ρ.length
      · rw [List.getElem?_append_left hj] at h2
        exact absurd e1.2 (old j a h2)
      · rw [List.getElem?_append_right (by omega)] at h2
        cases hk : j - ρ.length with
        | zero => omega
        | succ k => rw [hk] at h2; simp at h2
  · by_cases hi : i < ρ.length
    · rw [List.getElem?_append_left hi] at h1
      rw [List.getElem?_append_left (by rw [← s.len]; exact hi)] at h2
      have h := s.at_ i a c' h1 h2
      exact h.up (Up.trans (Up.new hp) Up.app) (upd_ne (old i a h1))
    · rw [List.getElem?_append_right (by omega)] at h1
      rw [List.getElem?_append_right (by rw [← s.len]; omega)] at h2
      rw [← s.len] at h2
      cases hk : i - ρ.length with
      | zero =>
        rw [hk] at h1 h2
        have e1 : a = p := by simpa using h1.symm
        have e2 : c' = c := by simpa using h2.symm
        subst e1; subst e2; exact hc
      | succ k => rw [hk] at h1; simp at h1
theorem loc_last {p : Addr} (s : RelS g ρ m H) : (ρ ++ [p])[m.length]? = some p := by rw [← s.len]; simp
/-- a write -/
def Wr (g : G) (o : HO) : Prop := match o with
  | .lst _ => True
  | .dK _ => True
  | .dT _ => True
  | .ins C _ _ => C ≠ g.CR
  | _ => False
theorem CellAt.wr {a : Addr} {c : Cell} (h : CellAt g ρ H a c) : ∃ o, H a = some o ∧ Wr g o := by
  cases c with
  | lst ds => obtain ⟨vs, h, _⟩ := h; exact ⟨_, h, trivial⟩
  | dK kvs => obtain ⟨vs, h, _⟩ := h; exact ⟨_, h, trivial⟩
  | dT kvs => obtain ⟨vs, h, _⟩ := h; exact ⟨_, h, trivial⟩
  | ins c fs => obtain ⟨dx, vs, h, _, n⟩ := h; exact ⟨_, h, n⟩
theorem Up.write {a : Addr} {o o' : HO} (ha : H a = some o) (w : Wr g o) : Up g ρ H ρ (upd H a o') := by
  refine ⟨fun _ _ h => h, fun b xs h => ?_, fun b o u h => ?_, fun b dx fs h => ?_⟩
  · rw [upd_ne]; exact h
    rintro rfl; rw [ha] at h; cases h; exact w
  · rw [upd_ne]; exact h
    rintro rfl; rw [ha] at h; cases h; exact w
  · rw [upd_ne]; exact h
    rintro rfl; rw [ha] at h; cases h; exact w rfl
theorem tabs_wr {T : List (Addr × Str)} {a : Addr} {o o' : HO} (t : LamX.Tabs T H) (ha : H a = some o) (w : Wr g o) : LamX.Tabs T (upd H a o') :=
  tabs_keep t (fun b ps h => by
    rw [upd_ne]; exact h
    rintro rfl; rw [ha] at h; cases h; exact w) fun b φ h => by
    rw [upd_ne]; exact h
    rintro rfl; rw [ha] at h; cases h; exact w
theorem RelS.set (s : RelS g ρ m H) {n : Nat} {a : Addr} {c c' : Cell} {o' : HO} (ha : ρ[n]? = some a) (hc : m[n]? = some c) (hn : CellAt g ρ (upd H a o') a c') : RelS g ρ (m.set n c') (upd H a o') := by
  obtain ⟨o, ho, w⟩ := (s.at_ n a c ha hc).wr
  refine ⟨by simp [s.len], s.nd, fun i b c2 h1 h2 => ?_, tabs_wr s.tabs ho w⟩
  by_cases hi : i = n
  · subst hi
    rw [ha] at h1; cases h1
    rw [List.getElem?_set_self (List.getElem?_eq_some_iff.mp hc).1] at h2
    cases h2; exact hn
  · rw [List.getElem?_set_ne (Ne.symm hi)] at h2
    exact (s.at_ i b c2 h1 h2).up (Up.write ho w) (upd_ne fun e => hi (s.nd i n a (e ▸ h1) ha))
/-- what is made new: the answer -/
theorem Fin.new {c : Cell} {p : Addr} {o : HO} (h : Fin g W ρ H σ (.ok (.loc m.length) (m ++ [c])) Q) (s : RelS g ρ m H) (hp : H p = none) (hc : CellAt g (ρ ++ [p]) (upd H p o) p c) : Q (.ref p) (upd H p o) :=
  h _ _ _ (Up.trans (Up.new hp) Up.app) (s.push hp hc) (.loc (loc_last s))
theorem Fin.newL {ds : List D} {vs : List V} {p : Addr} (h : Fin g W ρ H σ (.ok (.loc m.length) (m ++ [.lst ds])) Q) (s : RelS g ρ m H) (hp : H p = none) (hl : DenL g ρ H ds vs) : Q (.ref p) (upd H p (.lst vs)) :=
  h.new s hp ⟨vs, upd_same, hl.up (Up.trans (Up.new hp) Up.app)⟩
theorem Fin.newT {ds : List D} {vs : List V} {p : Addr} (h : Fin g W ρ H σ (.ok (.tup ds) m) Q) (s : RelS g ρ m H) (hp : H p = none) (hl : DenL g ρ H ds vs) : Q (.ref p) (upd H p (.tup vs)) :=
  h _ _ _ (Up.new hp) (s.off hp) (.tup (SqT.of upd_same) (hl.up (Up.new hp)))

/-! ### names, constants -/
def pVar (i : Nat) : Pg := fun ε m => match ε[i]? with
  | some (some d) => .ok d m
  | _ => .bad
theorem te_var (i : Nat) {x : Str} {pos : Pos} (hN : X.N[i]? = some x := by rfl) (hv : Vis X.env.scope x := by first | exact Or.inl rfl | exact Or.inr (Or.inl rfl) | exact Or.inr (Or.inr rfl)) (hd : (x == ("__debug__" : Str)) = false := by decide)
    (hcd : (x == ("__classdict__" : Str)) = false := by decide) : PE X (.Name x pos) (T g W (pVar i)) := PE.imp (pv i hN hv hd hcd) fun σ H Q h => by
  obtain ⟨ε, ρ, m, ds, e, s, l, h⟩ := h
  unfold pVar at h
  cases hi : ε[i]? with
  | none => simp only [hi] at h; exact h.elim
  | some o =>
    cases o with
    | none => simp only [hi] at h; exact h.elim
    | some d =>
      simp only [hi] at h
      obtain ⟨v, a, b⟩ := e.2 i d hi
      exact ⟨v, a, h.okc s b⟩
def pC (d : D) : Pg := fun _ m => .ok d m
theorem te_c {e : Expr} {v : V} {d : D} (h : PE X e (tC v)) (hd : ∀ (ρ : List Addr) (H : Hp), DenV g ρ H d v) : PE X e (T g W (pC d)) := PE.imp h fun σ H Q h => by
  obtain ⟨ε, ρ, m, ds, e, s, l, h⟩ := h
  exact h.okc s (hd ρ H)
theorem te_int {i j pos} : PE X (.Constant (.int i) j pos) (T g W (pC (.int i))) := te_c pe_int fun _ _ => .int i
theorem te_bl {b j pos} : PE X (.Constant (.bool b) j pos) (T g W (pC (.bl b))) := te_c pe_bl fun _ _ => .bl b
theorem te_non {j pos} : PE X (.Constant .none j pos) (T g W (pC .non)) := te_c pe_non fun _ _ => .non
theorem te_str {x j pos} : PE X (.Constant (.str x) j pos) (T g W (pC (.str x))) := te_c pe_str fun _ _ => .str x

/-! ### operators -/
def p2 (f : Fn) (pa pb : Pg) : Pg := fun ε m => (pa ε m).bind fun x m1 => (pb ε m1).bind fun y m2 => f [x, y] m2
def p1 (f : Fn) (pa : Pg) : Pg := fun ε m => (pa ε m).bind fun x m1 => f [x] m1
/-- a rule on two values serves f -/
def Op2 (g : G) (W : Wx) (r : R2) (f : Fn) : Prop := ∀ (ρ : List Addr) (m : Store) (σ : L2.St) (H : Hp) (d e : D) (x y : V) (Q : VK), RelS g ρ m H → DenV g ρ H d x → DenV g ρ H e y → Fin g W ρ H σ (f [d, e] m) Q → r x y H Q
def Op1 (g : G) (W : Wx) (r : V → Hp → VK → Prop) (f : Fn) : Prop := ∀ (ρ : List Addr) (m : Store) (σ : L2.St) (H : Hp) (d : D) (x : V) (Q : VK), RelS g ρ m H → DenV g ρ H d x → Fin g W ρ H σ (f [d] m) Q → r x H Q
theorem t_op2 {r : R2} {f : Fn} {pa pb : Pg} (hs : Op2 g W r f) (h : T g W (p2 f pa pb) σ H Q) : tOp r (T g W pa) (T g W pb) σ H Q :=
  T.mono (At.bind (f := fun ε ds m => (pb ε m).bind fun y m2 => f (ds ++ [y]) m2) h fun ε ds m hl => match ds, hl with | [], _ => rfl) fun x H1 h1 => T.mono (At.bind (f := fun _ ds m => f ds m) h1 fun ε ds m hl => match ds, hl with | [d], _ => rfl) fun y H2 h2 => by
    obtain ⟨ε, ρ, m, d, e, _, s, a, b, h⟩ := h2.two
    exact hs ρ m σ H2 d e x y Q s a b h
theorem t_op1 {r : V → Hp → VK → Prop} {f : Fn} {pa : Pg} (hs : Op1 g W r f) (h : T g W (p1 f pa) σ H Q) : T g W pa σ H fun x H1 => r x H1 Q :=
  T.mono (At.bind (f := fun _ ds m => f ds m) h fun ε ds m hl => match ds, hl with | [], _ => rfl) fun x H1 h1 => by
    obtain ⟨ε, ρ, m, d, _, s, a, h⟩ := h1.one
    exact hs ρ m σ H1 d x Q s a h
variable {a b : Expr} {pa pb : Pg} {pos : Pos}
theorem te_bin {op : Operator} {r : R2} {f : Fn} (ho : OpR X (binaryOp op) r) (hs : Op2 g W r f) (ha : PE X a (T g W pa)) (hb : PE X b (T g W pb)) : PE X (.BinOp a op b pos) (T g W (p2 f pa pb)) :=
  PE.imp (pe_op ho ha hb) fun _ _ _ h => t_op2 hs h
theorem te_cmp {op : CmpOp} {r : R2} {f : Fn} (ho : OpR X (compareOp op) r) (hs : Op2 g W r f) (ha : PE X a (T g W pa)) (hb : PE X b (T g W pb)) (hm : behindInMarks op b = false) : PE X (.Compare a [op] [b] pos) (T g W (p2 f pa pb)) :=
  PE.imp (pe_cmpR ho ha hb hm) fun _ _ _ h => t_op2 hs h
/-- a test's reading -/
def Tt (g : G) (W : Wx) (p : Pg) : TT := fun σ H Q => T g W p σ H fun v H1 => ∃ k, v = .bl k ∧ Q k H1
theorem PT.imp {e : Expr} {t t' : TT} (h : PT X e t) (i : ∀ σ H Q, t' σ H Q → t σ H Q) : PT X e t' := ⟨fun pins s σ H Q I q => h.run pins s σ H Q I (i σ H Q q)⟩
theorem PW.imp {e : Expr} {t t' : TT} (h : PW X e t) (i : ∀ σ H Q, t' σ H Q → t σ H Q) : PW X e t' := ⟨fun wh pins s σ H Q I q => h.run wh pins s σ H Q I (i σ H Q q)⟩
theorem tt_cmp {op : CmpOp} {r : R2} {f : Fn} (ho : OpR X (compareOp op) r) (hs : Op2 g W r f) (ha : PE X a (T g W pa)) (hb : PE X b (T g W pb)) (hm : behindInMarks op b = false) : PT X (.Compare a [op] [b] pos) (Tt g W (p2 f pa pb)) :=
  PT.imp (pt_cmpR ho ha hb hm) fun _ _ _ h => t_op2 hs h
theorem tt_val (ha : PE X a (T g W pa)) (he : ∀ whole, isTrue a X.env whole = (do let v ← whole; standAt a.pos; holding [v] (truthy v)) := by intro _; rfl) : PT X a (Tt g W pa) := pt_val ha he
end MT

/-! MT3: operators, tests, displays, subscripts, arguments. -/
namespace MT
open PySem L2
variable {g : G} {ρ ρ' ρ1 ρ2 : List Addr} {H H' H1 H2 : Hp} {m m' : Store} {ε : EnvD} {σ : L2.St} {W : Wx} {r : Res D} {Q Q' : VK} {X : Cx} {a b c : Expr} {pa pb pc : Pg} {pos : Pos}

/-! ### ints -/
def gSub : Fn
  | [.int i, .int j], m => .ok (.int (i - j)) m
  | _, _ => .bad
def gMul : Fn
  | [.int i, .int j], m => if (-(2 ^ 64) < i ∧ i < 2 ^ 64) ∨ (-(2 ^ 64) < j ∧ j < 2 ^ 64) then .ok (.int (i * j)) m else .bad
  | _, _ => .bad
def gMod : Fn
  | [.int i, .int j], m => if 0 < j then .ok (.int (i % j)) m else .bad
  | _, _ => .bad
def gFdiv : Fn
  | [.int i, .int j], m => if 0 < j ∧ j < 1073741824 then .ok (.int (i / j)) m else .bad
  | _, _ => .bad
def gPow : Fn
  | [.int i, .int j], m => if 0 ≤ j ∧ j ≤ 1000000 ∧ i.natAbs < 2 ^ 64 then .ok (.int (i ^ j.toNat)) m else .bad
  | _, _ => .bad
def gCmp (p : Int → Int → Bool) : Fn
  | [.int i, .int j], m => .ok (.bl (p i j)) m
  | _, _ => .bad
theorem o_sub : Op2 g W (rI0 fun i j => .int (i - j)) gSub := by
  intro ρ m σ H d e x y Q s ha hb h
  cases ha <;> cases hb <;> first | exact False.elim h | exact ⟨_, _, rfl, rfl, Fin.okc h s (.int _)⟩
theorem o_mul : Op2 g W (rI CMul fun i j => .int (i * j)) gMul := by
  intro ρ m σ H d e x y Q s ha hb h
  cases ha <;> cases hb <;> first | exact False.elim h | skip
  rename_i i j
  by_cases c : (-(2 ^ 64) < i ∧ i < 2 ^ 64) ∨ (-(2 ^ 64) < j ∧ j < 2 ^ 64)
  · simp only [gMul, if_pos c] at h
    exact ⟨_, _, rfl, rfl, c, Fin.okc h s (.int _)⟩
  · simp only [gMul, if_neg c] at h; exact h.elim
theorem o_mod : Op2 g W (rI (fun _ j => 0 < j) fun i j => .int (i % j)) gMod := by
  intro ρ m σ H d e x y Q s ha hb h
  cases ha <;> cases hb <;> first | exact False.elim h | skip
  rename_i i j
  by_cases c : 0 < j
  · simp only [gMod, if_pos c] at h
    exact ⟨_, _, rfl, rfl, c, Fin.okc h s (.int _)⟩
  · simp only [gMod, if_neg c] at h; exact h.elim
theorem o_fdiv : Op2 g W (rI CDiv fun i j => .int (i / j)) gFdiv := by
  intro ρ m σ H d e x y Q s ha hb h
  cases ha <;> cases hb <;> first | exact False.elim h | skip
  rename_i i j
  by_cases c : 0 < j ∧ j < 1073741824
  · simp only [gFdiv, if_pos c] at h
    exact ⟨_, _, rfl, rfl, c, Fin.okc h s (.int _)⟩
  · simp only [gFdiv, if_neg c] at h; exact h.elim
theorem o_pow : Op2 g W (rI CPow fun i j => .int (i ^ j.toNat)) gPow := by
  intro ρ m σ H d e x y Q s ha hb h
  cases ha <;> cases hb <;> first | exact False.elim h | skip
  rename_i i j
  by_cases c : 0 ≤ j ∧ j ≤ 1000000 ∧ i.natAbs < 2 ^ 64
  · simp only [gPow, if_pos c] at h
    exact ⟨_, _, rfl, rfl, c, Fin.okc h s (.int _)⟩
  · simp only [gPow, if_neg c] at h; exact h.elim
theorem o_cmp {p : Int → Int → Bool} : Op2 g W (rI0 fun i j => .bl (p i j)) (gCmp p) := by
  intro ρ m σ H d e x y Q s ha hb h
  cases ha <;> cases hb <;> first | exact False.elim h | exact ⟨_, _, rfl, rfl, Fin.okc h s (.bl _)⟩
abbrev gLt : Fn := gCmp fun i j => decide (i < j)
abbrev gLe : Fn := gCmp fun i j => decide (i ≤ j)
abbrev gGt : Fn := gCmp fun i j => decide (j < i)
abbrev gGe : Fn := gCmp fun i j => decide (j ≤ i)
theorem te_sub (ha : PE X a (T g W pa)) (hb : PE X b (T g W pb)) : PE X (.BinOp a .Sub b pos) (T g W (p2 gSub pa pb)) := te_bin op_sub o_sub ha hb
theorem te_mul (ha : PE X a (T g W pa)) (hb : PE X b (T g W pb)) : PE X (.BinOp a .Mult b pos) (T g W (p2 gMul pa pb)) := te_bin op_mul o_mul ha hb
theorem te_mod (ha : PE X a (T g W pa)) (hb : PE X b (T g W pb)) : PE X (.BinOp a .Mod b pos) (T g W (p2 gMod pa pb)) := te_bin op_mod o_mod ha hb
theorem te_fdiv (ha : PE X a (T g W pa)) (hb : PE X b (T g W pb)) : PE X (.BinOp a .FloorDiv b pos) (T g W (p2 gFdiv pa pb)) := te_bin op_fdiv o_fdiv ha hb
theorem te_pow (ha : PE X a (T g W pa)) (hb : PE X b (T g W pb)) : PE X (.BinOp a .Pow b pos) (T g W (p2 gPow pa pb)) := te_bin op_pow o_pow ha hb
theorem te_lt (ha : PE X a (T g W pa)) (hb : PE X b (T g W pb)) : PE X (.Compare a [.Lt] [b] pos) (T g W (p2 gLt pa pb)) := te_cmp op_lt o_cmp ha hb (nomark _)
theorem te_le (ha : PE X a (T g W pa)) (hb : PE X b (T g W pb)) : PE X (.Compare a [.LtE] [b] pos) (T g W (p2 gLe pa pb)) := te_cmp op_le o_cmp ha hb (nomark _)
theorem te_gt (ha : PE X a (T g W pa)) (hb : PE X b (T g W pb)) : PE X (.Compare a [.Gt] [b] pos) (T g W (p2 gGt pa pb)) := te_cmp op_gt o_cmp ha hb (nomark _)
theorem te_ge (ha : PE X a (T g W pa)) (hb : PE X b (T g W pb)) : PE X (.Compare a [.GtE] [b] pos) (T g W (p2 gGe pa pb)) := te_cmp op_ge o_cmp ha hb (nomark _)
theorem tt_lt (ha : PE X a (T g W pa)) (hb : PE X b (T g W pb)) : PT X (.Compare a [.Lt] [b] pos) (Tt g W (p2 gLt pa pb)) := tt_cmp op_lt o_cmp ha hb (nomark _)
theorem tt_le (ha : PE X a (T g W pa)) (hb : PE X b (T g W pb)) : PT X (.Compare a [.LtE] [b] pos) (Tt g W (p2 gLe pa pb)) := tt_cmp op_le o_cmp ha hb (nomark _)
theorem tt_gt (ha : PE X a (T g W pa)) (hb : PE X b (T g W pb)) : PT X (.Compare a [.Gt] [b] pos) (Tt g W (p2 gGt pa pb)) := tt_cmp op_gt o_cmp ha hb (nomark _)
theorem tt_ge (ha : PE X a (T g W pa)) (hb : PE X b (T g W pb)) : PT X (.Compare a [.GtE] [b] pos) (Tt g W (p2 gGe pa pb)) := tt_cmp op_ge o_cmp ha hb (nomark _)

/-! ### + -/
def gAdd : Fn
  | [x, y], m => match x, y with
    | .int i, .int j => .ok (.int (i + j)) m
    | .str i, .str j => if i.length + j.length ≤ lim then .ok (.str (i ++ j)) m else .bad
    | .tup xs, .tup ys => if xs.length + ys.length ≤ lim then .ok (.tup (xs ++ ys)) m else .bad
    | x, y => match lsD m x, lsD m y with
      | some xs, some ys => if xs.length + ys.length ≤ lim then .ok (.loc m.length) (m ++ [.lst (xs ++ ys)]) else .bad
      | _, _ => .bad
  | _, _ => .bad
def rCatR : R2 := fun x y H Q => ∃ l b xs zs, x = .ref l ∧ y = .ref b ∧ Rd H l (.lst xs) ∧ Rd H b (.lst zs) ∧ xs.length + zs.length ≤ sizeLine ∧ ∀ p, H p = none → Q (.ref p) (upd H p (.lst (xs ++ zs)))
theorem op_catR : OpR X (binaryOp .Add) rCatR := by
  intro pins s σ H x y v u Q I rx ry h
  obtain ⟨l, b, xs, zs, rfl, rfl, hH, hB, hz, q⟩ := h
  cases rx
  cases ry
  obtain ⟨z, its, n, r, e⟩ := hH.ok I.hok
  obtain ⟨z2, its2, n2, r2, e2⟩ := hB.ok I.hok
  have hl := r.length
  have hl2 := r2.length
  refine PySem.P.add_list e e2 ?_ (by rw [List.size_toArray, List.size_toArray]; omega)
  have ea : its.toArray ++ its2.toArray = (its ++ its2).toArray := by simp
  rw [ea]
  exact ⟨.ref _, _, I.lnew (t' := s.toks) (r.append r2) (by rw [List.length_append]; omega), rfl, q _ I.fresh⟩
def rAddA (K : PySem.W.Frag) : R2 := fun x y H Q => rI0 (fun i j => .int (i + j)) x y H Q ∨ ((∃ i j, x = .str i ∧ y = .str j ∧ i.length + j.length ≤ sizeLine ∧ Q (.str (i ++ j)) H) ∨ (rCatA K x y H Q ∨ rCatR x y H Q))
theorem op_addA : OpR X (binaryOp .Add) (rAddA X.K) := OpR.or op_add (OpR.or op_add_str (OpR.or op_catA op_catR))
theorem o_add : Op2 g W (rAddA g.K) gAdd := by
  intro ρ m σ H d e x y Q s ha hb h
  have lst : ∀ {ds es : List D}, lsD m d = some ds → lsD m e = some es → Fin g W ρ H σ (if ds.length + es.length ≤ lim then .ok (.loc m.length) (m ++ [.lst (ds ++ es)]) else .bad) Q → rAddA g.K x y H Q := by
    intro ds es h1 h2 q
    obtain ⟨a, vs, rfl, r1, l1⟩ := s.seq ha h1
    obtain ⟨b, ws, rfl, r2, l2⟩ := s.seq hb h2
    split at q
    · rename_i c
      exact .inr (.inr (.inr ⟨a, b, vs, ws, rfl, rfl, r1, r2, by rw [← l1.length, ← l2.length]; exact lim_le c, fun r hr => q.newL s hr (l1.append l2)⟩))
    · exact q.elim
  have gen : (∀ i j, d = .int i → e = .int j → False) → (∀ i j, d = .str i → e = .str j → False) → (∀ i j, d = .tup i → e = .tup j → False) → rAddA g.K x y H Q := by
    intro n1 n2 n3
    have q : Fin g W ρ H σ (match lsD m d, lsD m e with
      | some xs, some ys => if xs.length + ys.length ≤ lim then .ok (.loc m.length) (m ++ [.lst (xs ++ ys)]) else .bad
      | _, _ => .bad) Q := by
      unfold gAdd at h
      dsimp only at h
      split at h <;> first | exact (n1 _ _ rfl rfl).elim | exact (n2 _ _ rfl rfl).elim | exact (n3 _ _ rfl rfl).elim | exact h
    cases e1 : lsD m d with
    | none => rw [e1] at q; exact q.elim
    | some ds =>
      cases e2 : lsD m e with
      | none => rw [e1, e2] at q; exact q.elim
      | some es => rw [e1, e2] at q; exact lst e1 e2 q
  cases ha with
  | int i =>
    cases hb with
    | int j => exact .inl ⟨_, _, rfl, rfl, Fin.okc h s (.int _)⟩
    | _ => exact gen (fun _ _ _ z => nomatch z) (fun _ _ z _ => nomatch z) (fun _ _ z _ => nomatch z)
  | str i =>
    cases hb with
    | str j =>
      by_cases c : i.length + j.length ≤ lim
      · simp only [gAdd, if_pos c] at h
        exact .inr (.inl ⟨_, _, rfl, rfl, lim_le c, Fin.okc h s (.str _)⟩)
      · simp only [gAdd, if_neg c] at h; exact h.elim
    | _ => exact gen (fun _ _ z _ => nomatch z) (fun _ _ _ z => nomatch z) (fun _ _ z _ => nomatch z)
  | @tup p ds vs hp l1 =>
    cases hb with
    | @tup q es ws hq l2 =>
      by_cases c : ds.length + es.length ≤ lim
      · simp only [gAdd, if_pos c] at h
        refine .inr (.inr (.inl ⟨p, q, vs, ws, rfl, rfl, hp, hq, by rw [← l1.length, ← l2.length]; exact lim_le c, fun z => ?_, fun _ z => ?_, fun _ _ r hr => h.newT s hr (l1.append l2)⟩))
        · subst z
          cases l1
          exact h.okc s (.tup hq l2)
        · subst z
          cases l2
          rw [List.append_nil] at h
          exact h.okc s (.tup hp l1)
      · simp only [gAdd, if_neg c] at h; exact h.elim
    | _ => exact gen (fun _ _ z _ => nomatch z) (fun _ _ z _ => nomatch z) (fun _ _ _ z => nomatch z)
  | _ => exact gen (fun _ _ z _ => nomatch z) (fun _ _ z _ => nomatch z) (fun _ _ z _ => nomatch z)
theorem te_add (hK : X.K = g.K) (ha : PE X a (T g W pa)) (hb : PE X b (T g W pb)) : PE X (.BinOp a .Add b pos) (T g W (p2 gAdd pa pb)) := te_bin (op_addA (X := X)) (by rw [hK]; exact o_add) ha hb

/-! ### a sign in a text -/
def gInS (neg : Bool) : Fn
  | [.str a, .str b], m => match a.cps.toList with
    | [c] => .ok (.bl (if neg then !decide (c ∈ b.cps.toList) else decide (c ∈ b.cps.toList))) m
    | _ => .bad
  | _, _ => .bad
theorem str_one {a : Str} {c : Nat} (h : a.cps.toList = [c]) : a = ⟨#[c]⟩ := by
  obtain ⟨cps⟩ := a
  have : cps = #[c] := by apply Array.toList_inj.mp; simpa using h
  rw [this]
theorem o_inS : Op2 g W (fun x y H Q => ∃ (c : Nat) (z : Str), x = .str ⟨#[c]⟩ ∧ y = .str z ∧ Q (.bl (decide (c ∈ z.cps.toList))) H) (gInS false) := by
  intro ρ m σ H d e x y Q s ha hb h
  cases ha <;> cases hb <;> first | exact False.elim h | skip
  rename_i u v
  simp only [gInS] at h
  split at h
  · rename_i c hc
    exact ⟨c, v, by rw [str_one hc], rfl, Fin.okc h s (.bl _)⟩
  · exact h.elim
theorem o_notInS : Op2 g W (fun x y H Q => ∃ (c : Nat) (z : Str), x = .str ⟨#[c]⟩ ∧ y = .str z ∧ Q (.bl (!decide (c ∈ z.cps.toList))) H) (gInS true) := by
  intro ρ m σ H d e x y Q s ha hb h
  cases ha <;> cases hb <;> first | exact False.elim h | skip
  rename_i u v
  simp only [gInS] at h
  split at h
  · rename_i c hc
    exact ⟨c, v, by rw [str_one hc], rfl, Fin.okc h s (.bl _)⟩
  · exact h.elim
theorem te_inS (ha : PE X a (T g W pa)) (hb : PE X b (T g W pb)) (hm : behindInMarks .In b = false := by rfl) : PE X (.Compare a [.In] [b] pos) (T g W (p2 (gInS false) pa pb)) := te_cmp op_in_sign o_inS ha hb hm
theorem tt_inS (ha : PE X a (T g W pa)) (hb : PE X b (T g W pb)) (hm : behindInMarks .In b = false := by rfl) : PT X (.Compare a [.In] [b] pos) (Tt g W (p2 (gInS false) pa pb)) := tt_cmp op_in_sign o_inS ha hb hm
theorem tt_notInS (ha : PE X a (T g W pa)) (hb : PE X b (T g W pb)) (hm : behindInMarks .NotIn b = false := by rfl) : PT X (.Compare a [.NotIn] [b] pos) (Tt g W (p2 (gInS true) pa pb)) := tt_cmp op_notIn_sign o_notInS ha hb hm

/-! ### and, or, not, if -/
def pAnd (pa pb : Pg) : Pg := fun ε m => (pa ε m).bind fun x m1 => match x with
  | .bl true => pb ε m1
  | .bl false => .ok (.bl false) m1
  | _ => .bad
def pOr (pa pb : Pg) : Pg := fun ε m => (pa ε m).bind fun x m1 => match x with
  | .bl true => .ok (.bl true) m1
  | .bl false => pb ε m1
  | _ => .bad
def gNot : Fn
  | [.bl b], m => .ok (.bl (!b)) m
  | _, _ => .bad
def pIf (pc pa pb : Pg) : Pg := fun ε m => (pc ε m).bind fun x m1 => match x with
  | .bl true => pa ε m1
  | .bl false => pb ε m1
  | _ => .bad
/-- a test, then ways -/
theorem t_test {f : Bool → Pg} (h : At g W [] σ H (fun ε _ m => (pc ε m).bind fun x m1 => match x with | .bl k => f k ε m1 | _ => .bad) Q) : Tt g W pc σ H fun k H1 => T g W (f k) σ H1 Q := by
  obtain ⟨ε, ρ, m, ds, e, s, l, h⟩ := h
  refine ⟨ε, ρ, m, [], e, s, .nil, Fin.bind h fun ρ' H' v d m' u s' dv q => ?_⟩
  cases dv with
  | bl k => exact ⟨k, rfl, ε, ρ', m', [], e.up u, s', .nil, q⟩
  | _ => exact False.elim q
theorem bl_match {α : Type} {x : D} {A B : α} {C : α} : (match x with | .bl true => A | .bl false => B | _ => C) = (match x with | .bl k => (if k = true then A else B) | _ => C) := by
  cases x with
  | bl k => cases k <;> rfl
  | _ => rfl
theorem T.eqv {p q : Pg} (h : T g W p σ H Q) (e : ∀ ε m, p ε m = q ε m) : T g W q σ H Q := by
  have : p = q := funext fun ε => funext fun m => e ε m
  rw [← this]; exact h
theorem t_ifs {A B : Pg} (h : T g W (pIf pc A B) σ H Q) : Tt g W pc σ H fun k H1 => if k = true then T g W A σ H1 Q else T g W B σ H1 Q := by
  refine T.mono (t_test (f := fun k => if k = true then A else B) (?_ : At g W [] σ H _ Q)) ?_
  · refine T.eqv h fun ε m => ?_
    unfold pIf
    congr 1
    funext x m1
    cases x with
    | bl k => cases k <;> rfl
    | _ => rfl
  · rintro v H1 ⟨k, e, q⟩
    refine ⟨k, e, ?_⟩
    cases k <;> exact q
theorem te_if (hc : PT X c (Tt g W pc)) (ha : PE X a (T g W pa)) (hb : PE X b (T g W pb)) : PE X (.IfExp c a b pos) (T g W (pIf pc pa pb)) :=
  PE.imp (pe_ifExp hc ha hb) fun σ H Q h => t_ifs h
/-- a truth value -/
theorem tt_of {k : Bool} {R : Bool → Hp → Prop} (h : T g W pa σ H (fun v H1 => ∃ k, v = .bl k ∧ R k H1)) : Tt g W pa σ H R := h
theorem T.bl {k : Bool} (h : T g W (pC (.bl k)) σ H Q) : Q (.bl k) H := by
  obtain ⟨ε, ρ, m, ds, e, s, l, h⟩ := h
  exact Fin.okc h s (.bl k)
theorem tw_and1 (ha : PT X a (Tt g W pa)) : PW X (.BoolOp .And [a] pos) (Tt g W pa) := pw_and1 ha
theorem tw_or1 (ha : PT X a (Tt g W pa)) : PW X (.BoolOp .Or [a] pos) (Tt g W pa) := pw_or1 ha
variable {rest : List Expr}
theorem tw_and (ha : PT X a (Tt g W pa)) (hb : PW X (.BoolOp .And (b :: rest) pos) (Tt g W pb)) : PW X (.BoolOp .And (a :: b :: rest) pos) (Tt g W (pAnd pa pb)) :=
  PW.imp (pw_and ha hb) fun σ H R h => by
    have h2 : T g W (pIf pa pb (pC (.bl false))) σ H fun v H1 => ∃ k, v = .bl k ∧ R k H1 := h
    refine T.mono (t_ifs h2) ?_
    rintro v H1 ⟨k, e, q⟩
    refine ⟨k, e, ?_⟩
    cases k with
    | true => exact q
    | false =>
      obtain ⟨k, e, z⟩ := T.bl q
      cases e; exact z
theorem tw_or (ha : PT X a (Tt g W pa)) (hb : PW X (.BoolOp .Or (b :: rest) pos) (Tt g W pb)) : PW X (.BoolOp .Or (a :: b :: rest) pos) (Tt g W (pOr pa pb)) :=
  PW.imp (pw_or ha hb) fun σ H R h => by
    have h2 : T g W (pIf pa (pC (.bl true)) pb) σ H fun v H1 => ∃ k, v = .bl k ∧ R k H1 := h
    refine T.mono (t_ifs h2) ?_
    rintro v H1 ⟨k, e, q⟩
    refine ⟨k, e, ?_⟩
    cases k with
    | false => exact q
    | true =>
      obtain ⟨k, e, z⟩ := T.bl q
      cases e; exact z
theorem o_not : Op1 g W (fun x H Q => ∃ c, x = .bl c ∧ Q (.bl (!c)) H) gNot := by
  intro ρ m σ H d x Q s ha h
  cases ha <;> first | exact False.elim h | exact ⟨_, rfl, Fin.okc h s (.bl _)⟩
theorem tt_not (ha : PT X a (Tt g W pa)) : PT X (.UnaryOp .Not a pos) (Tt g W (p1 gNot pa)) :=
  PT.imp (pt_not ha) fun σ H R h => by
    refine T.mono (t_op1 o_not h) ?_
    rintro v H1 ⟨k, e, k2, e2, q⟩
    cases e2
    exact ⟨k, e, q⟩
theorem te_not (ha : PE X a (T g W pa)) : PE X (.UnaryOp .Not a pos) (T g W (p1 gNot pa)) :=
  PE.imp (pe_not ha) fun σ H Q h => t_op1 o_not h
theorem te_one {op} (ha : PE X a (T g W pa)) : PE X (.BoolOp op [a] pos) (T g W pa) := pe_one ha
theorem te_and (ha : PE X a (T g W pa)) (hb : PE X (.BoolOp .And (b :: rest) pos) (T g W pb)) : PE X (.BoolOp .And (a :: b :: rest) pos) (T g W (pAnd pa pb)) :=
  PE.imp (pe_and ha hb) fun σ H Q h => by
    have h2 : T g W (pIf pa pb (pC (.bl false))) σ H Q := h
    refine T.mono (t_ifs h2) ?_
    rintro v H1 ⟨k, e, q⟩
    refine ⟨k, e, ?_⟩
    cases k with
    | true => exact q
    | false => exact T.bl q
theorem te_or (ha : PE X a (T g W pa)) (hb : PE X (.BoolOp .Or (b :: rest) pos) (T g W pb)) : PE X (.BoolOp .Or (a :: b :: rest) pos) (T g W (pOr pa pb)) :=
  PE.imp (pe_or ha hb) fun σ H Q h => by
    have h2 : T g W (pIf pa (pC (.bl true)) pb) σ H Q := h
    refine T.mono (t_ifs h2) ?_
    rintro v H1 ⟨k, e, q⟩
    refine ⟨k, e, ?_⟩
    cases k with
    | false => exact q
    | true => exact T.bl q
/-- a op b op' c of ints -/
def pChain (f f' : Fn) (pa pb pc : Pg) : Pg := fun ε m => (pa ε m).bind fun x m1 => (pb ε m1).bind fun y m2 => (f [x, y] m2).bind fun z m3 => match z with
  | .bl true => (pc ε m3).bind fun w m4 => f' [y, w] m4
  | .bl false => .ok (.bl false) m3
  | _ => .bad
theorem t_chain {p p' : Int → Int → Bool} (h : T g W (pChain (gCmp p) (gCmp p') pa pb pc) σ H Q) : tChain (rI0 fun i j => .bl (p i j)) (rI0 fun i j => .bl (p' i j)) (T g W pa) (T g W pb) (T g W pc) σ H Q := by
  refine T.mono (At.bind (f := fun ε ds m => (pb ε m).bind fun y m2 => (gCmp p (ds ++ [y]) m2).bind fun z m3 => match z with
    | .bl true => (pc ε m3).bind fun w m4 => gCmp p' [y, w] m4
    | .bl false => .ok (.bl false) m3
    | _ => .bad) h fun ε ds m hl => match ds, hl with | [], _ => rfl) fun x H1 h1 => ?_
  refine T.mono (At.bind (f := fun ε ds m => (gCmp p ds m).bind fun z m3 => match z with
    | .bl true => (pc ε m3).bind fun w m4 => gCmp p' [ds.getD 1 .non, w] m4
    | .bl false => .ok (.bl false) m3
    | _ => .bad) h1 fun ε ds m hl => match ds, hl with | [d], _ => rfl) fun y H2 h2 => ?_
  obtain ⟨ε, ρ, m, d, e, he, s, ha, hb, h⟩ := h2.two
  cases ha <;> first | exact False.elim h | skip
  rename_i i
  cases hb <;> first | exact False.elim h | skip
  rename_i j
  refine ⟨i, j, rfl, rfl, p i j, rfl, ?_⟩
  have h' : Fin g W ρ H2 σ (match D.bl (p i j) with
    | .bl true => (pc ε m).bind fun w m4 => gCmp p' [.int j, w] m4
    | .bl false => .ok (.bl false) m
    | _ => .bad) Q := h
  cases hp : p i j with
  | false =>
    rw [hp] at h'
    exact iteF (Fin.okc (W := W) (σ := σ) h' s (.bl _))
  | true =>
    rw [hp] at h'
    have h3 : Fin g W ρ H2 σ ((pc ε m).bind fun w m4 => gCmp p' [.int j, w] m4) Q := h'
    refine iteT ⟨ε, ρ, m, [], he, s, .nil, Fin.bind h3 fun ρ' H' v d m' u s' dv q => ?_⟩
    cases dv <;> first | exact False.elim q | skip
    rename_i k
    exact ⟨j, k, rfl, rfl, Fin.okc (W := W) (σ := σ) q s' (.bl _)⟩
theorem te_chain {op op' : CmpOp} {p p' : Int → Int → Bool} (ho : OpR X (compareOp op) (rI0 fun i j => .bl (p i j))) (ho' : OpR X (compareOp op') (rI0 fun i j => .bl (p' i j))) (ha : PE X a (T g W pa)) (hb : PE X b (T g W pb)) (hc : PE X c (T g W pc))
    (hm : lastMarks [op, op'] [b, c] = false := by with_unfolding_all rfl) : PE X (.Compare a [op, op'] [b, c] pos) (T g W (pChain (gCmp p) (gCmp p') pa pb pc)) := PE.imp (pe_chain ho ho' ha hb hc hm) fun σ H Q h => t_chain h
theorem tt_chain {op op' : CmpOp} {p p' : Int → Int → Bool} (ho : OpR X (compareOp op) (rI0 fun i j => .bl (p i j))) (ho' : OpR X (compareOp op') (rI0 fun i j => .bl (p' i j))) (ha : PE X a (T g W pa)) (hb : PE X b (T g W pb)) (hc : PE X c (T g W pc))
    (hm : lastMarks [op, op'] [b, c] = false := by with_unfolding_all rfl) : PT X (.Compare a [op, op'] [b, c] pos) (Tt g W (pChain (gCmp p) (gCmp p') pa pb pc)) := PT.imp (pt_chain ho ho' ha hb hc hm) fun σ H Q h => t_chain h

/-! ### == of scalars -/
def scalD : D → D → Bool
  | .non, .non => true | .non, .int _ => true | .int _, .non => true | .non, .bl _ => true | .bl _, .non => true | .non, .str _ => true | .str _, .non => true
  | .int _, .int _ => true | .bl _, .bl _ => true | .str _, .str _ => true
  | .int _, .str _ => true | .str _, .int _ => true | .bl _, .str _ => true | .str _, .bl _ => true
  | _, _ => false
def eqS : D → D → Bool
  | .non, .non => true
  | .bl a, .bl b => a == b
  | .int a, .int b => a == b
  | .str a, .str b => a == b
  | _, _ => false
def gEqS (neg : Bool) : Fn
  | [x, y], m => if scalD x y = true then .ok (.bl (if neg then !eqS x y else eqS x y)) m else .bad
  | _, _ => .bad
theorem scal_den {d e : D} {x y : V} (ha : DenV g ρ H d x) (hb : DenV g ρ H e y) (h : scalD d e = true) : scal x y = true ∧ decide (x = y) = eqS d e := by
  cases ha <;> cases hb <;> first | exact (Bool.false_ne_true h).elim | exact ⟨rfl, rfl⟩ | (refine ⟨rfl, ?_⟩; simp [eqS, Bool.beq_eq_decide_eq])
theorem o_eqS : Op2 g W rEq (gEqS false) := by
  intro ρ m σ H d e x y Q s ha hb h
  simp only [gEqS] at h
  split at h
  · rename_i c
    obtain ⟨h1, h2⟩ := scal_den ha hb c
    exact ⟨h1, by rw [h2]; exact Fin.okc h s (.bl _)⟩
  · exact h.elim
theorem o_neS : Op2 g W rNe (gEqS true) := by
  intro ρ m σ H d e x y Q s ha hb h
  simp only [gEqS] at h
  split at h
  · rename_i c
    obtain ⟨h1, h2⟩ := scal_den ha hb c
    exact ⟨h1, by rw [h2]; exact Fin.okc h s (.bl _)⟩
  · exact h.elim
theorem te_eq (ha : PE X a (T g W pa)) (hb : PE X b (T g W pb)) : PE X (.Compare a [.Eq] [b] pos) (T g W (p2 (gEqS false) pa pb)) := te_cmp op_eq o_eqS ha hb (nomark _)
theorem te_ne (ha : PE X a (T g W pa)) (hb : PE X b (T g W pb)) : PE X (.Compare a [.NotEq] [b] pos) (T g W (p2 (gEqS true) pa pb)) := te_cmp op_ne o_neS ha hb (nomark _)
theorem tt_eq (ha : PE X a (T g W pa)) (hb : PE X b (T g W pb)) : PT X (.Compare a [.Eq] [b] pos) (Tt g W (p2 (gEqS false) pa pb)) := tt_cmp op_eq o_eqS ha hb (nomark _)
theorem tt_ne (ha : PE X a (T g W pa)) (hb : PE X b (T g W pb)) : PT X (.Compare a [.NotEq] [b] pos) (Tt g W (p2 (gEqS true) pa pb)) := tt_cmp op_ne o_neS ha hb (nomark _)

/-! ### lists of values: arguments, displays -/
def evL : List Pg → PgL
  | [], _, m => .ok [] m
  | p :: ps, ε, m => (p ε m).bind fun d m1 => (evL ps ε m1).bind fun ds m2 => .ok (d :: ds) m2
def FinL (g : G) (W : Wx) (ρ : List Addr) (H : Hp) (σ : L2.St) (r : Res (List D)) (Q : List V → Hp → Prop) : Prop := match r with
  | .ok ds m => ∀ ρ' H' vs, Up g ρ H ρ' H' → RelS g ρ' m H' → DenL g ρ' H' ds vs → Q vs H'
  | .exc x m => ∀ ρ' H', Up g ρ H ρ' H' → RelS g ρ' m H' → W x ρ' H' σ
  | .bad => False
theorem FinL.up {r : Res (List D)} {Q : List V → Hp → Prop} (u : Up g ρ H ρ' H') (h : FinL g W ρ H σ r Q) : FinL g W ρ' H' σ r Q := by
  cases r with
  | ok d m => exact fun ρ2 H2 v u2 => h ρ2 H2 v (u.trans u2)
  | exc x m => exact fun ρ2 H2 u2 => h ρ2 H2 (u.trans u2)
  | bad => exact h
theorem FinL.bind1 {r : Res D} {k : D → Store → Res (List D)} {Q : List V → Hp → Prop} {Q' : VK} (h : FinL g W ρ H σ (r.bind k) Q) (hk : ∀ ρ' H' v d m', Up g ρ H ρ' H' → RelS g ρ' m' H' → DenV g ρ' H' d v → FinL g W ρ' H' σ (k d m') Q → Q' v H') : Fin g W ρ H σ r Q' := by
  cases r with
  | ok d m => exact fun ρ' H' v u s dv => hk ρ' H' v d m u s dv (FinL.up u h)
  | exc x m => exact h
  | bad => exact h
theorem FinL.bindL {r : Res (List D)} {k : List D → Store → Res (List D)} {Q Q' : List V → Hp → Prop} (h : FinL g W ρ H σ (r.bind k) Q) (hk : ∀ ρ' H' v d m', Up g ρ H ρ' H' → RelS g ρ' m' H' → DenL g ρ' H' d v → FinL g W ρ' H' σ (k d m') Q → Q' v H') : FinL g W ρ H σ r Q' := by
  cases r with
  | ok d m => exact fun ρ' H' v u s dv => hk ρ' H' v d m u s dv (FinL.up u h)
  | exc x m => exact h
  | bad => exact h
theorem Fin.bindL {r : Res (List D)} {k : List D → Store → Res D} {Q : VK} {Q' : List V → Hp → Prop} (h : Fin g W ρ H σ (r.bind k) Q) (hk : ∀ ρ' H' v d m', Up g ρ H ρ' H' → RelS g ρ' m' H' → DenL g ρ' H' d v → Fin g W ρ' H' σ (k d m') Q → Q' v H') : FinL g W ρ H σ r Q' := by
  cases r with
  | ok d m => exact fun ρ' H' v u s dv => hk ρ' H' v d m u s dv (Fin.up u h)
  | exc x m => exact h
  | bad => exact h
/-- arguments' reading -/
def Ta (g : G) (W : Wx) (ps : List Pg) : TA := fun σ H Q => ∃ ε ρ m, RelE g ρ H ε σ ∧ RelS g ρ m H ∧ FinL g W ρ H σ (evL ps ε m) Q
theorem PA.imp {es : List Expr} {t t' : TA} (h : PA X es t) (i : ∀ σ H Q, t' σ H Q → t σ H Q) : PA X es t' := ⟨fun pos pins s σ H Q I q => h.run pos pins s σ H Q I (i σ H Q q)⟩
theorem ta_nil : PA X [] (Ta g W []) := PA.imp pa_nil fun σ H Q h => by
  obtain ⟨ε, ρ, m, e, s, h⟩ := h
  exact h ρ H [] .refl s .nil
theorem t_cons {p : Pg} {ps : List Pg} {Q : List V → Hp → Prop} (h : Ta g W (p :: ps) σ H Q) : tCons (T g W p) (Ta g W ps) σ H Q := by
  obtain ⟨ε, ρ, m, e, s, h⟩ := h
  refine ⟨ε, ρ, m, [], e, s, .nil, FinL.bind1 h fun ρ' H' v d m' u s' dv q => ⟨ε, ρ', m', e.up u, s', FinL.bindL q fun ρ2 H2 vs ds m2 u2 s2 dl q2 => ?_⟩⟩
  exact q2 ρ2 H2 (v :: vs) .refl s2 (.cons (dv.up u2) dl)
theorem ta_cons {e : Expr} {es : List Expr} {p : Pg} {ps : List Pg} (he : PE X e (T g W p)) (hr : PA X es (Ta g W ps)) (hs : starEach (e :: es) X.env = (false, eval e X.env) :: starEach es X.env := by rfl) : PA X (e :: es) (Ta g W (p :: ps)) :=
  PA.imp (pa_cons he hr hs) fun σ H Q h => t_cons h
/-- a function of the arguments -/
def pF (f : Fn) (ps : List Pg) : Pg := fun ε m => (evL ps ε m).bind f
/-- values xs ahead, then the arguments -/
theorem At.args {xs : List V} {ps : List Pg} {f0 f : EnvD → List D → Store → Res D} (h : At g W xs σ H f0 Q) (hf : ∀ ε ds m, ds.length = xs.length → f0 ε ds m = (evL ps ε m).bind fun es m' => f ε (ds ++ es) m') :
    Ta g W ps σ H fun vs H1 => At g W (xs ++ vs) σ H1 f Q := by
  obtain ⟨ε, ρ, m, ds, e, s, l, h⟩ := h
  rw [hf ε ds m l.length] at h
  exact ⟨ε, ρ, m, e, s, Fin.bindL h fun ρ' H' v d m' u s' dv q => ⟨ε, ρ', m', ds ++ d, e.up u, s', (l.up u).append dv, q⟩⟩
def OpN (g : G) (W : Wx) (r : List V → Hp → VK → Prop) (f : Fn) : Prop := ∀ (ρ : List Addr) (m : Store) (σ : L2.St) (H : Hp) (ds : List D) (vs : List V) (Q : VK), RelS g ρ m H → DenL g ρ H ds vs → Fin g W ρ H σ (f ds m) Q → r vs H Q
theorem Ta.mono {ps : List Pg} {Q Q' : List V → Hp → Prop} (h : Ta g W ps σ H Q) (hq : ∀ v H', Q v H' → Q' v H') : Ta g W ps σ H Q' := by
  obtain ⟨ε, ρ, m, e, s, h⟩ := h
  refine ⟨ε, ρ, m, e, s, ?_⟩
  cases hr : evL ps ε m with
  | ok d m => rw [hr] at h; exact fun ρ' H' v u s dv => hq _ _ (h ρ' H' v u s dv)
  | exc x m => rw [hr] at h; exact h
  | bad => rw [hr] at h; exact h
theorem t_fn {r : List V → Hp → VK → Prop} {f : Fn} {ps : List Pg} (hs : OpN g W r f) (h : T g W (pF f ps) σ H Q) : Ta g W ps σ H fun vs H1 => r vs H1 Q :=
  Ta.mono (At.args (xs := []) (f := fun _ ds m => f ds m) h fun ε ds m hl => match ds, hl with | [], _ => rfl) fun vs H1 h1 => by
    obtain ⟨ε, ρ, m, ds, e, s, l, h⟩ := h1
    exact hs ρ m σ H1 ds vs Q s l h
def gList : Fn := fun ds m => if ds.length ≤ lim then .ok (.loc m.length) (m ++ [.lst ds]) else .bad
def gTup : Fn := fun ds m => if ds.length ≤ lim then .ok (.tup ds) m else .bad
theorem te_list {es : List Expr} {ps : List Pg} (h : PA X es (Ta g W ps)) : PE X (.List es pos) (T g W (pF gList ps)) :=
  PE.imp (pe_lst h) fun σ H Q h => t_fn (r := fun xs H1 Q => xs.length ≤ sizeLine ∧ ∀ p, H1 p = none → Q (.ref p) (upd H1 p (.lst xs))) (fun ρ m σ H ds vs Q s l h => by
    unfold gList at h
    by_cases c : ds.length ≤ lim
    · rw [if_pos c] at h
      exact ⟨by rw [← l.length]; exact lim_le c, fun p hp => h.newL s hp l⟩
    · rw [if_neg c] at h; exact h.elim) h
theorem te_tup {es : List Expr} {ps : List Pg} {x1} (h : PA X es (Ta g W ps)) : PE X (.Tuple es x1 pos) (T g W (pF gTup ps)) :=
  PE.imp (pe_tup h) fun σ H Q h => t_fn (r := fun xs H1 Q => xs.length ≤ sizeLine ∧ ∀ p, H1 p = none → Q (.ref p) (upd H1 p (.tup xs))) (fun ρ m σ H ds vs Q s l h => by
    unfold gTup at h
    by_cases c : ds.length ≤ lim
    · rw [if_pos c] at h
      exact ⟨by rw [← l.length]; exact lim_le c, fun p hp => h.newT s hp l⟩
    · rw [if_neg c] at h; exact h.elim) h
end MT

/-! MT4: statements, targets, walks, loops, comprehensions, defs. -/
namespace MT
open PySem L2
variable {g : G} {ρ ρ' ρ1 ρ2 : List Addr} {H H' H1 H2 : Hp} {m m' : Store} {ε ε' : EnvD} {σ σ' : L2.St} {W : Wx} {r : Res D} {Q Q' : VK} {X : Cx} {a b c e : Expr} {pa pb pc pe : Pg} {pos : Pos} {D0 : Ends}

def ResS.bind (r : ResS) (f : EnvD → Store → ResS) : ResS := match r with
  | .nxt e m => f e m
  | .ret d m => .ret d m
  | .exc x e m => .exc x e m
  | .bad => .bad
def Res.toS {α : Type} (r : Res α) (ε : EnvD) (k : α → Store → ResS) : ResS := match r with
  | .ok d m => k d m
  | .exc x m => .exc x ε m
  | .bad => .bad
def FinS (g : G) (W : Wx) (ρ : List Addr) (H : Hp) (r : ResS) (D0 : Ends) : Prop := match r with
  | .nxt ε' m => ∀ ρ' H' σ', Up g ρ H ρ' H' → RelS g ρ' m H' → RelE g ρ' H' ε' σ' → D0.nx σ' H'
  | .ret d m => ∀ ρ' H' v, Up g ρ H ρ' H' → RelS g ρ' m H' → DenV g ρ' H' d v → D0.rt v H'
  | .exc x ε' m => ∀ ρ' H' σ', Up g ρ H ρ' H' → RelS g ρ' m H' → RelE g ρ' H' ε' σ' → W x ρ' H' σ'
  | .bad => False
theorem FinS.up {r : ResS} (u : Up g ρ H ρ' H') (h : FinS g W ρ H r D0) : FinS g W ρ' H' r D0 := by
  cases r with
  | nxt d m => exact fun ρ2 H2 v u2 => h ρ2 H2 v (u.trans u2)
  | ret d m => exact fun ρ2 H2 v u2 => h ρ2 H2 v (u.trans u2)
  | exc x e m => exact fun ρ2 H2 σ' u2 => h ρ2 H2 σ' (u.trans u2)
  | bad => exact h
def Ts (g : G) (W : Wx) (p : PgS) : TS := fun D0 σ H => ∃ ε ρ m, RelE g ρ H ε σ ∧ RelS g ρ m H ∧ FinS g W ρ H (p ε m) D0
theorem PS.imp {st : Stmt} {t t' : TS} (h : L2.PS X st t) (i : ∀ D σ H, t' D σ H → t D σ H) : L2.PS X st t' := ⟨fun pins s σ H D I q => h.run pins s σ H D I (i D σ H q)⟩
theorem PSs.imp {st : List Stmt} {t t' : TS} (h : L2.PSs X st t) (i : ∀ D σ H, t' D σ H → t D σ H) : L2.PSs X st t' := ⟨fun pins s σ H D I q => h.run pins s σ H D I (i D σ H q)⟩
/-- an expression ahead -/
theorem FinS.ex {k : D → Store → ResS} (h : FinS g W ρ H (r.toS ε k) D0) (e : RelE g ρ H ε σ) (hk : ∀ ρ' H' v d m', Up g ρ H ρ' H' → RelS g ρ' m' H' → DenV g ρ' H' d v → FinS g W ρ' H' (k d m') D0 → Q v H') : Fin g W ρ H σ r Q := by
  cases r with
  | ok d m => exact fun ρ' H' v u s dv => hk ρ' H' v d m u s dv (FinS.up u h)
  | exc x m => exact fun ρ' H' u s => h ρ' H' σ u s (e.up u)
  | bad => exact h
theorem ts_ex {p : Pg} {k : EnvD → D → Store → ResS} (h : Ts g W (fun ε m => (p ε m).toS ε (k ε)) D0 σ H) : T g W p σ H fun v H1 => ∃ ε ρ m d, RelE g ρ H1 ε σ ∧ RelS g ρ m H1 ∧ DenV g ρ H1 d v ∧ FinS g W ρ H1 (k ε d m) D0 := by
  obtain ⟨ε, ρ, m, e, s, h⟩ := h
  exact ⟨ε, ρ, m, [], e, s, .nil, FinS.ex h e fun ρ' H' v d m' u s' dv q => ⟨ε, ρ', m', d, e.up u, s', dv, q⟩⟩

/-! ### blocks -/
def sNil : PgS := fun ε m => .nxt ε m
def sSeq (p q : PgS) : PgS := fun ε m => (p ε m).bind q
variable {st : Stmt} {rest : List Stmt} {p q : PgS}
theorem ts_nil : L2.PSs X [] (Ts g W sNil) := PSs.imp pss_nil fun D σ H h => by
  obtain ⟨ε, ρ, m, e, s, h⟩ := h
  exact h ρ H σ .refl s e
theorem t_seq (h : Ts g W (sSeq p q) D0 σ H) : tSeq (Ts g W p) (Ts g W q) D0 σ H := by
  obtain ⟨ε, ρ, m, e, s, h⟩ := h
  refine ⟨ε, ρ, m, e, s, ?_⟩
  have h' : FinS g W ρ H ((p ε m).bind q) D0 := h
  cases hr : p ε m with
  | nxt d m => rw [hr] at h'; exact fun ρ' H' σ' u s' e' => ⟨d, ρ', m, e', s', FinS.up u h'⟩
  | ret d m => rw [hr] at h'; exact h'
  | exc x e m => rw [hr] at h'; exact h'
  | bad => rw [hr] at h'; exact h'
theorem ts_cons (h1 : L2.PS X st (Ts g W p)) (h2 : L2.PSs X rest (Ts g W q)) : L2.PSs X (st :: rest) (Ts g W (sSeq p q)) := PSs.imp (pss_cons h1 h2) fun _ _ _ h => t_seq h
theorem ts_one (h1 : L2.PS X st (Ts g W p)) : L2.PSs X [st] (Ts g W p) := pss_one h1
def sBad : PgS := fun _ _ => .bad
theorem ts_bad : L2.PS X st (Ts g W sBad) := PS.imp ps_never fun D σ H h => by
  obtain ⟨ε, ρ, m, e, s, h⟩ := h
  exact h
theorem tss_bad : L2.PSs X rest (Ts g W sBad) := PSs.imp pss_never fun D σ H h => by
  obtain ⟨ε, ρ, m, e, s, h⟩ := h
  exact h
theorem ts_pass : L2.PS X (.Pass pos) (Ts g W sNil) := PS.imp ps_pass fun D σ H h => by
  obtain ⟨ε, ρ, m, e, s, h⟩ := h
  exact h ρ H σ .refl s e
/-! ### small statements -/
def sRet (p : Pg) : PgS := fun ε m => (p ε m).toS ε fun d m' => .ret d m'
theorem ts_ret (he : PE X e (T g W pe)) : L2.PS X (.Return (some e) pos) (Ts g W (sRet pe)) := PS.imp (ps_ret he) fun D σ H h =>
  T.mono (ts_ex h) fun v H1 ⟨ε, ρ, m, d, e, s, dv, q⟩ => q ρ H1 v .refl s dv
def sExpr (p : Pg) : PgS := fun ε m => (p ε m).toS ε fun _ m' => .nxt ε m'
theorem ts_expr (he : PE X e (T g W pe)) (hs : swapsWith e none pos.line X.env = pure false := by rfl) : L2.PS X (.Expr e pos) (Ts g W (sExpr pe)) := PS.imp (ps_expr he hs) fun D σ H h =>
  T.mono (ts_ex (k := fun ε _ m' => .nxt ε m') h) fun v H1 ⟨ε, ρ, m, d, e, s, dv, q⟩ => q ρ H1 σ .refl s e
theorem RelE.set {d : D} {v : V} {i : Nat} (e : RelE g ρ H ε σ) (dv : DenV g ρ H d v) : RelE g ρ H (ε.set i (some d)) (σ.set i (some v)) := by
  refine ⟨by simp [e.1], fun j d' h => ?_⟩
  by_cases hj : j = i
  · subst hj
    have hl : j < ε.length := by
      have := (List.getElem?_eq_some_iff.mp h).1
      simpa using this
    rw [List.getElem?_set_self hl] at h
    cases h
    exact ⟨v, List.getElem?_set_self (by rw [← e.1]; exact hl), dv⟩
  · rw [List.getElem?_set_ne (Ne.symm hj)] at h
    obtain ⟨v', h1, h2⟩ := e.2 j d' h
    exact ⟨v', by rw [List.getElem?_set_ne (Ne.symm hj)]; exact h1, h2⟩
def sSet (i : Nat) (p : Pg) : PgS := fun ε m => (p ε m).toS ε fun d m' => .nxt (ε.set i (some d)) m'
theorem t_set {i : Nat} (h : Ts g W (sSet i pe) D0 σ H) : tAsg (T g W pe) (gName i) D0 σ H :=
  T.mono (ts_ex (k := fun ε d m' => .nxt (ε.set i (some d)) m') h) fun v H1 ⟨ε, ρ, m, d, e, s, dv, q⟩ => q ρ H1 _ .refl s (e.set dv)
theorem ts_set (i : Nat) {x : Str} {pos' : Pos} (hN : X.N.Nodup) (he : PE X e (T g W pe)) (hi : X.N[i]? = some x := by rfl) (hx : Loc X.env.scope x := by first | exact Or.inl rfl | exact Or.inr rfl) (hs : swapsWith e (some (.Name x pos')) pos.line X.env = pure false := by rfl) (hf : X.fn x = true ∨ X.env.scope.names.lookup x = some .local := by first | exact .inl rfl | exact .inr rfl | assumption) :
    L2.PS X (.Assign [.Name x pos'] e pos) (Ts g W (sSet i pe)) := PS.imp (ps_set hN hi hx he hs hf) fun D σ H h => t_set h
def sIf (pc : Pg) (p q : PgS) : PgS := fun ε m => (pc ε m).toS ε fun x m1 => match x with
  | .bl true => p ε m1
  | .bl false => q ε m1
  | _ => .bad
theorem ts_if {u v : List Stmt} (hc : PT X c (Tt g W pc)) (ha : L2.PSs X u (Ts g W p)) (hb : L2.PSs X v (Ts g W q)) : L2.PS X (.If c u v pos) (Ts g W (sIf pc p q)) := PS.imp (ps_if hc ha hb) fun D σ H h =>
  T.mono (ts_ex (k := fun ε x m1 => match x with
  | .bl true => p ε m1
  | .bl false => q ε m1
  | _ => .bad) h) fun v H1 ⟨ε, ρ, m, d, e, s, dv, z⟩ => by
    cases dv with
    | bl k =>
      refine ⟨k, rfl, ?_⟩
      cases k with
      | true => exact ⟨ε, ρ, m, e, s, z⟩
      | false => exact ⟨ε, ρ, m, e, s, z⟩
    | _ => exact False.elim z

/-! ### targets -/
inductive Tgt where
  | nm (i : Nat)
  | tp (is : List Nat)
def setAll : List Nat → List D → EnvD → EnvD
  | i :: is, d :: ds, ε => setAll is ds (ε.set i (some d))
  | _, _, ε => ε
def bindT : Tgt → D → EnvD → Option EnvD
  | .nm i, d, ε => some (ε.set i (some d))
  | .tp is, .tup ds, ε => if ds.length = is.length then some (setAll is ds ε) else none
  | _, _, _ => none
def Tgt.slots : Tgt → List Nat
  | .nm i => [i]
  | .tp is => is
/-- the same but for these slots -/
def SameO (vs : List Nat) (σ σ' : L2.St) : Prop := σ'.length = σ.length ∧ ∀ j, j ∉ vs → σ'[j]? = σ[j]?
theorem SameO.refl {vs : List Nat} {σ : L2.St} : SameO vs σ σ := ⟨rfl, fun _ _ => rfl⟩
theorem SameO.set {vs : List Nat} {σ σ' : L2.St} {i : Nat} {v : Option V} (h : SameO vs (σ.set i v) σ') (hi : i ∈ vs) : SameO vs σ σ' :=
  ⟨h.1.trans (by simp), fun j hj => (h.2 j hj).trans (List.getElem?_set_ne fun (e : i = j) => hj (by rw [← e]; exact hi))⟩
theorem SameO.mono {vs ws : List Nat} {σ σ' : L2.St} (h : SameO vs σ σ') (hs : ∀ i ∈ vs, i ∈ ws) : SameO ws σ σ' := ⟨h.1, fun j hj => h.2 j fun z => hj (hs j z)⟩
def trs : List Nat → TGs
  | [] => gNil
  | i :: is => gCons (gName i) (trs is)
def trT (K : PySem.W.Frag) : Tgt → TG
  | .nm i => gName i
  | .tp is => L2.gTup K is.length (trs is)
theorem trs_ok : ∀ {is : List Nat} {ρ : List Addr} {H : Hp} {σ : L2.St} {ε : EnvD} {ds : List D} {vs : List V} {Q : L2.St → Hp → Prop}, RelE g ρ H ε σ → DenL g ρ H ds vs → ds.length = is.length → (∀ σ', RelE g ρ H (setAll is ds ε) σ' → SameO is σ σ' → Q σ' H) → trs is vs σ H Q
  | [], _, _, σ, _, ds, _, _, e, dl, hl, k => by
    cases ds with
    | nil => cases dl; exact ⟨rfl, k σ e .refl⟩
    | cons d ds => cases hl
  | i :: is, _, _, _, _, _, _, _, e, dl, hl, k => by
    cases dl with
    | nil => cases hl
    | cons dv dl => exact ⟨_, _, rfl, trs_ok (e.set dv) dl (by simpa using hl) fun σ' e' o => k σ' e' (SameO.set (o.mono fun j hj => List.mem_cons_of_mem _ hj) List.mem_cons_self)⟩
theorem trT_ok {t : Tgt} {d : D} {v : V} {Q : L2.St → Hp → Prop} (e : RelE g ρ H ε σ) (dv : DenV g ρ H d v) (hb : bindT t d ε = some ε') (k : ∀ σ', RelE g ρ H ε' σ' → SameO t.slots σ σ' → Q σ' H) : trT g.K t v σ H Q := by
  cases t with
  | nm i => exact k _ (by cases hb; exact e.set dv) (SameO.set .refl (by simp [Tgt.slots]))
  | tp is =>
    cases dv with
    | @tup p ds vs hp dl =>
      simp only [bindT] at hb
      split at hb
      · rename_i hl
        cases hb
        exact ⟨p, vs, rfl, hp, by rw [← dl.length]; exact hl, trs_ok e dl hl k⟩
      · cases hb
    | _ => cases hb
/-- a target's rule serves t -/
def TgOk (g : G) (X : Cx) (tg : Expr) (t : Tgt) : Prop := PG X tg (trT g.K t)
theorem tg_nm (i : Nat) {x : Str} (hN : X.N.Nodup) (hi : X.N[i]? = some x := by rfl) (hx : Loc X.env.scope x := by first | exact Or.inl rfl | exact Or.inr rfl) (hf : X.fn x = true ∨ X.env.scope.names.lookup x = some .local := by first | exact .inl rfl | exact .inr rfl | assumption) : TgOk g X (.Name x pos) (.nm i) := pg_name hN hi hx hf
/-- several names -/
def TgsOk (g : G) (X : Cx) (tgs : List Expr) (is : List Nat) : Prop := PGs X tgs (trs is)
theorem tgs_nil : TgsOk g X [] [] := pgs_nil
theorem tgs_cons (i : Nat) {x : Str} {xs : List Expr} {is : List Nat} (hN : X.N.Nodup) (hr : TgsOk g X xs is) (hi : X.N[i]? = some x := by rfl) (hx : Loc X.env.scope x := by first | exact Or.inl rfl | exact Or.inr rfl) (hf : X.fn x = true ∨ X.env.scope.names.lookup x = some .local := by first | exact .inl rfl | exact .inr rfl | assumption)
    (hs : (assignEach (.Name x pos :: xs) X.env).map (·.2) = assign (.Name x pos) X.env :: (assignEach xs X.env).map (·.2) := by rfl) : TgsOk g X (.Name x pos :: xs) (i :: is) := pgs_cons (pg_name hN hi hx hf) hr hs
theorem tg_tp {tgs : List Expr} {is : List Nat} {k : Nat} (hK : X.K = g.K) (hc : X.calm = true) (h : TgsOk g X tgs is) (hn : (assignEach tgs X.env).length = is.length := by rfl) (hst : (assignEach tgs X.env).findIdx? (·.1) = none := by rfl) : TgOk g X (.Tuple tgs k pos) (.tp is) := by
  unfold TgOk
  rw [← hK]
  exact pg_tup hc h hn hst
def sAsgT (t : Tgt) (p : Pg) : PgS := fun ε m => (p ε m).toS ε fun d m' => match bindT t d ε with
  | some ε' => .nxt ε' m'
  | none => .bad
theorem ts_asg {tg : Expr} {t : Tgt} (he : PE X e (T g W pe)) (hg : TgOk g X tg t) (hs : swapsWithSole [tg] e pos.line X.env = pure false := by rfl) (hw : swappedStores [tg] e X.env = pure none := by rfl)
    (h1 : (assignEach [tg] X.env).map (·.2) = [assign tg X.env] := by rfl) : L2.PS X (.Assign [tg] e pos) (Ts g W (sAsgT t pe)) := by
  refine PS.imp (ps_asg he hg hs hw h1) fun D σ H h => T.mono (ts_ex (k := fun ε d m' => match bindT t d ε with
  | some ε' => .nxt ε' m'
  | none => .bad) h) fun v H1 ⟨ε, ρ, m, d, e, s, dv, q⟩ => ?_
  cases hb : bindT t d ε with
  | none => simp only [hb] at q; exact q.elim
  | some ε' =>
    simp only [hb] at q
    exact trT_ok e dv hb fun σ' e' _ => q ρ H1 σ' .refl s e'
/-- x, y = e1, e2 stored from the right -/
def sPar (i j : Nat) (ps : List Pg) : PgS := fun ε m => (evL ps ε m).toS ε fun ds m' => match ds with
  | [d, e] => .nxt ((ε.set i (some d)).set j (some e)) m'
  | _ => .bad
theorem FinS.exL {k : List D → Store → ResS} {r : Res (List D)} {Q : List V → Hp → Prop} (h : FinS g W ρ H (r.toS ε k) D0) (e : RelE g ρ H ε σ) (hk : ∀ ρ' H' v d m', Up g ρ H ρ' H' → RelS g ρ' m' H' → DenL g ρ' H' d v → FinS g W ρ' H' (k d m') D0 → Q v H') : FinL g W ρ H σ r Q := by
  cases r with
  | ok d m => exact fun ρ' H' v u s dv => hk ρ' H' v d m u s dv (FinS.up u h)
  | exc x m => exact fun ρ' H' u s => h ρ' H' σ u s (e.up u)
  | bad => exact h
theorem ts_exL {ps : List Pg} {k : EnvD → List D → Store → ResS} (h : Ts g W (fun ε m => (evL ps ε m).toS ε (k ε)) D0 σ H) : Ta g W ps σ H fun v H1 => ∃ ε ρ m d, RelE g ρ H1 ε σ ∧ RelS g ρ m H1 ∧ DenL g ρ H1 d v ∧ FinS g W ρ H1 (k ε d m) D0 := by
  obtain ⟨ε, ρ, m, e, s, h⟩ := h
  exact ⟨ε, ρ, m, e, s, FinS.exL h e fun ρ' H' v d m' u s' dv q => ⟨ε, ρ', m', d, e.up u, s', dv, q⟩⟩
theorem ts_par (i j : Nat) {x y : Str} {ps : List Pg} {px py pt : Pos} {kt k2 pt2} (hc : X.calm = true) (hN : X.N.Nodup) (ha : PA X [a, b] (Ta g W ps)) (hi : X.N[i]? = some x := by rfl) (hj : X.N[j]? = some y := by rfl) (hij : i ≠ j := by decide)
    (hx : X.env.scope.names.lookup x = some .local := by rfl) (hy : X.env.scope.names.lookup y = some .local := by rfl)
    (hw : swappedStores [.Tuple [.Name x px, .Name y py] kt pt] (.Tuple [a, b] k2 pt2) X.env = pure (some [x, y]) := by rfl)
    (hs : swapsWithSole [.Tuple [.Name x px, .Name y py] kt pt] (.Tuple [a, b] k2 pt2) pos.line X.env = pure false := by rfl) :
    L2.PS X (.Assign [.Tuple [.Name x px, .Name y py] kt pt] (.Tuple [a, b] k2 pt2) pos) (Ts g W (sPar i j ps)) := PS.imp (ps_par hc hN hi hj hij hx hy ha hw hs) fun D σ H h =>
  Ta.mono (ts_exL (k := fun ε ds m' => match ds with
  | [d, e] => .nxt ((ε.set i (some d)).set j (some e)) m'
  | _ => .bad) h) fun v H1 ⟨ε, ρ, m, d, e, s, dv, q⟩ => by
    match d, dv with
    | [_, _], .cons d1 (.cons d2 .nil) => exact ⟨_, _, rfl, q ρ H1 _ .refl s ((e.set d1).set d2)⟩
    | [], _ => exact False.elim q
    | [_], _ => exact False.elim q
    | _ :: _ :: _ :: _, _ => exact False.elim q

/-! ### while -/
def bigN : Nat := 2 ^ 40
def whileN (pc : Pg) (pb : PgS) : Nat → PgS
  | 0, _, _ => .bad
  | n + 1, ε, m => (pc ε m).toS ε fun x m1 => match x with
    | .bl true => (pb ε m1).bind (whileN pc pb n)
    | .bl false => .nxt ε m1
    | _ => .bad
def sWhile (pc : Pg) (pb : PgS) : PgS := whileN pc pb bigN
theorem FinS.bnd {r : ResS} {f : EnvD → Store → ResS} {N : L2.St → Hp → Prop} (h : FinS g W ρ H (r.bind f) D0) (hN : ∀ ρ' H' σ' ε' m', Up g ρ H ρ' H' → RelS g ρ' m' H' → RelE g ρ' H' ε' σ' → FinS g W ρ' H' (f ε' m') D0 → N σ' H') : FinS g W ρ H r { nx := N, rt := D0.rt, bk := D0.bk, ct := D0.ct } := by
  cases r with
  | nxt d m => exact fun ρ' H' σ' u s e => hN ρ' H' σ' d m u s e (FinS.up u h)
  | ret d m => exact h
  | exc x e m => exact h
  | bad => exact h
theorem FinS.ends {r : ResS} {D1 : Ends} (h : FinS g W ρ H r D0) (h1 : ∀ σ H, D0.nx σ H → D1.nx σ H) (h2 : ∀ v H, D0.rt v H → D1.rt v H) : FinS g W ρ H r D1 := by
  cases r with
  | nxt d m => exact fun ρ' H' σ' u s e => h1 _ _ (h ρ' H' σ' u s e)
  | ret d m => exact fun ρ' H' v u s e => h2 _ _ (h ρ' H' v u s e)
  | exc x e m => exact h
  | bad => exact h
theorem ts_while {body : List Stmt} (hp : PassesOwn (model X.prog X.w) X.A X.env X.xe) (hc : PT X c (Tt g W pc)) (hb : L2.PSs X body (Ts g W p)) : L2.PS X (.While c body [] pos) (Ts g W (sWhile pc p)) :=
  PS.imp (ps_while hp hc hb) fun D σ H h => by
    obtain ⟨ε, ρ, m, e, s, h⟩ := h
    refine ⟨fun n σ H => ∃ ε ρ m, RelE g ρ H ε σ ∧ RelS g ρ m H ∧ FinS g W ρ H (whileN pc p n ε m) D, ⟨bigN, ε, ρ, m, e, s, h⟩, ?_⟩
    rintro n σ1 H1 ⟨ε, ρ, m, e, s, h⟩
    cases n with
    | zero => exact h.elim
    | succ n =>
      refine T.mono (ts_ex (k := fun ε x m1 => match x with
        | .bl true => (p ε m1).bind (whileN pc p n)
        | .bl false => .nxt ε m1
        | _ => .bad) ⟨ε, ρ, m, e, s, h⟩) fun v H2 ⟨ε, ρ, m, d, e, s, dv, q⟩ => ?_
      cases dv with
      | bl k =>
        refine ⟨k, rfl, ?_⟩
        cases k with
        | false => exact iteF (q ρ H2 σ1 .refl s e)
        | true =>
          refine iteT ⟨fun σ' H' => ∃ ε ρ m, RelE g ρ H' ε σ' ∧ RelS g ρ m H' ∧ FinS g W ρ H' (whileN pc p n ε m) D, fun σ' H' h' => ⟨n, Nat.lt_succ_self n, h'⟩, ε, ρ, m, e, s, ?_⟩
          have q' : FinS g W ρ H2 ((p ε m).bind (whileN pc p n)) D := q
          exact FinS.ends (FinS.bnd q' fun ρ' H' σ' ε' m' u s' e' z => (⟨ε', ρ', m', e', s', z⟩ : ∃ ε ρ m, RelE g ρ H' ε σ' ∧ RelS g ρ m H' ∧ FinS g W ρ H' (whileN pc p n ε m) D)) (fun _ _ z => z) fun _ _ z => z
      | _ => exact False.elim q

/-! ### what is walked -/
/-- the i-th item in this store: none: no walk; some none: the end -/
abbrev Nx := Nat → Store → Option (Option D)
abbrev PgI := EnvD → Store → Res Nx
def SrcOk (g : G) (ρ : List Addr) (H : Hp) (J : It) (nx : Nx) : Prop := ∀ (ρ' : List Addr) (H' : Hp) (m' : Store) (i : Nat), Up g ρ H ρ' H' → RelS g ρ' m' H' →
  (nx i m' = some none → J.stop i H') ∧ (∀ d, nx i m' = some (some d) → J.go i H' ∧ ∀ x H2, J.yld i H' x H2 → Up g ρ' H' ρ' H2 ∧ RelS g ρ' m' H2 ∧ DenV g ρ' H2 d x)
theorem SrcOk.up {J : It} {nx : Nx} (u : Up g ρ H ρ' H') (h : SrcOk g ρ H J nx) : SrcOk g ρ' H' J nx := fun ρ2 H2 m2 i u2 s2 => h ρ2 H2 m2 i (u.trans u2) s2
def FinN (g : G) (W : Wx) (ρ : List Addr) (H : Hp) (σ : L2.St) (r : Res Nx) (R : It → Hp → Prop) : Prop := match r with
  | .ok nx m => ∀ ρ' H' J, Up g ρ H ρ' H' → RelS g ρ' m H' → SrcOk g ρ' H' J nx → R J H'
  | .exc x m => ∀ ρ' H', Up g ρ H ρ' H' → RelS g ρ' m H' → W x ρ' H' σ
  | .bad => False
/-- a walk's rule serves pi -/
def SrcR (g : G) (W : Wx) (X : Cx) (tg iter : Expr) (pi : PgI) : Prop := ∃ wi : TI, PI X tg iter wi ∧ ∀ (ρ : List Addr) (m : Store) (H : Hp) (σ : L2.St) (ε : EnvD) (R : It → Hp → Prop), RelE g ρ H ε σ → RelS g ρ m H →
  FinN g W ρ H σ (pi ε m) R → wi σ H R
def forN (nx : Nx) (t : Tgt) (pb : PgS) : Nat → Nat → PgS
  | 0, _, _, _ => .bad
  | n + 1, i, ε, m => match nx i m with
    | none => .bad
    | some none => .nxt ε m
    | some (some d) => match bindT t d ε with
      | none => .bad
      | some ε1 => (pb ε1 m).bind (forN nx t pb n (i + 1))
def sFor (pi : PgI) (t : Tgt) (pb : PgS) : PgS := fun ε m => (pi ε m).toS ε fun nx m' => forN nx t pb bigN 0 ε m'
theorem ts_for {tg iter : Expr} {body : List Stmt} {pi : PgI} {t : Tgt} (hp : PassesOwn (model X.prog X.w) X.A X.env X.xe) (hc : X.calm = true) (hi : SrcR g W X tg iter pi) (hg : TgOk g X tg t) (hb : L2.PSs X body (Ts g W p))
    (hs : ∀ x, foldedSetIterable iter X.env x = pure x := by intro _; rfl) : L2.PS X (.For tg iter body [] pos) (Ts g W (sFor pi t p)) := by
  obtain ⟨wi, i1, i2⟩ := hi
  refine PS.imp (ps_for hp hc i1 hg hb hs) fun D σ H h => ?_
  obtain ⟨ε, ρ, m, e, s, h⟩ := h
  refine i2 ρ m H σ ε _ e s ?_
  have h' : FinS g W ρ H ((pi ε m).toS ε fun nx m' => forN nx t p bigN 0 ε m') D := h
  cases hr : pi ε m with
  | bad => rw [hr] at h'; exact h'
  | exc x m' => rw [hr] at h'; exact fun ρ' H' u s' => h' ρ' H' σ u s' (e.up u)
  | ok nx m' =>
    rw [hr] at h'
    intro ρ' H' J u s' ok
    have h2 : FinS g W ρ H (forN nx t p bigN 0 ε m') D := h'
    refine ⟨fun i n σ H2 => ∃ ε ρ2 m, Up g ρ' H' ρ2 H2 ∧ RelE g ρ2 H2 ε σ ∧ RelS g ρ2 m H2 ∧ FinS g W ρ2 H2 (forN nx t p n i ε m) D, ⟨bigN, ε, ρ', m', .refl, e.up u, s', FinS.up u h2⟩, ?_⟩
    rintro i n σ1 H1 ⟨ε, ρ1, m1, u1, e1, s1, q⟩
    cases n with
    | zero => exact q.elim
    | succ n =>
      obtain ⟨k1, k2⟩ := ok ρ1 H1 m1 i u1 s1
      have q' : FinS g W ρ1 H1 (match nx i m1 with
        | none => .bad
        | some none => .nxt ε m1
        | some (some d) => match bindT t d ε with
          | none => .bad
          | some ε1 => (p ε1 m1).bind (forN nx t p n (i + 1))) D := q
      cases hn : nx i m1 with
      | none => rw [hn] at q'; exact False.elim q'
      | some o =>
        cases o with
        | none => rw [hn] at q'; exact .inl ⟨k1 hn, q' ρ1 H1 σ1 .refl s1 e1⟩
        | some d =>
          simp only [hn] at q'
          obtain ⟨k3, k4⟩ := k2 d hn
          cases hbt : bindT t d ε with
          | none => rw [hbt] at q'; exact False.elim q'
          | some ε1 =>
            simp only [hbt] at q'
            refine .inr ⟨k3, fun σ H2 => ∃ ε ρ2 m, Up g ρ' H' ρ2 H2 ∧ RelE g ρ2 H2 ε σ ∧ RelS g ρ2 m H2 ∧ FinS g W ρ2 H2 (forN nx t p n (i + 1) ε m) D, fun σ' H2 z => ⟨n, Nat.lt_succ_self n, z⟩, fun x H2 y => ?_⟩
            obtain ⟨u2, s2, dv⟩ := k4 x H2 y
            refine trT_ok (e1.up u2) dv hbt fun σ3 e3 _ => ⟨ε1, ρ1, m1, e3, s2, ?_⟩
            exact FinS.ends (FinS.bnd (FinS.up u2 q') fun ρ4 H4 σ4 ε4 m4 u4 s4 e4 z => (⟨ε4, ρ4, m4, (u1.trans u2).trans u4, e4, s4, z⟩ : ∃ ε ρ2 m, Up g ρ' H' ρ2 H4 ∧ RelE g ρ2 H4 ε σ4 ∧ RelS g ρ2 m H4 ∧ FinS g W ρ2 H4 (forN nx t p n (i + 1) ε m) D)) (fun _ _ z => z) fun _ _ z => z
end MT

/-! MT5: enumerate over a tuple or a text; sources; comprehensions. -/
namespace MT
open PySem PySem.Spec PyProof.Rows L2

theorem meets_enum1 {v : Value} {o : Obj} {H : Heap → Prop} (B : Begins v o H) :
    Meets (Builtin.«enumerate.__new__» ⟨[.type "enumerate", v], []⟩) (fun _ R s => H s.heap ∧
      R (.ok (.ret (.ref (s.heap.push o).objs.size))) { s with heap := (s.heap.push o).push { cls := .type "enumerate", data := .fields #[.none, .bool false, .ref s.heap.objs.size, rawInt 0, .none, .none] } }) :=
  .of_wp fun prog w A R s h => by
    obtain ⟨hp, g, d, tk, os⟩ := s; obtain ⟨h1, h⟩ := h
    have hsub := sub_enumerate
    have q1 : ∀ {A' : Around} {E : Value → Shared → Prop} {Q : Value → Shared → Prop}, Q (.ref hp.objs.size) ⟨hp.push o, g, d, tk, os⟩ → wpAny (model prog w) A' (pyIter v) Q E ⟨hp, g, d, tk, os⟩ :=
      fun q => B.iter prog w _ _ ⟨hp, g, d, tk, os⟩ _ h1 q
    wp_walk using q1
    refine wpAny_stack_any fun st => wpAny_pure ?_
    split
    · rename_i c _ _ _ _ _
      cases (c == Value.type "enumerate")
      · wp_walk using q1
        exact ⟨_, rfl, h⟩
      · wp_walk using q1
        exact ⟨_, rfl, h⟩
    · wp_walk using q1
      exact ⟨_, rfl, h⟩
section
variable {prog : Program} {w : World} {A : Around} {E : Value → Shared → Prop} {s : Shared}
theorem enum_begins1 {v : Value} {o : Obj} {H : Heap → Prop} {Q : Value → Shared → Prop} (B : Begins v o H) (h1 : H s.heap)
    (h : ∀ h', IsEnum h' (s.heap.objs.size + 1) s.heap.objs.size 0 .none → h'.get? s.heap.objs.size = some o → h'.objs.size = s.heap.objs.size + 2 →
      (∀ b o, s.heap.get? b = some o → h'.get? b = some o) → Q (.ref (s.heap.objs.size + 1)) { s with heap := h' }) :
    wpAny (model prog w) A (call (.type "enumerate") [v]) Q E s := by
  refine callType_new F.called_enumerate (by decide) (F.typeCall_enumerate_1 _) (F.newCall_enumerate_1 _) (fun obj => F.args_object_init_2 obj _) F.entry_enumerate_new
    (meets_enum1 B) ⟨h1, ?_⟩
  have hz : (s.heap.push o).objs.size = s.heap.objs.size + 1 := Heap.size_push ..
  show _ ∧ _
  rw [hz]
  have he : IsEnum ((s.heap.push o).push { cls := .type "enumerate", data := .fields #[.none, .bool false, .ref s.heap.objs.size, rawInt 0, .none, .none] }) (s.heap.objs.size + 1) s.heap.objs.size 0 .none := by
    have := Heap.get?_push_size (s.heap.push o) (o := { cls := .type "enumerate", data := .fields #[.none, .bool false, .ref s.heap.objs.size, rawInt 0, .none, .none] }) rfl
    rw [hz] at this; exact this
  refine ⟨⟨_, he, rfl⟩, h _ he (Heap.get?_push_of_some _ (Heap.get?_push_size _ B.free)) (by rw [Heap.size_push, hz]) fun b o x => Heap.get?_push_of_some _ (Heap.get?_push_of_some _ x)⟩
end

/-- items in new pairs: the tuple at a -/
def IteT (K : PySem.W.Frag) (a : Addr) : It :=
  ⟨fun i H => ∃ (xs : List V) (x : V), SqT K H a xs ∧ xs[i]? = some x, fun i H v H' => ∃ T x, v = .ref T ∧ H T = none ∧ H' = upd H T (.tup [.int (i : Nat), x]) ∧ ∀ xs, SqT K H a xs → xs[i]? = some x, fun i H => ∃ xs : List V, SqT K H a xs ∧ xs.length = i⟩
theorem turn_enumT {P : Program} {w : World} {K : PySem.W.Frag} {elts : List Expr} {kk : Nat} {tpos : Pos} (a e it : Addr) :
    Turn P w K (.Tuple elts kk tpos) (IteT K a) [e, it] e (fun i h => (∃ old, IsEnum h e it ((i : Nat) : Int) old) ∧ h.IsTupleIter it a i ∧ e ≠ it) where
  mem := by simp
  obj := fun i h st b hb => by
    obtain ⟨⟨old, he⟩, ⟨o, ho, hc, hd⟩, _⟩ := st
    have e' : b = e ∨ b = it := by simpa using hb
    rcases e' with z | z
    · rw [z]; exact ⟨_, he, fun v q => nomatch q⟩
    · rw [z]; exact ⟨o, ho, fun v q => by rw [hd] at q; cases q⟩
  keep := fun i h h' st k => let ⟨⟨old, he⟩, hi, hne⟩ := st; ⟨⟨old, k e (by simp) _ he⟩, hi.at fun o q => k it (by simp) o q, hne⟩
  item := by
    intro X hP hw hK hc i pins s σ H E I hf st hg
    subst hP hw hK
    obtain ⟨⟨old, he⟩, hit, hne⟩ := st
    obtain ⟨xs, x, hq, hx⟩ := hg
    obtain ⟨its, rv, p, hz⟩ := I.tuple hq
    obtain ⟨u, hu, ru⟩ := rv.get hx
    have hel : e < s.heap.objs.size := Heap.lt_size he
    have hil : it < s.heap.objs.size := by obtain ⟨_, q, _⟩ := hit; exact Heap.lt_size q
    have hta : s.heap.IsTuple a its.toArray := p
    have nai : a ≠ it := by
      rintro rfl
      obtain ⟨o1, h1, c1, _⟩ := hit
      obtain ⟨o2, h2, c2, _⟩ := hta
      rw [h1] at h2; cases h2; rw [c1] at c2; exact absurd c2 (by decide)
    have nae : e ≠ a := by
      rintro rfl
      obtain ⟨o2, h2, c2, _⟩ := hta
      have he' : s.heap.get? e = _ := he
      rw [he'] at h2; cases h2; exact absurd (show Value.type "enumerate" = Value.type "tuple" from c2) (by decide)
    have hlt : i < its.toArray.size := by
      have := (List.getElem?_eq_some_iff.mp hu).1
      simpa using this
    refine wpAny_pyNext_enum_itemC (Draws.tuple (A := X.A.in1) (I.ok.hd hc) it a nai its.toArray) he ⟨hit, hta⟩ hlt hne (by simp [hne, nae]) fun x' h' tk hx' ho hit' hT hsz hk => ?_
    have exu : x' = u := by
      have q : its.toArray[i]? = some x' := hx'
      rw [List.getElem?_toArray, hu] at q
      exact (Option.some.inj q).symm
    subst exu
    refine ⟨_, rfl, wpAny_letOwnedTupleGo_enum (s := { s with heap := h', toks := tk + 1 }) ho fun h'' he' sb => ?_⟩
    have hT2 : h''.get? s.heap.objs.size = some { cls := .type "tuple", data := .seq #[.int i tk, x'] } := (sb.2 _ (Nat.ne_of_gt hel)).trans hT
    have new : ObjOk X.prog X.w (upd H s.heap.objs.size (.tup [.int (i : Nat), x])) h'' s.heap.objs.size (.tup [.int (i : Nat), x]) :=
      ⟨by show 2 ≤ sizeLine; decide, [.int i tk, x'], .cons ⟨_, rfl⟩ (.cons ru .nil), ⟨_, hT2, rfl, _, rfl⟩⟩
    have I1 : Inv X pins σ (upd H s.heap.objs.size (.tup [.int (i : Nat), x])) { s with heap := h'', toks := tk + 1 } :=
      I.turnedNew (ch := [e, it]) (fun b ob hb q => (sb.2 b (fun z => hb (by simp [z]))).trans (hk b ob (fun z => hb (by simp [z])) (fun z => hb (by simp [z])) q)) hf (Nat.le_refl _) new
    refine ⟨.ref s.heap.objs.size, _, I1, rfl, ⟨_, x, rfl, I.hok.fresh (Nat.le_refl _), rfl, fun ys hy => by rw [I.tuple_inj hy hq]; exact hx⟩, ⟨⟨x', ?_⟩, hit'.1.at fun o q => (sb.2 it (Ne.symm hne)).trans q, hne⟩, fun b hb => ?_⟩
    · have e1 : ((i + 1 : Nat) : Int) = (i : Int) + 1 := by omega
      rw [e1]; exact he'
    · have hb' : b < s.heap.objs.size := by
        have e' : b = e ∨ b = it := by simpa using hb
        rcases e' with z | z
        · rw [z]; exact hel
        · rw [z]; exact hil
      rw [upd_ne (Nat.ne_of_lt hb')]
      exact (hf b hb).1
  done := by
    intro X hP hw hK hc i pins s σ H E I hf st hg
    subst hP hw hK
    obtain ⟨⟨old, he⟩, hit, hne⟩ := st
    obtain ⟨xs, hq, hx⟩ := hg
    obtain ⟨its, rv, p, hz⟩ := I.tuple hq
    have hl := rv.length
    have hta : s.heap.IsTuple a its.toArray := p
    have nai : a ≠ it := by
      rintro rfl
      obtain ⟨o1, h1, c1, _⟩ := hit
      obtain ⟨o2, h2, c2, _⟩ := hta
      rw [h1] at h2; cases h2; rw [c1] at c2; exact absurd c2 (by decide)
    obtain ⟨f0, f1, f2, f3, f4, f5⟩ := hf it (by simp)
    have hn : i = its.toArray.size := by simp; omega
    exact wpAny_pyNext_enum_endD (Draws.tuple (A := X.A.in1) (I.ok.hd hc) it a nai its.toArray) he ⟨by rw [← hn]; exact hit, hta⟩ fun h' eb => ⟨rfl, I.turned (t' := s.toks) (fun b o hb q => eb b o hb q) f0 f1 f3 f4 f5⟩
  self := fun A i s Q E st h => let ⟨⟨_, he⟩, _⟩ := st; wpAny_pyIter_enum he h
def iEnumT (K : PySem.W.Frag) (ta : TA) : TI := fun σ H R => ta σ H fun vs H1 => ∃ a xs, vs = [.ref a] ∧ SqT K H1 a xs ∧ R (IteT K a) H1
theorem pi_enumT {X : Cx} {e : Expr} {ta : TA} {p pos tpos : Pos} {elts : List Expr} {kk : Nat} (hg : Gl X "enumerate") (hm : X.mg "enumerate" = none) (ha : PA X [e] ta) (hs : starEach [e] X.env = [(false, eval e X.env)] := by rfl) :
    PI X (.Tuple elts kk tpos) (.Call (.Name "enumerate" p) [e] [] pos) (iEnumT X.K ta) := by
  refine ⟨fun pins s σ H R I h => ?_⟩
  refine Call_ (ld_blt I hg hm PyProof.Rows.boot_enumerate (PyProof.Rows.callWith_type1 (thn (ha.run pos pins s σ H _ I h) fun us s1 ⟨vs, H1, I1, r1, q1⟩ => ?_) hs rfl))
  obtain ⟨a, xs, ex, hq, q⟩ := q1
  subst ex
  cases r1 with
  | cons r rr =>
    cases rr
    cases r
    obtain ⟨its, rv, p', hz⟩ := I1.tuple hq
    refine enum_begins1 (begins_tuple a its.toArray) p' fun h' he hit hsz hk => wpAny_pyIter_enum he ?_
    have I2 : Inv X pins σ H1 { s1 with heap := h' } := I1.kept (t' := s1.toks) hk
    refine ⟨s1.heap.objs.size + 1, [s1.heap.objs.size + 1, s1.heap.objs.size], _, _, H1, rfl, I2, turn_enumT a (s1.heap.objs.size + 1) s1.heap.objs.size, ⟨⟨.none, he⟩, ⟨_, hit, rfl, rfl⟩, Nat.succ_ne_self _⟩, fun b hb => ?_, q⟩
    have e' : b = s1.heap.objs.size + 1 ∨ b = s1.heap.objs.size := by simpa using hb
    have hle : s1.heap.objs.size ≤ b := by
      rcases e' with z | z
      · rw [z]; exact Nat.le_add_right _ _
      · rw [z]; exact Nat.le_refl _
    exact I1.fpOk hle (I1.hok.fresh hle)

/-- a text's signs in new pairs -/
def IteS (z : Str) : It :=
  ⟨fun i _ => i < z.cps.size, fun i H v H' => ∃ T c, v = .ref T ∧ H T = none ∧ H' = upd H T (.tup [.int (i : Nat), .str ⟨#[c]⟩]) ∧ z.cps[i]? = some c, fun i _ => z.cps.size = i⟩
theorem turn_enumS {P : Program} {w : World} {K : PySem.W.Frag} {elts : List Expr} {kk : Nat} {tpos : Pos} (z : Str) (t : Tok) (e it : Addr) :
    Turn P w K (.Tuple elts kk tpos) (IteS z) [e, it] e (fun i h => (∃ old, IsEnum h e it ((i : Nat) : Int) old) ∧ h.IsStrIter it (strIterType z) z t i ∧ e ≠ it) where
  mem := by simp
  obj := fun i h st b hb => by
    obtain ⟨⟨old, he⟩, ⟨o, ho, hc, hd⟩, _⟩ := st
    have e' : b = e ∨ b = it := by simpa using hb
    rcases e' with z | z
    · rw [z]; exact ⟨_, he, fun v q => nomatch q⟩
    · rw [z]; exact ⟨o, ho, fun v q => by rw [hd] at q; cases q⟩
  keep := fun i h h' st k => let ⟨⟨old, he⟩, ⟨o, ho, r⟩, hne⟩ := st; ⟨⟨old, k e (by simp) _ he⟩, ⟨o, k it (by simp) o ho, r⟩, hne⟩
  item := by
    intro X hP hw hK hc i pins s σ H E I hf st hg
    subst hP hw hK
    obtain ⟨⟨old, he⟩, hit, hne⟩ := st
    have hlt : i < z.cps.size := hg
    have hel : e < s.heap.objs.size := Heap.lt_size he
    have hil : it < s.heap.objs.size := by obtain ⟨_, q, _⟩ := hit; exact Heap.lt_size q
    refine wpAny_pyNext_enum_itemC (Draws.text (A := X.A.in1) (I.ok.hd hc) it z t) he hit hlt hne (by simp [hne]) fun x' h' tk hx' ho hit' hT hsz hk => ?_
    obtain ⟨c, u, hcx, rfl⟩ := hx'
    refine ⟨_, rfl, wpAny_letOwnedTupleGo_enum (s := { s with heap := h', toks := tk + 1 }) ho fun h'' he' sb => ?_⟩
    have hT2 : h''.get? s.heap.objs.size = some { cls := .type "tuple", data := .seq #[.int i tk, .str ⟨#[c]⟩ u] } := (sb.2 _ (Nat.ne_of_gt hel)).trans hT
    have new : ObjOk X.prog X.w (upd H s.heap.objs.size (.tup [.int (i : Nat), .str ⟨#[c]⟩])) h'' s.heap.objs.size (.tup [.int (i : Nat), .str ⟨#[c]⟩]) :=
      ⟨by show 2 ≤ sizeLine; decide, [.int i tk, .str ⟨#[c]⟩ u], .cons ⟨_, rfl⟩ (.cons ⟨_, rfl⟩ .nil), ⟨_, hT2, rfl, _, rfl⟩⟩
    have I1 : Inv X pins σ (upd H s.heap.objs.size (.tup [.int (i : Nat), .str ⟨#[c]⟩])) { s with heap := h'', toks := tk + 1 } :=
      I.turnedNew (ch := [e, it]) (fun b ob hb q => (sb.2 b (fun z => hb (by simp [z]))).trans (hk b ob (fun z => hb (by simp [z])) (fun z => hb (by simp [z])) q)) hf (Nat.le_refl _) new
    refine ⟨.ref s.heap.objs.size, _, I1, rfl, ⟨_, c, rfl, I.hok.fresh (Nat.le_refl _), rfl, hcx⟩, ⟨⟨.str ⟨#[c]⟩ u, ?_⟩, ?_, hne⟩, fun b hb => ?_⟩
    · have e1 : ((i + 1 : Nat) : Int) = (i : Int) + 1 := by omega
      rw [e1]; exact he'
    · obtain ⟨o, ho', r⟩ := hit'
      exact ⟨o, (sb.2 it (Ne.symm hne)).trans ho', r⟩
    · have hb' : b < s.heap.objs.size := by
        have e' : b = e ∨ b = it := by simpa using hb
        rcases e' with z | z
        · rw [z]; exact hel
        · rw [z]; exact hil
      rw [upd_ne (Nat.ne_of_lt hb')]
      exact (hf b hb).1
  done := by
    intro X hP hw hK hc i pins s σ H E I hf st hg
    subst hP hw hK
    obtain ⟨⟨old, he⟩, hit, hne⟩ := st
    obtain ⟨f0, f1, f2, f3, f4, f5⟩ := hf it (by simp)
    have hn : z.cps.size = i := hg
    exact wpAny_pyNext_enum_endD (Draws.text (A := X.A.in1) (I.ok.hd hc) it z t) he (by rw [hn]; exact hit) fun h' eb => ⟨rfl, I.turned (t' := s.toks) (fun b o hb q => eb b o hb q) f0 f1 f3 f4 f5⟩
  self := fun A i s Q E st h => let ⟨⟨_, he⟩, _⟩ := st; wpAny_pyIter_enum he h
def iEnumS (ta : TA) : TI := fun σ H R => ta σ H fun vs H1 => ∃ z, vs = [.str z] ∧ R (IteS z) H1
theorem pi_enumS {X : Cx} {e : Expr} {ta : TA} {p pos tpos : Pos} {elts : List Expr} {kk : Nat} (hg : Gl X "enumerate") (hm : X.mg "enumerate" = none) (ha : PA X [e] ta) (hs : starEach [e] X.env = [(false, eval e X.env)] := by rfl) :
    PI X (.Tuple elts kk tpos) (.Call (.Name "enumerate" p) [e] [] pos) (iEnumS ta) := by
  refine ⟨fun pins s σ H R I h => ?_⟩
  refine Call_ (ld_blt I hg hm PyProof.Rows.boot_enumerate (PyProof.Rows.callWith_type1 (thn (ha.run pos pins s σ H _ I h) fun us s1 ⟨vs, H1, I1, r1, q1⟩ => ?_) hs rfl))
  obtain ⟨z, ex, q⟩ := q1
  subst ex
  cases r1 with
  | cons r rr =>
    cases rr
    obtain ⟨t, rfl⟩ := r
    refine enum_begins1 (begins_text z t) trivial fun h' he hit hsz hk => wpAny_pyIter_enum he ?_
    have I2 : Inv X pins σ H1 { s1 with heap := h' } := I1.kept (t' := s1.toks) hk
    refine ⟨s1.heap.objs.size + 1, [s1.heap.objs.size + 1, s1.heap.objs.size], _, _, H1, rfl, I2, turn_enumS z t (s1.heap.objs.size + 1) s1.heap.objs.size, ⟨⟨.none, he⟩, ⟨_, hit, rfl, rfl⟩, Nat.succ_ne_self _⟩, fun b hb => ?_, q⟩
    have e' : b = s1.heap.objs.size + 1 ∨ b = s1.heap.objs.size := by simpa using hb
    have hle : s1.heap.objs.size ≤ b := by
      rcases e' with z | z
      · rw [z]; exact Nat.le_add_right _ _
      · rw [z]; exact Nat.le_refl _
    exact I1.fpOk hle (I1.hok.fresh hle)
end MT

/-! MT6: sources; comprehensions. -/
namespace MT
open PySem L2
variable {g : G} {ρ ρ' ρ1 ρ2 : List Addr} {H H' H1 H2 : Hp} {m m' : Store} {ε ε' : EnvD} {σ σ' : L2.St} {W : Wx} {r : Res D} {Q Q' : VK} {X : Cx} {a b c e : Expr} {pa pb pc pe : Pg} {pos : Pos} {D0 : Ends} {R : It → Hp → Prop} {tg : Expr}

theorem FinN.up {r : Res Nx} (u : Up g ρ H ρ' H') (h : FinN g W ρ H σ r R) : FinN g W ρ' H' σ r R := by
  cases r with
  | ok d m => exact fun ρ2 H2 v u2 => h ρ2 H2 v (u.trans u2)
  | exc x m => exact fun ρ2 H2 u2 => h ρ2 H2 (u.trans u2)
  | bad => exact h
theorem FinN.ex {r : Res D} {k : D → Store → Res Nx} (h : FinN g W ρ H σ (r.bind k) R) (hk : ∀ ρ' H' v d m', Up g ρ H ρ' H' → RelS g ρ' m' H' → DenV g ρ' H' d v → FinN g W ρ' H' σ (k d m') R → Q v H') : Fin g W ρ H σ r Q := by
  cases r with
  | ok d m => exact fun ρ' H' v u s dv => hk ρ' H' v d m u s dv (FinN.up u h)
  | exc x m => exact h
  | bad => exact h
theorem FinN.exL {r : Res (List D)} {Q : List V → Hp → Prop} {k : List D → Store → Res Nx} (h : FinN g W ρ H σ (r.bind k) R) (hk : ∀ ρ' H' v d m', Up g ρ H ρ' H' → RelS g ρ' m' H' → DenL g ρ' H' d v → FinN g W ρ' H' σ (k d m') R → Q v H') : FinL g W ρ H σ r Q := by
  cases r with
  | ok d m => exact fun ρ' H' v u s dv => hk ρ' H' v d m u s dv (FinN.up u h)
  | exc x m => exact h
  | bad => exact h
def nxL (n : Nat) : Nx := fun i m => match m[n]? with
  | some (.lst xs) => some xs[i]?
  | _ => none
def nxF (xs : List D) : Nx := fun i _ => some xs[i]?
def nxE (xs : List D) : Nx := fun i _ => if i ≤ xs.length then some (xs[i]?.map fun d => .tup [.int (i : Nat), d]) else none
def nxEL (n : Nat) : Nx := fun i m => match m[n]? with
  | some (.lst xs) => some (xs[i]?.map fun d => .tup [.int (i : Nat), d])
  | _ => none
def iSeq (p : Pg) : PgI := fun ε m => (p ε m).bind fun d m' => match d with
  | .loc n => match m'[n]? with
    | some (.lst _) => .ok (nxL n) m'
    | _ => .bad
  | .fl xs => .ok (nxF xs) m'
  | .kl xs => .ok (nxF xs) m'
  | _ => .bad
def iTp (p : Pg) : PgI := fun ε m => (p ε m).bind fun d m' => match d with
  | .tup xs => .ok (nxF xs) m'
  | _ => .bad
def chars (s : Str) : List D := s.cps.toList.map fun c => D.str ⟨#[c]⟩
def iSt (p : Pg) : PgI := fun ε m => (p ε m).bind fun d m' => match d with
  | .str s => .ok (nxF (chars s)) m'
  | _ => .bad
def rngD (lo : Int) (n : Nat) : List D := (List.range n).map fun i => D.int (lo + (i : Nat))
def iR1 (p : Pg) : PgI := fun ε m => (p ε m).bind fun d m' => match d with
  | .int j => if -(2 ^ 62) ≤ j ∧ j < 2 ^ 62 then .ok (nxF (rngD 0 j.toNat)) m' else .bad
  | _ => .bad
def iR2 (pa pb : Pg) : PgI := fun ε m => (evL [pa, pb] ε m).bind fun ds m' => match ds with
  | [.int i, .int j] => if -(2 ^ 62) ≤ i ∧ i < 2 ^ 62 ∧ -(2 ^ 62) ≤ j ∧ j < 2 ^ 62 then .ok (nxF (rngD i (j - i).toNat)) m' else .bad
  | _ => .bad
def iEnT (p : Pg) : PgI := fun ε m => (p ε m).bind fun d m' => match d with
  | .tup xs => .ok (nxE xs) m'
  | _ => .bad
def iEnS (p : Pg) : PgI := fun ε m => (p ε m).bind fun d m' => match d with
  | .str s => .ok (nxE (chars s)) m'
  | _ => .bad
def iEnL (p : Pg) : PgI := fun ε m => (p ε m).bind fun d m' => match d with
  | .loc n => match m'[n]? with
    | some (.lst _) => .ok (nxEL n) m'
    | _ => .bad
  | _ => .bad

theorem src_l {n : Nat} {p : Addr} (h : ρ[n]? = some p) : SrcOk g ρ H (Itl g.K p) (nxL n) := by
  intro ρ' H' m' i u s
  have hp := u.ext _ _ h
  unfold nxL
  refine ⟨fun q => ?_, fun d q => ?_⟩
  · split at q
    · rename_i xs hc
      obtain ⟨_, e, _, vs, hv, l⟩ := s.cell (.loc hp) hc
      cases e
      have q' : xs[i]? = none := Option.some.inj q
      refine ⟨vs, SqL.of hv, ?_⟩
      rw [← l.length]; exact List.getElem?_eq_none_iff.mp q'
    · cases q
  · split at q
    · rename_i xs hc
      obtain ⟨_, e, _, vs, hv, l⟩ := s.cell (.loc hp) hc
      cases e
      have q' : xs[i]? = some d := Option.some.inj q
      obtain ⟨v, e1, e2⟩ := l.get q'
      refine ⟨⟨vs, v, SqL.of hv, e1⟩, ?_⟩
      rintro x H2 ⟨rfl, hx⟩
      have hx' := hx vs (SqL.of hv)
      rw [e1] at hx'; cases hx'
      exact ⟨.refl, s, e2⟩
    · cases q
theorem src_fl {xs : List D} {vs : List V} {p : Addr} (h : SqF H p vs) (l : DenL g ρ H xs vs) : SrcOk g ρ H (Itl g.K p) (nxF xs) := by
  intro ρ' H' m' i u s
  have h' : SqL g.K H' p vs := (u.sqf h).sq
  have l' := l.up u
  unfold nxF
  refine ⟨fun q => ?_, fun d q => ?_⟩
  · have q' : xs[i]? = none := Option.some.inj q
    refine ⟨vs, h', ?_⟩
    rw [← l.length]; exact List.getElem?_eq_none_iff.mp q'
  · have q' : xs[i]? = some d := Option.some.inj q
    obtain ⟨v, e1, e2⟩ := l'.get q'
    refine ⟨⟨vs, v, h', e1⟩, ?_⟩
    rintro x H2 ⟨rfl, hx⟩
    have hx' := hx vs h'
    rw [e1] at hx'; cases hx'
    exact ⟨.refl, s, e2⟩
theorem src_kl {xs : List D} {vs : List V} {p : Addr} (h : SqK g.K H p vs) (l : DenL g ρ H xs vs) : SrcOk g ρ H (Itl g.K p) (nxF xs) := by
  intro ρ' H' m' i u s
  have h' : SqL g.K H' p vs := (u.sqk h).sq
  have l' := l.up u
  unfold nxF
  refine ⟨fun q => ?_, fun d q => ?_⟩
  · have q' : xs[i]? = none := Option.some.inj q
    refine ⟨vs, h', ?_⟩
    rw [← l.length]; exact List.getElem?_eq_none_iff.mp q'
  · have q' : xs[i]? = some d := Option.some.inj q
    obtain ⟨v, e1, e2⟩ := l'.get q'
    refine ⟨⟨vs, v, h', e1⟩, ?_⟩
    rintro x H2 ⟨rfl, hx⟩
    have hx' := hx vs h'
    rw [e1] at hx'; cases hx'
    exact ⟨.refl, s, e2⟩
theorem src_t {xs : List D} {vs : List V} {p : Addr} (h : SqT g.K H p vs) (l : DenL g ρ H xs vs) : SrcOk g ρ H (Itt g.K p) (nxF xs) := by
  intro ρ' H' m' i u s
  have h' := u.sqt h
  have l' := l.up u
  unfold nxF
  refine ⟨fun q => ?_, fun d q => ?_⟩
  · have q' : xs[i]? = none := Option.some.inj q
    refine ⟨vs, h', ?_⟩
    rw [← l.length]; exact List.getElem?_eq_none_iff.mp q'
  · have q' : xs[i]? = some d := Option.some.inj q
    obtain ⟨v, e1, e2⟩ := l'.get q'
    refine ⟨⟨vs, v, h', e1⟩, ?_⟩
    rintro x H2 ⟨rfl, hx⟩
    have hx' := hx vs h'
    rw [e1] at hx'; cases hx'
    exact ⟨.refl, s, e2⟩
theorem chars_get {s : Str} {i : Nat} {d : D} (h : (chars s)[i]? = some d) : ∃ c, s.cps[i]? = some c ∧ d = .str ⟨#[c]⟩ := by
  unfold chars at h
  rw [List.getElem?_map] at h
  cases e : s.cps.toList[i]? with
  | none => rw [e] at h; cases h
  | some c =>
    rw [e] at h
    exact ⟨c, by rw [← Array.getElem?_toList]; exact e, (Option.some.inj h).symm⟩
theorem chars_none {s : Str} {i : Nat} (h : (chars s)[i]? = none) : s.cps.size ≤ i := by
  unfold chars at h
  have := List.getElem?_eq_none_iff.mp h
  simpa using this
theorem src_s {z : Str} : SrcOk g ρ H (Its z) (nxF (chars z)) := by
  intro ρ' H' m' i u s
  unfold nxF
  refine ⟨fun q => chars_none (Option.some.inj q), fun d q => ?_⟩
  obtain ⟨c, h1, rfl⟩ := chars_get (Option.some.inj q)
  refine ⟨(Array.getElem?_eq_some_iff.mp h1).1, ?_⟩
  rintro x H2 ⟨rfl, c', hc, rfl⟩
  rw [h1] at hc; cases hc
  exact ⟨.refl, s, .str _⟩
theorem src_r {lo : Int} {n : Nat} : SrcOk g ρ H (Itr lo n) (nxF (rngD lo n)) := by
  intro ρ' H' m' i u s
  unfold nxF rngD
  refine ⟨fun q => ?_, fun d q => ?_⟩
  · have := List.getElem?_eq_none_iff.mp (Option.some.inj q)
    show n ≤ i
    simpa using this
  · have q' := Option.some.inj q
    rw [List.getElem?_map] at q'
    cases e : (List.range n)[i]? with
    | none => rw [e] at q'; cases q'
    | some j =>
      rw [e] at q'
      obtain ⟨h1, h2⟩ := List.getElem?_eq_some_iff.mp e
      have h3 : i = j := by simpa using h2
      subst h3
      have q2 : D.int (lo + (i : Nat)) = d := Option.some.inj q'
      subst q2
      refine ⟨(show i < n by simpa using h1), ?_⟩
      rintro x H2 ⟨rfl, rfl⟩
      exact ⟨.refl, s, .int _⟩
theorem pair_new {T : Addr} {d : D} {x : V} {i : Nat} (s : RelS g ρ m H) (hT : H T = none) (dv : DenV g ρ H d x) : Up g ρ H ρ (upd H T (.tup [.int (i : Nat), x])) ∧ RelS g ρ m (upd H T (.tup [.int (i : Nat), x])) ∧ DenV g ρ (upd H T (.tup [.int (i : Nat), x])) (.tup [.int (i : Nat), d]) (.ref T) :=
  ⟨Up.new hT, s.off hT, .tup (SqT.of upd_same) (.cons (.int _) (.cons (dv.up (Up.new hT)) .nil))⟩
theorem src_et {xs : List D} {vs : List V} {p : Addr} (h : SqT g.K H p vs) (l : DenL g ρ H xs vs) : SrcOk g ρ H (IteT g.K p) (nxE xs) := by
  intro ρ' H' m' i u s
  have h' := u.sqt h
  have l' := l.up u
  unfold nxE
  refine ⟨fun q => ?_, fun d q => ?_⟩
  · split at q
    · rename_i hi
      have q' := Option.some.inj q
      rw [Option.map_eq_none_iff] at q'
      refine ⟨vs, h', ?_⟩
      have := List.getElem?_eq_none_iff.mp q'
      rw [← l.length]; omega
    · cases q
  · split at q
    · have q' := Option.some.inj q
      rw [Option.map_eq_some_iff] at q'
      obtain ⟨d0, hd, rfl⟩ := q'
      obtain ⟨v, e1, e2⟩ := l'.get hd
      refine ⟨⟨vs, v, h', e1⟩, ?_⟩
      rintro x H2 ⟨T, x0, rfl, hT, rfl, hx⟩
      have hx' := hx vs h'
      rw [e1] at hx'; cases hx'
      exact pair_new s hT e2
    · cases q
theorem src_es {z : Str} : SrcOk g ρ H (IteS z) (nxE (chars z)) := by
  intro ρ' H' m' i u s
  unfold nxE
  have hl : (chars z).length = z.cps.size := by simp [chars]
  refine ⟨fun q => ?_, fun d q => ?_⟩
  · split at q
    · rename_i hi
      have q' := Option.some.inj q
      rw [Option.map_eq_none_iff] at q'
      have := List.getElem?_eq_none_iff.mp q'
      show z.cps.size = i
      omega
    · cases q
  · split at q
    · have q' := Option.some.inj q
      rw [Option.map_eq_some_iff] at q'
      obtain ⟨d0, hd, rfl⟩ := q'
      obtain ⟨c, h1, rfl⟩ := chars_get hd
      refine ⟨(Array.getElem?_eq_some_iff.mp h1).1, ?_⟩
      rintro x H2 ⟨T, c', rfl, hT, rfl, hc⟩
      rw [h1] at hc; cases hc
      exact pair_new s hT (.str _)
    · cases q
theorem src_el {n : Nat} {p : Addr} (h : ρ[n]? = some p) : SrcOk g ρ H (Ite g.K p) (nxEL n) := by
  intro ρ' H' m' i u s
  have hp := u.ext _ _ h
  unfold nxEL
  refine ⟨fun q => ?_, fun d q => ?_⟩
  · split at q
    · rename_i xs hc
      obtain ⟨_, e, _, vs, hv, l⟩ := s.cell (.loc hp) hc
      cases e
      have q' := Option.some.inj q
      rw [Option.map_eq_none_iff] at q'
      refine ⟨vs, SqL.of hv, ?_⟩
      rw [← l.length]; exact List.getElem?_eq_none_iff.mp q'
    · cases q
  · split at q
    · rename_i xs hc
      obtain ⟨_, e, _, vs, hv, l⟩ := s.cell (.loc hp) hc
      cases e
      have q' := Option.some.inj q
      rw [Option.map_eq_some_iff] at q'
      obtain ⟨d0, hd, rfl⟩ := q'
      obtain ⟨v, e1, e2⟩ := l.get hd
      refine ⟨⟨vs, v, SqL.of hv, e1⟩, ?_⟩
      rintro x H2 ⟨T, x0, rfl, hT, rfl, hx⟩
      have hx' := hx vs (SqL.of hv)
      rw [e1] at hx'; cases hx'
      exact pair_new s hT e2
    · cases q

/-! ### the rules -/
theorem t_src {k : D → Store → Res Nx} (e : RelE g ρ H ε σ) (s : RelS g ρ m H) (h : FinN g W ρ H σ ((pe ε m).bind k) R) (hk : ∀ ρ' H' v d m', Up g ρ H ρ' H' → RelS g ρ' m' H' → DenV g ρ' H' d v → FinN g W ρ' H' σ (k d m') R → Q v H') : T g W pe σ H Q :=
  ⟨ε, ρ, m, [], e, s, .nil, FinN.ex h hk⟩
theorem s_seq (hK : X.K = g.K) (he : PE X e (T g W pe)) : SrcR g W X tg e (iSeq pe) :=
  ⟨_, pi_list he, fun ρ m H σ ε R e s h => t_src e s h fun ρ' H' v d m' u s' dv q => by
    cases dv with
    | @loc n a ha =>
      simp only at q
      split at q
      · rename_i xs hc
        obtain ⟨_, e1, _, vs, hv, l⟩ := s'.cell (.loc ha) hc
        cases e1
        exact ⟨a, rfl, ⟨vs, SqL.of hv⟩, q ρ' H' _ .refl s' (by rw [hK]; exact src_l ha)⟩
      · exact q.elim
    | @fl p ds vs hp dl => exact ⟨p, rfl, ⟨vs, by rw [hK]; exact hp.sq⟩, q ρ' H' _ .refl s' (by rw [hK]; exact src_fl hp dl)⟩
    | @kl p ds vs hp dl => exact ⟨p, rfl, ⟨vs, by rw [hK]; exact hp.sq⟩, q ρ' H' _ .refl s' (by rw [hK]; exact src_kl hp dl)⟩
    | _ => exact False.elim q⟩
theorem s_tup (hK : X.K = g.K) (he : PE X e (T g W pe)) : SrcR g W X tg e (iTp pe) :=
  ⟨_, pi_tup he, fun ρ m H σ ε R e s h => t_src e s h fun ρ' H' v d m' u s' dv q => by
    cases dv with
    | @tup p ds vs hp dl => exact ⟨p, rfl, ⟨vs, by rw [hK]; exact hp⟩, q ρ' H' _ .refl s' (by rw [hK]; exact src_t hp dl)⟩
    | _ => exact False.elim q⟩
theorem s_str (he : PE X e (T g W pe)) : SrcR g W X tg e (iSt pe) :=
  ⟨_, pi_str he, fun ρ m H σ ε R e s h => t_src e s h fun ρ' H' v d m' u s' dv q => by
    cases dv with
    | str z => exact ⟨z, rfl, q ρ' H' _ .refl s' src_s⟩
    | _ => exact False.elim q⟩
variable {p' pos' tpos : Pos} {elts : List Expr} {kk : Nat}
theorem s_r1 (hg : Gl X "range") (hm : X.mg "range" = none) (ha : PE X a (T g W pa)) (hs : starEach [a] X.env = [(false, eval a X.env)] := by rfl) : SrcR g W X tg (.Call (.Name "range" p') [a] [] pos') (iR1 pa) :=
  ⟨_, pi_range1 hg hm (pa_cons ha pa_nil (by rw [hs]; rfl)) hs, fun ρ m H σ ε R e s h => t_src e s h fun ρ' H' v d m' u s' dv q => by
    cases dv with
    | int j =>
      simp only at q
      split at q
      · rename_i c
        exact ⟨j, rfl, c.1, c.2, q ρ' H' _ .refl s' src_r⟩
      · exact q.elim
    | _ => exact False.elim q⟩
theorem s_r2 (hg : Gl X "range") (hm : X.mg "range" = none) (ha : PA X [a, b] (Ta g W [pa, pb])) (hs : starEach [a, b] X.env = [(false, eval a X.env), (false, eval b X.env)] := by rfl) (hs2 : starEach [b] X.env = [(false, eval b X.env)] := by rfl) :
    SrcR g W X tg (.Call (.Name "range" p') [a, b] [] pos') (iR2 pa pb) :=
  ⟨_, pi_range2 hg hm ha hs hs2, fun ρ m H σ ε R e s h => ⟨ε, ρ, m, e, s, FinN.exL h fun ρ' H' v d m' u s' dl q => by
    cases dl with
    | nil => exact False.elim q
    | cons d1 dl => cases dl with
      | nil => cases d1 <;> exact False.elim q
      | cons d2 dl => cases dl with
        | nil =>
          cases d1 <;> cases d2 <;> first | exact False.elim q | skip
          rename_i i j
          simp only at q
          split at q
          · rename_i c
            exact ⟨i, j, rfl, c, q ρ' H' _ .refl s' src_r⟩
          · exact q.elim
        | cons d3 dl => cases d1 <;> cases d2 <;> exact False.elim q⟩⟩
theorem s_enT (hK : X.K = g.K) (hg : Gl X "enumerate") (hm : X.mg "enumerate" = none) (ha : PE X a (T g W pa)) (hs : starEach [a] X.env = [(false, eval a X.env)] := by rfl) : SrcR g W X (.Tuple elts kk tpos) (.Call (.Name "enumerate" p') [a] [] pos') (iEnT pa) :=
  ⟨_, pi_enumT hg hm (pa_cons ha pa_nil (by rw [hs]; rfl)) hs, fun ρ m H σ ε R e s h => t_src e s h fun ρ' H' v d m' u s' dv q => by
    cases dv with
    | @tup p ds vs hp dl => exact ⟨p, vs, rfl, by rw [hK]; exact hp, q ρ' H' _ .refl s' (by rw [hK]; exact src_et hp dl)⟩
    | _ => exact False.elim q⟩
theorem s_enS (hg : Gl X "enumerate") (hm : X.mg "enumerate" = none) (ha : PE X a (T g W pa)) (hs : starEach [a] X.env = [(false, eval a X.env)] := by rfl) : SrcR g W X (.Tuple elts kk tpos) (.Call (.Name "enumerate" p') [a] [] pos') (iEnS pa) :=
  ⟨_, pi_enumS hg hm (pa_cons ha pa_nil (by rw [hs]; rfl)) hs, fun ρ m H σ ε R e s h => t_src e s h fun ρ' H' v d m' u s' dv q => by
    cases dv with
    | str z => exact ⟨z, rfl, q ρ' H' _ .refl s' src_es⟩
    | _ => exact False.elim q⟩
theorem s_enL (hK : X.K = g.K) (hg : Gl X "enumerate") (hm : X.mg "enumerate" = none) (ha : PE X a (T g W pa)) (hs : starEach [a] X.env = [(false, eval a X.env)] := by rfl) : SrcR g W X (.Tuple elts kk tpos) (.Call (.Name "enumerate" p') [a] [] pos') (iEnL pa) :=
  ⟨_, pi_enum hg hm (pa_cons ha pa_nil (by rw [hs]; rfl)) hs, fun ρ m H σ ε R e s h => t_src e s h fun ρ' H' v d m' u s' dv q => by
    cases dv with
    | @loc n a ha =>
      simp only at q
      split at q
      · rename_i xs hc
        obtain ⟨_, e1, _, vs, hv, l⟩ := s'.cell (.loc ha) hc
        cases e1
        exact ⟨a, vs, rfl, SqL.of hv, q ρ' H' _ .refl s' (by rw [hK]; exact src_el ha)⟩
      · exact q.elim
    | _ => exact False.elim q⟩

/-! ### list comprehensions -/
def W0 : Wx := fun _ _ _ _ => False
def wipeD (ε : EnvD) : List Nat → EnvD
  | [] => ε
  | v :: vs => (wipeD ε vs).set v none
def lcN (nx : Nx) (t : Tgt) (pt pe : Pg) (ε : EnvD) (n0 : Nat) : Nat → Nat → Store → Res D
  | 0, _, _ => .bad
  | n + 1, i, m => match nx i m with
    | none => .bad
    | some none => .ok (.loc n0) m
    | some (some d) => match bindT t d ε with
      | none => .bad
      | some ε1 => match pt ε1 m with
        | .ok (.bl false) m1 => lcN nx t pt pe ε n0 n (i + 1) m1
        | .ok (.bl true) m1 => (match pe ε1 m1 with
          | .ok y m2 => (match m2[n0]? with
            | some (.lst acc) => if acc.length ≤ lim then lcN nx t pt pe ε n0 n (i + 1) (m2.set n0 (.lst (acc ++ [y]))) else .bad
            | _ => .bad)
          | _ => .bad)
        | _ => .bad
def pLc (pi : PgI) (own : List Nat) (t : Tgt) (pt pe : Pg) : Pg := fun ε m => match pi ε m with
  | .ok nx m' => lcN nx t pt pe (wipeD ε own) m'.length bigN 0 (m' ++ [.lst []])
  | .exc x m' => .exc x m'
  | .bad => .bad
theorem wipe_get {σ : L2.St} : ∀ {vs : List Nat} {i : Nat}, (wipe σ vs)[i]? = if i ∈ vs then (σ[i]?).map (fun _ => none) else σ[i]?
  | [], i => by simp [wipe]
  | v :: vs, i => by
    unfold wipe
    by_cases h : i = v
    · subst h
      rw [if_pos List.mem_cons_self]
      by_cases hl : i < (wipe σ vs).length
      · rw [List.getElem?_set_self hl]
        have hl' : i < σ.length := by rw [← wipe_length σ vs]; exact hl
        rw [List.getElem?_eq_getElem hl']; rfl
      · rw [List.getElem?_eq_none (by rw [List.length_set]; omega), List.getElem?_eq_none (by rw [← wipe_length σ vs]; omega)]; rfl
    · rw [List.getElem?_set_ne (Ne.symm h), wipe_get]
      have : (i ∈ v :: vs) ↔ i ∈ vs := by simp [h]
      by_cases hm : i ∈ vs
      · rw [if_pos hm, if_pos (this.mpr hm)]
      · rw [if_neg hm, if_neg (fun z => hm (this.mp z))]
theorem wipe_same {vs : List Nat} {σ σ' : L2.St} (h : SameO vs (wipe σ vs) σ') : wipe σ' vs = wipe σ vs := by
  apply List.ext_getElem?
  intro i
  rw [wipe_get]
  by_cases hm : i ∈ vs
  · rw [if_pos hm, wipe_get, if_pos hm]
    have hl : σ'.length = σ.length := h.1.trans (wipe_length σ vs)
    by_cases hi : i < σ.length
    · rw [List.getElem?_eq_getElem hi, List.getElem?_eq_getElem (by rw [hl]; exact hi)]; rfl
    · rw [List.getElem?_eq_none (by rw [hl]; omega), List.getElem?_eq_none (by omega)]
  · rw [if_neg hm, h.2 i hm]
theorem RelE.wipe (e : RelE g ρ H ε σ) : ∀ {vs : List Nat}, RelE g ρ H (wipeD ε vs) (wipe σ vs)
  | [] => e
  | v :: vs => by
    have ih := RelE.wipe e (vs := vs)
    refine ⟨by simp [wipeD, L2.wipe, ih.1], fun i d h => ?_⟩
    unfold wipeD at h
    by_cases hi : i = v
    · subst hi
      have hl := (List.getElem?_eq_some_iff.mp h).1
      rw [List.getElem?_set_self (by simpa using hl)] at h
      cases h
    · rw [List.getElem?_set_ne (Ne.symm hi)] at h
      unfold L2.wipe
      rw [List.getElem?_set_ne (Ne.symm hi)]
      exact ih.2 i d h
/-- a test of a comprehension -/
def TtsOk (g : G) (X : Cx) (ifs : List Expr) (pt : Pg) : Prop := PTs X ifs (Tt g W0 pt)
theorem ttsY : PTs X [] (Tt g W0 (pC (.bl true))) := ⟨fun pins s σ H Q I h => pts_nil.run pins s σ H Q I (by
  obtain ⟨k, e, q⟩ := T.bl (h : T g W0 (pC (.bl true)) σ H _)
  cases e; exact q)⟩
theorem tts1 (h : PT X c (Tt g W0 pc)) : PTs X [c] (Tt g W0 pc) := pts_one h
theorem t_lc {wi : TI} {pi : PgI} {t : Tgt} {pt : Pg} {own : List Nat} (ht : ∀ i ∈ t.slots, i ∈ own)
    (i2 : ∀ (ρ : List Addr) (m : Store) (H : Hp) (σ : L2.St) (ε : EnvD) (R : It → Hp → Prop), RelE g ρ H ε σ → RelS g ρ m H → FinN g W ρ H σ (pi ε m) R → wi σ H R)
    (h : T g W (pLc pi own t pt pe) σ H Q) : tLc wi (trT g.K t) (Tt g W0 pt) (T g W0 pe) own σ H Q := by
  obtain ⟨ε, ρ, m, ds, e, s, l, h⟩ := h
  refine i2 ρ m H σ ε _ e s ?_
  have h' : Fin g W ρ H σ (match pi ε m with
    | .ok nx m' => lcN nx t pt pe (wipeD ε own) m'.length bigN 0 (m' ++ [.lst []])
    | .exc x m' => .exc x m'
    | .bad => .bad) Q := h
  cases hr : pi ε m with
  | bad => rw [hr] at h'; exact h'
  | exc x m' => rw [hr] at h'; exact h'
  | ok nx m' =>
    rw [hr] at h'
    intro ρ' H' J u s' ok A hA
    have h2 : Fin g W ρ' H' σ (lcN nx t pt pe (wipeD ε own) m'.length bigN 0 (m' ++ [.lst []])) Q := Fin.up u h'
    have u1 : Up g ρ' H' (ρ' ++ [A]) (upd H' A (.lst [])) := Up.trans (Up.new hA) Up.app
    refine ⟨fun i n H2 => ∃ ρ2 m, Up g (ρ' ++ [A]) (upd H' A (.lst [])) ρ2 H2 ∧ RelS g ρ2 m H2 ∧ Fin g W ρ2 H2 σ (lcN nx t pt pe (wipeD ε own) m'.length n i m) Q, ⟨bigN, ρ' ++ [A], m' ++ [.lst []], .refl, s'.push (c := .lst []) hA ⟨[], upd_same, .nil⟩, Fin.up u1 h2⟩, ?_⟩
    rintro i n H1 ⟨ρ1, m1, u2, s1, q⟩
    have uu : Up g ρ' H' ρ1 H1 := u1.trans u2
    have hA1 : ρ1[m'.length]? = some A := u2.ext _ _ (loc_last s')
    cases n with
    | zero => exact q.elim
    | succ n =>
      obtain ⟨k1, k2⟩ := ok ρ1 H1 m1 i uu s1
      have q' : Fin g W ρ1 H1 σ (match nx i m1 with
        | none => .bad
        | some none => .ok (.loc m'.length) m1
        | some (some d) => match bindT t d (wipeD ε own) with
          | none => .bad
          | some ε1 => match pt ε1 m1 with
            | .ok (.bl false) m1 => lcN nx t pt pe (wipeD ε own) m'.length n (i + 1) m1
            | .ok (.bl true) m1 => (match pe ε1 m1 with
              | .ok y m2 => (match m2[m'.length]? with
                | some (.lst acc) => if acc.length ≤ lim then lcN nx t pt pe (wipeD ε own) m'.length n (i + 1) (m2.set m'.length (.lst (acc ++ [y]))) else .bad
                | _ => .bad)
              | _ => .bad)
            | _ => .bad) Q := q
      cases hn : nx i m1 with
      | none => rw [hn] at q'; exact False.elim q'
      | some o =>
        cases o with
        | none => rw [hn] at q'; exact .inl ⟨k1 hn, Fin.okc q' s1 (.loc hA1)⟩
        | some d =>
          simp only [hn] at q'
          obtain ⟨k3, k4⟩ := k2 d hn
          cases hbt : bindT t d (wipeD ε own) with
          | none => rw [hbt] at q'; exact False.elim q'
          | some ε1 =>
            simp only [hbt] at q'
            refine .inr ⟨k3, fun H2 => ∃ ρ2 m, Up g (ρ' ++ [A]) (upd H' A (.lst [])) ρ2 H2 ∧ RelS g ρ2 m H2 ∧ Fin g W ρ2 H2 σ (lcN nx t pt pe (wipeD ε own) m'.length n (i + 1) m) Q, fun H2 z => ⟨n, Nat.lt_succ_self n, z⟩, fun x H2 y => ?_⟩
            obtain ⟨u3, s3, dv⟩ := k4 x H2 y
            refine trT_ok ((e.up (u.trans (uu.trans u3))).wipe) dv hbt fun σ3 e3 so => ⟨wipe_same (so.mono ht), ?_⟩
            refine ⟨ε1, ρ1, m1, [], e3, s3, .nil, ?_⟩
            have q3 := Fin.up u3 q'
            cases hpt : pt ε1 m1 with
            | bad => simp only [hpt] at q3; exact False.elim q3
            | exc x m4 => simp only [hpt] at q3; exact False.elim q3
            | ok b m4 =>
              show Fin g W0 ρ1 H2 σ3 (pt ε1 m1) _
              rw [hpt]
              intro ρ4 H4 v4 u4 s4 dv4
              cases dv4 <;> simp only [hpt] at q3 <;> first | exact False.elim q3 | skip
              rename_i k
              refine ⟨k, rfl, ?_⟩
              cases k with
              | false => exact iteF ⟨ρ4, m4, (u2.trans u3).trans u4, s4, Fin.up u4 q3⟩
              | true =>
                refine iteT ⟨ε1, ρ4, m4, [], e3.up u4, s4, .nil, ?_⟩
                cases hpe : pe ε1 m4 with
                | bad => simp only [hpe] at q3; exact False.elim q3
                | exc x m5 => simp only [hpe] at q3; exact False.elim q3
                | ok y5 m5 =>
                  show Fin g W0 ρ4 H4 σ3 (pe ε1 m4) _
                  rw [hpe]
                  intro ρ5 H5 v5 u5 s5 dv5
                  simp only [hpe] at q3
                  cases hc : m5[m'.length]? with
                  | none => simp only [hc] at q3; exact False.elim q3
                  | some c =>
                    cases c <;> simp only [hc] at q3 <;> first | exact False.elim q3 | skip
                    rename_i acc
                    have hA5 : ρ5[m'.length]? = some A := u5.ext _ _ (u4.ext _ _ (u3.ext _ _ hA1))
                    obtain ⟨vs, hv, lv⟩ := s5.at_ _ _ _ hA5 hc
                    by_cases hl : acc.length ≤ lim
                    · rw [if_pos hl] at q3
                      have uw : Up g ρ5 H5 ρ5 (upd H5 A (.lst (vs ++ [v5]))) := Up.write hv trivial
                      refine ⟨vs, hv, by rw [← lv.length]; exact lim_lt hl, ρ5, _, ((u2.trans u3).trans u4).trans (u5.trans uw), s5.set (c' := .lst (acc ++ [y5])) hA5 hc ⟨_, upd_same, (lv.append (.cons dv5 .nil)).up uw⟩, Fin.up ((u4.trans u5).trans uw) q3⟩
                    · rw [if_neg hl] at q3; exact False.elim q3
theorem te_lc {elt iter : Expr} {ifs : List Expr} {scope : Scope} {own : List (Str × Nat)} {pi : PgI} {t : Tgt} {pt : Pg} (hc : X.calm = true) (hN : X.N.Nodup) (hi : SrcR g W X tg iter pi) (ok : BlkOk X.N X.env.scope scope own)
    (hg : ∀ (s : Shared) (H : Hp) (C : Addr) (cl : List (Str × Addr)) (fp : List Addr), TgOk g (X.blk s H scope (compEnvC scope cl C X.env) fp) tg t) (ht : ∀ (s : Shared) (H : Hp) (C : Addr) (cl : List (Str × Addr)) (fp : List Addr), PTs (X.blk s H scope (compEnvC scope cl C X.env) fp) ifs (Tt g W0 pt))
    (he : ∀ (s : Shared) (H : Hp) (C : Addr) (cl : List (Str × Addr)) (fp : List Addr), PE (X.blk s H scope (compEnvC scope cl C X.env) fp) elt (T g W0 pe)) (hsl : ∀ i ∈ t.slots, i ∈ own.map (·.2)) (hs : ∀ x, foldedSetIterable iter X.env x = pure x := by intro _; rfl) :
    PE X (.ListComp elt [⟨tg, iter, ifs, 0⟩] scope pos) (T g W (pLc pi (own.map (·.2)) t pt pe)) := by
  obtain ⟨wi, i1, i2⟩ := hi
  exact PE.imp (pe_lc hc hN i1 ok hg ht he hs) fun σ H Q h => t_lc hsl i2 h
theorem ts_setLc (i : Nat) {y : Str} {py : Pos} {elt iter : Expr} {ifs : List Expr} {scope : Scope} {own : List (Str × Nat)} {spos : Pos} {pi : PgI} {t : Tgt} {pt : Pg} (hc : X.calm = true) (hN : X.N.Nodup) (hi : SrcR g W X tg iter pi) (ok : BlkOk X.N X.env.scope scope own)
    (hg : ∀ (s : Shared) (H : Hp) (C : Addr) (cl : List (Str × Addr)) (fp : List Addr), TgOk g (X.blk s H scope (compEnvC scope cl C X.env) fp) tg t) (ht : ∀ (s : Shared) (H : Hp) (C : Addr) (cl : List (Str × Addr)) (fp : List Addr), PTs (X.blk s H scope (compEnvC scope cl C X.env) fp) ifs (Tt g W0 pt))
    (he : ∀ (s : Shared) (H : Hp) (C : Addr) (cl : List (Str × Addr)) (fp : List Addr), PE (X.blk s H scope (compEnvC scope cl C X.env) fp) elt (T g W0 pe)) (hsl : ∀ i ∈ t.slots, i ∈ own.map (·.2))
    (hsw : swapsWith (.ListComp elt [⟨tg, iter, ifs, 0⟩] scope pos) (some (.Name y py)) spos.line X.env = pure true) (hy : X.N[i]? = some y := by rfl) (hyl : X.env.scope.names.lookup y = some .local := by rfl) (hs : ∀ x, foldedSetIterable iter X.env x = pure x := by intro _; rfl) :
    L2.PS X (.Assign [.Name y py] (.ListComp elt [⟨tg, iter, ifs, 0⟩] scope pos) spos) (Ts g W (sSet i (pLc pi (own.map (·.2)) t pt pe))) := by
  obtain ⟨wi, i1, i2⟩ := hi
  exact PS.imp (ps_setLc hc hN hy hyl hsw i1 ok hg ht he hs) fun D σ H h => t_lc hsl i2 (t_set h)
end MT

/-! MT7: defs and calls; rooms: attributes, methods, own operators. -/
namespace MT
open PySem PySem.Spec PyProof.Rows L2 StX
variable {g : G} {ρ ρ' ρ1 ρ2 : List Addr} {H H' H1 H2 : Hp} {m m' : Store} {ε ε' : EnvD} {σ σ' : L2.St} {W : Wx} {r : Res D} {Q Q' : VK} {X : Cx} {a b c e o : Expr} {pa pb pc pe po : Pg} {pos apos : Pos} {D0 : Ends} {es : List Expr} {ps : List Pg} {f : Fn} {k j : Nat} {x mm : Str} {p' : Pos}

/-! ### defs -/
/-- a def's promise by its function -/
def spOf (g : G) (f : Fn) : Sp := fun vs H Q _ => ∃ ρ m ds, RelS g ρ m H ∧ DenL g ρ H ds vs ∧ Fin g W0 ρ H [] (f ds m) Q
/-- a body run: n parameters, N names -/
def runD (n N : Nat) (p : PgS) : Fn := fun ds m => if ds.length = n then (match p (ds.map some ++ List.replicate (N - n) none) m with
  | .nxt _ m => .ok .non m
  | .ret d m => .ok d m
  | .exc x _ m => .exc x m
  | .bad => .bad) else .bad
theorem fin_any {σ' : L2.St} (h : Fin g W0 ρ H σ r Q) : Fin g W0 ρ H σ' r Q := by
  cases r with
  | ok d m => exact h
  | exc x m => exact h
  | bad => exact h
theorem DenL.start {ds : List D} {vs : List V} (h : DenL g ρ H ds vs) (k : Nat) : RelE g ρ H (ds.map some ++ List.replicate k none) (vs.map some ++ List.replicate k none) := by
  have hl := h.length
  refine ⟨by simp [hl], fun i d e => ?_⟩
  by_cases hi : i < ds.length
  · rw [List.getElem?_append_left (by simpa using hi), List.getElem?_map] at e
    rw [List.getElem?_append_left (by simpa [← hl] using hi), List.getElem?_map]
    cases q : ds[i]? with
    | none => rw [q] at e; cases e
    | some d' =>
      rw [q] at e
      have e' : d' = d := by simpa using e
      subst e'
      obtain ⟨v, h1, h2⟩ := h.get q
      exact ⟨v, by rw [h1]; rfl, h2⟩
  · rw [List.getElem?_append_right (by simpa using hi)] at e
    exfalso
    rw [List.getElem?_replicate] at e
    split at e <;> cases e
theorem fnok {P : Program} {w : World} {mg : Str → Option Value} {base : Heap} {qual : Str} {st : Stmt} {ad : Addr} {fd : FuncData} {N pn : List Str} {p : PgS} (F : Fun g.K x qual st ad fd) (S : FnScope N pn (defScope st))
    (hb : ∀ (cdv : Value) (A : Around) (outer : List Env) (s : Shared) (H : Hp) (E : XK), Room k (A.deeper (envOfC qual (defScope st) s.heap.objs.size ad cdv)) →
      L2.PSs (cxOf CX0 P w g.K mg base N qual (defScope st) ad cdv A outer s H E).nox (defBody st) (Ts g W0 p)) : FnOk P w g.K mg base CX0 (k + 1) ad fd pn (spOf g (runD pn.length N.length p)) := by
  refine F.ok S (fun vs H Q E h => ?_) (fun cdv A outer s H vs Q E hr h => ⟨_, hb cdv A outer s H E hr, ?_⟩)
  · obtain ⟨ρ, m, ds, s, l, h⟩ := h
    unfold runD at h
    split at h
    · rename_i hl; rw [← l.length, hl]
    · exact h.elim
  · obtain ⟨ρ, m, ds, s, l, h⟩ := h
    unfold runD at h
    split at h
    · rename_i hl
      have e := l.start (N.length - vs.length)
      refine ⟨ds.map some ++ List.replicate (N.length - vs.length) none, ρ, m, e, s, ?_⟩
      rw [← l.length, hl]
      cases hp : p (ds.map some ++ List.replicate (N.length - pn.length) none) m with
      | nxt ε m' => rw [hp] at h; exact fun ρ' H' σ' u s' e' => h ρ' H' .non u s' .non
      | ret d m' => rw [hp] at h; exact fun ρ' H' v u s' dv => h ρ' H' v u s' dv
      | exc x ε m' => rw [hp] at h; exact fun ρ' H' σ' u s' _ => h ρ' H' u s'
      | bad => rw [hp] at h; exact h
    · exact h.elim
/-- .. its promise by positional values -/
theorem fnr {P : Program} {w : World} {mg : Str → Option Value} {base : Heap} {ad : Addr} {fd : FuncData} {pn : List Str} (F : FnOk P w g.K mg base CX0 k ad fd pn (spOf g f)) (b : Binds g.K fd pn []) : FnR P w g.K mg base CX0 k ad (spOf g f) :=
  FnR.imp (F.raw b .nil) fun vs H Q E h => by rw [List.append_nil]; exact h
/-- a def of the module by its name -/
structure Cf (P : Program) (w : World) (mg : Str → Option Value) (base : Heap) (g : G) (k : Nat) (x : Str) (f : Fn) : Prop where
  ex : ∃ ad : Addr, FnR P w g.K mg base CX0 k ad (spOf g f) ∧ mg x = some (.ref ad) ∧ PySem.W.keepIn g.K (.ref ad) = true
/-- a method of the class at C -/
structure Mf (P : Program) (w : World) (mg : Str → Option Value) (base : Heap) (g : G) (k : Nat) (C : Addr) (m : Str) (f : Fn) : Prop where
  ex : ∃ ad : Addr, Meth g.K C m ad ∧ FnR P w g.K mg base CX0 k ad (spOf g f)
theorem sp_args {ds : List D} {vs : List V} (s : RelS g ρ m H) (l : DenL g ρ H ds vs) (h : Fin g W ρ H σ (f ds m) Q) (w0 : W = W0) {E : XK} : spOf g f vs H Q E := by
  subst w0
  exact ⟨ρ, m, ds, s, l, fin_any h⟩
theorem te_call (hK : X.K = g.K) (c : Cf X.prog X.w X.mg X.base g k x f) (hr : Room j X.A) (ha : PA X (e :: es) (Ta g W0 ps)) (hk : k ≤ j := by decide) (hg : Gl X x := by rfl)
    (hdb : (x == ("__debug__" : Str)) = false := by decide) (he : starEach (e :: es) X.env = (false, eval e X.env) :: starEach es X.env := by rfl) (hpl : (backTo pos (starEach es X.env)).any (·.1) = false := by rfl) :
    PE X (.Call (.Name x p') (e :: es) [] pos) (T g W0 (pF f ps)) := by
  obtain ⟨ad, F, hm, kp⟩ := c.ex
  rw [← hK] at F kp
  refine ⟨fun pins s σ H Q I h => ?_⟩
  refine wpAny_Call_Name_kw (ld_glob I hg hm ?_ hdb)
  have h2 := t_fn (r := fun vs H Q => spOf g f vs H Q E0) (fun ρ m σ H ds vs Q s l h => sp_args s l h rfl) h
  refine PySem.W.callWith_K (h₀ := X.base) I.ok.mod.kin kp (thn (ha.run pos pins s σ H _ I h2) fun us s1 ⟨vs, H1, I1, r, q⟩ => ⟨I1.kIn, ?_⟩) he hpl
  exact wpAny_call (run_fnR F (hr.mono hk) pass0 I1 r q)

/-! ### rooms -/
structure RoomC (g : G) : Prop where
  cls : Cls g.K g.CR
  nL : NoAttr g.K g.CR "lines"
  nP : NoAttr g.K g.CR "ports"
theorem DenV.room_ {ls : List Str} {v : V} (h : DenV g ρ H (.room ls) v) : ∃ p, v = .ref p ∧ RoomAt g H p ls := by
  cases h with | room h => exact ⟨_, rfl, h⟩
def gLines : Fn
  | [.room ls], m => .ok (.tup (ls.map .str)) m
  | _, _ => .bad
def nPorts (ls : List Str) : Nat := 2 * (heightS ls + widthS ls)
def gPorts : Fn
  | [.room ls], m => .ok (.int (nPorts ls)) m
  | _, _ => .bad
theorem kLP : ¬ (("ports" : Str) = "lines") := by decide +kernel
theorem te_lines (hK : X.K = g.K) (R : RoomC g) (ho : PE X o (T g W po)) (hb : attributeBase o "lines" X.env (eval o X.env) = eval o X.env := by rfl) : PE X (.Attribute o "lines" pos) (T g W (p1 gLines po)) :=
  PE.imp (pe_fld ho hb) fun σ H Q h => t_op1 (f := gLines) (r := fun x H1 Q => ∃ a C dx fs v, x = .ref a ∧ H1 a = some (.ins C dx fs) ∧ Cls X.K C ∧ NoAttr X.K C "lines" ∧ fs.lookup ("lines" : Str) = some v ∧ Q v H1) (fun ρ m σ H d x Q s dv h => by
    cases dv with
    | @room p ls hr =>
      obtain ⟨dx, t, q, ob, h1, h2, h3, h4⟩ := hr
      exact ⟨p, g.CR, dx, _, .ref t, rfl, h1, by rw [hK]; exact R.cls, by rw [hK]; exact R.nL, by simp [List.lookup], Fin.okc h s (.tup h2 DenL.strs)⟩
    | _ => exact False.elim h) h
theorem portsV_len (ls : List Str) : (portsV ls).length = nPorts ls := by simp [portsV, nPorts]
theorem te_ports (hK : X.K = g.K) (R : RoomC g) (hm : X.mg "len" = none) (ho : PE X o (T g W po)) (hg : Gl X "len" := by rfl) (hb : attributeBase o "ports" X.env (eval o X.env) = eval o X.env := by rfl)
    (hs : starEach [.Attribute o "ports" apos] X.env = (false, eval (.Attribute o "ports" apos) X.env) :: starEach [] X.env := by rfl) :
    PE X (.Call (.Name "len" p') [.Attribute o "ports" apos] [] pos) (T g W (p1 gPorts po)) :=
  PE.imp (pe_callB call_len hg hm boot_len (pa_cons (pe_fld ho hb) pa_nil hs)) fun σ H Q h => t_op1 (f := gPorts) (r := fun x H1 Q => ∃ a C dx fs v, x = .ref a ∧ H1 a = some (.ins C dx fs) ∧ Cls X.K C ∧ NoAttr X.K C "ports" ∧ fs.lookup ("ports" : Str) = some v ∧ ∃ y n, [v] = [y] ∧ LenV X.K y H1 n ∧ Q (.int n) H1) (fun ρ m σ H d x Q s dv h => by
    cases dv with
    | @room p ls hr =>
      obtain ⟨dx, t, q, ob, h1, h2, h3, h4⟩ := hr
      refine ⟨p, g.CR, dx, _, .ref q, rfl, h1, by rw [hK]; exact R.cls, by rw [hK]; exact R.nP, ?_, .ref q, nPorts ls, rfl, .inl ⟨portsV ls, .inl (.inr ⟨ob, h3⟩), (portsV_len ls).symm⟩, Fin.okc h s (.int _)⟩
      have k1 : (("ports" : Str) == "lines") = false := by decide +kernel
      simp [List.lookup, k1]
    | _ => exact False.elim h) h
/-- o.m(..) of a room -/
def pRm (f : Fn) (po : Pg) (ps : List Pg) : Pg := fun ε m => (po ε m).bind fun d m1 => match d with
  | .room ls => (evL ps ε m1).bind fun ds m2 => f (.room ls :: ds) m2
  | _ => .bad
theorem t_rm {R2 : List V → Hp → VK → Prop} (hs : ∀ (ρ : List Addr) (m : Store) (σ : L2.St) (H : Hp) (ls : List Str) (p : Addr) (ds : List D) (vs : List V) (Q : VK), RelS g ρ m H → RoomAt g H p ls → DenL g ρ H ds vs → Fin g W ρ H σ (f (.room ls :: ds) m) Q → R2 (.ref p :: vs) H Q)
    (h : T g W (pRm f po ps) σ H Q) : T g W po σ H fun x H1 => ∃ a dx fs, x = .ref a ∧ H1 a = some (.ins g.CR dx fs) ∧ (∀ m : Str, ¬ m = "lines" → ¬ m = "ports" → fs.lookup m = none) ∧ Ta g W ps σ H1 fun vs H2 => R2 (x :: vs) H2 Q := by
  refine T.mono (At.bind (f := fun ε ds m => match ds with
    | [.room ls] => (evL ps ε m).bind fun es m2 => f (.room ls :: es) m2
    | _ => .bad) h fun ε ds m hl => match ds, hl with
    | [], _ => by
      unfold pRm
      congr 1
      funext d m1
      cases d <;> rfl) fun x H1 h1 => ?_
  obtain ⟨ε, ρ, m, d, e, s, dv, h⟩ := h1.one
  cases dv with
  | @room p ls hr =>
    obtain ⟨dx, t, q, ob, h1, h2⟩ := id hr
    refine ⟨p, dx, _, rfl, h1, fun m n1 n2 => ?_, ε, ρ, m, e, s, Fin.bindL h fun ρ' H' vs ds m' u s' dl q => hs ρ' m' σ H' ls p ds vs Q s' (u.room hr) dl q⟩
    have k1 : (m == ("lines" : Str)) = false := by simpa using n1
    have k2 : (m == ("ports" : Str)) = false := by simpa using n2
    simp [List.lookup, k1, k2]
  | _ => exact False.elim h
theorem te_rm {pl : Sem Bool} (hK : X.K = g.K) (R : RoomC g) (c : Mf X.prog X.w X.mg X.base g k g.CR mm f) (hr : Room j X.A) (ho : PE X o (T g W0 po)) (ha : PA X (e :: es) (Ta g W0 ps)) (hk : k ≤ j := by decide) (n1 : ¬ mm = "lines" := by decide +kernel) (n2 : ¬ mm = "ports" := by decide +kernel)
    (hst : starEach (e :: es) X.env = (false, eval e X.env) :: starEach es X.env := by rfl) (hpl : (backTo pos (starEach es X.env)).any (·.1) = false := by rfl)
    (ht : eval (.Call (.Attribute o mm apos) (e :: es) [] pos) X.env = (do
      let ov ← eval o X.env
      standAt apos.atName
      let (f, first) ← holding [ov] (getMethod ov mm pl)
      callWith pos f first (backTo pos (starEach (e :: es) X.env)) (backToKw pos (keywordEach [] X.env))) := by rfl) :
    PE X (.Call (.Attribute o mm apos) (e :: es) [] pos) (T g W0 (pRm f po ps)) := by
  obtain ⟨ad, hm, F⟩ := c.ex
  have cl := R.cls
  rw [← hK] at F hm cl
  refine PE.imp (pe_methR ho cl hm F (hr.mono hk) pass0 ha hst hpl ht) fun σ H Q h => ?_
  refine T.mono (t_rm (R2 := fun vs H Q => spOf g f vs H Q E0) (fun ρ m σ H ls p ds vs Q s hr l h => sp_args s (.cons (.room hr) l) h rfl) h) fun v H1 ⟨a, dx, fs, e1, h1, hn, z⟩ => ⟨a, dx, fs, e1, h1, hn mm n1 n2, z⟩
/-- a property of a room -/
theorem te_rp (hK : X.K = g.K) (R : RoomC g) {p ad : Addr} {fd : FuncData} {pn : List Str} (hp : PropOf g.K g.CR mm p ad) (F : FnOk X.prog X.w g.K X.mg X.base CX0 k ad fd pn (spOf g f)) (b : Binds g.K fd pn []) (hr : Room j X.A) (ho : PE X o (T g W0 po)) (hk : k + 1 ≤ j := by decide)
    (hab : attributeBase o mm X.env (eval o X.env) = eval o X.env := by rfl) : PE X (.Attribute o mm pos) (T g W0 (pRm f po [])) := by
  have cl := R.cls
  rw [← hK] at F b hp cl
  refine PE.imp (pe_prop ho cl hp F (hr.mono hk) b .nil pass0 hab) fun σ H Q h => ?_
  refine T.mono (t_rm (R2 := fun vs H Q => spOf g f (vs ++ []) H Q E0) (fun ρ m σ H ls p ds vs Q s hr l h => by rw [List.append_nil]; exact sp_args s (.cons (.room hr) l) h rfl) h) fun v H1 ⟨a, dx, fs, e1, h1, hn, z⟩ => ⟨a, dx, fs, e1, h1, ?_⟩
  obtain ⟨ε, ρ, m, e, s, z⟩ := z
  have z' := z ρ H1 [] .refl s .nil
  rw [e1] at z'
  exact z'
/-- room(port) -/
theorem te_rc (hK : X.K = g.K) {ad : Addr} (hc : CallO g.K g.CR ad) (F : FnR X.prog X.w g.K X.mg X.base CX0 k ad (spOf g f)) (hr : Room j X.A) (ho : PE X o (T g W0 po)) (ha : PA X (e :: es) (Ta g W0 ps)) (hk : k ≤ j := by decide)
    (ht : eval (.Call o (e :: es) [] pos) X.env = (do callWith pos (← eval o X.env) [] (backTo pos (starEach (e :: es) X.env)) (backToKw pos (keywordEach [] X.env))) := by rfl)
    (he : starEach (e :: es) X.env = (false, eval e X.env) :: starEach es X.env := by rfl) (hpl : (backTo pos (starEach es X.env)).any (·.1) = false := by rfl) : PE X (.Call o (e :: es) [] pos) (T g W0 (pRm f po ps)) := by
  rw [← hK] at F hc
  refine PE.imp (pe_callO ho hc F (hr.mono hk) pass0 ha ht he hpl) fun σ H Q h => ?_
  refine T.mono (t_rm (R2 := fun vs H Q => ∃ p tl ls, vs = .ref p :: tl ∧ RoomAt g H p ls ∧ spOf g f vs H Q E0) (fun ρ m σ H ls p ds vs Q s hr l h => ⟨p, vs, ls, rfl, hr, sp_args s (.cons (.room hr) l) h rfl⟩) h) fun v H1 ⟨a, dx, fs, e1, h1, hn, z⟩ => ⟨a, e1, Ta.mono z fun vs H2 q => ?_⟩
  obtain ⟨p, tl, ls, e2, hr, q⟩ := q
  rw [e1] at e2 q
  cases e2
  obtain ⟨dx, t, q', ob, h3, _⟩ := hr
  exact ⟨.inr ⟨dx, _, h3⟩, q⟩
/-- an own def of a room run at a place below the body -/
theorem run_room {A : Around} {pins : List (Addr × Obj)} {s : Shared} {ad : Addr} {us : List Value} {vs : List V} (F : FnR X.prog X.w X.K X.mg X.base CX0 k ad (spOf g f)) (hr : Room k A) (e0 : Env0 X.prog X.w X.K X.mg X.base A X.stack s H)
    (I : Inv X pins σ H s) (rv : Vals vs us) (h : spOf g f vs H Q E0) : wpAny (model X.prog X.w) A (call (.ref ad) us) (EP X pins σ Q) X.xe s :=
  wpAny_mono (wpAny_call (SlX.run_at F hr e0 pass0 I rv h)) (fun _ _ z => z) fun _ _ z => z
theorem room_inst {pins : List (Addr × Obj)} {s : Shared} (I : Inv X pins σ H s) {p : Addr} {ls : List Str} (h : RoomAt g H p ls) : ∃ ox od, PySem.W.InstAt s.heap p ox g.CR od := by
  obtain ⟨dx, t, q, ob, h1, _⟩ := h
  obtain ⟨mA, O, _⟩ := ins_get I.hok h1
  obtain ⟨od, J, _⟩ := O.look
  exact ⟨_, _, J⟩
/-- ~room -/
theorem te_inv (hK : X.K = g.K) (c : Mf X.prog X.w X.mg X.base g k g.CR "__invert__" f) (hr : Room j X.A) (ha : PE X a (T g W0 pa)) (hk : k ≤ j := by decide) : PE X (.UnaryOp .Invert a pos) (T g W0 (pRm f pa [])) := by
  obtain ⟨ad, hm, F⟩ := c.ex
  rw [← hK] at F hm
  have hu : UnR X (unaryOp .Invert) fun x H Q => ∃ p ls, x = .ref p ∧ RoomAt g H p ls ∧ spOf g f [x] H Q E0 := by
    intro pins s σ H x v Q I rx h
    obtain ⟨p, ls, rfl, hr2, h⟩ := h
    cases (show v = Value.ref p from rx)
    obtain ⟨ox, od, J⟩ := room_inst I hr2
    obtain ⟨mm, hF⟩ := I.fr
    exact PySem.W.ksp_inv hF I.mod.kin J hm.at_ hm.fn (run_room (us := [.ref p]) (vs := [.ref p]) F (hr.mono hk) I.env0 I (.cons rfl .nil) h)
  refine PE.imp (pe_un hu ha) fun σ H Q h => ?_
  refine T.mono (t_rm (R2 := fun vs H Q => ∃ p tl ls, vs = .ref p :: tl ∧ RoomAt g H p ls ∧ spOf g f vs H Q E0) (fun ρ m σ H ls p ds vs Q s hr l h => ⟨p, vs, ls, rfl, hr, sp_args s (.cons (.room hr) l) h rfl⟩) h) fun v H1 ⟨a, dx, fs, e1, h1, hn, z⟩ => ?_
  obtain ⟨ε, ρ, m, e, s, z⟩ := z
  obtain ⟨p, tl, ls, e2, hr, q⟩ := z ρ H1 [] .refl s .nil
  cases e2
  exact ⟨p, ls, rfl, hr, q⟩
end MT

/-! MT8: subscripts, slices, methods of lists and texts, built-ins, stores. -/
namespace MT
open PySem PySem.Spec PyProof.Rows L2
variable {g : G} {ρ ρ' ρ1 ρ2 : List Addr} {H H' H1 H2 : Hp} {m m' : Store} {ε ε' : EnvD} {σ σ' : L2.St} {W : Wx} {r : Res D} {Q Q' : VK} {X : Cx} {a b c e o : Expr} {pa pb pc pe po : Pg} {pos apos : Pos} {D0 : Ends} {es : List Expr} {ps : List Pg} {f : Fn} {k j : Nat} {x mm : Str} {p' : Pos}

theorem atI_den {ds : List D} {vs : List V} (l : DenL g ρ H ds vs) {i : Int} {d : D} (h : atI ds i = some d) : ∃ v, atI vs i = some v ∧ DenV g ρ H d v := by
  unfold atI at h ⊢
  rw [l.length] at h
  cases hi : ixN vs.length i with
  | none => rw [hi] at h; cases h
  | some j => rw [hi] at h; exact l.get h
def optR (o : Option D) (m : Store) : Res D := match o with
  | some d => .ok d m
  | none => .bad
def gIx : Fn
  | [.loc n, .int i], m => match m[n]? with
    | some (.lst xs) => optR (atI xs i) m
    | _ => .bad
  | [.tup xs, .int i], m => optR (atI xs i) m
  | [.fl xs, .int i], m => optR (atI xs i) m
  | [.str z, .int i], m => if z.length ≤ lim then optR ((atI z.cps.toList i).map fun c => D.str ⟨#[c]⟩) m else .bad
  | _, _ => .bad
theorem fin_opt {d : Option D} (h : Fin g W ρ H σ (optR d m) Q) : ∃ d', d = some d' ∧ Fin g W ρ H σ (.ok d' m) Q := by
  cases d with
  | none => exact h.elim
  | some d => exact ⟨d, rfl, h⟩
theorem o_ix : Op2 g W (rIx g.K) gIx := by
  intro ρ m σ H d e x y Q s ha hb h
  cases ha with
  | @loc n p hp =>
    cases hb with
    | int i =>
      simp only [gIx] at h
      split at h
      · rename_i xs hc
        obtain ⟨_, e1, _, vs, hv, l⟩ := s.cell (.loc hp) hc
        cases e1
        obtain ⟨d', e2, h⟩ := fin_opt h
        obtain ⟨v, e3, dv⟩ := atI_den l e2
        exact .inl ⟨p, vs, i, v, rfl, rfl, SqL.of hv, e3, Fin.okc h s dv⟩
      · exact h.elim
    | _ => exact False.elim h
  | @tup p ds vs hp l =>
    cases hb with
    | int i =>
      obtain ⟨d', e2, h⟩ := fin_opt (d := atI ds i) h
      obtain ⟨v, e3, dv⟩ := atI_den l e2
      exact .inr (.inl ⟨p, vs, i, v, rfl, rfl, hp, e3, Fin.okc h s dv⟩)
    | _ => exact False.elim h
  | @fl p ds vs hp l =>
    cases hb with
    | int i =>
      obtain ⟨d', e2, h⟩ := fin_opt (d := atI ds i) h
      obtain ⟨v, e3, dv⟩ := atI_den l e2
      exact .inl ⟨p, vs, i, v, rfl, rfl, hp.sq, e3, Fin.okc h s dv⟩
    | _ => exact False.elim h
  | str z =>
    cases hb with
    | int i =>
      simp only [gIx] at h
      split at h
      · rename_i hl
        obtain ⟨d', e2, h⟩ := fin_opt h
        rw [Option.map_eq_some_iff] at e2
        obtain ⟨c, e2, rfl⟩ := e2
        exact .inr (.inr ⟨z, i, c, rfl, rfl, lim_le hl, e2, Fin.okc h s (.str _)⟩)
      · exact h.elim
    | _ => exact False.elim h
  | _ => exact False.elim h
theorem te_ix (hK : X.K = g.K) (ha : PE X a (T g W pa)) (hb : PE X b (T g W pb)) (hs : PlainIx b := by intro _ _; rfl) : PE X (.Subscript a b pos) (T g W (p2 gIx pa pb)) :=
  PE.imp (pe_ix ix_seq ha hb hs) fun σ H Q h => t_op2 (by rw [hK]; exact o_ix) h

/-! ### slices -/
def cutD (xs : List D) (lo hi : Option Int) : List D := (xs.drop (HT.sIx xs.length 0 lo)).take (HT.sIx xs.length xs.length hi - HT.sIx xs.length 0 lo)
def gSl (lo hi : Option Int) (d : D) (m : Store) : Res D := match d with
  | .str z => if z.length ≤ lim then .ok (.str (cutS z lo hi)) m else .bad
  | d => match lsD m d with
    | some xs => .ok (.loc m.length) (m ++ [.lst (cutD xs lo hi)])
    | none => .bad
def gSlU : Fn
  | [d, .int i], m => gSl none (some i) d m
  | _, _ => .bad
def gSlL : Fn
  | [d, .int i], m => gSl (some i) none d m
  | _, _ => .bad
def rSlA2 (K : PySem.W.Frag) : V → Option Int → Option Int → Hp → VK → Prop := fun x lo hi H Q => rSlL K x lo hi H Q ∨ rSlS x lo hi H Q
theorem o_sl {lo hi : Option Int} {d : D} {x : V} (s : RelS g ρ m H) (dv : DenV g ρ H d x) (h : Fin g W ρ H σ (gSl lo hi d m) Q) : rSlA2 g.K x lo hi H Q := by
  have gen : (∀ z, d ≠ .str z) → rSlA2 g.K x lo hi H Q := fun hn => by
    unfold gSl at h
    split at h
    · exact (hn _ rfl).elim
    · cases e : lsD m d with
      | none => rw [e] at h; exact h.elim
      | some xs =>
        rw [e] at h
        obtain ⟨a, vs, rfl, r, l⟩ := s.seq dv e
        refine .inl ⟨a, vs, rfl, .inl r, fun q hq => h.newL s hq ?_⟩
        unfold cutD cutV
        rw [l.length]
        exact (l.drop _).take _
  cases dv with
  | str z =>
    simp only [gSl] at h
    split at h
    · rename_i hl
      exact .inr ⟨z, rfl, lim_le hl, Fin.okc h s (.str _)⟩
    · exact h.elim
  | _ => exact gen fun _ z => nomatch z
variable {p2' : Pos}
theorem te_slU (hK : X.K = g.K) (ha : PE X a (T g W pa)) (hb : PE X b (T g W pb)) : PE X (.Subscript a (.Slice none (some b) none p2') pos) (T g W (p2 gSlU pa pb)) :=
  PE.imp (pe_slice (SlR.or sl_list sl_str) ha po_none (po_some hb)) fun σ H Q h => t_op2 (r := fun x y H3 Q => ∃ i, y = .int i ∧ rSlA2 X.K x none (some i) H3 Q) (fun ρ m σ H d e x y Q s dx dy h => by
    cases dy with
    | int i => exact ⟨i, rfl, by rw [hK]; exact o_sl s dx h⟩
    | _ => cases dx <;> exact False.elim h) h
theorem te_slL (hK : X.K = g.K) (ha : PE X a (T g W pa)) (hb : PE X b (T g W pb)) : PE X (.Subscript a (.Slice (some b) none none p2') pos) (T g W (p2 gSlL pa pb)) :=
  PE.imp (pe_slice (SlR.or sl_list sl_str) ha (po_some hb) po_none) fun σ H Q h => t_op2 (r := fun x y H3 Q => ∃ i, y = .int i ∧ rSlA2 X.K x (some i) none H3 Q) (fun ρ m σ H d e x y Q s dx dy h => by
    cases dy with
    | int i => exact ⟨i, rfl, by rw [hK]; exact o_sl s dx h⟩
    | _ => cases dx <;> exact False.elim h) h
def gRev : Fn
  | [d], m => match lsD m d with
    | some xs => .ok (.loc m.length) (m ++ [.lst xs.reverse])
    | none => .bad
  | _, _ => .bad
theorem DenL.reverse {ds : List D} {vs : List V} (l : DenL g ρ H ds vs) : DenL g ρ H ds.reverse vs.reverse := by
  induction ds generalizing vs with
  | nil => cases l; exact .nil
  | cons d ds ih =>
    cases l with
    | cons a b =>
      rw [List.reverse_cons, List.reverse_cons]
      exact (ih b).append (.cons a .nil)
theorem te_rev {kk : Nat} {q1 q2 q3 : Pos} (hK : X.K = g.K) (ha : PE X a (T g W pa)) : PE X (.Subscript a (.Slice none none (some (.UnaryOp .USub (.Constant (.int 1) kk q1) q2)) q3) pos) (T g W (p1 gRev pa)) :=
  PE.imp (pe_revL ha) fun σ H Q h => t_op1 (r := fun x H1 Q => ∃ a xs, x = .ref a ∧ SqL X.K H1 a xs ∧ ∀ p, H1 p = none → Q (.ref p) (upd H1 p (.lst xs.reverse))) (fun ρ m σ H d x Q s dv h => by
    simp only [gRev] at h
    cases e : lsD m d with
    | none => rw [e] at h; exact h.elim
    | some xs =>
      rw [e] at h
      obtain ⟨a, vs, rfl, r, l⟩ := s.seq dv e
      exact ⟨a, vs, rfl, .inl r, fun q hq => h.newL s hq l.reverse⟩) h

/-! ### methods of lists and texts -/
def pLm (f : Fn) (po : Pg) (ps : List Pg) : Pg := fun ε m => (po ε m).bind fun d m1 => match d with
  | .loc n => match m1[n]? with
    | some (.lst _) => (evL ps ε m1).bind fun ds m2 => f (.loc n :: ds) m2
    | _ => .bad
  | _ => .bad
def pSm (f : Fn) (po : Pg) (ps : List Pg) : Pg := fun ε m => (po ε m).bind fun d m1 => match d with
  | .str z => (evL ps ε m1).bind fun ds m2 => f (.str z :: ds) m2
  | _ => .bad
def OpM (g : G) (W : Wx) (r : V → List V → Hp → VK → Prop) (f : Fn) : Prop := ∀ (ρ : List Addr) (m : Store) (σ : L2.St) (H : Hp) (d : D) (ds : List D) (x : V) (vs : List V) (Q : VK), RelS g ρ m H → DenV g ρ H d x → DenL g ρ H ds vs → Fin g W ρ H σ (f (d :: ds) m) Q → r x vs H Q
theorem t_lm {r : V → List V → Hp → VK → Prop} (hs : OpM g W r f) (h : T g W (pLm f po ps) σ H Q) : T g W po σ H fun x H1 => tyV g.K "list" x H1 ∧ Ta g W ps σ H1 fun xs H2 => r x xs H2 Q := by
  obtain ⟨ε, ρ, m, ds, e, s, l, h⟩ := h
  refine ⟨ε, ρ, m, [], e, s, .nil, Fin.bind h fun ρ' H' v d m' u s' dv q => ?_⟩
  cases dv with
  | @loc n p hp =>
    simp only at q
    split at q
    · rename_i xs hc
      obtain ⟨_, e1, _, vs, hv, l⟩ := s'.cell (.loc hp) hc
      cases e1
      exact ⟨.inl ⟨rfl, vs, SqL.of hv⟩, ε, ρ', m', e.up u, s', Fin.bindL q fun ρ2 H2 ws ds m2 u2 s2 dl q2 => hs ρ2 m2 σ H2 _ ds _ ws Q s2 (.loc (u2.ext _ _ hp)) dl q2⟩
    · exact q.elim
  | _ => exact False.elim q
theorem t_sm {r : V → List V → Hp → VK → Prop} (hs : OpM g W r f) (h : T g W (pSm f po ps) σ H Q) : T g W po σ H fun x H1 => (tyV g.K "str" x H1 ∧ ∃ z, x = .str z) ∧ Ta g W ps σ H1 fun xs H2 => r x xs H2 Q := by
  obtain ⟨ε, ρ, m, ds, e, s, l, h⟩ := h
  refine ⟨ε, ρ, m, [], e, s, .nil, Fin.bind h fun ρ' H' v d m' u s' dv q => ?_⟩
  cases dv with
  | str z => exact ⟨⟨rfl, z, rfl⟩, ε, ρ', m', e.up u, s', Fin.bindL q fun ρ2 H2 ws ds m2 u2 s2 dl q2 => hs ρ2 m2 σ H2 _ ds _ ws Q s2 (.str z) dl q2⟩
  | _ => exact False.elim q
theorem te_lm {name : Str} {id : String} {r : V → List V → Hp → VK → Prop} (hK : X.K = g.K) (slot : Slot "list" name id) (hty : typeOf (.builtin id) = pure (.type "method_descriptor")) (hm : MtR X id r) (hs : OpM g W r f) (ho : PE X o (T g W po)) (ha : PA X (e :: es) (Ta g W ps))
    (hbase : attributeBase o name X.env (eval o X.env) = eval o X.env := by rfl)
    (hfew : ((backTo pos (starEach (e :: es) X.env)).all (fun x => !x.1) && (backToKw pos (keywordEach [] X.env)).all (fun x => x.1.isSome)
      && decide ((e :: es).length + ([] : List Keyword).length + (if ([] : List Keyword).isEmpty then 0 else 1) < 30)) = true := by rfl)
    (hline : (apos.endLine == pos.line) = true := by rfl) (hst : starEach (e :: es) X.env = (false, eval e X.env) :: starEach es X.env := by rfl) (hplain : (backTo pos (starEach es X.env)).any (·.1) = false := by rfl) :
    PE X (.Call (.Attribute o name apos) (e :: es) [] pos) (T g W (pLm f po ps)) :=
  PE.imp (pe_bm PySem.F.plainAttrs_list slot hty hm ho ha hbase hfew hline hst hplain) fun σ H Q h => by
    have z := t_lm hs h
    rw [← hK] at z
    exact z
theorem te_lm0 {name : Str} {id : String} {r : V → List V → Hp → VK → Prop} (hK : X.K = g.K) (slot : Slot "list" name id) (hty : typeOf (.builtin id) = pure (.type "method_descriptor")) (hm : MtR X id r) (hs : OpM g W r f) (ho : PE X o (T g W po))
    (hbase : attributeBase o name X.env (eval o X.env) = eval o X.env := by rfl) (hline : (apos.endLine == pos.line) = true := by rfl) :
    PE X (.Call (.Attribute o name apos) [] [] pos) (T g W (pLm f po [])) :=
  PE.imp (pe_bm0 PySem.F.plainAttrs_list slot hty hm ho hbase hline) fun σ H Q h => by
    have z := t_lm hs h
    rw [← hK] at z
    exact T.mono z fun x H1 ⟨y, q⟩ => ⟨y, by obtain ⟨ε, ρ, m, e, s, q⟩ := q; exact q ρ H1 [] .refl s .nil⟩
def gAppend : Fn
  | [.loc n, y], m => match m[n]? with
    | some (.lst xs) => if xs.length ≤ lim then .ok .non (m.set n (.lst (xs ++ [y]))) else .bad
    | _ => .bad
  | _, _ => .bad
theorem Fin.wr {n : Nat} {a : Addr} {c' : Cell} {c : Cell} {o' : HO} {d : D} {v : V} (h : Fin g W ρ H σ (.ok d (m.set n c')) Q) (s : RelS g ρ m H) (ha : ρ[n]? = some a) (hc : m[n]? = some c) (hn : CellAt g ρ (upd H a o') a c') (dv : DenV g ρ (upd H a o') d v) : Q v (upd H a o') := by
  obtain ⟨o, ho, w⟩ := (s.at_ n a c ha hc).wr
  exact h ρ _ v (Up.write ho w) (s.set ha hc hn) dv
theorem o_append : OpM g W rAppend gAppend := by
  intro ρ m σ H d ds x vs Q s dv dl h
  cases dv with
  | @loc n p hp =>
    cases dl with
    | nil => exact False.elim h
    | cons d1 dl =>
      cases dl with
      | cons d2 dl => exact False.elim h
      | nil =>
        simp only [gAppend] at h
        split at h
        · rename_i xs hc
          obtain ⟨_, e1, _, ws, hv, l⟩ := s.cell (.loc hp) hc
          cases e1
          split at h
          · rename_i hl
            have u : ∀ o', Up g ρ H ρ (upd H p o') := fun o' => Up.write hv trivial
            exact ⟨p, ws, _, rfl, rfl, hv, by rw [← l.length]; exact lim_lt hl, h.wr s hp hc ⟨_, upd_same, (l.append (.cons d1 .nil)).up (u _)⟩ .non⟩
          · exact h.elim
        · exact h.elim
  | _ => exact False.elim h
theorem te_append (hK : X.K = g.K) (ho : PE X o (T g W po)) (ha : PA X [e] (Ta g W ps)) (hbase : attributeBase o "append" X.env (eval o X.env) = eval o X.env := by rfl)
    (hfew : ((backTo pos (starEach [e] X.env)).all (fun x => !x.1) && (backToKw pos (keywordEach [] X.env)).all (fun x => x.1.isSome)
      && decide ([e].length + ([] : List Keyword).length + (if ([] : List Keyword).isEmpty then 0 else 1) < 30)) = true := by rfl)
    (hline : (apos.endLine == pos.line) = true := by rfl) (hst : starEach [e] X.env = (false, eval e X.env) :: starEach [] X.env := by rfl) : PE X (.Call (.Attribute o "append" apos) [e] [] pos) (T g W (pLm gAppend po ps)) :=
  te_lm hK PySem.F.slot_list_append PySem.F.type_list_append mt_append o_append ho ha hbase hfew hline hst
def gPopAt : Fn
  | [.loc n, .int i], m => match m[n]? with
    | some (.lst xs) => if -(2 ^ 63) ≤ i ∧ i < 2 ^ 63 then (match seqIndex? i xs.length with
      | some k => (match xs[k]? with
        | some d => .ok d (m.set n (.lst (xs.eraseIdx k)))
        | none => .bad)
      | none => .bad) else .bad
    | _ => .bad
  | _, _ => .bad
theorem DenL.erase {ds : List D} {vs : List V} (l : DenL g ρ H ds vs) (k : Nat) : DenL g ρ H (ds.eraseIdx k) (vs.eraseIdx k) := by
  induction ds generalizing vs k with
  | nil => cases l; exact .nil
  | cons d ds ih =>
    cases l with
    | cons a b =>
      cases k with
      | zero => exact b
      | succ k => exact .cons a (ih b k)
theorem o_popAt : OpM g W rPopAt gPopAt := by
  intro ρ m σ H d ds x vs Q s dv dl h
  cases dv with
  | @loc n p hp =>
    cases dl with
    | nil => exact False.elim h
    | cons d1 dl =>
      cases dl with
      | cons d2 dl => cases d1 <;> exact False.elim h
      | nil =>
        cases d1 with
        | int i =>
          simp only [gPopAt] at h
          split at h
          · rename_i xs hc
            obtain ⟨_, e1, _, ws, hv, l⟩ := s.cell (.loc hp) hc
            cases e1
            split at h
            · rename_i hb
              split at h
              · rename_i k hk
                split at h
                · rename_i d0 hd
                  obtain ⟨v, h1, h2⟩ := l.get hd
                  have u : Up g ρ H ρ (upd H p (.lst (ws.eraseIdx k))) := Up.write hv trivial
                  exact ⟨p, ws, i, k, v, rfl, rfl, hv, hb.1, hb.2, by rw [← l.length]; exact hk, h1, h.wr s hp hc ⟨_, upd_same, (l.erase k).up u⟩ (h2.up u)⟩
                · exact h.elim
              · exact h.elim
            · exact h.elim
          · exact h.elim
        | _ => exact False.elim h
  | _ => exact False.elim h
theorem te_popAt (hK : X.K = g.K) (ho : PE X o (T g W po)) (ha : PA X [e] (Ta g W ps)) (hbase : attributeBase o "pop" X.env (eval o X.env) = eval o X.env := by rfl)
    (hfew : ((backTo pos (starEach [e] X.env)).all (fun x => !x.1) && (backToKw pos (keywordEach [] X.env)).all (fun x => x.1.isSome)
      && decide ([e].length + ([] : List Keyword).length + (if ([] : List Keyword).isEmpty then 0 else 1) < 30)) = true := by rfl)
    (hline : (apos.endLine == pos.line) = true := by rfl) (hst : starEach [e] X.env = (false, eval e X.env) :: starEach [] X.env := by rfl) : PE X (.Call (.Attribute o "pop" apos) [e] [] pos) (T g W (pLm gPopAt po ps)) :=
  te_lm hK PySem.F.slot_list_pop PySem.F.type_list_pop mt_popAt o_popAt ho ha hbase hfew hline hst
/-- xs[i] = e -/
def gSetL (o i d : D) (m : Store) : Option Store := match o, i with
  | .loc n, .int k => match m[n]? with
    | some (.lst xs) => (ixN xs.length k).map fun j => m.set n (.lst (xs.set j d))
    | _ => none
  | _, _ => none
def sSub (po pi pe : Pg) : PgS := fun ε m => (pe ε m).toS ε fun d m1 => (po ε m1).toS ε fun o m2 => (pi ε m2).toS ε fun i m3 => match gSetL o i d m3 with
  | some m4 => .nxt ε m4
  | none => .bad
theorem ixN_lt {n : Nat} {k : Int} {j : Nat} (h : ixN n k = some j) : j < n := by
  unfold ixN at h
  split at h
  · split at h
    · cases h; omega
    · cases h
  · split at h
    · cases h; omega
    · cases h
theorem ts_sub {i : Expr} {pi : Pg} {tpos : Pos} (ho : PE X o (T g W po)) (hi : PE X i (T g W pi)) (he : PE X e (T g W pe)) (hs : swapsWithSole [.Subscript o i tpos] e pos.line X.env = pure false := by rfl) (hw : swappedStores [.Subscript o i tpos] e X.env = pure none := by rfl)
    (h1 : (assignEach [.Subscript o i tpos] X.env).map (·.2) = [assign (.Subscript o i tpos) X.env] := by rfl)
    (ha : ∀ v, assign (.Subscript o i tpos) X.env v = (do
      let ov ← holding [v] (eval o X.env)
      let iv ← holding [v, ov] (eval i X.env)
      standAt tpos
      holding [v, ov, iv] (setItem ov iv v)
      release [v, ov, iv] []) := by intro _; rfl) : L2.PS X (.Assign [.Subscript o i tpos] e pos) (Ts g W (sSub po pi pe)) := by
  refine PS.imp (ps_asg he (pg_sub ho hi set_list ha) hs hw h1) fun D σ H h => ?_
  refine T.mono (ts_ex (k := fun ε d m1 => (po ε m1).toS ε fun o m2 => (pi ε m2).toS ε fun i m3 => match gSetL o i d m3 with
    | some m4 => .nxt ε m4
    | none => .bad) h) fun v H1 ⟨ε, ρ, m, d, e, s, dv, q⟩ => ?_
  refine ⟨ε, ρ, m, [], e, s, .nil, FinS.ex q e fun ρ2 H2 v2 d2 m2 u2 s2 dv2 q2 => ?_⟩
  refine ⟨ε, ρ2, m2, [], e.up u2, s2, .nil, FinS.ex q2 (e.up u2) fun ρ3 H3 v3 d3 m3 u3 s3 dv3 q3 => ?_⟩
  unfold gSetL at q3
  cases dv2 with
  | @loc n p hp =>
    cases dv3 with
    | int k =>
      simp only at q3
      cases hc : m3[n]? with
      | none => simp only [hc] at q3; exact q3.elim
      | some c =>
        cases c <;> simp only [hc] at q3 <;> first | exact False.elim q3 | skip
        rename_i xs
        have hp3 := u3.ext _ _ hp
        obtain ⟨_, e1, _, ws, hv, l⟩ := s3.cell (.loc hp3) hc
        cases e1
        cases hj : ixN xs.length k with
        | none => rw [hj] at q3; exact False.elim q3
        | some j =>
          rw [hj] at q3
          have uw : Up g ρ3 H3 ρ3 (upd H3 p (.lst (ws.set j v))) := Up.write hv trivial
          refine ⟨p, ws, k, j, rfl, rfl, hv, by rw [← l.length]; exact hj, ?_⟩
          exact q3 ρ3 _ σ uw (s3.set (c' := .lst (xs.set j d)) hp3 hc ⟨_, upd_same, (l.set ((dv.up (u2.trans u3)))).up uw⟩) ((e.up (u2.trans u3)).up uw)
    | _ => exact False.elim q3
  | _ => cases dv3 <;> exact False.elim q3

/-! ### built-ins -/
def gLen : Fn
  | [.str z], m => if z.length ≤ lim then .ok (.int (z.length : Nat)) m else .bad
  | [.loc n], m => match m[n]? with
    | some (.lst xs) => .ok (.int (xs.length : Nat)) m
    | _ => .bad
  | [.tup xs], m => .ok (.int (xs.length : Nat)) m
  | [.fl xs], m => .ok (.int (xs.length : Nat)) m
  | _, _ => .bad
theorem te_b {id : String} {r : List V → Hp → VK → Prop} (hc : CallR X (.builtin id) r) (hs : OpN g W r f) (hm : X.mg x = none) (hv : bootBuiltins x = some (.builtin id)) (ha : PA X (e :: es) (Ta g W ps)) (hg : Gl X x := by rfl)
    (he : starEach (e :: es) X.env = (false, eval e X.env) :: starEach es X.env := by rfl) (hpl : (backTo pos (starEach es X.env)).any (·.1) = false := by rfl) (hn : x ≠ "__name__" := by decide) (hdb : (x == ("__debug__" : Str)) = false := by decide) :
    PE X (.Call (.Name x p') (e :: es) [] pos) (T g W (pF f ps)) := PE.imp (pe_callB hc hg hm hv ha hn hdb he hpl) fun σ H Q h => t_fn hs h
theorem te_ty {id : String} {r : List V → Hp → VK → Prop} (hc : CallR X (.type id) r) (hs : OpN g W r f) (hm : X.mg x = none) (hv : bootBuiltins x = some (.type id)) (ha : PA X (e :: es) (Ta g W ps)) (hg : Gl X x := by rfl)
    (he : starEach (e :: es) X.env = (false, eval e X.env) :: starEach es X.env := by rfl) (hpl : (backTo pos (starEach es X.env)).any (·.1) = false := by rfl) (hn : x ≠ "__name__" := by decide) (hdb : (x == ("__debug__" : Str)) = false := by decide) :
    PE X (.Call (.Name x p') (e :: es) [] pos) (T g W (pF f ps)) := PE.imp (pe_callTy hc hg hm hv ha hn hdb he hpl) fun σ H Q h => t_fn hs h
theorem o_len : OpN g W (fun xs H Q => ∃ x n, xs = [x] ∧ LenV g.K x H n ∧ Q (.int n) H) gLen := by
  intro ρ m σ H ds vs Q s l h
  cases l with
  | nil => exact False.elim h
  | cons d1 l =>
    cases l with
    | cons d2 l => cases d1 <;> exact False.elim h
    | nil =>
      cases d1 with
      | str z =>
        simp only [gLen] at h
        split at h
        · rename_i hl; exact ⟨_, _, rfl, ⟨lim_le hl, rfl⟩, Fin.okc h s (.int _)⟩
        · exact h.elim
      | @loc n p hp =>
        simp only [gLen] at h
        split at h
        · rename_i xs hc
          obtain ⟨_, e1, _, ws, hv, l⟩ := s.cell (.loc hp) hc
          cases e1
          exact ⟨_, xs.length, rfl, .inl ⟨ws, SqL.of hv, l.length⟩, Fin.okc h s (.int _)⟩
        · exact h.elim
      | @tup p ds vs hp l => exact ⟨_, ds.length, rfl, .inr ⟨vs, hp, l.length⟩, Fin.okc (W := W) (σ := σ) h s (.int _)⟩
      | @fl p ds vs hp l => exact ⟨_, ds.length, rfl, .inl ⟨vs, hp.sq, l.length⟩, Fin.okc (W := W) (σ := σ) h s (.int _)⟩
      | _ => exact False.elim h
theorem te_len (hK : X.K = g.K) (hm : X.mg "len" = none) (ha : PA X [e] (Ta g W ps)) (hg : Gl X "len" := by rfl) (he : starEach [e] X.env = (false, eval e X.env) :: starEach [] X.env := by rfl) :
    PE X (.Call (.Name "len" p') [e] [] pos) (T g W (pF gLen ps)) := te_b call_len (by rw [hK]; exact o_len) hm boot_len ha hg he
def gAbs : Fn
  | [.int i], m => .ok (.int (if i < 0 then -i else i)) m
  | _, _ => .bad
theorem OpN.one {r : V → Hp → VK → Prop} (h : Op1 g W r f) (hf : ∀ ds m, ds.length ≠ 1 → f ds m = .bad) : OpN g W (fun vs H Q => ∃ x, vs = [x] ∧ r x H Q) f := by
  intro ρ m σ H ds vs Q s l z
  cases l with
  | nil => rw [hf [] m (by decide)] at z; exact False.elim z
  | cons d1 l =>
    cases l with
    | cons d2 l => rw [hf _ m (by simp)] at z; exact False.elim z
    | nil => exact ⟨_, rfl, h ρ m σ H _ _ Q s d1 z⟩
theorem o_abs : OpN g W (fun xs H Q => ∃ i, xs = [.int i] ∧ Q (.int (if i < 0 then -i else i)) H) gAbs := by
  intro ρ m σ H ds vs Q s l h
  cases l with
  | nil => exact False.elim h
  | cons d1 l =>
    cases l with
    | cons d2 l => cases d1 <;> exact False.elim h
    | nil =>
      cases d1 with
      | int i => exact ⟨i, rfl, Fin.okc (W := W) (σ := σ) h s (.int _)⟩
      | _ => exact False.elim h
theorem te_abs (hm : X.mg "abs" = none) (ha : PA X [e] (Ta g W ps)) (hg : Gl X "abs" := by rfl) (he : starEach [e] X.env = (false, eval e X.env) :: starEach [] X.env := by rfl) :
    PE X (.Call (.Name "abs" p') [e] [] pos) (T g W (pF gAbs ps)) := te_b call_abs o_abs hm (by decide +kernel) ha hg he
def gMin2 : Fn
  | [.int i, .int j], m => .ok (.int (if j < i then j else i)) m
  | _, _ => .bad
theorem o_min2 : OpN g W (fun xs H Q => ∃ i j, xs = [.int i, .int j] ∧ Q (.int (if j < i then j else i)) H) gMin2 := by
  intro ρ m σ H ds vs Q s l h
  cases l with
  | nil => exact False.elim h
  | cons d1 l =>
    cases l with
    | nil => cases d1 <;> exact False.elim h
    | cons d2 l =>
      cases l with
      | cons d3 l => cases d1 <;> cases d2 <;> exact False.elim h
      | nil =>
        cases d1 <;> cases d2 <;> first | exact False.elim h | exact ⟨_, _, rfl, Fin.okc (W := W) (σ := σ) h s (.int _)⟩
theorem te_min2 (hc : X.calm = true) (hm : X.mg "min" = none) (ha : PA X [a, b] (Ta g W ps)) (hg : Gl X "min" := by rfl) (he : starEach [a, b] X.env = (false, eval a X.env) :: starEach [b] X.env := by rfl) (hpl : (backTo pos (starEach [b] X.env)).any (·.1) = false := by rfl) :
    PE X (.Call (.Name "min" p') [a, b] [] pos) (T g W (pF gMin2 ps)) := te_b (call_min2 hc) o_min2 hm (by decide +kernel) ha hg he hpl
def strsOf : List D → Option (List Str)
  | [] => some []
  | .str z :: ds => (strsOf ds).map fun r => z :: r
  | _ => none
theorem strs_den {ds : List D} {vs : List V} (l : DenL g ρ H ds vs) {zs : List Str} (h : strsOf ds = some zs) : vs = zs.map V.str := by
  induction ds generalizing vs zs with
  | nil => cases l; cases h; rfl
  | cons d ds ih =>
    cases l with
    | cons a l =>
      cases a <;> try cases h
      simp only [strsOf, Option.map_eq_some_iff] at h
      obtain ⟨r, h1, rfl⟩ := h
      rw [ih l h1]; rfl
def joinR (z : Str) (xs : List D) (m : Store) : Res D := match strsOf xs with
  | some zs => if (zs.map (·.length)).sum + zs.length * z.length ≤ lim then .ok (.str (Txt.join z zs)) m else .bad
  | none => .bad
def gJoin : Fn
  | [.str z, d], m => match itsD m d with
    | some xs => joinR z xs m
    | none => .bad
  | _, _ => .bad
theorem lim16 {n : Nat} (h : n ≤ lim) : n ≤ 16777216 := Nat.le_trans h (by decide)
theorem te_join (hK : X.K = g.K) (ho : PE X o (T g W po)) (he : PE X e (T g W pe)) (hs : starEach [e] X.env = [(false, eval e X.env)] := by rfl) (hbase : attributeBase o "join" X.env (eval o X.env) = eval o X.env := by rfl) (hline : (apos.endLine == pos.line) = true := by rfl) :
    PE X (.Call (.Attribute o "join" apos) [e] [] pos) (T g W (pSm gJoin po [pe])) :=
  PE.imp (pe_join ho he hs hbase hline) fun σ H Q h => by
    have z := t_sm (r := fun x xs H Q => ∃ a p, ∃ ys : List Str, x = .str a ∧ xs = [.ref p] ∧ (SqL g.K H p (ys.map V.str) ∨ SqT g.K H p (ys.map V.str)) ∧ (ys.map (·.length)).sum + ys.length * a.length ≤ 16777216 ∧ Q (.str (Txt.join a ys)) H) (f := gJoin) (fun ρ m σ H d ds x vs Q s dv dl h => by
      cases dv with
      | str z =>
        cases dl with
        | nil => exact False.elim h
        | cons d1 dl =>
          cases dl with
          | cons d2 dl => cases d1 <;> exact False.elim h
          | nil =>
            simp only [gJoin] at h
            split at h
            · rename_i xs hx
              obtain ⟨p, ws, rfl, hp, l⟩ := s.its d1 hx
              unfold joinR at h
              split at h
              · rename_i zs hz
                split at h
                · rename_i hl
                  have ew := strs_den l hz
                  subst ew
                  exact ⟨z, p, zs, rfl, rfl, hp, lim16 hl, Fin.okc h s (.str _)⟩
                · exact h.elim
              · exact h.elim
            · exact h.elim
      | _ => exact False.elim h) h
    refine T.mono z fun x H1 ⟨⟨y, hz⟩, q⟩ => ⟨hz, ?_⟩
    obtain ⟨ε, ρ, m, e, s, q⟩ := q
    rw [hK]
    exact ⟨ε, ρ, m, [], e, s, .nil, FinL.bind1 (k := fun d m1 => (evL [] ε m1).bind fun ds m2 => .ok (d :: ds) m2) q fun ρ' H' v d m' u s' dv q => q ρ' H' [v] .refl s' (.cons dv .nil)⟩
end MT

/-! MT9: the dict TURNED, isinstance, int(bool), op=, constants, list(range), texts. -/
namespace MT
open PySem PySem.Spec PyProof.Rows L2 StX
variable {g : G} {ρ ρ' ρ1 ρ2 : List Addr} {H H' H1 H2 : Hp} {m m' : Store} {ε ε' : EnvD} {σ σ' : L2.St} {W : Wx} {r : Res D} {Q Q' : VK} {X : Cx} {a b c e o : Expr} {pa pb pc pe po : Pg} {pos apos : Pos} {D0 : Ends} {es : List Expr} {ps : List Pg} {f : Fn} {k j : Nat} {x mm : Str} {p' : Pos}

/-! ### TURNED -/
def kR : Str := "r"
def kF : Str := "f"
def isTurnS (z : Str) : Bool := decide (z = kR) || decide (z = kF)
def turnS (z : Str) : Str := if z = kR then kF else if z = kF then kR else z
structure TurnD (K : PySem.W.Frag) (w : World) (d : Addr) : Prop where
  kd : ∃ es n, KDict K w d es n
  get : ∀ z : Str, ∃ r, PySem.W.nsIn K d z = some r ∧ r.isSome = isTurnS z ∧ ∀ u, r = some u → RelV (.str (turnS z)) u
def gInTurn : Fn
  | [.str z], m => .ok (.bl (isTurnS z)) m
  | _, _ => .bad
theorem te_inTurn (hK : X.K = g.K) {d : Addr} (t : TurnD X.K X.w d) (hm : X.mg "TURNED" = some (.ref d)) (ha : PE X a (T g W pa)) (hg : Gl X "TURNED" := by rfl) (hb : behindInMarks .In (.Name ("TURNED" : Str) p') = false := by rfl) :
    PE X (.Compare a [.In] [.Name ("TURNED" : Str) p'] pos) (T g W (p1 gInTurn pa)) := by
  obtain ⟨es, n, kd⟩ := t.kd
  refine PE.imp (pe_cmpR (op_in_kd kd) ha (pe_glob hg hm (v := .ref d) rfl) hb) fun σ H Q h => ?_
  refine t_op1 (f := gInTurn) (r := fun x H1 Q => tC (.ref d) σ H1 fun y H2 => ∃ (z : Str) (r : Option Value), x = .str z ∧ y = .ref d ∧ PySem.W.nsIn X.K d z = some r ∧ Q (.bl r.isSome) H2) (fun ρ m σ H dd x Q s dv h => ?_) h
  cases dv with
  | str z =>
    obtain ⟨r, h1, h2, h3⟩ := t.get z
    exact ⟨z, r, rfl, rfl, h1, by rw [h2]; exact Fin.okc h s (.bl _)⟩
  | _ => exact False.elim h
theorem tt_inTurn (hK : X.K = g.K) {d : Addr} (t : TurnD X.K X.w d) (hm : X.mg "TURNED" = some (.ref d)) (ha : PE X a (T g W pa)) (hg : Gl X "TURNED" := by rfl) (hb : behindInMarks .In (.Name ("TURNED" : Str) p') = false := by rfl) :
    PT X (.Compare a [.In] [.Name ("TURNED" : Str) p'] pos) (Tt g W (p1 gInTurn pa)) := by
  obtain ⟨es, n, kd⟩ := t.kd
  refine PT.imp (pt_cmpR (op_in_kd kd) ha (pe_glob hg hm (v := .ref d) rfl) hb) fun σ H Q h => ?_
  refine t_op1 (f := gInTurn) (r := fun x H1 Q => tC (.ref d) σ H1 fun y H2 => ∃ (z : Str) (r : Option Value), x = .str z ∧ y = .ref d ∧ PySem.W.nsIn X.K d z = some r ∧ Q (.bl r.isSome) H2) (fun ρ m σ H dd x Q s dv h => ?_) h
  cases dv with
  | str z =>
    obtain ⟨r, h1, h2, h3⟩ := t.get z
    exact ⟨z, r, rfl, rfl, h1, by rw [h2]; exact Fin.okc h s (.bl _)⟩
  | _ => exact False.elim h
def gTurnGet : Fn
  | [.str z, .str y], m => .ok (.str (if isTurnS z then turnS z else y)) m
  | _, _ => .bad
theorem te_turnGet (hK : X.K = g.K) {d : Addr} (t : TurnD X.K X.w d) (hm : X.mg "TURNED" = some (.ref d)) (ha : PE X a (T g W pa)) (hb : PE X b (T g W pb)) (hg : Gl X "TURNED" := by rfl)
    (hbase : attributeBase (.Name ("TURNED" : Str) p') "get" X.env (eval (.Name ("TURNED" : Str) p') X.env) = eval (.Name ("TURNED" : Str) p') X.env := by rfl)
    (hfew : ((backTo pos (starEach [a, b] X.env)).all (fun x => !x.1) && (backToKw pos (keywordEach [] X.env)).all (fun x => x.1.isSome)
      && decide (([a, b] : List Expr).length + ([] : List Keyword).length + (if ([] : List Keyword).isEmpty then 0 else 1) < 30)) = true := by rfl)
    (hline : (apos.endLine == pos.line) = true := by rfl) (htr : backTo pos (starEach [a, b] X.env) = [(false, eval a X.env), (false, eval b X.env)] := by rfl) :
    PE X (.Call (.Attribute (.Name ("TURNED" : Str) p') "get" apos) [a, b] [] pos) (T g W (p2 gTurnGet pa pb)) := by
  obtain ⟨es, n, kd⟩ := t.kd
  refine ⟨fun pins s σ H Q I h => ?_⟩
  refine wpAny_Call_method hbase hfew hline PySem.F.plainAttrs_dict PySem.F.slot_dict_get PySem.F.type_dict_get (ld_glob I hg hm ?_ (by decide))
  refine ⟨kd_type kd I, fun b' e => ?_, ?_⟩
  · cases e
    exact ⟨_, I.kIn _ _ kd.at_, rfl⟩
  rw [htr]
  have h2 := t_op2 (g := g) (r := fun x y H Q => ∃ z y', x = .str z ∧ y = .str y' ∧ Q (.str (if isTurnS z then turnS z else y')) H) (f := gTurnGet) (fun ρ m σ H d e x y Q s dx dy h => by
    cases dx with
    | str z =>
      cases dy with
      | str y => exact ⟨z, y, rfl, rfl, Fin.okc h s (.str _)⟩
      | _ => exact False.elim h
    | _ => exact False.elim h) h
  refine Calls.callWith_builtin rfl (Calls.evalArgs_plain (Calls.spliced_cons (thn (ha.run pins s σ H _ I h2) fun iv s2 ⟨x, H2, I2, rx, q2⟩ =>
    Calls.spliced_cons (thn (hb.run pins s2 σ H2 _ I2 q2) fun fv s3 ⟨y, H3, I3, ry, z, y', e1, e2, q3⟩ => Calls.spliced_nil ?_))))
  subst e1 e2
  obtain ⟨t1, rfl⟩ := rx
  obtain ⟨r, g1, g2, g3⟩ := t.get z
  refine call_meetsIn PySem.F.slot_dict_get (kd_type kd I3) PySem.F.entry_dict_get (PySem.F.args_dict_get_3 _ _ _) (meets_dict_get_default (PySem.strKind X.prog X.w) d (PySem.strKind_is X.prog X.w z t1) kd.low fv) ⟨_, PySem.W.mapOf_K (prog := X.prog) I3.kIn kd.at_ kd.lit, ?_⟩
  rw [PySem.W.find_K kd.at_ g1]
  refine ⟨.str (if isTurnS z then turnS z else y'), H3, I3.tok _, ?_, q3⟩
  rw [← g2]
  cases r with
  | none => exact ry
  | some u => exact g3 u rfl

/-! ### isinstance -/
def tyNm : D → Store → Option String
  | .non, _ => some "NoneType"
  | .bl _, _ => some "bool"
  | .int _, _ => some "int"
  | .str _, _ => some "str"
  | .tup _, _ => some "tuple"
  | .fl _, _ => some "list"
  | .kl _, _ => none
  | .loc n, m => match m[n]? with
    | some (.lst _) => some "list"
    | some (.dK _) => some "dict"
    | some (.dT _) => some "dict"
    | _ => none
  | .room _, _ => none
  | .adr _, _ => none
def isSub (a b : String) : Bool := a == b || (a == "bool" && b == "int")
def gIsi (b : String) : Fn
  | [d], m => match tyNm d m with
    | some a => .ok (.bl (isSub a b)) m
    | none => .bad
  | _, _ => .bad
theorem tyNm_ty {d : D} {v : V} {a : String} (s : RelS g ρ m H) (dv : DenV g ρ H d v) (h : tyNm d m = some a) : TyX g.K H v (.type a) := by
  cases dv with
  | non => cases h; exact .base .non
  | bl b => cases h; exact .base (.bl b)
  | int b => cases h; exact .base (.int b)
  | str b => cases h; exact .base (.str b)
  | @loc n p hp =>
    simp only [tyNm] at h
    split at h
    · rename_i xs hc
      cases h
      obtain ⟨_, e1, _, vs, hv, l⟩ := s.cell (.loc hp) hc
      cases e1
      exact .base (.lst hv)
    · rename_i xs hc
      cases h
      obtain ⟨_, e1, _, vs, hv, l⟩ := s.cell (.loc hp) hc
      cases e1
      exact .base (.dK hv)
    · rename_i xs hc
      cases h
      obtain ⟨_, e1, _, vs, hv, l⟩ := s.cell (.loc hp) hc
      cases e1
      exact .base (.dT hv)
    · cases h
  | @tup p ds vs hp l =>
    cases h
    rcases hp with (hp | ⟨o, hp⟩) | ⟨o, its, n, h1, h2, h3⟩
    · exact .base (.tup hp)
    · exact .fTuple hp
    · exact .kTuple h1 h2
  | @fl p ds vs hp l =>
    cases h
    obtain ⟨o, hp⟩ := hp
    exact .base (.frz hp)
  | kl hp l => cases h
  | room hr => cases h
  | adr a => cases h
def tyNames : List String := ["NoneType", "bool", "int", "str", "tuple", "list", "dict"]
theorem tyNm_mem {d : D} {a : String} (h : tyNm d m = some a) : a ∈ tyNames := by
  unfold tyNm at h
  repeat' split at h
  all_goals first | (cases h; decide) | cases h
theorem o_isi {b : String} (hb : (tyNames.all fun a => kitB a b == some (isSub a b)) = true) : Op1 g W (fun x H Q => rIsi g.K [x, .ty b] H Q) (gIsi b) := by
  intro ρ m σ H d x Q s dv h
  simp only [gIsi] at h
  cases ht : tyNm d m with
  | none => rw [ht] at h; exact h.elim
  | some a =>
    rw [ht] at h
    have k := List.all_eq_true.mp hb a (tyNm_mem ht)
    exact ⟨x, .ty b, .type a, .type b, isSub a b, rfl, .ty b, tyNm_ty s dv ht, kit_ty (by simpa using k), Fin.okc h s (.bl _)⟩
theorem te_isi {b : String} {y : Str} {q' : Pos} (hK : X.K = g.K) (hm : X.mg "isinstance" = none) (hm2 : X.mg y = none) (hv : bootBuiltins y = some (.type b)) (ha : PE X a (T g W pa)) (hb : (tyNames.all fun a => kitB a b == some (isSub a b)) = true) (hg : Gl X "isinstance" := by rfl) (hg2 : Gl X y := by rfl)
    (he : starEach [a, .Name y q'] X.env = (false, eval a X.env) :: starEach [.Name y q'] X.env := by rfl) (he2 : starEach [.Name y q'] X.env = (false, eval (.Name y q') X.env) :: starEach [] X.env := by rfl) (hpl : (backTo pos (starEach [.Name y q'] X.env)).any (·.1) = false := by rfl) (hn : y ≠ "__name__" := by decide) (hd : (y == ("__debug__" : Str)) = false := by decide) :
    PE X (.Call (.Name "isinstance" p') [a, .Name y q'] [] pos) (T g W (p1 (gIsi b) pa)) :=
  PE.imp (pe_callB call_isi hg hm boot_isinstance (pa_cons ha (pa_cons (pe_bltn (v := .ty b) hg2 hm2 hv rfl hn hd) pa_nil he2) he) (he := he) (hpl := hpl)) fun σ H Q h => by
    rw [hK]
    exact t_op1 (o_isi hb) h
/-- isinstance(e, Room) of a room -/
def gIsR : Fn
  | [.room _], m => .ok (.bl true) m
  | _, _ => .bad
structure RoomI (g : G) : Prop where
  ha : PySem.W.findIn g.K (.ref g.CR) "__class__" = some (some (.builtin "object.__class__"))
  hn : PySem.W.specialIn g.K (.builtin "object.__class__") "__get__" = some (some (.builtin "getset_descriptor.__get__"))
  htk : PySem.W.takesIn g.K (.builtin "object.__class__") = some true
  hm : PySem.W.mroIn g.K g.CR (.type "object") = some true
theorem kitOne_self {K : PySem.W.Frag} {C : Addr} : PySem.W.kitOne K (.ref C) (.ref C) = some true := by
  unfold PySem.W.kitOne
  rw [if_pos (by simp)]
theorem te_isR {q' : Pos} (hK : X.K = g.K) (R : RoomC g) (RI : RoomI g) (hm : X.mg "isinstance" = none) (hm2 : X.mg "Room" = some (.ref g.CR)) (ha : PE X a (T g W pa)) (hg : Gl X "isinstance" := by rfl) (hg2 : Gl X "Room" := by rfl)
    (he : starEach [a, .Name ("Room" : Str) q'] X.env = (false, eval a X.env) :: starEach [.Name ("Room" : Str) q'] X.env := by rfl) (he2 : starEach [.Name ("Room" : Str) q'] X.env = (false, eval (.Name ("Room" : Str) q') X.env) :: starEach [] X.env := by rfl) (hpl : (backTo pos (starEach [.Name ("Room" : Str) q'] X.env)).any (·.1) = false := by rfl) :
    PE X (.Call (.Name "isinstance" p') [a, .Name ("Room" : Str) q'] [] pos) (T g W (p1 gIsR pa)) :=
  PE.imp (pe_callB call_isi hg hm boot_isinstance (pa_cons ha (pa_cons (pe_glob (v := .ref g.CR) hg2 hm2 rfl) pa_nil he2) he) (he := he) (hpl := hpl)) fun σ H Q h => by
    rw [hK]
    refine t_op1 (f := gIsR) (r := fun x H Q => rIsi g.K [x, .ref g.CR] H Q) (fun ρ m σ H d x Q s dv h => ?_) h
    cases dv with
    | @room p ls hr =>
      obtain ⟨dx, t, q, ob, h1, _⟩ := hr
      exact ⟨_, _, .ref g.CR, .ref g.CR, true, rfl, .own _, .base (.ins h1 R.cls RI.ha RI.hn RI.htk RI.hm), kitOne_self, Fin.okc h s (.bl _)⟩
    | _ => exact False.elim h

/-! ### int(bool), bool(..), op=, constants -/
def gInt : Fn
  | [.bl b], m => .ok (.int (if b then 1 else 0)) m
  | [.int i], m => .ok (.int i) m
  | _, _ => .bad
theorem o_int : OpN g W (fun xs H Q => (∃ i, xs = [.int i] ∧ Q (.int i) H) ∨ ∃ k, xs = [.bl k] ∧ Q (.int (if k then 1 else 0)) H) gInt := by
  intro ρ m σ H ds vs Q s l h
  cases l with
  | nil => exact False.elim h
  | cons d1 l =>
    cases l with
    | cons d2 l => cases d1 <;> exact False.elim h
    | nil =>
      cases d1 with
      | bl b => exact .inr ⟨b, rfl, Fin.okc (W := W) (σ := σ) h s (.int _)⟩
      | int i => exact .inl ⟨i, rfl, Fin.okc (W := W) (σ := σ) h s (.int _)⟩
      | _ => exact False.elim h
theorem te_intOf (hm : X.mg "int" = none) (ha : PA X [e] (Ta g W ps)) (hg : Gl X "int" := by rfl) (he : starEach [e] X.env = (false, eval e X.env) :: starEach [] X.env := by rfl) :
    PE X (.Call (.Name "int" p') [e] [] pos) (T g W (pF gInt ps)) := te_ty call_int1 o_int hm (by decide +kernel) ha hg he
/-- x op= e of ints -/
def sAug (i : Nat) (f : Int → Int → Int) (pe : Pg) : PgS := fun ε m => match ε[i]? with
  | some (some (.int a)) => (pe ε m).toS ε fun d m' => match d with
    | .int b => .nxt (ε.set i (some (.int (f a b)))) m'
    | _ => .bad
  | _ => .bad
theorem ts_augI (i : Nat) {op : Operator} {f : Int → Int → Int} {x : Str} {pos' : Pos} (ho : PIp X op (ipI f)) (hN : X.N.Nodup) (he : PE X e (T g W pe)) (hi : X.N[i]? = some x := by rfl) (hx : Loc X.env.scope x := by first | exact Or.inl rfl | exact Or.inr rfl)
    (hf : X.fn x = true ∨ X.env.scope.names.lookup x = some .local := by first | exact .inl rfl | exact .inr rfl | assumption) :
    L2.PS X (.AugAssign (.Name x pos') op e pos) (Ts g W (sAug i f pe)) := PS.imp (ps_aug hN hi hx he ho hf) fun D σ H h => by
  obtain ⟨ε, ρ, m, e, s, h⟩ := h
  unfold sAug at h
  split at h
  · rename_i a ha
    obtain ⟨v, h1, h2⟩ := e.2 i _ ha
    cases h2
    refine ⟨_, h1, ε, ρ, m, [], e, s, .nil, FinS.ex h e fun ρ' H' v d m' u s' dv q => ?_⟩
    cases dv with
    | int b => exact ⟨a, b, rfl, rfl, q ρ' H' _ .refl s' ((e.up u).set (.int _))⟩
    | _ => exact False.elim q
  · exact h.elim
theorem ts_augAdd (i : Nat) {x : Str} {pos' : Pos} (hN : X.N.Nodup) (he : PE X e (T g W pe)) (hi : X.N[i]? = some x := by rfl) (hx : Loc X.env.scope x := by first | exact Or.inl rfl | exact Or.inr rfl)
    (hf : X.fn x = true ∨ X.env.scope.names.lookup x = some .local := by first | exact .inl rfl | exact .inr rfl | assumption) :
    L2.PS X (.AugAssign (.Name x pos') .Add e pos) (Ts g W (sAug i (· + ·) pe)) := ts_augI i ip_add hN he hi hx hf
theorem ts_augSub (i : Nat) {x : Str} {pos' : Pos} (hN : X.N.Nodup) (he : PE X e (T g W pe)) (hi : X.N[i]? = some x := by rfl) (hx : Loc X.env.scope x := by first | exact Or.inl rfl | exact Or.inr rfl)
    (hf : X.fn x = true ∨ X.env.scope.names.lookup x = some .local := by first | exact .inl rfl | exact .inr rfl | assumption) :
    L2.PS X (.AugAssign (.Name x pos') .Sub e pos) (Ts g W (sAug i (· - ·) pe)) := ts_augI i ip_sub hN he hi hx hf
/-- a module's constant -/
theorem te_glob {d : D} {v : V} {u : Value} (hm : X.mg x = some u) (rv : RelV v u) (hd : ∀ (ρ : List Addr) (H : Hp), DenV g ρ H d v) (hg : Gl X x := by rfl) (hdb : (x == ("__debug__" : Str)) = false := by decide) : PE X (.Name x pos) (T g W (pC d)) := te_c (pe_glob hg hm rv hdb) hd
/-- a class's constant -/
theorem te_cval {C : Addr} {mc : Value} {y ff : Str} {q' : Pos} {d : D} {v : V} {u : Value} (hK : X.K = g.K) (hm : X.mg y = some (.ref C)) (r : ClX.CRead g.K C mc) (c : ClX.CVal g.K C mc ff v u) (hd : ∀ (ρ : List Addr) (H : Hp), DenV g ρ H d v) (hg : Gl X y := by rfl) (hdb : (y == ("__debug__" : Str)) = false := by decide)
    (hb : attributeBase (.Name y q') ff X.env (eval (.Name y q') X.env) = eval (.Name y q') X.env := by rfl) : PE X (.Attribute (.Name y q') ff pos) (T g W (pC d)) :=
  PE.imp (ClX.pe_cval (pe_glob hg hm (v := .ref C) rfl hdb) hb) fun σ H Q h => by
    rw [hK]
    obtain ⟨ε, ρ, m, ds, e, s, l, h⟩ := h
    exact ⟨C, mc, v, u, rfl, r, c, h.okc s (hd ρ H)⟩

/-! ### list(range(..)), list(..) -/
def gRgL : Fn
  | [.int n], m => if -(2 ^ 62) ≤ n ∧ n < 2 ^ 62 ∧ n.toNat ≤ lim then .ok (.loc m.length) (m ++ [.lst (rngD 0 n.toNat)]) else .bad
  | _, _ => .bad
theorem rng_den {lo : Int} {n : Nat} : DenL g ρ H (rngD lo n) ((List.range n).map fun i => V.int (lo + (i : Nat))) := by
  unfold rngD
  have : ((List.range n).map fun i => D.int (lo + (i : Nat))) = ((List.range n).map fun i => lo + ((i : Nat) : Int)).map D.int := by rw [List.map_map]; rfl
  rw [this, show ((List.range n).map fun i => V.int (lo + (i : Nat))) = ((List.range n).map fun i => lo + ((i : Nat) : Int)).map V.int from by rw [List.map_map]; rfl]
  exact DenL.ints
theorem te_rgL {q1 q2 : Pos} (hc : X.calm = true) (hm1 : X.mg "list" = none) (hm2 : X.mg "range" = none) (ha : PE X a (T g W pa)) (hg1 : Gl X "list" := by rfl) (hg2 : Gl X "range" := by rfl) (na : starEach [a] X.env = (false, eval a X.env) :: starEach [] X.env := by rfl)
    (nb : starEach [.Call (.Name "range" q1) [a] [] q2] X.env = (false, eval (.Call (.Name "range" q1) [a] [] q2) X.env) :: starEach [] X.env := by rfl) : PE X (.Call (.Name "list" p') [.Call (.Name "range" q1) [a] [] q2] [] pos) (T g W (p1 gRgL pa)) :=
  PE.imp (pe_listRg hc hg1 hm1 (prg_1 hg2 hm2 ha na) nb) fun σ H Q h => t_op1 (f := gRgL) (r := fun x H1 Q => ∃ n, x = .int n ∧ RgOk 0 n ∧ ∀ q, H1 q = none → Q (.ref q) (upd H1 q (.lst (rgV 0 n)))) (fun ρ m σ H d x Q s dv h => by
    cases dv with
    | int n =>
      simp only [gRgL] at h
      split at h
      · rename_i hn
        refine ⟨n, rfl, ⟨by decide, by decide, hn.1, hn.2.1, ?_⟩, fun q hq => h.newL s hq ?_⟩
        · have := hn.2.2
          unfold lim at this
          rw [Int.sub_zero]
          omega
        · have e : rgV 0 n = (List.range n.toNat).map fun i => V.int (0 + (i : Nat)) := by unfold rgV; rw [Int.sub_zero]
          rw [e]
          exact rng_den
      · exact h.elim
    | _ => exact False.elim h) h

/-! ### texts -/
def gSplit (b : Str) : Fn
  | [.str z], m => if z.length + 2 ≤ lim then .ok (.loc m.length) (m ++ [.lst ((Txt.split z b).map .str)]) else .bad
  | _, _ => .bad
theorem te_split {b : Str} {jj : Nat} {q1 : Pos} (hb : (b.length == 0) = false) (ho : PE X o (T g W po)) (hs : starEach [.Constant (.str b) jj q1] X.env = [(false, eval (.Constant (.str b) jj q1) X.env)] := by rfl) (hbase : attributeBase o "split" X.env (eval o X.env) = eval o X.env := by rfl) (hline : (apos.endLine == pos.line) = true := by rfl) :
    PE X (.Call (.Attribute o "split" apos) [.Constant (.str b) jj q1] [] pos) (T g W (p1 (gSplit b) po)) :=
  PE.imp (pe_split ho pe_str hs hbase hline) fun σ H Q h => t_op1 (f := gSplit b) (r := fun x H1 Q => (∃ a, x = .str a) ∧ ∃ a b', x = .str a ∧ [V.str b] = [V.str b'] ∧ (b'.length == 0) = false ∧ a.length + 2 ≤ sizeLine ∧ rNewStrs (Txt.split a b') H1 Q) (fun ρ m σ H d x Q s dv h => by
    cases dv with
    | str z =>
      simp only [gSplit] at h
      split at h
      · rename_i hl
        exact ⟨⟨z, rfl⟩, z, b, rfl, rfl, hb, lim_le hl, fun p hp => h.newL s hp DenL.strs⟩
      · exact h.elim
    | _ => exact False.elim h) h
end MT

/-! MT10: defs with star parameters; Room.__init__; rooms made. -/
namespace MT
open PySem PySem.Spec PyProof.Rows L2 StX
variable {g : G} {ρ ρ' ρ1 ρ2 : List Addr} {H H' H1 H2 : Hp} {m m' : Store} {ε ε' : EnvD} {σ σ' : L2.St} {W : Wx} {r : Res D} {Q Q' : VK} {X : Cx} {a b c e o : Expr} {pa pb pc pe po : Pg} {pos apos : Pos} {D0 : Ends} {es : List Expr} {ps : List Pg} {f : Fn} {k j : Nat} {x mm : Str} {p' : Pos}

/-- a body that is entered -/
theorem run_reads {n N : Nat} {p : PgS} {ds : List D} {vs : List V} {NN : List Str} (hN : NN.length = N) (s : RelS g ρ m H) (l : DenL g ρ H ds vs) (h : Fin g W0 ρ H [] (runD n N p ds m) Q) : Ts g W0 p { nx := fun _ H' => Q .non H', rt := Q } (start NN vs) H := by
  unfold runD at h
  split at h
  · rename_i hl
    have e := l.start (NN.length - vs.length)
    refine ⟨ds.map some ++ List.replicate (NN.length - vs.length) none, ρ, m, e, s, ?_⟩
    rw [← l.length, hN, hl]
    cases hp : p (ds.map some ++ List.replicate (N - n) none) m with
    | nxt ε m' => rw [hp] at h; exact fun ρ' H' σ' u s' e' => h ρ' H' .non u s' .non
    | ret d m' => rw [hp] at h; exact fun ρ' H' v u s' dv => h ρ' H' v u s' dv
    | exc x ε m' => rw [hp] at h; exact fun ρ' H' σ' u s' _ => h ρ' H' u s'
    | bad => rw [hp] at h; exact h
  · exact h.elim
/-- a body with a star parameter run -/
def runV (n N : Nat) (p : PgS) : Fn := fun ds m => if n ≤ ds.length ∧ ds.length - n ≤ lim then runD (n + 1) N p (ds.take n ++ [.tup (ds.drop n)]) m else .bad
/-- how a def with a star parameter binds -/
def BindV (x qual : Str) (st : Stmt) (pn : List Str) (pv : Str) : Prop := ∀ (kV doc pm : Value) (an : Option Addr) (cdv ct : Value) (us rest : List Value), us.length = pn.length →
  bindArgs (PySem.W.fnOf x qual (defArgs st) (defBody st) (defScope st) .none kV doc pm an cdv ct) ⟨us ++ rest, []⟩ = (newTuple rest >>= fun t => pure (pn.zip us ++ [(pv, t)]))
theorem fnstar {P : Program} {w : World} {mg : Str → Option Value} {base : Heap} {qual pv : Str} {st : Stmt} {ad : Addr} {fd : FuncData} {N pn : List Str} {p : PgS} (F : Fun g.K x qual st ad fd) (S : FnScope N (pn ++ [pv]) (defScope st)) (hbd : BindV x qual st pn pv)
    (hb : ∀ (cdv : Value) (A : Around) (outer : List Env) (s : Shared) (H : Hp) (E : XK), Room k (A.deeper (envOfC qual (defScope st) s.heap.objs.size ad cdv)) →
      L2.PSs (cxOf CX0 P w g.K mg base N qual (defScope st) ad cdv A outer s H E).nox (defBody st) (Ts g W0 p)) : FnR P w g.K mg base CX0 (k + 1) ad (spOf g (runV pn.length N.length p)) := by
  obtain ⟨oc, od, kV, doc, pm, an, cdv, ct, osl, rfl, lk, hcd⟩ := F.ex
  refine FnR.imp (fn_star (sp := fun vs H Q _ => ∃ ρ m ds, RelS g ρ m H ∧ DenL g ρ H ds vs ∧ Fin g W0 ρ H [] (runD (pn.length + 1) N.length p ds m) Q) lk hcd S cxUp_none (hbd kV doc pm an cdv ct) fun A outer s H vs Q E hr h => ?_) fun vs H Q E h => ?_
  · obtain ⟨ρ, m, ds, s', l, h⟩ := h
    exact ⟨_, (hb cdv A outer s H E hr).nox, run_reads rfl s' l h⟩
  · obtain ⟨ρ, m, ds, s, l, h⟩ := h
    unfold runV at h
    split at h
    · rename_i hl
      refine ⟨vs.take pn.length, vs.drop pn.length, (List.take_append_drop _ _).symm, ?_, ?_, fun q hq => ?_⟩
      · rw [List.length_take, ← l.length]; omega
      · rw [List.length_drop, ← l.length]; exact lim_le hl.2
      · exact ⟨ρ, m, _, s.off hq, ((l.take _).up (Up.new hq)).append (.cons (.tup (SqT.of upd_same) ((l.drop _).up (Up.new hq))) .nil), Fin.up (Up.new hq) h⟩
    · exact h.elim
/-- a list is frozen as soon as it stands -/
def tFrz (t : TE) : TE := fun σ H Q => t σ H fun v H1 => ∃ d u, v = .ref d ∧ H1 d = some u ∧ Mut (some u) ∧ ∀ od, Q v (upd H1 d (.frz od u))
theorem pe_frz {t : TE} (h : PE X e t) : PE X e (tFrz t) := ⟨fun pins s σ H Q I q => by
  refine wpAny_mono (h.run pins s σ H _ I q) (fun v s1 z => ?_) fun _ _ z => z
  obtain ⟨v', H1, I1, r, d, u, e1, hd, mu, q⟩ := z
  obtain ⟨od, I2⟩ := I1.lock hd mu
  exact ⟨v', _, I2, r, q od⟩⟩

/-! ### what a write to a room in the making leaves -/
def Inc (g : G) (H : Hp) (x : Addr) : Prop := ∃ dx fs, H x = some (.ins g.CR dx fs) ∧ ∀ t q, fs ≠ [(("lines" : Str), .ref t), (("ports" : Str), .ref q)]
structure Kq (g : G) (x : Addr) (H H' : Hp) : Prop where
  tup : ∀ a xs, H a = some (.tup xs) → H' a = some (.tup xs)
  frz : ∀ a o u, H a = some (.frz o u) → H' a = some (.frz o u)
  rm : ∀ a dx fs, a ≠ x → H a = some (.ins g.CR dx fs) → H' a = some (.ins g.CR dx fs)
theorem Kq.trans {y : Addr} (a : Kq g y H H1) (b : Kq g y H1 H2) : Kq g y H H2 :=
  ⟨fun p xs h => b.tup p xs (a.tup p xs h), fun p o u h => b.frz p o u (a.frz p o u h), fun p dx fs n h => b.rm p dx fs n (a.rm p dx fs n h)⟩
theorem Up.kq {y : Addr} (u : Up g ρ H ρ' H') : Kq g y H H' := ⟨u.tup, u.frz, fun a dx fs _ h => u.rm a dx fs h⟩
theorem Inc.kq {y : Addr} {o' : HO} (h : Inc g H y) : Kq g y H (upd H y o') := by
  obtain ⟨dx, fs, hy, _⟩ := h
  refine ⟨fun a xs h => ?_, fun a o u h => ?_, fun a dx fs n h => ?_⟩
  · rw [upd_ne]; exact h
    rintro rfl; rw [hy] at h; cases h
  · rw [upd_ne]; exact h
    rintro rfl; rw [hy] at h; cases h
  · rw [upd_ne n]; exact h
theorem Inc.up {y : Addr} {o' : HO} (h : Inc g H y) : (∀ {p vs}, SqT g.K H p vs → SqT g.K (upd H y o') p vs) ∧ (∀ {p vs}, SqF H p vs → SqF (upd H y o') p vs) ∧ (∀ {p vs}, SqK g.K H p vs → SqK g.K (upd H y o') p vs) ∧ ∀ {p ls}, RoomAt g H p ls → RoomAt g (upd H y o') p ls := by
  have k := h.kq (o' := o')
  have hsq : ∀ {p vs}, SqT g.K H p vs → SqT g.K (upd H y o') p vs := fun {p vs} z => by
    rcases z with (z | ⟨o, z⟩) | z
    · exact .inl (.inl (k.tup _ _ z))
    · exact .inl (.inr ⟨o, k.frz _ _ _ z⟩)
    · exact .inr z
  refine ⟨hsq, fun {p vs} z => let ⟨o, z⟩ := z; ⟨o, k.frz _ _ _ z⟩, fun {p vs} z => ?_, fun {p ls} z => ?_⟩
  · rcases z with ⟨o, z⟩ | z
    · exact .inl ⟨o, k.frz _ _ _ z⟩
    · exact .inr z
  · obtain ⟨dx, t, q, o, h1, h2, h3, h4⟩ := z
    refine ⟨dx, t, q, o, k.rm _ _ _ (fun e => ?_) h1, hsq h2, k.frz _ _ _ h3, h4⟩
    obtain ⟨dx', fs, hy, n⟩ := h
    rw [e, hy] at h1
    cases h1
    exact n t q rfl
mutual
theorem DenV.inc {y : Addr} {o' : HO} (h : Inc g H y) : ∀ {d : D} {v : V}, DenV g ρ H d v → DenV g ρ (upd H y o') d v
  | _, _, .non => .non
  | _, _, .bl b => .bl b
  | _, _, .int i => .int i
  | _, _, .str s => .str s
  | _, _, .loc h => .loc h
  | _, _, .tup t hl => .tup (h.up.1 t) (DenL.inc h hl)
  | _, _, .fl t hl => .fl (h.up.2.1 t) (DenL.inc h hl)
  | _, _, .kl t hl => .kl (h.up.2.2.1 t) (DenL.inc h hl)
  | _, _, .room t => .room (h.up.2.2.2 t)
  | _, _, .adr a => .adr a
theorem DenL.inc {y : Addr} {o' : HO} (h : Inc g H y) : ∀ {ds : List D} {vs : List V}, DenL g ρ H ds vs → DenL g ρ (upd H y o') ds vs
  | _, _, .nil => .nil
  | _, _, .cons t hl => .cons (t.inc h) (DenL.inc h hl)
end
theorem RelE.inc {y : Addr} {o' : HO} (h : Inc g H y) (e : RelE g ρ H ε σ) : RelE g ρ (upd H y o') ε σ := ⟨e.1, fun i d q => let ⟨v, a, b⟩ := e.2 i d q; ⟨v, a, b.inc h⟩⟩
theorem CellAt.ne {y a : Addr} {c : Cell} (h : Inc g H y) (hc : CellAt g ρ H a c) : a ≠ y := by
  obtain ⟨dx, fs, hy, _⟩ := h
  obtain ⟨o, ho, w⟩ := hc.wr
  rintro rfl
  rw [hy] at ho; cases ho; exact w rfl
theorem RelS.inc {y : Addr} {o' : HO} (h : Inc g H y) (s : RelS g ρ m H) : RelS g ρ m (upd H y o') := by
  refine ⟨s.len, s.nd, fun i a c h1 h2 => ?_, by
    obtain ⟨dx, fs, hy, _⟩ := h
    exact tabs_keep s.tabs (fun b ps q => by rw [upd_ne (ne_of q hy (fun z => nomatch z))]; exact q) fun b φ q => by rw [upd_ne (ne_of q hy (fun z => nomatch z))]; exact q⟩
  have q := s.at_ i a c h1 h2
  have n := q.ne h
  cases c with
  | lst ds => obtain ⟨vs, h3, l⟩ := q; exact ⟨vs, by rw [upd_ne n]; exact h3, l.inc h⟩
  | dK kvs => obtain ⟨vs, h3, l⟩ := q; exact ⟨vs, by rw [upd_ne n]; exact h3, l.inc h⟩
  | dT kvs => obtain ⟨vs, h3, l⟩ := q; exact ⟨vs, by rw [upd_ne n]; exact h3, l.inc h⟩
  | ins c fs => obtain ⟨dx, vs, h3, l, z⟩ := q; exact ⟨dx, vs, by rw [upd_ne n]; exact h3, l.inc h, z⟩

/-! ### Room.__init__ -/
def spInit (g : G) : Sp := fun vs H Q _ => ∃ (x dx : Addr) (ls : List Str) (ρ : List Addr) (m : Store), vs = .ref x :: ls.map V.str ∧ H x = some (.ins g.CR dx []) ∧ Valid ls ∧ RelS g ρ m H ∧
  ∀ (ρ' : List Addr) (H' : Hp), (∀ (n : Nat) (a : Addr), (ρ : List Addr)[n]? = some a → ρ'[n]? = some a) → Kq g x H H' → RelS g ρ' m H' → RoomAt g H' x ls → Q .non H'
def tInit (g : G) (pC : PgS) (pN : Pg) : TS := tSeq (Ts g W0 pC) (tSeq (sFld g.K (tVar 0) (tVar 1) "lines") (tSeq (sFld g.K (tVar 0) (tFrz (tLstRg (tRg1 (T g W0 pN)))) "ports") tNext))
/-- what the check of a room's rows must be -/
def ChkOk (N : Nat) (pC : PgS) (pN : Pg) : Prop := ∀ (a : Addr) (ls : List Str) (m : Store), Valid ls → ∃ ε', pC (some (.adr a) :: some (.tup (ls.map .str)) :: List.replicate (N - 2) none) m = .nxt ε' m ∧ ε'[0]? = some (some (.adr a)) ∧ ε'[1]? = some (some (.tup (ls.map .str))) ∧
  ∀ m, pN ε' m = .ok (.int (nPorts ls)) m
theorem den_strs {ls : List Str} {vs : List V} (l : DenL g ρ H (ls.map D.str) vs) : vs = ls.map V.str := by
  induction ls generalizing vs with
  | nil => cases l; rfl
  | cons z ls ih =>
    cases l with
    | cons a l =>
      cases a
      rw [ih l]; rfl
theorem Valid.ports {ls : List Str} (h : Valid ls) : nPorts ls ≤ 32 := by
  obtain ⟨_, h1, _, h2, _⟩ := h
  unfold nPorts heightS
  omega
theorem rgV_ports (ls : List Str) : rgV 0 (nPorts ls) = portsV ls := by
  unfold rgV portsV nPorts
  have e : ((((2 * (heightS ls + widthS ls) : Nat)) : Int) - 0).toNat = 2 * (heightS ls + widthS ls) := by omega
  rw [e]
  exact List.map_congr_left fun i _ => by rw [Int.zero_add]
theorem room_init {P : Program} {w : World} {mg : Str → Option Value} {base : Heap} {qual : Str} {st : Stmt} {ad : Addr} {fd : FuncData} {N : List Str} {pC : PgS} {pN : Pg} (R : RoomC g) (F : Fun g.K "__init__" qual st ad fd) (S : FnScope N ([("self" : Str)] ++ [("rows" : Str)]) (defScope st)) (hbd : BindV "__init__" qual st [("self" : Str)] "rows")
    (hC : ChkOk N.length pC pN) (hb : ∀ (cdv : Value) (A : Around) (outer : List Env) (s : Shared) (H : Hp) (E : XK), Room k (A.deeper (envOfC qual (defScope st) s.heap.objs.size ad cdv)) →
      L2.PSs (cxOf CX0 P w g.K mg base N qual (defScope st) ad cdv A outer s H E).nox (defBody st) (tInit g pC pN)) : FnR P w g.K mg base CX0 (k + 1) ad (spInit g) := by
  obtain ⟨oc, od, kV, doc, pm, an, cdv, ct, osl, rfl, lk, hcd⟩ := F.ex
  refine FnR.imp (fn_star (sp := fun vs H Q _ => ∃ (x dx p : Addr) (ls : List Str) (ρ : List Addr) (m : Store), vs = [.ref x, .ref p] ∧ H x = some (.ins g.CR dx []) ∧ H p = some (.tup (ls.map V.str)) ∧ Valid ls ∧ RelS g ρ m H ∧
    ∀ (ρ' : List Addr) (H' : Hp), (∀ (n : Nat) (a : Addr), (ρ : List Addr)[n]? = some a → ρ'[n]? = some a) → Kq g x H H' → RelS g ρ' m H' → RoomAt g H' x ls → Q .non H') lk hcd S cxUp_none (hbd kV doc pm an cdv ct) fun A outer s H vs Q E hr h => ?_) fun vs H Q E h => ?_
  · refine ⟨_, (hb cdv A outer s H E hr).nox, ?_⟩
    obtain ⟨x, dx, p, ls, ρ, m, rfl, hx, hp, hv, s0, q0⟩ := h
    obtain ⟨ε', h1, h2, h3, h4⟩ := hC x ls m hv
    have hl : DenL g ρ H [.adr x, .tup (ls.map .str)] [.ref x, .ref p] := .cons (.adr x) (.cons (.tup (SqT.of hp) DenL.strs) .nil)
    refine ⟨_, ρ, m, hl.start (N.length - 2), s0, ?_⟩
    show FinS g W0 ρ H (pC (some (.adr x) :: some (.tup (ls.map .str)) :: List.replicate (N.length - 2) none) m) _
    rw [h1]
    intro ρ1 H1 σ1 u1 s1 e1
    obtain ⟨v1, c1, d1⟩ := e1.2 1 _ h3
    obtain ⟨v0, c0, d0⟩ := e1.2 0 _ h2
    cases d0
    have hx1 := u1.rm _ _ _ hx
    have inc1 : Inc g H1 x := ⟨dx, [], hx1, fun _ _ z => nomatch z⟩
    cases d1 with
    | @tup t ds vs ht htl =>
      have ev := den_strs htl
      subst ev
      refine ⟨.ref t, c1, .ref x, c0, x, g.CR, dx, [], rfl, hx1, R.cls, R.nL, by decide, ?_⟩
      have hx2 : upd H1 x (.ins g.CR dx (putF ("lines" : Str) (.ref t) [])) x = some (.ins g.CR dx [(("lines" : Str), .ref t)]) := upd_same
      have inc2 : Inc g (upd H1 x (.ins g.CR dx (putF ("lines" : Str) (.ref t) []))) x := ⟨dx, _, hx2, fun _ _ z => by cases z⟩
      refine ⟨ε', ρ1, m, [], e1.inc inc1, s1.inc inc1, .nil, ?_⟩
      show Fin g W0 ρ1 _ σ1 (pN ε' m) _
      rw [h4]
      intro ρ3 H3 v3 u3 s3 d3
      cases d3
      have hn := hv.ports
      refine ⟨_, rfl, RgOk.of_le (by decide) (by omega) (by decide) (by omega), fun q hq => ?_⟩
      refine ⟨q, _, rfl, upd_same, trivial, fun od => ?_⟩
      have hx3 := u3.rm _ _ _ hx2
      have nq : x ≠ q := fun e => by rw [e, hq] at hx3; cases hx3
      have hx4 : upd (upd H3 q (.lst (rgV 0 (nPorts ls)))) q (.frz od (.lst (rgV 0 (nPorts ls)))) x = some (.ins g.CR dx [(("lines" : Str), .ref t)]) := by rw [upd_ne nq, upd_ne nq]; exact hx3
      refine ⟨.ref x, c0, x, g.CR, dx, _, rfl, hx4, R.cls, R.nP, (show (1 : Nat) < 1000 by decide), ?_⟩
      have u4 : Up g ρ3 H3 ρ3 (upd (upd H3 q (.lst (rgV 0 (nPorts ls)))) q (.frz od (.lst (rgV 0 (nPorts ls))))) := Up.trans (Up.new hq) (Up.write upd_same trivial)
      have inc4 : Inc g (upd (upd H3 q (.lst (rgV 0 (nPorts ls)))) q (.frz od (.lst (rgV 0 (nPorts ls))))) x := ⟨dx, _, hx4, fun _ _ z => by cases z⟩
      have s4 : RelS g ρ3 m (upd (upd H3 q (.lst (rgV 0 (nPorts ls)))) q (.frz od (.lst (rgV 0 (nPorts ls))))) := by
        refine s3.up u4 (tabs_wr (g := g) (o := .lst (rgV 0 (nPorts ls))) (tabs_new s3.tabs hq) upd_same trivial) fun i a hi hm => ?_
        obtain ⟨o, ho⟩ := (s3.at_ i a _ hi (List.getElem?_eq_getElem hm)).ex
        have : a ≠ q := ne_of_none ho hq
        rw [upd_ne this, upd_ne this]
      have kLP : ¬ (("ports" : Str) = "lines") := by decide +kernel
      have ef : putF ("ports" : Str) (.ref q) [(("lines" : Str), V.ref t)] = [(("lines" : Str), .ref t), (("ports" : Str), .ref q)] := by
        unfold putF
        rw [if_neg (fun z => kLP z.symm)]
        rfl
      rw [ef]
      refine q0 ρ3 _ ?_ ?_ ?_ ?_
      · exact fun n a h => u3.ext _ _ (u1.ext _ _ h)
      · exact (((u1.kq).trans inc1.kq).trans (u3.kq.trans u4.kq)).trans (inc4.kq (o' := .ins g.CR dx [(("lines" : Str), .ref t), (("ports" : Str), .ref q)]))
      · exact s4.inc inc4
      · refine ⟨dx, t, q, od, upd_same, ?_, ?_, hv⟩
        · exact inc4.up.1 (u4.sqt (u3.sqt (inc1.up.1 ht)))
        · rw [upd_ne (Ne.symm nq), upd_same, rgV_ports]
  · obtain ⟨x, dx, ls, ρ, m, rfl, hx, hv, s0, q⟩ := h
    refine ⟨[.ref x], ls.map V.str, rfl, rfl, ?_, fun p hp => ?_⟩
    · rw [List.length_map]
      have := hv.2.1
      exact lim_le (Nat.le_trans this (by decide))
    · have nx : x ≠ p := fun e => by rw [e, hp] at hx; cases hx
      refine ⟨x, dx, p, ls, ρ, m, rfl, by rw [upd_ne nx]; exact hx, upd_same, hv, s0.off hp, fun ρ' H' h1 h2 h3 h4 => q ρ' H' h1 ((Up.new (ρ := ρ) hp).kq.trans h2) h3 h4⟩

/-! ### rooms made -/
instance (ls : List Str) : Decidable (Valid ls) := by unfold Valid; infer_instance
structure MkR (P : Program) (w : World) (mg : Str → Option Value) (base : Heap) (g : G) (k : Nat) : Prop where
  ex : ∃ ad : Addr, Mk g.K g.CR ad ∧ FnR P w g.K mg base CX0 k ad (spInit g)
def mkRoom (xs : List D) (m : Store) : Res D := match strsOf xs with
  | some ls => if Valid ls then .ok (.room ls) m else .bad
  | none => .bad
def gMk : Fn
  | [.loc n], m => match m[n]? with
    | some (.lst xs) => mkRoom xs m
    | _ => .bad
  | [.tup xs], m => mkRoom xs m
  | _, _ => .bad
theorem mk_room {ds : List D} {vs : List V} (s : RelS g ρ m H) (l : DenL g ρ H ds vs) (h : Fin g W ρ H σ (mkRoom ds m) Q) : ∀ x dx, H x = none → H dx = none → dx ≠ x → spInit g (.ref x :: vs) (upd (upd H dx (.own x)) x (.ins g.CR dx [])) (fun v H2 => v = .non ∧ Q (.ref x) H2) E0 := by
  intro x dx hx hdx ne
  unfold mkRoom at h
  split at h
  · rename_i ls hs
    split at h
    · rename_i hv
      have ev := strs_den l hs
      subst ev
      have hx1 : upd H dx (.own x) x = none := by rw [upd_ne (Ne.symm ne)]; exact hx
      have u1 : Up g ρ H ρ (upd (upd H dx (.own x)) x (.ins g.CR dx [])) := (Up.new hdx).trans (Up.new hx1)
      refine ⟨x, dx, ls, ρ, m, rfl, upd_same, hv, (s.off hdx).off hx1, fun ρ' H' e k s' hr => ⟨rfl, ?_⟩⟩
      refine h ρ' H' _ ⟨e, fun a xs ha => k.tup _ _ (u1.tup _ _ ha), fun a o u ha => k.frz _ _ _ (u1.frz _ _ _ ha), fun a dx' fs ha => k.rm _ _ _ (fun z => ?_) (u1.rm _ _ _ ha)⟩ s' (.room hr)
      rw [z, hx] at ha; cases ha
    · exact h.elim
  · exact h.elim
/-- the items of a list or tuple -/
def pItems (k : List D → Store → Res D) : D → Store → Res D
  | .loc n, m => match m[n]? with
    | some (.lst xs) => k xs m
    | _ => .bad
  | .tup xs, m => k xs m
  | .fl xs, m => k xs m
  | _, _ => .bad
theorem items_den {d : D} {v : V} {kk : List D → Store → Res D} (s : RelS g ρ m H) (dv : DenV g ρ H d v) (h : Fin g W ρ H σ (pItems kk d m) Q) : ∃ a vs ds, v = .ref a ∧ (SqT g.K H a vs ∨ SqL g.K H a vs) ∧ DenL g ρ H ds vs ∧ Fin g W ρ H σ (kk ds m) Q := by
  cases dv with
  | @loc n p hp =>
    simp only [pItems] at h
    split at h
    · rename_i xs hc
      obtain ⟨_, e1, _, vs, hv, l⟩ := s.cell (.loc hp) hc
      cases e1
      exact ⟨p, vs, xs, rfl, .inr (SqL.of hv), l, h⟩
    · exact h.elim
  | @tup p ds vs hp l => exact ⟨p, vs, ds, rfl, .inl hp, l, h⟩
  | @fl p ds vs hp l => exact ⟨p, vs, ds, rfl, .inr hp.sq, l, h⟩
  | _ => exact False.elim h
def pMk (pe : Pg) : Pg := fun ε m => (pe ε m).bind (pItems mkRoom)
theorem t_mk (h : T g W (pMk pe) σ H Q) : T g W pe σ H fun v H1 => ∃ a vs, v = .ref a ∧ (SqT g.K H1 a vs ∨ SqL g.K H1 a vs) ∧ ∀ x dx, H1 x = none → H1 dx = none → dx ≠ x → spInit g (.ref x :: vs) (upd (upd H1 dx (.own x)) x (.ins g.CR dx [])) (fun v H2 => v = .non ∧ Q (.ref x) H2) E0 := by
  obtain ⟨ε, ρ, m, ds, e, s, l, h⟩ := h
  refine ⟨ε, ρ, m, [], e, s, .nil, Fin.bind h fun ρ' H' v d m' u s' dv q => ?_⟩
  obtain ⟨a, vs, ds, e1, h1, l1, q1⟩ := items_den s' dv q
  exact ⟨a, vs, e1, h1, mk_room s' l1 q1⟩
variable {sp' : Pos}
theorem te_mk (hK : X.K = g.K) (c : MkR X.prog X.w X.mg X.base g k) (hm : X.mg "Room" = some (.ref g.CR)) (hr : Room j X.A) (he : PE X e (T g W pe)) (hk : k + 1 ≤ j := by decide) (hg : Gl X "Room" := by rfl) (hst : starEach [.Starred e sp'] X.env = [(true, eval e X.env)] := by rfl) :
    PE X (.Call (.Name ("Room" : Str) p') [.Starred e sp'] [] pos) (T g W (pMk pe)) := by
  obtain ⟨ad, M, F⟩ := c.ex
  rw [← hK] at M F
  refine ⟨fun pins s σ H Q I h => ?_⟩
  refine wpAny_Call_Name_kw (ld_glob I hg hm ?_ (by decide))
  refine PySem.W.callWith_S (h₀ := X.base) I.ok.mod.kin M.kp (thn (he.run pins s σ H _ I (t_mk h)) fun v s1 ⟨y, H1, I1, ry, a, xs, ey, hxs, q⟩ => ?_) hst
  subst ey
  obtain rfl : v = Value.ref a := ry
  rw [← hK] at hxs
  exact star_any I1 hxs fun us s2 I2 rv => ⟨I2.kIn, run_makeR M F (hr.mono hk) pass0 I2 rv q⟩
/-- cls(*e) -/
def pMkV (i : Nat) (CR : Addr) (pe : Pg) : Pg := fun ε m => match ε[i]? with
  | some (some (.adr a)) => if a = CR then pMk pe ε m else .bad
  | _ => .bad
theorem te_mkV (i : Nat) (hK : X.K = g.K) (c : MkR X.prog X.w X.mg X.base g k) (hr : Room j X.A) (he : PE X e (T g W pe)) (hk : k + 1 ≤ j := by decide) (hN : X.N[i]? = some x := by rfl) (hv : Vis X.env.scope x := by first | exact Or.inl rfl | exact Or.inr (Or.inl rfl) | exact Or.inr (Or.inr rfl)) (hd : (x == ("__debug__" : Str)) = false := by decide)
    (hcd : (x == ("__classdict__" : Str)) = false := by decide) (hst : starEach [.Starred e sp'] X.env = [(true, eval e X.env)] := by rfl) :
    PE X (.Call (.Name x p') [.Starred e sp'] [] pos) (T g W (pMkV i g.CR pe)) := by
  obtain ⟨ad, M, F⟩ := c.ex
  rw [← hK] at M F
  refine ⟨fun pins s σ H Q I h => ?_⟩
  obtain ⟨ε, ρ, m, ds, e, s0, l, h⟩ := h
  have h : Fin g W ρ H σ (pMkV i g.CR pe ε m) Q := h
  unfold pMkV at h
  split at h
  · rename_i a ha
    split at h
    · rename_i ea
      subst ea
      obtain ⟨v, c1, d1⟩ := e.2 i _ ha
      cases d1
      have h2 := t_mk (⟨ε, ρ, m, ds, e, s0, l, h⟩ : T g W (pMk pe) σ H Q)
      refine wpAny_Call_Name_kw (thn ((pe_var (pos := p') hN hv hd hcd).run pins s σ H (fun v H1 => v = .ref g.CR ∧ H1 = H) I ⟨.ref g.CR, c1, rfl, rfl⟩) fun u s1 ⟨v, H1, I1, r1, ev, eH⟩ => ?_)
      subst ev
      rw [eH] at I1
      cases r1
      refine PySem.W.callWith_S (h₀ := X.base) I.ok.mod.kin M.kp (thn (he.run pins s1 σ H _ I1 h2) fun v s1 ⟨y, H1, I1, ry, a, xs, ey, hxs, q⟩ => ?_) hst
      subst ey
      obtain rfl : v = Value.ref a := ry
      rw [← hK] at hxs
      exact star_any I1 hxs fun us s2 I2 rv => ⟨I2.kIn, run_makeR M F (hr.mono hk) pass0 I2 rv q⟩
    · exact h.elim
  · exact h.elim
/-- Room.m(..), m a classmethod -/
structure Cm (P : Program) (w : World) (mg : Str → Option Value) (base : Heap) (g : G) (k : Nat) (m : Str) (f : Fn) : Prop where
  ex : ∃ (ad q : Addr) (mc : Value), ClX.CRead g.K g.CR mc ∧ ClX.CMet g.K g.CR mc m q ad ∧ FnR P w g.K mg base CX0 k ad (spOf g f)
def pCm (f : Fn) (CR : Addr) (ps : List Pg) : Pg := fun ε m => (evL ps ε m).bind fun ds m' => f (.adr CR :: ds) m'
theorem te_cm {pl : Sem Bool} {q' : Pos} (hK : X.K = g.K) (c : Cm X.prog X.w X.mg X.base g k mm f) (hm : X.mg "Room" = some (.ref g.CR)) (hr : Room j X.A) (ha : PA X (e :: es) (Ta g W0 ps)) (hk : k ≤ j := by decide) (hg : Gl X "Room" := by rfl)
    (hst : starEach (e :: es) X.env = (false, eval e X.env) :: starEach es X.env := by rfl) (hpl : (backTo pos (starEach es X.env)).any (·.1) = false := by rfl)
    (ht : eval (.Call (.Attribute (.Name ("Room" : Str) q') mm apos) (e :: es) [] pos) X.env = (do
      let ov ← eval (.Name ("Room" : Str) q') X.env
      standAt apos.atName
      let (f, first) ← holding [ov] (getMethod ov mm pl)
      callWith pos f first (backTo pos (starEach (e :: es) X.env)) (backToKw pos (keywordEach [] X.env))) := by rfl) :
    PE X (.Call (.Attribute (.Name ("Room" : Str) q') mm apos) (e :: es) [] pos) (T g W0 (pCm f g.CR ps)) := by
  obtain ⟨ad, q, mc, r, cm, F⟩ := c.ex
  rw [← hK] at r cm F
  refine PE.imp (ClX.pe_cmeth (pe_glob hg hm (v := .ref g.CR) rfl) r cm F (hr.mono hk) pass0 ha hst hpl ht) fun σ H Q h => ⟨rfl, ?_⟩
  obtain ⟨ε, ρ, m, ds, e, s, l, h⟩ := h
  refine ⟨ε, ρ, m, e, s, Fin.bindL h fun ρ' H' vs ds m' u s' dl q => ?_⟩
  exact sp_args s' (.cons (.adr _) dl) q rfl
/-! ### arguments with a starred one -/
def plNil : PgL := fun _ m => .ok [] m
def plCons (p : Pg) (q : PgL) : PgL := fun ε m => (p ε m).bind fun d m1 => (q ε m1).bind fun ds m2 => .ok (d :: ds) m2
def plStar (p : Pg) (q : PgL) : PgL := fun ε m => (p ε m).bind fun d m1 => match d with
  | .loc n => match m1[n]? with
    | some (.lst xs) => (q ε m1).bind fun ds m2 => .ok (xs ++ ds) m2
    | _ => .bad
  | .tup xs => (q ε m1).bind fun ds m2 => .ok (xs ++ ds) m2
  | .fl xs => (q ε m1).bind fun ds m2 => .ok (xs ++ ds) m2
  | _ => .bad
def TaL (g : G) (W : Wx) (p : PgL) : TA := fun σ H Q => ∃ ε ρ m, RelE g ρ H ε σ ∧ RelS g ρ m H ∧ FinL g W ρ H σ (p ε m) Q
variable {pl ql : PgL}
theorem tal_nil : PA X [] (TaL g W plNil) := PA.imp pa_nil fun σ H Q h => by
  obtain ⟨ε, ρ, m, e, s, h⟩ := h
  exact h ρ H [] .refl s .nil
theorem tal_cons (he : PE X e (T g W pe)) (hr : PA X es (TaL g W ql)) (hs : starEach (e :: es) X.env = (false, eval e X.env) :: starEach es X.env := by rfl) : PA X (e :: es) (TaL g W (plCons pe ql)) :=
  PA.imp (pa_cons he hr hs) fun σ H Q h => by
    obtain ⟨ε, ρ, m, e, s, h⟩ := h
    refine ⟨ε, ρ, m, [], e, s, .nil, FinL.bind1 h fun ρ' H' v d m' u s' dv q => ⟨ε, ρ', m', e.up u, s', FinL.bindL q fun ρ2 H2 vs ds m2 u2 s2 dl q2 => ?_⟩⟩
    exact q2 ρ2 H2 (v :: vs) .refl s2 (.cons (dv.up u2) dl)
theorem tal_star (hK : X.K = g.K) (he : PE X e (T g W pe)) (hr : PA X es (TaL g W ql)) (hs : starEach (.Starred e sp' :: es) X.env = (true, eval e X.env) :: starEach es X.env := by rfl) : PA X (.Starred e sp' :: es) (TaL g W (plStar pe ql)) :=
  PA.imp (pa_star he hr hs) fun σ H Q h => by
    obtain ⟨ε, ρ, m, e, s, h⟩ := h
    have fin : ∀ {ρ' : List Addr} {H' : Hp} {m' : Store} {a : Addr} {xs : List D} {vs : List V}, Up g ρ H ρ' H' → RelS g ρ' m' H' → (SqT g.K H' a vs ∨ SqL g.K H' a vs) → DenL g ρ' H' xs vs → FinL g W ρ' H' σ ((ql ε m').bind fun ds m2 => .ok (xs ++ ds) m2) Q →
        ∃ p ys, V.ref a = .ref p ∧ (SqT X.K H' p ys ∨ SqL X.K H' p ys) ∧ TaL g W ql σ H' fun zs H2 => Q (ys ++ zs) H2 := fun {ρ' H' m' a xs vs} u s' h1 l q => by
      refine ⟨a, vs, rfl, by rw [hK]; exact h1, ε, ρ', m', e.up u, s', FinL.bindL q fun ρ2 H2 ws ds m2 u2 s2 dl q2 => ?_⟩
      exact q2 ρ2 H2 (vs ++ ws) .refl s2 ((l.up u2).append dl)
    refine ⟨ε, ρ, m, [], e, s, .nil, FinL.bind1 h fun ρ' H' v d m' u s' dv q => ?_⟩
    cases dv with
    | @loc n p hp =>
      simp only at q
      split at q
      · rename_i xs hc
        obtain ⟨_, e1, _, vs, hv, l⟩ := s'.cell (.loc hp) hc
        cases e1
        exact fin u s' (.inr (SqL.of hv)) l q
      · exact q.elim
    | @tup p ds vs hp l => exact fin u s' (.inl hp) l q
    | @fl p ds vs hp l => exact fin u s' (.inr hp.sq) l q
    | _ => exact False.elim q
def pFL (f : Fn) (pl : PgL) : Pg := fun ε m => (pl ε m).bind f
theorem t_fl {r : List V → Hp → VK → Prop} (hs : OpN g W r f) (h : T g W (pFL f pl) σ H Q) : TaL g W pl σ H fun vs H1 => r vs H1 Q := by
  obtain ⟨ε, ρ, m, ds, e, s, l, h⟩ := h
  exact ⟨ε, ρ, m, e, s, Fin.bindL h fun ρ' H' vs ds m' u s' dl q => hs ρ' m' σ H' ds vs Q s' dl q⟩
/-- x(e, .., *y) -/
theorem te_callS (hK : X.K = g.K) (c : Cf X.prog X.w X.mg X.base g k x f) (hr : Room j X.A) (ha : PA X (e :: es) (TaL g W0 pl)) (hk : k ≤ j := by decide) (hg : Gl X x := by rfl)
    (hdb : (x == ("__debug__" : Str)) = false := by decide) (he : starEach (e :: es) X.env = (false, eval e X.env) :: starEach es X.env := by rfl) (hst : (backTo pos (starEach es X.env)).any (·.1) = true := by rfl) :
    PE X (.Call (.Name x p') (e :: es) [] pos) (T g W0 (pFL f pl)) := by
  obtain ⟨ad, F, hm, kp⟩ := c.ex
  rw [← hK] at F kp
  exact PE.imp (pe_callS2 F (hr.mono hk) kp hg hm pass0 ha hdb he hst) fun σ H Q h => t_fl (r := fun vs H Q => spOf g f vs H Q E0) (fun ρ m σ H ds vs Q s l h => sp_args s l h rfl) h
end MT

/-! MT11A: == and != of lists and tuples, both answers; the items' own comparison may make objects. -/
namespace MTQ
open PySem PySem.SeqAt GQ
open AutoSeq1 (wpAny_loadPart')
open MeetsSeq MeetsSeq2 MeetsSeq3 SeqRoads2
section
variable {prog : Program} {w : World} {A : Around} {R : Result → Shared → Prop}
/-- at each turn the two lists are read anew: the i-th two are compared, with the answer e i -/
def ListB (prog : Program) (w : World) (A : Around) (E : Value → Shared → Prop) (l b : Addr) (N : Nat) (e : Nat → Bool) (I : Shared → Prop) : Prop :=
  ∀ s, I s → ∃ (items items2 : Array Value) (n n2 : Nat) (dd dd2 : Option Addr) (sl sl2 : Array (Option Value)), s.heap.get? l = some { cls := .type "list", dict := dd, data := .seq items n, slots := sl } ∧ s.heap.get? b = some { cls := .type "list", dict := dd2, data := .seq items2 n2, slots := sl2 } ∧ items.size = N ∧ items2.size = N ∧
    ∀ i (h1 : i < items.size) (h2 : i < items2.size), wpAny (model prog w) A.in1 (eqBool items[i] items2[i]) (fun r s' => r = e i ∧ I s') E s


theorem eq_loopB (l b : Addr) (N : Nat) (e : Nat → Bool) (I : Shared → Prop) (hl : ListB prog w A (fun e s' => R (.error e) s') l b N e I) (k : Nat) :
    ∀ i : Nat, N - i = k → i ≤ N → ∀ s, I s → (∀ s', I s' → R (.ok (.ret (.bool ((((List.range N).drop i).all e))))) s') →
      wpAny (model prog w) A.in1 (Builtin.«list.__eq__.loop» ⟨[.ref l, .ref b, rawInt i, rawInt 2], []⟩) (FinOf prog w A R) (fun e s' => R (.error e) s') s := by
  induction k with
  | zero =>
    intro i hk hi s h fin
    obtain ⟨items, items2, n, n2, dd, dd2, sl, sl2, hl1, hb1, hs1, hs2, _⟩ := hl _ h
    have hi' : i = N := by omega
    have hR := fin s h
    have hd : (List.range N).drop i = [] := by simp; omega
    rw [hd, List.all_nil] at hR
    obtain ⟨hp, g, d, tk, os⟩ := s
    wp_walk using wpAny_loadPart' hl1, wpAny_loadPart' hb1
    have hi1 : items[((i : Nat) : Int).toNat]? = none := by simp; omega
    have hi2 : items2[((i : Nat) : Int).toNat]? = none := by simp; omega
    rw [hi1, hi2]
    wp_walk using wpAny_loadPart' hl1, wpAny_loadPart' hb1
    show R (.ok (.ret (.bool (items.size == items2.size)))) _
    rw [hs1, hs2]
    simpa using hR
  | succ k ih =>
    intro i hk hi s h fin
    obtain ⟨items, items2, n, n2, dd, dd2, sl, sl2, hl1, hb1, hs1, hs2, turn⟩ := hl _ h
    have hlt : i < items.size := by omega
    have hlt2 : i < items2.size := by omega
    have ht := turn i hlt hlt2
    have hd : (List.range N).drop i = i :: (List.range N).drop (i + 1) := by
      have hN : i < (List.range N).length := by simp; omega
      rw [List.drop_eq_getElem_cons hN] <;> simp
    rw [hd, List.all_cons] at fin
    obtain ⟨hp, g, d, tk, os⟩ := s
    wp_walk using wpAny_loadPart' hl1, wpAny_loadPart' hb1
    have hi1 : items[((i : Nat) : Int).toNat]? = some items[i] := by simp [hlt]
    have hi2 : items2[((i : Nat) : Int).toNat]? = some items2[i] := by simp [hlt2]
    have hc : ((i : Int) + 1) = ((i + 1 : Nat) : Int) := by omega
    rw [hi1, hi2]
    refine wpAny_bind (wpAny_mono ht (fun r s2 h2 => ?_) fun _ _ x => x)
    obtain ⟨hr, h2⟩ := h2
    subst hr
    cases he : e i with
    | true =>
      rw [he, Bool.true_and] at fin
      have hrec := ih (i + 1) (by omega) (by omega) s2 h2 fin
      obtain ⟨hp2, g2, d2, tk2, os2⟩ := s2
      wp_walk
      rw [hc]
      exact ⟨plainId_quiet plain_eq_loop _, codeAny_builtin entry_eq_loop (by
        rw [Around.under_plainId plain_eq_loop _]
        exact hrec)⟩
    | false =>
      rw [he, Bool.false_and] at fin
      have hR := fin s2 h2
      obtain ⟨its, its2, n3, n4, dd3, dd4, sl3, sl4, hl3, hb3, hs3, hs4, _⟩ := hl _ h2
      obtain ⟨hp2, g2, d2, tk2, os2⟩ := s2
      have k1 : i < its.size := by omega
      have k2 : i < its2.size := by omega
      wp_walk using wpAny_loadPart' hl3, wpAny_loadPart' hb3
      have hj1 : its[((i : Nat) : Int).toNat]? = some its[i] := by simp [k1]
      have hj2 : its2[((i : Nat) : Int).toNat]? = some its2[i] := by simp [k2]
      rw [hj1, hj2]
      wp_walk
      simpa using hR
theorem list_eq (l b : Addr) (N : Nat) (e : Nat → Bool) (I : Shared → Prop) (hl : ListB prog w A (fun e s' => R (.error e) s') l b N e I)
    (fin : ∀ s, I s → R (.ok (.ret (.bool (((List.range N).all e))))) s) {s : Shared} (h : I s) :
    wpAny (model prog w) A.in1 (Builtin.«list.__eq__» ⟨[.ref l, .ref b], []⟩) (FinOf prog w A R) (fun e s' => R (.error e) s') s := by
  obtain ⟨items, items2, n, n2, dd, dd2, sl, sl2, hl1, hb1, hs1, hs2, _⟩ := hl _ h
  have hrec := eq_loopB (A := A) (R := R) l b N e I hl _ 0 rfl (Nat.zero_le _) s h (by simpa using fin)
  obtain ⟨hp, g, d, tk, os⟩ := s
  have f3 := AutoSeq1.sub_list_list
  have hne : ¬ (items.size != items2.size) = true := by simp [hs1, hs2]
  wp_walk using wpAny_loadPart' hl1, wpAny_loadPart' hb1
  exact ⟨plainId_quiet plain_eq_loop _, codeAny_builtin entry_eq_loop (by
    rw [Around.under_plainId plain_eq_loop _]
    exact hrec)⟩
theorem list_eq_len {l b : Addr} {items items2 : Array Value} {n n2 : Nat} {dd dd2 : Option Addr} {sl sl2 : Array (Option Value)} {s : Shared} (hl1 : s.heap.get? l = some { cls := .type "list", dict := dd, data := .seq items n, slots := sl }) (hb1 : s.heap.get? b = some { cls := .type "list", dict := dd2, data := .seq items2 n2, slots := sl2 }) (hne : (items.size != items2.size) = true)
    (h : R (.ok (.ret (.bool ( false)))) s) : wpAny (model prog w) A.in1 (Builtin.«list.__eq__» ⟨[.ref l, .ref b], []⟩) (FinOf prog w A R) (fun e s' => R (.error e) s') s := by
  obtain ⟨hp, g, d, tk, os⟩ := s
  have f3 := AutoSeq1.sub_list_list
  wp_walk using wpAny_loadPart' hl1, wpAny_loadPart' hb1
  exact h
theorem tuple_eq (l b : Addr) (items items2 : Array Value) (n n2 : Nat) (dd dd2 : Option Addr) (sl sl2 : Array (Option Value)) (e : Nat → Bool) (I : Shared → Prop)
    (turn : ∀ i (h1 : i < items.size) (h2 : i < items2.size) s, I s → wpAny (model prog w) A.in1 (eqBool items[i] items2[i]) (fun r s' => r = e i ∧ I s') (fun e s' => R (.error e) s') s)
    (fin : ∀ s, I s → R (.ok (.ret (.bool (((items.size == items2.size) && (List.range (min items.size items2.size)).all e))))) s) {s : Shared} (hl1 : s.heap.get? l = some { cls := .type "tuple", dict := dd, data := .seq items n, slots := sl }) (hb1 : s.heap.get? b = some { cls := .type "tuple", dict := dd2, data := .seq items2 n2, slots := sl2 }) (h : I s) :
    wpAny (model prog w) A.in1 (Builtin.«tuple.__eq__» ⟨[.ref l, .ref b], []⟩) (FinOf prog w A R) (fun e s' => R (.error e) s') s := by
  have f2 := AutoSeq1.sub_tuple_tuple
  have hZ : (items.toList.zip items2.toList).length = min items.size items2.size := by simp
  have h0 := h
  obtain ⟨hp, g, d, tk, os⟩ := s
  wp_walk using wpAny_loadPart' hl1, wpAny_loadPart' hb1, wpAny_forIn_list _ (fun rest b s' => I s' ∧ b.1 = none ∧ ∃ i, rest = (items.toList.zip items2.toList).drop i ∧ i ≤ min items.size items2.size ∧ (List.range i).all e = true) _
  case turn =>
    rintro ⟨y, x⟩ rest b s' ⟨hI, hb', i, hz, hi, hall⟩
    have hlt : i < (items.toList.zip items2.toList).length := by
      rcases Nat.lt_or_ge i (items.toList.zip items2.toList).length with h' | h'
      · exact h'
      · rw [List.drop_of_length_le h'] at hz; cases hz
    have hlt' : i < min items.size items2.size := hZ ▸ hlt
    have h1 : i < items.size := by omega
    have h2 : i < items2.size := by omega
    rw [List.drop_eq_getElem_cons hlt] at hz
    injection hz with hyx hrest
    have hy : y = items[i] := by have := congrArg Prod.fst hyx; simpa using this
    have hx : x = items2[i] := by have := congrArg Prod.snd hyx; simpa using this
    subst hy hx
    refine wpAny_bind (wpAny_mono (turn i h1 h2 s' hI) (fun r s2 q2 => ?_) fun _ _ x => x)
    obtain ⟨hr, q2⟩ := q2
    subst hr
    cases he : e i with
    | true =>
      wp_walk
      refine ⟨q2, rfl, i + 1, hrest, hlt', ?_⟩
      rw [List.range_succ, List.all_append, hall]
      simp [he]
    | false =>
      have hR := fin s2 q2
      have hf : (List.range (min items.size items2.size)).all e = false := by
        rw [List.all_eq_false]
        exact ⟨i, List.mem_range.mpr hlt', by simp [he]⟩
      rw [hf, Bool.and_false] at hR
      wp_walk
      exact hR
  case fin =>
    rintro ⟨b1, b2⟩ s' ⟨hI, hb', i, hz, hi, hall⟩
    simp only at hb'
    subst hb'
    have hge : min items.size items2.size ≤ i := by
      rcases Nat.lt_or_ge i (items.toList.zip items2.toList).length with h' | h'
      · rw [List.drop_eq_getElem_cons h'] at hz; cases hz
      · exact hZ ▸ h'
    have hi' : i = min items.size items2.size := by omega
    have hR := fin s' hI
    rw [← hi', hall, Bool.and_true] at hR
    wp_walk
    show R (.ok (.ret (.bool (items.size == items2.size)))) _
    exact hR
  case h =>
    exact ⟨h0, rfl, 0, rfl, Nat.zero_le _, rfl⟩
theorem rc_list_eq {l b : Addr} {N : Nat} {e : Nat → Bool} {E : Value → Shared → Prop} {s : Shared} {Q : Value → Shared → Prop} {I : Shared → Prop} (hu : A.units < cLine) (hl : ListB prog w A E l b N e I)
    (fin : ∀ s, I s → Q (.bool (((List.range N).all e))) s) (h : I s) : wpAny (model prog w) A (richCompare .Eq (.ref l) (.ref b)) Q E s := by
  obtain ⟨items, items2, n, n2, dd, dd2, sl, sl2, hl1, hb1, _, _, _⟩ := hl _ h
  refine wpAny_richCompare_same_room (op := .Eq) ⟨_, hl1, rfl⟩ ⟨_, hb1, rfl⟩ F.slot_list_eq (call_here F.slot_list_eq ⟨_, hl1, rfl⟩ F.entry_list_eq (F.args_list_eq_2 _ _) ?_) hu
  exact list_eq (R := wants (fun v s' => v ≠ .notImplemented ∧ Q v s') E) l b N e I hl (fun s' q => ⟨(fun x => nomatch x), fin s' q⟩) h
theorem rc_list_eq_len {l b : Addr} {items items2 : Array Value} {E : Value → Shared → Prop} {s : Shared} {Q : Value → Shared → Prop} (hu : A.units < cLine) (hl : s.heap.IsList l items) (hb : s.heap.IsList b items2) (hne : (items.size != items2.size) = true)
    (h : Q (.bool ( false)) s) : wpAny (model prog w) A (richCompare .Eq (.ref l) (.ref b)) Q E s := by
  obtain ⟨⟨cls, dd, data, sl⟩, ho, hc, n, hd⟩ := id hl
  obtain ⟨⟨cls2, dd2, data2, sl2⟩, ho2, hc2, n2, hd2⟩ := id hb
  simp only at hc hd hc2 hd2
  subst hc hd hc2 hd2
  refine wpAny_richCompare_same_room (op := .Eq) ⟨_, ho, rfl⟩ ⟨_, ho2, rfl⟩ F.slot_list_eq (call_here F.slot_list_eq ⟨_, ho, rfl⟩ F.entry_list_eq (F.args_list_eq_2 _ _) ?_) hu
  exact list_eq_len (R := wants (fun v s' => v ≠ .notImplemented ∧ Q v s') E) ho ho2 hne ⟨(fun x => nomatch x), h⟩
theorem rc_tup_eq {l b : Addr} {items items2 : Array Value} {e : Nat → Bool} {E : Value → Shared → Prop} {s : Shared} {Q : Value → Shared → Prop} {I : Shared → Prop} (hu : A.units < cLine) (hl : s.heap.IsTuple l items) (hb : s.heap.IsTuple b items2)
    (turn : ∀ i (h1 : i < items.size) (h2 : i < items2.size) s, I s → wpAny (model prog w) A.in1 (eqBool items[i] items2[i]) (fun r s' => r = e i ∧ I s') E s)
    (fin : ∀ s, I s → Q (.bool (((items.size == items2.size) && (List.range (min items.size items2.size)).all e))) s) (h : I s) : wpAny (model prog w) A (richCompare .Eq (.ref l) (.ref b)) Q E s := by
  obtain ⟨⟨cls, dd, data, sl⟩, ho, hc, n, hd⟩ := id hl
  obtain ⟨⟨cls2, dd2, data2, sl2⟩, ho2, hc2, n2, hd2⟩ := id hb
  simp only at hc hd hc2 hd2
  subst hc hd hc2 hd2
  refine wpAny_richCompare_same_room (op := .Eq) ⟨_, ho, rfl⟩ ⟨_, ho2, rfl⟩ F.slot_tuple_eq (call_here F.slot_tuple_eq ⟨_, ho, rfl⟩ F.entry_tuple_eq (F.args_tuple_eq_2 _ _) ?_) hu
  exact tuple_eq (R := wants (fun v s' => v ≠ .notImplemented ∧ Q v s') E) l b items items2 n n2 dd dd2 sl sl2 e I turn (fun s' q => ⟨(fun x => nomatch x), fin s' q⟩) ho ho2 h


theorem ne_loopB (l b : Addr) (N : Nat) (e : Nat → Bool) (I : Shared → Prop) (hl : ListB prog w A (fun e s' => R (.error e) s') l b N e I) (k : Nat) :
    ∀ i : Nat, N - i = k → i ≤ N → ∀ s, I s → (∀ s', I s' → R (.ok (.ret (.bool (!(((List.range N).drop i).all e))))) s') →
      wpAny (model prog w) A.in1 (Builtin.«list.__eq__.loop» ⟨[.ref l, .ref b, rawInt i, rawInt 3], []⟩) (FinOf prog w A R) (fun e s' => R (.error e) s') s := by
  induction k with
  | zero =>
    intro i hk hi s h fin
    obtain ⟨items, items2, n, n2, dd, dd2, sl, sl2, hl1, hb1, hs1, hs2, _⟩ := hl _ h
    have hi' : i = N := by omega
    have hR := fin s h
    have hd : (List.range N).drop i = [] := by simp; omega
    rw [hd, List.all_nil] at hR
    obtain ⟨hp, g, d, tk, os⟩ := s
    wp_walk using wpAny_loadPart' hl1, wpAny_loadPart' hb1
    have hi1 : items[((i : Nat) : Int).toNat]? = none := by simp; omega
    have hi2 : items2[((i : Nat) : Int).toNat]? = none := by simp; omega
    rw [hi1, hi2]
    wp_walk using wpAny_loadPart' hl1, wpAny_loadPart' hb1
    show R (.ok (.ret (.bool (items.size != items2.size)))) _
    rw [hs1, hs2]
    simpa using hR
  | succ k ih =>
    intro i hk hi s h fin
    obtain ⟨items, items2, n, n2, dd, dd2, sl, sl2, hl1, hb1, hs1, hs2, turn⟩ := hl _ h
    have hlt : i < items.size := by omega
    have hlt2 : i < items2.size := by omega
    have ht := turn i hlt hlt2
    have hd : (List.range N).drop i = i :: (List.range N).drop (i + 1) := by
      have hN : i < (List.range N).length := by simp; omega
      rw [List.drop_eq_getElem_cons hN] <;> simp
    rw [hd, List.all_cons] at fin
    obtain ⟨hp, g, d, tk, os⟩ := s
    wp_walk using wpAny_loadPart' hl1, wpAny_loadPart' hb1
    have hi1 : items[((i : Nat) : Int).toNat]? = some items[i] := by simp [hlt]
    have hi2 : items2[((i : Nat) : Int).toNat]? = some items2[i] := by simp [hlt2]
    have hc : ((i : Int) + 1) = ((i + 1 : Nat) : Int) := by omega
    rw [hi1, hi2]
    refine wpAny_bind (wpAny_mono ht (fun r s2 h2 => ?_) fun _ _ x => x)
    obtain ⟨hr, h2⟩ := h2
    subst hr
    cases he : e i with
    | true =>
      rw [he, Bool.true_and] at fin
      have hrec := ih (i + 1) (by omega) (by omega) s2 h2 fin
      obtain ⟨hp2, g2, d2, tk2, os2⟩ := s2
      wp_walk
      rw [hc]
      exact ⟨plainId_quiet plain_eq_loop _, codeAny_builtin entry_eq_loop (by
        rw [Around.under_plainId plain_eq_loop _]
        exact hrec)⟩
    | false =>
      rw [he, Bool.false_and] at fin
      have hR := fin s2 h2
      obtain ⟨its, its2, n3, n4, dd3, dd4, sl3, sl4, hl3, hb3, hs3, hs4, _⟩ := hl _ h2
      obtain ⟨hp2, g2, d2, tk2, os2⟩ := s2
      have k1 : i < its.size := by omega
      have k2 : i < its2.size := by omega
      wp_walk using wpAny_loadPart' hl3, wpAny_loadPart' hb3
      have hj1 : its[((i : Nat) : Int).toNat]? = some its[i] := by simp [k1]
      have hj2 : its2[((i : Nat) : Int).toNat]? = some its2[i] := by simp [k2]
      rw [hj1, hj2]
      wp_walk
      simpa using hR
theorem list_ne (l b : Addr) (N : Nat) (e : Nat → Bool) (I : Shared → Prop) (hl : ListB prog w A (fun e s' => R (.error e) s') l b N e I)
    (fin : ∀ s, I s → R (.ok (.ret (.bool (!((List.range N).all e))))) s) {s : Shared} (h : I s) :
    wpAny (model prog w) A.in1 (Builtin.«list.__ne__» ⟨[.ref l, .ref b], []⟩) (FinOf prog w A R) (fun e s' => R (.error e) s') s := by
  obtain ⟨items, items2, n, n2, dd, dd2, sl, sl2, hl1, hb1, hs1, hs2, _⟩ := hl _ h
  have hrec := ne_loopB (A := A) (R := R) l b N e I hl _ 0 rfl (Nat.zero_le _) s h (by simpa using fin)
  obtain ⟨hp, g, d, tk, os⟩ := s
  have f3 := AutoSeq1.sub_list_list
  have hne : ¬ (items.size != items2.size) = true := by simp [hs1, hs2]
  wp_walk using wpAny_loadPart' hl1, wpAny_loadPart' hb1
  exact ⟨plainId_quiet plain_eq_loop _, codeAny_builtin entry_eq_loop (by
    rw [Around.under_plainId plain_eq_loop _]
    exact hrec)⟩
theorem list_ne_len {l b : Addr} {items items2 : Array Value} {n n2 : Nat} {dd dd2 : Option Addr} {sl sl2 : Array (Option Value)} {s : Shared} (hl1 : s.heap.get? l = some { cls := .type "list", dict := dd, data := .seq items n, slots := sl }) (hb1 : s.heap.get? b = some { cls := .type "list", dict := dd2, data := .seq items2 n2, slots := sl2 }) (hne : (items.size != items2.size) = true)
    (h : R (.ok (.ret (.bool (! false)))) s) : wpAny (model prog w) A.in1 (Builtin.«list.__ne__» ⟨[.ref l, .ref b], []⟩) (FinOf prog w A R) (fun e s' => R (.error e) s') s := by
  obtain ⟨hp, g, d, tk, os⟩ := s
  have f3 := AutoSeq1.sub_list_list
  wp_walk using wpAny_loadPart' hl1, wpAny_loadPart' hb1
  exact h
theorem tuple_ne (l b : Addr) (items items2 : Array Value) (n n2 : Nat) (dd dd2 : Option Addr) (sl sl2 : Array (Option Value)) (e : Nat → Bool) (I : Shared → Prop)
    (turn : ∀ i (h1 : i < items.size) (h2 : i < items2.size) s, I s → wpAny (model prog w) A.in1 (eqBool items[i] items2[i]) (fun r s' => r = e i ∧ I s') (fun e s' => R (.error e) s') s)
    (fin : ∀ s, I s → R (.ok (.ret (.bool (!((items.size == items2.size) && (List.range (min items.size items2.size)).all e))))) s) {s : Shared} (hl1 : s.heap.get? l = some { cls := .type "tuple", dict := dd, data := .seq items n, slots := sl }) (hb1 : s.heap.get? b = some { cls := .type "tuple", dict := dd2, data := .seq items2 n2, slots := sl2 }) (h : I s) :
    wpAny (model prog w) A.in1 (Builtin.«tuple.__ne__» ⟨[.ref l, .ref b], []⟩) (FinOf prog w A R) (fun e s' => R (.error e) s') s := by
  have f2 := AutoSeq1.sub_tuple_tuple
  have hZ : (items.toList.zip items2.toList).length = min items.size items2.size := by simp
  have h0 := h
  obtain ⟨hp, g, d, tk, os⟩ := s
  wp_walk using wpAny_loadPart' hl1, wpAny_loadPart' hb1, wpAny_forIn_list _ (fun rest b s' => I s' ∧ b.1 = none ∧ ∃ i, rest = (items.toList.zip items2.toList).drop i ∧ i ≤ min items.size items2.size ∧ (List.range i).all e = true) _
  case turn =>
    rintro ⟨y, x⟩ rest b s' ⟨hI, hb', i, hz, hi, hall⟩
    have hlt : i < (items.toList.zip items2.toList).length := by
      rcases Nat.lt_or_ge i (items.toList.zip items2.toList).length with h' | h'
      · exact h'
      · rw [List.drop_of_length_le h'] at hz; cases hz
    have hlt' : i < min items.size items2.size := hZ ▸ hlt
    have h1 : i < items.size := by omega
    have h2 : i < items2.size := by omega
    rw [List.drop_eq_getElem_cons hlt] at hz
    injection hz with hyx hrest
    have hy : y = items[i] := by have := congrArg Prod.fst hyx; simpa using this
    have hx : x = items2[i] := by have := congrArg Prod.snd hyx; simpa using this
    subst hy hx
    refine wpAny_bind (wpAny_mono (turn i h1 h2 s' hI) (fun r s2 q2 => ?_) fun _ _ x => x)
    obtain ⟨hr, q2⟩ := q2
    subst hr
    cases he : e i with
    | true =>
      wp_walk
      refine ⟨q2, rfl, i + 1, hrest, hlt', ?_⟩
      rw [List.range_succ, List.all_append, hall]
      simp [he]
    | false =>
      have hR := fin s2 q2
      have hf : (List.range (min items.size items2.size)).all e = false := by
        rw [List.all_eq_false]
        exact ⟨i, List.mem_range.mpr hlt', by simp [he]⟩
      rw [hf, Bool.and_false] at hR
      wp_walk
      exact hR
  case fin =>
    rintro ⟨b1, b2⟩ s' ⟨hI, hb', i, hz, hi, hall⟩
    simp only at hb'
    subst hb'
    have hge : min items.size items2.size ≤ i := by
      rcases Nat.lt_or_ge i (items.toList.zip items2.toList).length with h' | h'
      · rw [List.drop_eq_getElem_cons h'] at hz; cases hz
      · exact hZ ▸ h'
    have hi' : i = min items.size items2.size := by omega
    have hR := fin s' hI
    rw [← hi', hall, Bool.and_true] at hR
    wp_walk
    show R (.ok (.ret (.bool (items.size != items2.size)))) _
    exact hR
  case h =>
    exact ⟨h0, rfl, 0, rfl, Nat.zero_le _, rfl⟩
theorem rc_list_ne {l b : Addr} {N : Nat} {e : Nat → Bool} {E : Value → Shared → Prop} {s : Shared} {Q : Value → Shared → Prop} {I : Shared → Prop} (hu : A.units < cLine) (hl : ListB prog w A E l b N e I)
    (fin : ∀ s, I s → Q (.bool (!((List.range N).all e))) s) (h : I s) : wpAny (model prog w) A (richCompare .NotEq (.ref l) (.ref b)) Q E s := by
  obtain ⟨items, items2, n, n2, dd, dd2, sl, sl2, hl1, hb1, _, _, _⟩ := hl _ h
  refine wpAny_richCompare_same_room (op := .NotEq) ⟨_, hl1, rfl⟩ ⟨_, hb1, rfl⟩ F.slot_list_ne (call_here F.slot_list_ne ⟨_, hl1, rfl⟩ F.entry_list_ne (F.args_list_ne_2 _ _) ?_) hu
  exact list_ne (R := wants (fun v s' => v ≠ .notImplemented ∧ Q v s') E) l b N e I hl (fun s' q => ⟨(fun x => nomatch x), fin s' q⟩) h
theorem rc_list_ne_len {l b : Addr} {items items2 : Array Value} {E : Value → Shared → Prop} {s : Shared} {Q : Value → Shared → Prop} (hu : A.units < cLine) (hl : s.heap.IsList l items) (hb : s.heap.IsList b items2) (hne : (items.size != items2.size) = true)
    (h : Q (.bool (! false)) s) : wpAny (model prog w) A (richCompare .NotEq (.ref l) (.ref b)) Q E s := by
  obtain ⟨⟨cls, dd, data, sl⟩, ho, hc, n, hd⟩ := id hl
  obtain ⟨⟨cls2, dd2, data2, sl2⟩, ho2, hc2, n2, hd2⟩ := id hb
  simp only at hc hd hc2 hd2
  subst hc hd hc2 hd2
  refine wpAny_richCompare_same_room (op := .NotEq) ⟨_, ho, rfl⟩ ⟨_, ho2, rfl⟩ F.slot_list_ne (call_here F.slot_list_ne ⟨_, ho, rfl⟩ F.entry_list_ne (F.args_list_ne_2 _ _) ?_) hu
  exact list_ne_len (R := wants (fun v s' => v ≠ .notImplemented ∧ Q v s') E) ho ho2 hne ⟨(fun x => nomatch x), h⟩
theorem rc_tup_ne {l b : Addr} {items items2 : Array Value} {e : Nat → Bool} {E : Value → Shared → Prop} {s : Shared} {Q : Value → Shared → Prop} {I : Shared → Prop} (hu : A.units < cLine) (hl : s.heap.IsTuple l items) (hb : s.heap.IsTuple b items2)
    (turn : ∀ i (h1 : i < items.size) (h2 : i < items2.size) s, I s → wpAny (model prog w) A.in1 (eqBool items[i] items2[i]) (fun r s' => r = e i ∧ I s') E s)
    (fin : ∀ s, I s → Q (.bool (!((items.size == items2.size) && (List.range (min items.size items2.size)).all e))) s) (h : I s) : wpAny (model prog w) A (richCompare .NotEq (.ref l) (.ref b)) Q E s := by
  obtain ⟨⟨cls, dd, data, sl⟩, ho, hc, n, hd⟩ := id hl
  obtain ⟨⟨cls2, dd2, data2, sl2⟩, ho2, hc2, n2, hd2⟩ := id hb
  simp only at hc hd hc2 hd2
  subst hc hd hc2 hd2
  refine wpAny_richCompare_same_room (op := .NotEq) ⟨_, ho, rfl⟩ ⟨_, ho2, rfl⟩ F.slot_tuple_ne (call_here F.slot_tuple_ne ⟨_, ho, rfl⟩ F.entry_tuple_ne (F.args_tuple_ne_2 _ _) ?_) hu
  exact tuple_ne (R := wants (fun v s' => v ≠ .notImplemented ∧ Q v s') E) l b items items2 n n2 dd dd2 sl sl2 e I turn (fun s' q => ⟨(fun x => nomatch x), fin s' q⟩) ho ho2 h

end
end MTQ

/-! MT11B: != by an own __eq__ where the class has no __ne__. -/
namespace MTQ
open PySem PySem.W PySem.SeqAt GQ
section
variable {prog : Program} {w : World} {A : Around} {E : Value → Shared → Prop} {s : Shared} {K : Frag} {x C L f : Addr} {h₀ : Heap} {m : Str → Option Value} {ox : Obj} {od : Option Obj} {b tb : Value}
theorem check_ne {rest : List Value} {Q : Unit → Shared → Prop} (X : K.In s.heap) (I : InstAt s.heap x ox C od) (hm : mroIn K C (.type "object") = some true) (ha : argsOk "object.__ne__" ⟨.ref x :: rest, []⟩) (hq : Q () s) :
    wpAny (model prog w) A (checkBuiltinCall "object.__ne__" ⟨.ref x :: rest, []⟩) Q E s := by
  simp only [checkBuiltinCall, F.cmpKind_ne, F.cmpSplit_ne]
  have T : Looks (model prog w) s.heap (typeOf (.ref x)) (.ref C) := I.cls ▸ (Looks.ld I.at_).andThen .now
  have S : Looks (model prog w) s.heap (isInstance (.ref x) (.type "object")) true := T.andThen (looks_mroIn X hm)
  refine wpAny_bind (S.here ?_)
  wp_step
  cases hsig : Manifest.signature? "object.__ne__" with
  | none => exact wpAny_pure hq
  | some sig =>
    simp only [argsOk, hsig] at ha
    have h2 : Bind.checkArgs "object.__ne__" sig ⟨.ref x :: rest, []⟩ = pure () := ha
    show wpAny _ A (Bind.checkArgs "object.__ne__" sig ⟨.ref x :: rest, []⟩) Q E _
    rw [h2]; exact wpAny_pure hq
theorem body_ne (hu : A.units < cLine) (X : K.In s.heap) (I : InstAt s.heap x ox C od) (hs : findIn K (.ref C) "__eq__" = some (some (.ref f))) (hf : isFn K (.ref f) = true) {Q : Fin → Shared → Prop}
    (hcall : wpAny (model prog w) A (call (.ref f) [.ref x, b]) (fun v s' => ∃ b, v = .bool b ∧ Q (.done (.ret (.bool (!b)))) s') E s) :
    wpAny (model prog w) A (Builtin.«object.__ne__» ⟨[.ref x, b], []⟩) Q E s := by
  unfold Builtin.«object.__ne__»
  repeat (first
    | with_reducible refine wpAny_cRoomFor hu ?_
    | (refine wpAny_bind (m := callSpecialIfBound? (.ref x) (Str.ofString "__eq__") [b])
        (ifBound_K X I hs hf (wpAny_mono hcall (fun r s' hr => by
          obtain ⟨b, rfl, hq⟩ := hr
          repeat (first | exact hq | exact wpAny_pure hq | exact wpAny_truthy_bool hq | (refine wpAny_bind (m := truthy (.bool _)) (wpAny_truthy_bool ?_)) | wp_step)) fun _ _ e => e)))
    | wp_step)
theorem try_ne (hu : A.units + 1 < cLine) (X : K.In s.heap) (I : InstAt s.heap x ox C od) (hm : mroIn K C (.type "object") = some true) (hn : findIn K (.ref C) "__ne__" = some (some (.builtin "object.__ne__"))) (hs : findIn K (.ref C) "__eq__" = some (some (.ref f))) (hf : isFn K (.ref f) = true) {Q : Option Value → Shared → Prop}
    (hcall : wpAny (model prog w) A.in1 (call (.ref f) [.ref x, b]) (fun v s' => ∃ b, v = .bool b ∧ Q (some (.bool (!b))) s') E s) :
    wpAny (model prog w) A (tryCompare (.ref x) "__ne__" b) Q E s := by
  have S := F.cmp_object.ne
  unfold tryCompare
  have go : wpAny (model prog w) A (call (.builtin "object.__ne__") [.ref x, b]) (fun v s' => ∃ c, v = .bool c ∧ Q (some (.bool c)) s') E s := by
    refine wpAny_call (codeAny_call_builtin S.plain F.cmpEntry_ne (check_ne X I hm (F.cmpArgs_ne _ _) (body_ne (by exact hu) X I hs hf (wpAny_mono hcall (fun v s' hv => ?_) fun _ _ e => e))))
    obtain ⟨c, rfl, hq⟩ := hv
    exact ⟨c, rfl, ⟨_, rfl, hq⟩⟩
  simp only [callSpecialIfBound?, bindSpecialIfBound?]
  refine wpAny_bind (wpAny_holding (wpAny_bind (wpAny_bind (wpAny_bind (I.type.here ((looks_findIn X hn).here ?_))))))
  refine wpAny_bind (wpAny_askSetting (wpAny_ite ?_))
  have fin : wpAny (model prog w) A (call (.builtin "object.__ne__") ([.ref x] ++ [b]) >>= fun v => pure (some v)) (fun r s' => ∃ c, r = some (.bool c) ∧ Q (some (.bool c)) s') E s :=
    wpAny_bind (wpAny_mono go (fun v s' ⟨c, e, h'⟩ => wpAny_pure ⟨c, by rw [e], h'⟩) fun _ _ h' => h')
  simp only [S.bind]
  have fin2 : wpAny (model prog w) A (call (.builtin "object.__ne__") ([.ref x] ++ [b]) >>= fun v => pure (some v)) (fun a s' => wpAny (model prog w) A (match a with
      | some .notImplemented | none => pure none
      | some v => pure (some v)) Q E s') E s := wpAny_mono fin (fun r s' ⟨c, e, h'⟩ => by subst e; exact wpAny_pure h') fun _ _ h' => h'
  split
  · exact wpAny_bind (wpAny_pure (wpAny_pure fin2))
  · exact wpAny_tryCatch (wpAny_bind (wpAny_pure (wpAny_pure fin2)))
theorem ne_K {y : Addr} {oy : Obj} {Q : Value → Shared → Prop} (hu : A.units + 1 < cLine) (X : K.In s.heap) (I : InstAt s.heap x ox C od) (hb : Looks (model prog w) s.heap (typeOf b) tb) (hnf : notFirst K C tb = true)
    (hm : mroIn K C (.type "object") = some true) (hn : findIn K (.ref C) "__ne__" = some (some (.builtin "object.__ne__"))) (hs : findIn K (.ref C) "__eq__" = some (some (.ref f))) (hf : isFn K (.ref f) = true)
    (hcall : wpAny (model prog w) A.in1 (call (.ref f) [.ref x, b]) (fun v s' => ∃ b, v = .bool b ∧ Q (.bool (!b)) s') E s) : wpAny (model prog w) A (richCompare .NotEq (.ref x) b) Q E s := by
  have one : wpAny (model prog w) A (tryCompare (.ref x) (cmpInfo .NotEq).2.1 b) (fun r s' => ∃ v, r = some v ∧ Q v s') E s :=
    try_ne hu X I hm hn hs hf (wpAny_mono hcall (fun v s' ⟨c, e, q⟩ => ⟨c, e, _, rfl, q⟩) fun _ _ e => e)
  unfold richCompare
  simp only [oneThing_ref]
  refine wpAny_holding (wpAny_bind (wpAny_cRoomFor (Nat.lt_of_succ_lt hu) ?_))
  refine wpAny_bind (I.type.here (wpAny_bind (hb.here ?_)))
  split
  · rename_i q
    have e : subIn K tb (.ref C) = some false := by
      rcases Bool.or_eq_true_iff.mp hnf with e | e
      · rw [beq_iff_eq.mp e] at q; simp at q
      · exact beq_iff_eq.mp e
    refine wpAny_bind ((looks_subIn X e).here ?_)
    simp only [Bool.false_eq_true, if_false]
    refine wpAny_bind (wpAny_mono one (fun r s' z => ?_) fun _ _ e => e)
    obtain ⟨v, rfl, hq⟩ := z
    exact wpAny_pure hq
  · refine wpAny_bind (wpAny_pure ?_)
    simp only [Bool.false_eq_true, if_false]
    refine wpAny_bind (wpAny_mono one (fun r s' z => ?_) fun _ _ e => e)
    obtain ⟨v, rfl, hq⟩ := z
    exact wpAny_pure hq
end
end MTQ

/-! MT11C: == and != of the little language's values: scalars, tuples, lists, rooms. -/
namespace MT
open PySem PySem.Spec PyProof.Rows L2 StX
variable {g : G} {ρ ρ' ρ1 ρ2 : List Addr} {H H' H1 H2 : Hp} {m m' : Store} {ε ε' : EnvD} {σ σ' : L2.St} {W : Wx} {r : Res D} {Q Q' : VK} {X : Cx} {a b c e o : Expr} {pa pb pc pe po : Pg} {pos apos : Pos} {D0 : Ends} {es : List Expr} {ps : List Pg} {f : Fn} {k j : Nat} {x mm : Str} {p' : Pos}

def eqL (f : D → D → Option Bool) : List D → List D → Option Bool
  | x :: xs, y :: ys => match f x y, eqL f xs ys with
    | some a, some b => some (a && b)
    | _, _ => none
  | [], [] => some true
  | [], _ :: _ => some false
  | _ :: _, [] => some false
def eqD (rm : Bool) (m : Store) : Nat → D → D → Option Bool
  | 0, _, _ => none
  | n + 1, x, y => if scalD x y = true then some (eqS x y) else match x, y with
    | .tup xs, .tup ys => eqL (eqD rm m n) xs ys
    | .room a, .room b => if rm = true then some (decide (a = b)) else none
    | x, y => match lsD m x, lsD m y with
      | some xs, some ys => eqL (eqD rm m n) xs ys
      | _, _ => none
def eqAt (f : D → D → Option Bool) (xs ys : List D) (i : Nat) : Bool := match xs[i]?, ys[i]? with
  | some x, some y => (f x y).getD false
  | _, _ => false
theorem all_shift (e : Nat → Bool) (n : Nat) : (List.range (n + 1)).all e = (e 0 && (List.range n).all fun i => e (i + 1)) := by
  rw [List.range_succ_eq_map, List.all_cons, List.all_map]
  rfl
theorem eqL_spec {f : D → D → Option Bool} : ∀ {xs ys : List D} {r : Bool}, eqL f xs ys = some r →
    (∀ (i : Nat) (x y : D), xs[i]? = some x → ys[i]? = some y → ∃ b, f x y = some b) ∧ r = ((xs.length == ys.length) && (List.range (min xs.length ys.length)).all (eqAt f xs ys))
  | [], [], r, h => ⟨fun i x y hx => by simp at hx, by cases h; rfl⟩
  | [], y :: ys, r, h => ⟨fun i x y hx => by simp at hx, by cases h; rfl⟩
  | x :: xs, [], r, h => ⟨fun i x y _ hy => by simp at hy, by cases h; rfl⟩
  | x :: xs, y :: ys, r, h => by
    unfold eqL at h
    cases h1 : f x y with
    | none => simp [h1] at h
    | some a =>
      cases h2 : eqL f xs ys with
      | none => simp [h1, h2] at h
      | some b =>
        simp only [h1, h2, Option.some.injEq] at h
        obtain ⟨k1, k2⟩ := eqL_spec h2
        refine ⟨fun i x' y' hx hy => ?_, ?_⟩
        · cases i with
          | zero => simp at hx hy; subst hx; subst hy; exact ⟨a, h1⟩
          | succ i => simp at hx hy; exact k1 i x' y' hx hy
        · rw [← h, k2]
          have e0 : eqAt f (x :: xs) (y :: ys) 0 = a := by simp [eqAt, h1]
          have e1 : (fun i => eqAt f (x :: xs) (y :: ys) (i + 1)) = eqAt f xs ys := by
            funext i
            simp [eqAt]
          rw [show min (x :: xs).length (y :: ys).length = min xs.length ys.length + 1 from by simp [Nat.add_min_add_right], all_shift, e0, e1]
          simp only [List.length_cons]
          rw [show (xs.length + 1 == ys.length + 1) = (xs.length == ys.length) from by simp]
          cases a <;> cases (xs.length == ys.length) <;> rfl
/-- the list that a value is -/
theorem lsD_list {pins : List (Addr × Obj)} {s : Shared} {d : D} {v : V} {u : Value} {ds : List D} (hK : X.K = g.K) (I : Inv X pins σ H s) (sm : RelS g ρ m H) (dv : DenV g ρ H d v) (rv : RelV v u) (h : lsD m d = some ds) :
    ∃ p its vs, u = .ref p ∧ s.heap.IsList p its.toArray ∧ Vals vs its ∧ DenL g ρ H ds vs := by
  cases dv with
  | @loc n p hp =>
    simp only [lsD] at h
    split at h
    · rename_i xs hc
      cases h
      obtain ⟨_, e1, _, vs, hv, l⟩ := sm.cell (.loc hp) hc
      cases e1
      obtain ⟨its, r, pl, _⟩ := I.list (SqL.of hv)
      exact ⟨p, its, vs, rv, pl.isList, r, l⟩
    · cases h
  | @fl p ds vs hp l =>
    cases h
    obtain ⟨its, r, pl, _⟩ := I.list hp.sq
    exact ⟨p, its, vs, rv, pl.isList, r, l⟩
  | _ => cases h
theorem isList_det {h : Heap} {p : Addr} {a b : Array Value} (x : h.IsList p a) (y : h.IsList p b) : a = b := by
  obtain ⟨o, e, _, n, d⟩ := x
  obtain ⟨o', e', _, n', d'⟩ := y
  rw [e] at e'; cases e'; rw [d] at d'; cases d'; rfl
theorem isTuple_det {h : Heap} {p : Addr} {a b : Array Value} (x : h.IsTuple p a) (y : h.IsTuple p b) : a = b := by
  obtain ⟨o, e, _, n, d⟩ := x
  obtain ⟨o', e', _, n', d'⟩ := y
  rw [e] at e'; cases e'; rw [d] at d'; cases d'; rfl
theorem eqL_same {f : D → D → Option Bool} : ∀ {ds es : List D} {vs ws : List V} {us : List Value} {r : Bool}, DenL g ρ H ds vs → DenL g ρ H es ws → Vals vs us → Vals ws us → eqL f ds es = some r →
    (∀ (d e : D) (x y : V) (u : Value) (r : Bool), DenV g ρ H d x → DenV g ρ H e y → RelV x u → RelV y u → f d e = some r → r = true) → r = true
  | _, _, _, _, _, _, .nil, .nil, _, _, h, _ => by cases h; rfl
  | _, _, _, _, _, _, .nil, .cons _ _, r1, r2, _, _ => by cases r1; cases r2
  | _, _, _, _, _, _, .cons _ _, .nil, r1, r2, _, _ => by cases r2; cases r1
  | d :: ds, e :: es, _, _, _, r, .cons a la, .cons b lb, .cons r1 t1, .cons r2 t2, h, ih => by
    unfold eqL at h
    cases h1 : f d e with
    | none => simp [h1] at h
    | some p =>
      cases h2 : eqL f ds es with
      | none => simp [h1, h2] at h
      | some q =>
        simp only [h1, h2, Option.some.injEq] at h
        have e1 := ih _ _ _ _ _ _ a b r1 r2 h1
        have e2 := eqL_same la lb t1 t2 h2 ih
        subst e1; subst e2
        exact h.symm
theorem str_inj {ls ls' : List Str} (h : ls.map V.str = ls'.map V.str) : ls = ls' := by
  induction ls generalizing ls' with
  | nil => cases ls' with
    | nil => rfl
    | cons a l => cases h
  | cons a l ih => cases ls' with
    | nil => cases h
    | cons b l' =>
      simp only [List.map_cons, List.cons.injEq, V.str.injEq] at h
      rw [h.1, ih h.2]
theorem vals_strs {ls : List Str} {ls' : List Str} {us : List Value} (a : Vals (ls.map V.str) us) (b : Vals (ls'.map V.str) us) : ls = ls' := by
  induction ls generalizing ls' us with
  | nil =>
    cases a
    cases ls' with
    | nil => rfl
    | cons => cases b
  | cons z l ih =>
    cases ls' with
    | nil => cases b; cases a
    | cons z' l' =>
      cases a with
      | cons r1 t1 =>
        cases b with
        | cons r2 t2 =>
          obtain ⟨t, e⟩ := r1
          obtain ⟨t', e'⟩ := r2
          rw [e] at e'
          cases e'
          rw [ih t1 t2]
theorem room_det {pins : List (Addr × Obj)} {s : Shared} {p : Addr} {ls ls' : List Str} (hK : X.K = g.K) (I : Inv X pins σ H s) (a : RoomAt g H p ls) (b : RoomAt g H p ls') : ls = ls' := by
  obtain ⟨dx, t, q, o, h1, h2, _⟩ := a
  obtain ⟨dx', t', q', o', h1', h2', _⟩ := b
  rw [h1] at h1'
  cases h1'
  rw [← hK] at h2 h2'
  obtain ⟨its, r, e, z⟩ := I.tuple h2
  obtain ⟨its2, r2, e2, z2⟩ := I.tuple h2'
  have := isTuple_det e e2
  have : its = its2 := by simpa using this
  subst this
  exact vals_strs r r2
theorem eq_same {rm : Bool} {pins : List (Addr × Obj)} {s : Shared} (hK : X.K = g.K) (I : Inv X pins σ H s) (sm : RelS g ρ m H) : ∀ (n : Nat) (d e : D) (x y : V) (u : Value) (r : Bool), DenV g ρ H d x → DenV g ρ H e y → RelV x u → RelV y u → eqD rm m n d e = some r → r = true
  | 0, _, _, _, _, _, _, _, _, _, _, h => by cases h
  | n + 1, d, e, x, y, u, r, dd, de, rx, ry, h => by
    unfold eqD at h
    split at h
    · rename_i hs
      cases dd <;> cases de <;> first | exact (Bool.false_ne_true hs).elim | skip
      all_goals
        first
        | (cases h; rfl)
        | (obtain ⟨t, e1⟩ := rx; obtain ⟨t', e2⟩ := ry; rw [e1] at e2; cases e2; cases h; simp [eqS])
        | (obtain ⟨t, e1⟩ := rx; obtain ⟨t', e2⟩ := ry; rw [e1] at e2; cases e2)
        | (obtain ⟨t, e1⟩ := rx; rw [e1] at ry; cases ry)
        | (obtain ⟨t, e1⟩ := ry; rw [e1] at rx; cases rx)
        | (cases rx; cases ry; cases h; simp [eqS])
        | (cases rx; cases ry)
    · split at h
      · rename_i xs ys
        cases dd with
        | @tup p _ vs hp l =>
          cases de with
          | @tup p2 _ vs2 hp2 l2 =>
            cases (show u = Value.ref p from rx)
            cases (show Value.ref p = Value.ref p2 from ry)
            rw [← hK] at hp hp2
            obtain ⟨its, r1, e1, _⟩ := I.tuple hp
            obtain ⟨its2, r2, e2, _⟩ := I.tuple hp2
            have := isTuple_det e1 e2
            have : its = its2 := by simpa using this
            subst this
            exact eqL_same l l2 r1 r2 h (eq_same hK I sm n)
      · rename_i a b
        cases dd with
        | @room p _ h1 =>
          cases de with
          | @room p2 _ h2 =>
            cases (show u = Value.ref p from rx)
            cases (show Value.ref p = Value.ref p2 from ry)
            have := room_det hK I h1 h2
            subst this
            split at h
            · cases h; simp
            · cases h
      · split at h
        · rename_i xs ys hx hy
          obtain ⟨p, its, vs, e1, l1, r1, d1⟩ := lsD_list hK I sm dd rx hx
          obtain ⟨p2, its2, vs2, e2, l2, r2, d2⟩ := lsD_list hK I sm de ry hy
          subst e1
          cases e2
          have := isList_det l1 l2
          have : its = its2 := by simpa using this
          subst this
          exact eqL_same d1 d2 r1 r2 h (eq_same hK I sm n)
        · cases h

/-! ### runs -/
structure RoomEq (P : Program) (w : World) (mg : Str → Option Value) (base : Heap) (g : G) (k : Nat) : Prop where
  ex : ∃ (ad : Addr) (f : Fn), PySem.W.findIn g.K (.ref g.CR) "__eq__" = some (some (.ref ad)) ∧ PySem.W.isFn g.K (.ref ad) = true ∧ FnR P w g.K mg base CX0 k ad (spOf g f) ∧ ∀ a b m, f [.room a, .room b] m = .ok (.bl (decide (a = b))) m
  ne : PySem.W.findIn g.K (.ref g.CR) "__ne__" = some (some (.builtin "object.__ne__"))
  ob : PySem.W.mroIn g.K g.CR (.type "object") = some true
def LB (X : Cx) (pins : List (Addr × Obj)) (σ : L2.St) (g : G) (ρ : List Addr) (H : Hp) (m : Store) (s' : Shared) : Prop := ∃ ρ' H', Inv X pins σ H' s' ∧ Up g ρ H ρ' H' ∧ RelS g ρ' m H'
theorem LB.up {pins : List (Addr × Obj)} {s' : Shared} (u : Up g ρ H ρ' H') (h : LB X pins σ g ρ' H' m s') : LB X pins σ g ρ H m s' := let ⟨a, b, c, d, e⟩ := h; ⟨a, b, c, u.trans d, e⟩
def EqB (X : Cx) (g : G) (rm : Bool) (n k : Nat) : Prop := ∀ (A : Around) (pins : List (Addr × Obj)) (s : Shared) (σ : L2.St) (ρ : List Addr) (H : Hp) (m : Store) (d e : D) (x y : V) (u v : Value) (r : Bool), Sub X k A → Inv X pins σ H s → RelS g ρ m H → DenV g ρ H d x → DenV g ρ H e y → RelV x u → RelV y v → eqD rm m n d e = some r →
  wpAny (model X.prog X.w) A (eqBool u v) (fun b s' => b = r ∧ LB X pins σ g ρ H m s') X.xe s
theorem DenL.get_arr {ds : List D} {vs : List V} {its : List Value} (l : DenL g ρ H ds vs) (r : Vals vs its) {i : Nat} (h : i < its.toArray.size) : ∃ d v, ds[i]? = some d ∧ vs[i]? = some v ∧ DenV g ρ H d v ∧ RelV v its.toArray[i] := by
  have h1 : i < vs.length := by rw [r.length]; simpa using h
  have h2 : i < ds.length := by rw [l.length]; exact h1
  obtain ⟨v, e1, e2⟩ := l.get (List.getElem?_eq_getElem h2)
  obtain ⟨u, e3, e4⟩ := r.get e1
  refine ⟨_, v, List.getElem?_eq_getElem h2, e1, e2, ?_⟩
  have h3 : i < its.length := by simpa using h
  rw [List.getElem?_eq_getElem h3] at e3
  cases e3
  simpa using e4
/-- the turn of a loop over two sequences of values -/
theorem turnB {rm : Bool} {n : Nat} {A : Around} {pins : List (Addr × Obj)} {s' : Shared} {ds es : List D} {vs ws : List V} {us1 us2 : List Value} (ih : EqB X g rm n k) (sb : Sub X (k + 1) A) (I : Inv X pins σ H s') (sm : RelS g ρ m H) (l1 : DenL g ρ H ds vs) (l2 : DenL g ρ H es ws) (r1 : Vals vs us1) (r2 : Vals ws us2)
    (hd : ∀ (i : Nat) (x y : D), ds[i]? = some x → es[i]? = some y → ∃ b, eqD rm m n x y = some b) (i : Nat) (h1 : i < us1.toArray.size) (h2 : i < us2.toArray.size) :
    wpAny (model X.prog X.w) A.in1 (eqBool us1.toArray[i] us2.toArray[i]) (fun b s2 => b = eqAt (eqD rm m n) ds es i ∧ LB X pins σ g ρ H m s2) X.xe s' := by
  obtain ⟨d, v, e1, _, d1, q1⟩ := l1.get_arr r1 h1
  obtain ⟨e, w, e2, _, d2, q2⟩ := l2.get_arr r2 h2
  obtain ⟨b, hb⟩ := hd i d e e1 e2
  have : eqAt (eqD rm m n) ds es i = b := by simp [eqAt, e1, e2, hb]
  rw [this]
  exact ih A.in1 pins s' σ ρ H m d e v w _ _ b sb.in1 I sm d1 d2 q1 q2 hb


theorem rc_eq {rm : Bool} {n kE : Nat} (hK : X.K = g.K) (hR : rm = true → RoomEq X.prog X.w X.mg X.base g kE) (hk : kE ≤ k) (ih : EqB X g rm n k) {A : Around} {pins : List (Addr × Obj)} {s : Shared} {d e : D} {x y : V} {u v : Value} {r : Bool}
    (sb : Sub X (k + 1) A) (I : Inv X pins σ H s) (sm : RelS g ρ m H) (dd : DenV g ρ H d x) (de : DenV g ρ H e y) (rx : RelV x u) (ry : RelV y v) (hs : scalD d e = false) (h : eqD rm m (n + 1) d e = some r) :
    wpAny (model X.prog X.w) A (richCompare .Eq u v) (fun w s' => w = .bool ( r) ∧ LB X pins σ g ρ H m s') X.xe s := by
  unfold eqD at h
  rw [if_neg (by rw [hs]; exact Bool.false_ne_true)] at h
  split at h
  · rename_i xs ys
    cases dd with
    | @tup p _ vs hp l1 =>
      cases de with
      | @tup p2 _ ws hp2 l2 =>
        cases (show u = Value.ref p from rx)
        cases (show v = Value.ref p2 from ry)
        have hp' := hp
        have hp2' := hp2
        rw [← hK] at hp' hp2'
        obtain ⟨its, r1, e1, _⟩ := I.tuple hp'
        obtain ⟨its2, r2, e2, _⟩ := I.tuple hp2'
        obtain ⟨k1, k2⟩ := eqL_spec h
        refine MTQ.rc_tup_eq (e := eqAt (eqD rm m n) xs ys) (I := LB X pins σ g ρ H m) sb.room.units0 e1 e2 (fun i h1 h2 s' q => ?_) (fun s' q => ⟨?_, q⟩) ⟨ρ, H, I, .refl, sm⟩
        · obtain ⟨ρ', H', I', u', sm'⟩ := q
          exact wpAny_mono (turnB ih sb I' sm' (l1.up u') (l2.up u') r1 r2 k1 i h1 h2) (fun b s2 z => ⟨z.1, z.2.up u'⟩) fun _ _ z => z
        · have z1 : its.toArray.size = xs.length := by rw [List.size_toArray, ← r1.length, ← l1.length]
          have z2 : its2.toArray.size = ys.length := by rw [List.size_toArray, ← r2.length, ← l2.length]
          rw [z1, z2, k2]
  · rename_i a b
    split at h
    · rename_i hrm
      cases h
      have R := hR hrm
      cases dd with
      | @room p _ h1 =>
        cases de with
        | @room p2 _ h2 =>
          cases (show u = Value.ref p from rx)
          cases (show v = Value.ref p2 from ry)
          obtain ⟨ad, f, hf1, hf2, F, hf⟩ := R.ex
          obtain ⟨ox, od, J⟩ := room_inst I h1
          obtain ⟨ox', od', J'⟩ := room_inst I h2
          obtain ⟨mm, hF⟩ := I.fr
          rw [← hK] at hf1 hf2 F
          have e0 : ∀ {B : Around}, B.frames = X.A.frames → Env0 X.prog X.w X.K X.mg X.base B X.stack s H := fun {B} hB => by
            have e := I.env0
            exact ⟨by rw [hB]; exact e.frames, e.mod, e.bs, e.bsz, e.funs, e.frf, e.hok, e.bare⟩
          have hsp : spOf g f [.ref p, .ref p2] H (fun v H' => v = .bl (decide (a = b)) ∧ ∃ ρ', Up g ρ H ρ' H' ∧ RelS g ρ' m H') E0 := by
            refine ⟨ρ, m, [.room a, .room b], sm, .cons (.room h1) (.cons (.room h2) .nil), ?_⟩
            rw [hf]
            intro ρ' H' v u s' dv
            cases dv
            exact ⟨rfl, ρ', u, s'⟩
          refine PySem.W.cmp_K (op := .Eq) (tb := .ref g.CR) sb.room.units0 hF I.ok.mod.kin J J'.type (by simp [PySem.W.notFirst]) hf1 hf2 ?_
          refine wpAny_mono (run_room (us := [.ref p, .ref p2]) (vs := [.ref p, .ref p2]) F ((sb.room.mono (by omega : kE ≤ k + 1))) (e0 sb.fr) I (.cons rfl (.cons rfl .nil)) hsp) (fun w s' z => ?_) fun _ _ z => z
          obtain ⟨v', H', I', rv', ev, ρ', u', sm'⟩ := z
          subst ev
          cases rv'
          exact ⟨rfl, ρ', H', I', u', sm'⟩
    · cases h
  · split at h
    · rename_i xs ys hx hy
      obtain ⟨p, its, vs, e1, l1, r1, d1⟩ := lsD_list hK I sm dd rx hx
      obtain ⟨p2, its2, ws, e2, l2, r2, d2⟩ := lsD_list hK I sm de ry hy
      subst e1
      subst e2
      obtain ⟨k1, k2⟩ := eqL_spec h
      by_cases hlen : xs.length = ys.length
      · refine MTQ.rc_list_eq (N := xs.length) (e := eqAt (eqD rm m n) xs ys) (I := LB X pins σ g ρ H m) sb.room.units0 (fun s' q => ?_) (fun s' q => ⟨?_, q⟩) ⟨ρ, H, I, .refl, sm⟩
        · obtain ⟨ρ', H', I', u', sm'⟩ := q
          obtain ⟨p3, its3, vs3, e3, l3, r3, d3⟩ := lsD_list hK I' sm' (dd.up u') rx hx
          obtain ⟨p4, its4, ws4, e4, l4, r4, d4⟩ := lsD_list hK I' sm' (de.up u') ry hy
          cases e3
          cases e4
          obtain ⟨⟨c3, dd3, da3, sl3⟩, o3, hc3, n3, hd3⟩ := l3
          obtain ⟨⟨c4, dd4, da4, sl4⟩, o4, hc4, n4, hd4⟩ := l4
          simp only at hc3 hd3 hc4 hd4
          subst hc3 hd3 hc4 hd4
          refine ⟨its3.toArray, its4.toArray, n3, n4, dd3, dd4, sl3, sl4, o3, o4, ?_, ?_, fun i h1 h2 => ?_⟩
          · rw [List.size_toArray, ← r3.length, ← d3.length]
          · rw [List.size_toArray, ← r4.length, ← d4.length]; exact hlen.symm
          · exact wpAny_mono (turnB ih sb I' sm' d3 d4 r3 r4 k1 i h1 h2) (fun b s2 z => ⟨z.1, z.2.up u'⟩) fun _ _ z => z
        · rw [k2, hlen]
          simp
      · refine MTQ.rc_list_eq_len sb.room.units0 l1 l2 ?_ ⟨?_, ρ, H, I, .refl, sm⟩
        · have z1 : its.toArray.size = xs.length := by rw [List.size_toArray, ← r1.length, ← d1.length]
          have z2 : its2.toArray.size = ys.length := by rw [List.size_toArray, ← r2.length, ← d2.length]
          rw [z1, z2]
          simpa using hlen
        · rw [k2, show (xs.length == ys.length) = false from by simpa using hlen, Bool.false_and]
    · cases h


theorem rc_ne {rm : Bool} {n kE : Nat} (hK : X.K = g.K) (hR : rm = true → RoomEq X.prog X.w X.mg X.base g kE) (hk : kE ≤ k) (ih : EqB X g rm n k) {A : Around} {pins : List (Addr × Obj)} {s : Shared} {d e : D} {x y : V} {u v : Value} {r : Bool}
    (sb : Sub X (k + 1) A) (I : Inv X pins σ H s) (sm : RelS g ρ m H) (dd : DenV g ρ H d x) (de : DenV g ρ H e y) (rx : RelV x u) (ry : RelV y v) (hs : scalD d e = false) (h : eqD rm m (n + 1) d e = some r) :
    wpAny (model X.prog X.w) A (richCompare .NotEq u v) (fun w s' => w = .bool (! r) ∧ LB X pins σ g ρ H m s') X.xe s := by
  unfold eqD at h
  rw [if_neg (by rw [hs]; exact Bool.false_ne_true)] at h
  split at h
  · rename_i xs ys
    cases dd with
    | @tup p _ vs hp l1 =>
      cases de with
      | @tup p2 _ ws hp2 l2 =>
        cases (show u = Value.ref p from rx)
        cases (show v = Value.ref p2 from ry)
        have hp' := hp
        have hp2' := hp2
        rw [← hK] at hp' hp2'
        obtain ⟨its, r1, e1, _⟩ := I.tuple hp'
        obtain ⟨its2, r2, e2, _⟩ := I.tuple hp2'
        obtain ⟨k1, k2⟩ := eqL_spec h
        refine MTQ.rc_tup_ne (e := eqAt (eqD rm m n) xs ys) (I := LB X pins σ g ρ H m) sb.room.units0 e1 e2 (fun i h1 h2 s' q => ?_) (fun s' q => ⟨?_, q⟩) ⟨ρ, H, I, .refl, sm⟩
        · obtain ⟨ρ', H', I', u', sm'⟩ := q
          exact wpAny_mono (turnB ih sb I' sm' (l1.up u') (l2.up u') r1 r2 k1 i h1 h2) (fun b s2 z => ⟨z.1, z.2.up u'⟩) fun _ _ z => z
        · have z1 : its.toArray.size = xs.length := by rw [List.size_toArray, ← r1.length, ← l1.length]
          have z2 : its2.toArray.size = ys.length := by rw [List.size_toArray, ← r2.length, ← l2.length]
          rw [z1, z2, k2]
  · rename_i a b
    split at h
    · rename_i hrm
      cases h
      have R := hR hrm
      cases dd with
      | @room p _ h1 =>
        cases de with
        | @room p2 _ h2 =>
          cases (show u = Value.ref p from rx)
          cases (show v = Value.ref p2 from ry)
          obtain ⟨ad, f, hf1, hf2, F, hf⟩ := R.ex
          obtain ⟨ox, od, J⟩ := room_inst I h1
          obtain ⟨ox', od', J'⟩ := room_inst I h2
          obtain ⟨mm, hF⟩ := I.fr
          rw [← hK] at hf1 hf2 F
          have e0 : ∀ {B : Around}, B.frames = X.A.frames → Env0 X.prog X.w X.K X.mg X.base B X.stack s H := fun {B} hB => by
            have e := I.env0
            exact ⟨by rw [hB]; exact e.frames, e.mod, e.bs, e.bsz, e.funs, e.frf, e.hok, e.bare⟩
          have hsp : spOf g f [.ref p, .ref p2] H (fun v H' => v = .bl (decide (a = b)) ∧ ∃ ρ', Up g ρ H ρ' H' ∧ RelS g ρ' m H') E0 := by
            refine ⟨ρ, m, [.room a, .room b], sm, .cons (.room h1) (.cons (.room h2) .nil), ?_⟩
            rw [hf]
            intro ρ' H' v u s' dv
            cases dv
            exact ⟨rfl, ρ', u, s'⟩
          have hne := R.ne
          have hob := R.ob
          rw [← hK] at hne hob
          refine MTQ.ne_K (tb := .ref g.CR) (y := p2) (oy := ox') sb.in1.room.units0 I.kIn J J'.type (by simp [PySem.W.notFirst]) hob hne hf1 hf2 ?_
          refine wpAny_mono (run_room (us := [.ref p, .ref p2]) (vs := [.ref p, .ref p2]) F ((sb.in1.room.mono hk)) (e0 sb.in1.fr) I (.cons rfl (.cons rfl .nil)) hsp) (fun w s' z => ?_) fun _ _ z => z
          obtain ⟨v', H', I', rv', ev, ρ', u', sm'⟩ := z
          subst ev
          cases rv'
          exact ⟨_, rfl, rfl, ρ', H', I', u', sm'⟩
    · cases h
  · split at h
    · rename_i xs ys hx hy
      obtain ⟨p, its, vs, e1, l1, r1, d1⟩ := lsD_list hK I sm dd rx hx
      obtain ⟨p2, its2, ws, e2, l2, r2, d2⟩ := lsD_list hK I sm de ry hy
      subst e1
      subst e2
      obtain ⟨k1, k2⟩ := eqL_spec h
      by_cases hlen : xs.length = ys.length
      · refine MTQ.rc_list_ne (N := xs.length) (e := eqAt (eqD rm m n) xs ys) (I := LB X pins σ g ρ H m) sb.room.units0 (fun s' q => ?_) (fun s' q => ⟨?_, q⟩) ⟨ρ, H, I, .refl, sm⟩
        · obtain ⟨ρ', H', I', u', sm'⟩ := q
          obtain ⟨p3, its3, vs3, e3, l3, r3, d3⟩ := lsD_list hK I' sm' (dd.up u') rx hx
          obtain ⟨p4, its4, ws4, e4, l4, r4, d4⟩ := lsD_list hK I' sm' (de.up u') ry hy
          cases e3
          cases e4
          obtain ⟨⟨c3, dd3, da3, sl3⟩, o3, hc3, n3, hd3⟩ := l3
          obtain ⟨⟨c4, dd4, da4, sl4⟩, o4, hc4, n4, hd4⟩ := l4
          simp only at hc3 hd3 hc4 hd4
          subst hc3 hd3 hc4 hd4
          refine ⟨its3.toArray, its4.toArray, n3, n4, dd3, dd4, sl3, sl4, o3, o4, ?_, ?_, fun i h1 h2 => ?_⟩
          · rw [List.size_toArray, ← r3.length, ← d3.length]
          · rw [List.size_toArray, ← r4.length, ← d4.length]; exact hlen.symm
          · exact wpAny_mono (turnB ih sb I' sm' d3 d4 r3 r4 k1 i h1 h2) (fun b s2 z => ⟨z.1, z.2.up u'⟩) fun _ _ z => z
        · rw [k2, hlen]
          simp
      · refine MTQ.rc_list_ne_len sb.room.units0 l1 l2 ?_ ⟨?_, ρ, H, I, .refl, sm⟩
        · have z1 : its.toArray.size = xs.length := by rw [List.size_toArray, ← r1.length, ← d1.length]
          have z2 : its2.toArray.size = ys.length := by rw [List.size_toArray, ← r2.length, ← d2.length]
          rw [z1, z2]
          simpa using hlen
        · rw [k2, show (xs.length == ys.length) = false from by simpa using hlen, Bool.false_and]
    · cases h


theorem scal_flat {d e : D} {x y : V} (dd : DenV g ρ H d x) (de : DenV g ρ H e y) (h : scalD d e = true) : flatV x = true ∧ flatV y = true ∧ eqV x y = eqS d e := by
  cases dd <;> cases de <;> first | exact (Bool.false_ne_true h).elim | exact ⟨rfl, rfl, rfl⟩
theorem eqD_ref {rm : Bool} {n : Nat} {d e : D} {x y : V} {r : Bool} (dd : DenV g ρ H d x) (de : DenV g ρ H e y) (hs : scalD d e = false) (h : eqD rm m (n + 1) d e = some r) : ∃ p q, x = .ref p ∧ y = .ref q := by
  unfold eqD at h
  rw [if_neg (by rw [hs]; exact Bool.false_ne_true)] at h
  have isr : ∀ {d : D} {x : V} {xs : List D}, DenV g ρ H d x → lsD m d = some xs → ∃ p, x = .ref p := fun {d x xs} dv hl => by
    cases dv <;> first | exact ⟨_, rfl⟩ | cases hl
  split at h
  · cases dd; cases de; exact ⟨_, _, rfl, rfl⟩
  · cases dd; cases de; exact ⟨_, _, rfl, rfl⟩
  · split at h
    · rename_i hx hy
      obtain ⟨p, e1⟩ := isr dd hx
      obtain ⟨q, e2⟩ := isr de hy
      exact ⟨p, q, e1, e2⟩
    · cases h
theorem eqB {rm : Bool} {kE : Nat} (hK : X.K = g.K) (hR : rm = true → RoomEq X.prog X.w X.mg X.base g kE) : ∀ n, EqB X g rm n (kE + n)
  | 0 => fun _ _ _ _ _ _ _ _ _ _ _ _ _ _ _ _ _ _ _ _ _ h => by cases h
  | n + 1 => by
    intro A pins s σ ρ H m d e x y u v r sb I sm dd de rx ry h
    cases hs : scalD d e with
    | true =>
      obtain ⟨f1, f2, e1⟩ := scal_flat dd de hs
      have q := eqAt_V (A := A) (s := s) rx ry f1 f2
      unfold eqD at h
      rw [if_pos hs] at h
      cases h
      rw [e1] at q
      exact q X.prog X.w X.xe _ ⟨rfl, ρ, H, I, .refl, sm⟩
    | false =>
      obtain ⟨p, q, e1, e2⟩ := eqD_ref dd de hs h
      subst e1 e2
      cases (show u = Value.ref p from rx)
      cases (show v = Value.ref q from ry)
      by_cases hpq : p = q
      · subst hpq
        have := eq_same hK I sm (n + 1) d e _ _ _ r dd de rfl rfl h
        subst this
        exact SeqAt.EqAt.same (A := A) (s := s) (.ref p) X.prog X.w X.xe _ ⟨rfl, ρ, H, I, .refl, sm⟩
      · refine GQ.eqBool_refG hpq (wpAny_mono (rc_eq hK hR (Nat.le_add_right kE n) (eqB hK hR n) sb I sm dd de rfl rfl hs h) (fun w s' z => ?_) fun _ _ z => z)
        exact ⟨r, z.1, rfl, z.2⟩
def rEqB (g : G) (rm neg : Bool) (n : Nat) : R2 := fun x y H Q => ∃ ρ m d e r, RelS g ρ m H ∧ DenV g ρ H d x ∧ DenV g ρ H e y ∧ eqD rm m (n + 1) d e = some r ∧ ∀ ρ' H', Up g ρ H ρ' H' → RelS g ρ' m H' → Q (.bl (if neg = true then !r else r)) H'
theorem scalV_ok {d e : D} {x y : V} {r : Bool} (dd : DenV g ρ H d x) (de : DenV g ρ H e y) (hs : scalD d e = true) {rm : Bool} {n : Nat} (h : eqD rm m (n + 1) d e = some r) : scal x y = true ∧ decide (x = y) = r := by
  unfold eqD at h
  rw [if_pos hs] at h
  cases h
  exact scal_den dd de hs
theorem op_eqB {rm : Bool} {kE n j : Nat} (hK : X.K = g.K) (hR : rm = true → RoomEq X.prog X.w X.mg X.base g kE) (hr : Room j X.A) (hj : kE + n + 1 ≤ j) : OpR X (compareOp .Eq) (rEqB g rm false n) := by
  intro pins s σ H x y v u Q I rx ry h
  obtain ⟨ρ, m, d, e, r, sm, dd, de, hd, q⟩ := h
  cases hs : scalD d e with
  | true =>
    obtain ⟨h1, h2⟩ := scalV_ok dd de hs hd
    exact op_eq pins s σ H x y v u Q I rx ry ⟨h1, by rw [h2]; exact q ρ H .refl sm⟩
  | false =>
    show wpAny (model X.prog X.w) X.A (richCompare .Eq v u) (EP X pins σ Q) X.xe s
    refine wpAny_mono (rc_eq hK hR (Nat.le_add_right kE n) (eqB hK hR n) ⟨hr.mono hj, rfl⟩ I sm dd de rx ry hs hd) (fun w s' z => ?_) fun _ _ z => z
    obtain ⟨rfl, ρ', H', I', u', sm'⟩ := z
    exact ⟨.bl r, H', I', rfl, q ρ' H' u' sm'⟩
theorem op_neB {rm : Bool} {kE n j : Nat} (hK : X.K = g.K) (hR : rm = true → RoomEq X.prog X.w X.mg X.base g kE) (hr : Room j X.A) (hj : kE + n + 1 ≤ j) : OpR X (compareOp .NotEq) (rEqB g rm true n) := by
  intro pins s σ H x y v u Q I rx ry h
  obtain ⟨ρ, m, d, e, r, sm, dd, de, hd, q⟩ := h
  cases hs : scalD d e with
  | true =>
    obtain ⟨h1, h2⟩ := scalV_ok dd de hs hd
    exact op_ne pins s σ H x y v u Q I rx ry ⟨h1, by rw [h2]; exact q ρ H .refl sm⟩
  | false =>
    show wpAny (model X.prog X.w) X.A (richCompare .NotEq v u) (EP X pins σ Q) X.xe s
    refine wpAny_mono (rc_ne hK hR (Nat.le_add_right kE n) (eqB hK hR n) ⟨hr.mono hj, rfl⟩ I sm dd de rx ry hs hd) (fun w s' z => ?_) fun _ _ z => z
    obtain ⟨rfl, ρ', H', I', u', sm'⟩ := z
    exact ⟨.bl (!r), H', I', rfl, q ρ' H' u' sm'⟩
/-- x == y, x != y -/
def gEqD (rm neg : Bool) : Fn
  | [x, y], m => match eqD rm m 6 x y with
    | some r => .ok (.bl (if neg = true then !r else r)) m
    | none => .bad
  | _, _ => .bad
theorem o_eqD {rm neg : Bool} : Op2 g W (rEqB g rm neg 5) (gEqD rm neg) := by
  intro ρ m σ H d e x y Q s ha hb h
  simp only [gEqD] at h
  split at h
  · rename_i r hr
    exact ⟨ρ, m, d, e, r, s, ha, hb, hr, fun ρ' H' u' s' => h ρ' H' _ u' s' (.bl _)⟩
  · exact h.elim
theorem te_eqD {rm : Bool} {kE : Nat} (hK : X.K = g.K) (hR : rm = true → RoomEq X.prog X.w X.mg X.base g kE) (hr : Room j X.A) (ha : PE X a (T g W pa)) (hb : PE X b (T g W pb)) (hj : kE + 5 + 1 ≤ j := by decide) : PE X (.Compare a [.Eq] [b] pos) (T g W (p2 (gEqD rm false) pa pb)) := te_cmp (op_eqB hK hR hr hj) o_eqD ha hb (nomark _)
theorem te_neD {rm : Bool} {kE : Nat} (hK : X.K = g.K) (hR : rm = true → RoomEq X.prog X.w X.mg X.base g kE) (hr : Room j X.A) (ha : PE X a (T g W pa)) (hb : PE X b (T g W pb)) (hj : kE + 5 + 1 ≤ j := by decide) : PE X (.Compare a [.NotEq] [b] pos) (T g W (p2 (gEqD rm true) pa pb)) := te_cmp (op_neB hK hR hr hj) o_eqD ha hb (nomark _)
theorem tt_eqD {rm : Bool} {kE : Nat} (hK : X.K = g.K) (hR : rm = true → RoomEq X.prog X.w X.mg X.base g kE) (hr : Room j X.A) (ha : PE X a (T g W pa)) (hb : PE X b (T g W pb)) (hj : kE + 5 + 1 ≤ j := by decide) : PT X (.Compare a [.Eq] [b] pos) (Tt g W (p2 (gEqD rm false) pa pb)) := tt_cmp (op_eqB hK hR hr hj) o_eqD ha hb (nomark _)
theorem tt_neD {rm : Bool} {kE : Nat} (hK : X.K = g.K) (hR : rm = true → RoomEq X.prog X.w X.mg X.base g kE) (hr : Room j X.A) (ha : PE X a (T g W pa)) (hb : PE X b (T g W pb)) (hj : kE + 5 + 1 ≤ j := by decide) : PT X (.Compare a [.NotEq] [b] pos) (Tt g W (p2 (gEqD rm true) pa pb)) := tt_cmp (op_neB hK hR hr hj) o_eqD ha hb (nomark _)
end MT


/-! MT12: for in a generator's body. -/
namespace MTG
open PySem PySem.Spec PyProof.Rows L2
open Sem (wp)
section
variable {M : Model} {A : Around} {R : GenEnd} {Y : Protocol} {n : Nat} {s₀ : Shared} {c : Code} {fs : List Frame} {s : Shared} {env : Env}
  {K : Flow → Sem PySem.Fin} {H : Value → Sem PySem.Fin} {gd : Bool → Bool} {lv : List Value → List Value}
theorem seg_For {target iter : Expr} {body orelse : List Stmt} {pos : Pos}
    (h : wpAny M (A.over c fs) (eval iter env) (fun x s1 => wpAny M (A.over c fs) (pyIter x) (fun it s2 => ∀ p, Seg M A R Y n s₀ (.forLoop target it body orelse env) (M.den (.forLoop target it body orelse env))
      (.ret (fun r => ((match r with | .ok f => (.pure f : Sem Flow) | .error e => .raise e).onRaise fun (x : Value) => do
        if (← field x 1) == Value.none then unsupported "frame.own-activation:exception-without-traceback"
        setFlight x env.frame).wrap K H gd lv) none (gd false) (lv []) c p [] :: fs) s2) (fun x s' => Seg M A R Y n s₀ c (H x) fs s') s1) (fun x s' => Seg M A R Y n s₀ c (H x) fs s') s)
    (hs : ∀ x, foldedSetIterable iter env x = pure x := by intro _; rfl) :
    Seg M A R Y n s₀ c ((exec (.For target iter body orelse pos) env).wrap K H gd lv) fs s := by
  rw [exec_For]
  refine seg_at ?_
  show Seg M A R Y n s₀ c ((eval iter env >>= fun v => foldedSetIterable iter env v >>= fun x => standAt iter.pos >>= fun _ => holding [x] (pyIter x) >>= fun it => runOwn (.forLoop target it body orelse env) env).wrap K H gd lv) fs s
  rw [Sem.bind_eq_wrap', Sem.wrap_wrap]
  refine seg_wrap (wpAny_mono h (fun x s1 h1 => ?_) fun _ _ z => z)
  rw [hs x]
  refine seg_at ?_
  show Seg M A R Y n s₀ c ((holding [x] (pyIter x) >>= fun it => runOwn (.forLoop target it body orelse env) env).wrap K H gd lv) fs s1
  rw [Sem.bind_eq_wrap', Sem.wrap_wrap]
  refine seg_wrap (wpAny_holding (wpAny_mono h1 (fun it s2 h2 => ?_) fun _ _ z => z))
  exact seg_call h2
end
section
variable {prog : Program} {w : World} {A : Around} {R : GenEnd} {Y : Protocol} {n : Nat} {s₀ : Shared} {fs : List Frame} {s : Shared} {env : Env}
theorem seg_forLoop {target : Expr} {it : Value} {body : List Stmt}
    (h : wpAny (model prog w) (A.over (.forLoop target it body [] env) fs) (pyNext it) (fun r s1 => match r with
        | none => Seg (model prog w) A R Y n s₀ (.block [] env) ((model prog w).den (.block [] env)) fs s1
        | some v => wpAny (model prog w) (A.over (.forLoop target it body [] env) fs) (letOwnedTupleGo target it v) (fun _ s2 => wpAny (model prog w) (A.over (.forLoop target it body [] env) fs) (assign target env v) (fun _ s3 =>
            Seg (model prog w) A R Y n s₀ (.forLoop target it body [] env) ((execs body env).wrap (fun f => match f with
              | .next | .cont => .pure (.again (.forLoop target it body [] env))
              | .brk => .pure (.done .next)
              | .ret v => .pure (.done (.ret v))) (fun e => (do noteFrame e env; theTreesLotGoes e : Sem Unit).wrap (fun _ => .raise e) .raise id id) id id) fs s3)
          (fun x s' => Seg (model prog w) A R Y n s₀ (.forLoop target it body [] env) ((do noteFrame x env; theTreesLotGoes x : Sem Unit).wrap (fun _ => .raise x) .raise id id) fs s') s2)
          (fun x s' => Seg (model prog w) A R Y n s₀ (.forLoop target it body [] env) ((do noteFrame x env; theTreesLotGoes x : Sem Unit).wrap (fun _ => .raise x) .raise id id) fs s') s1)
      (fun x s' => Seg (model prog w) A R Y n s₀ (.forLoop target it body [] env) ((do noteFrame x env; theTreesLotGoes x : Sem Unit).wrap (fun _ => .raise x) .raise id id) fs s') s) :
    Seg (model prog w) A R Y n s₀ (.forLoop target it body [] env) ((model prog w).den (.forLoop target it body [] env)) fs s := by
  show Seg _ A R Y n s₀ _ ((forTurn target it body [] env).onRaise (fun x => do noteFrame x env; theTreesLotGoes x)) fs s
  unfold forTurn
  rw [Sem.onRaise_eq_wrap]
  have hx' : ∀ {x : Value} {s' : Shared}, Seg (model prog w) A R Y n s₀ (.forLoop target it body [] env) ((do noteFrame x env; theTreesLotGoes x : Sem Unit).wrap (fun _ => .raise x) .raise id id) fs s' →
      Seg (model prog w) A R Y n s₀ (.forLoop target it body [] env) ((do noteFrame x env; theTreesLotGoes x : Sem Unit).bind fun _ => .raise x) fs s' := fun {x s'} hx => by
    rw [Sem.bind_eq_wrap]; exact hx
  refine seg_at ?_
  show Seg _ A R Y n s₀ _ (((pyNext it).onRaise (fun _ => standAt { target.pos with line := 0 }) >>= _).wrap _ _ _ _) fs s
  rw [Sem.bind_eq_wrap', Sem.wrap_wrap]
  refine seg_wrap (wpAny_onRaise (wpAny_mono h (fun r s1 h1 => ?_) fun x s' hx => wpAny_standAt (hx' hx)))
  cases r with
  | none => exact seg_again rfl h1
  | some v =>
    show Seg _ A R Y n s₀ _ ((letOwnedTupleGo target it v >>= _).wrap _ _ _ _) fs s1
    rw [Sem.bind_eq_wrap', Sem.wrap_wrap]
    refine seg_wrap (wpAny_mono h1 (fun _ s2 h2 => ?_) fun x s' hx => hx' hx)
    show Seg _ A R Y n s₀ _ ((assign target env v >>= _).wrap _ _ _ _) fs s2
    rw [Sem.bind_eq_wrap', Sem.wrap_wrap]
    refine seg_wrap (wpAny_mono h2 (fun _ s3 h3 => ?_) fun x s' hx => hx' hx)
    show Seg _ A R Y n s₀ _ ((execs body env >>= _).wrap _ _ _ _) fs s3
    rw [Sem.bind_eq_wrap', Sem.wrap_wrap]
    rw [Sem.wrap_congr (execs body env) _ _ (K' := fun f => match f with
            | .next | .cont => .pure (.again (.forLoop target it body [] env))
            | .brk => .pure (.done .next)
            | .ret v => .pure (.done (.ret v))) (H' := (fun e => (do noteFrame e env; theTreesLotGoes e : Sem Unit).wrap (fun _ => .raise e) .raise id id))
        (fun f => by cases f <;> rfl)
        (fun e => by first | exact Sem.bind_eq_wrap _ _ | (show (do noteFrame e env; theTreesLotGoes e : Sem Unit).bind (fun _ => .raise e) = _; rw [Sem.bind_eq_wrap]))]
    exact h3
end

/-! ### the rule -/
def tGFor (wi : TI) (g : TG) (tb : TGn) : TGn := fun D ys σ H => wi σ H fun J H1 => ∃ W : Nat → Nat → List V → L2.St → Hp → Prop, (∃ m, W 0 m ys σ H1) ∧ ∀ i m ys σ H, W i m ys σ H →
  (J.stop i H ∧ D.nx ys σ H) ∨ (J.go i H ∧ ∃ N : List V → L2.St → Hp → Prop, (∀ ys' σ' H', N ys' σ' H' → ∃ m', m' < m ∧ W (i + 1) m' ys' σ' H') ∧ ∀ x H', J.yld i H x H' → g x σ H' fun σ2 H2 => tb { D with nx := N, ct := N, bk := D.nx } ys σ2 H2)
theorem gs_for {X : Cx} {tg iter : Expr} {body : List Stmt} {pos : Pos} {wi : TI} {g : TG} {tb : TGn} (hp : PassesOwn (model X.prog X.w) X.A X.env X.xe) (hcalm : X.calm = true) (hi : PI X tg iter wi) (hg : PG X tg g) (hb : GSs X body tb)
    (hs : ∀ x, foldedSetIterable iter X.env x = pure x := by intro _; rfl) : GS X (.For tg iter body [] pos) (tGFor wi g tb) := by
  refine ⟨fun A S ip R n ys s₀ c fs K J gd lv s σ H D gc hn k hI ht => ?_⟩
  obtain ⟨hS0, hSL, hSf, _⟩ := hI.at
  obtain ⟨acc, cc, r, I⟩ := hI
  refine seg_For ?_ hs
  rw [gc.over]
  refine wpAny_mono (hi.run _ s σ H _ I ht) (fun v s1 h1 => wpAny_mono h1 (fun itv s2 h2 => ?_) fun x s' hx => k.exc n s₀ x s' hx) fun x s' hx => k.exc n s₀ x s' hx
  obtain ⟨it, fp, tn, Ji, H2, e, I2, T, st2, f2, W, ⟨m0, w0⟩, turn⟩ := h2
  subst e
  intro p
  have gl := fun (kk : Result → Sem PySem.Fin) => gc_loop (k := kk) (c' := .forLoop tg (.ref it) body [] X.env) (l := lv []) (kp := []) (p := p) gc rfl rfl
  have fpS : ∀ b ∈ fp, b ≠ S := fun b hb z => (f2 b hb).2.2.2.2.2 (S, lstObj acc cc) (List.mem_append_right _ List.mem_cons_self) z.symm
  -- the iterator's objects, whatever is out so far
  have stat : ∀ {H' : Hp} {acc' : Array Value} {cc' : Nat}, (∀ b ∈ fp, H' b = none) → ∀ b ∈ fp, FpOk X ((S, lstObj acc' cc') :: ip) H' b := fun {H' acc' cc'} hn b hb => by
    obtain ⟨_, q1, q2, q3, q4, q5⟩ := f2 b hb
    refine ⟨hn b hb, q1, q2, q3, q4, fun p hp => ?_⟩
    rcases List.mem_append.mp hp with hp | hp
    · exact q5 p (List.mem_append_left _ hp)
    · rcases List.mem_cons.mp hp with hp | hp
      · rw [hp]; exact (fpS b hb).symm
      · exact q5 p (List.mem_append_right _ (List.mem_cons_of_mem _ hp))
  have loop : ∀ (m n : Nat) (i : Nat) (ys : List V) (s₀ s : Shared) (σ : L2.St) (H : Hp), n + ys.length = sizeLine → W i m ys σ H → GI X S ip ys σ H s → tn i s.heap → (∀ b ∈ fp, H b = none) →
      Seg (model X.prog X.w) A R (GY X S) n s₀ (.forLoop tg (.ref it) body [] X.env) ((model X.prog X.w).den (.forLoop tg (.ref it) body [] X.env))
        (.ret (fun r => ((match r with | .ok f => (.pure f : Sem Flow) | .error e => .raise e).onRaise (cameBack X.env)).wrap K J gd lv) none (gd false) (lv []) c p [] :: fs) s := by
    intro m
    induction m using Nat.strongRecOn with
    | ind m ih =>
      intro n i ys s₀ s σ H hn w hI st fr
      have ee : ∀ (n : Nat) (s₀ : Shared) (x : Value) (s' : Shared), X.xe x s' → Seg (model X.prog X.w) A R (GY X S) n s₀ (.forLoop tg (.ref it) body [] X.env)
          ((do noteFrame x X.env; theTreesLotGoes x : Sem Unit).wrap (fun _ => .raise x) .raise id id)
          (.ret (fun r => ((match r with | .ok f => (.pure f : Sem Flow) | .error e => .raise e).onRaise (cameBack X.env)).wrap K J gd lv) none (gd false) (lv []) c p [] :: fs) s' := fun n s₀ x s' hx => by
        refine seg_wrap ?_
        rw [(gl _).over]
        refine wpAny_bind (wpAny_mono (hp x s' hx) (fun _ s'' hcb => wpAny_theTreesLotGoes ?_) fun y s'' hcb => ?_)
        · exact seg_leaf (.error x) (seg_cameBack gc k hcb)
        · exact seg_leaf (.error y) (seg_cameBack gc k hcb)
      refine seg_forLoop ?_
      rw [(gl _).over]
      obtain ⟨acc, cc, r, I⟩ := hI
      rcases turn i m ys σ H w with ⟨stop, qn⟩ | ⟨go, N, hN, step⟩
      · refine wpAny_mono (T.done X rfl rfl rfl hcalm i _ s σ H X.xe I (stat fr) st stop) (fun r' s4 ⟨hr, I4⟩ => ?_) fun x s' hx => ee n s₀ x s' hx
        subst hr
        exact seg_leaf (.ok .next) (k.ok n ys s₀ s4 .next hn ⟨σ, H, ⟨acc, cc, r, I4⟩, qn⟩)
      · refine wpAny_mono (T.item X rfl rfl rfl hcalm i _ s σ H X.xe I (stat fr) st go) (fun r' s4 ⟨u, hr, h4⟩ => ?_) fun x s' hx => ee n s₀ x s' hx
        subst hr
        refine wpAny_mono h4 (fun _ s5 ⟨x, H5, I5, r5, y5, st5, fr5⟩ => ?_) fun x s' hx => ee n s₀ x s' hx
        have I5' := I5.pinned (stat fr5) (T.obj _ _ st5)
        refine wpAny_mono (hg.run _ s5 σ H5 x u _ I5' r5 (step x H5 y5)) (fun _ s6 ⟨σ6, H6, I6, q6⟩ => ?_) fun x s' hx => ee n s₀ x s' hx
        have gc' : GC X S (ip ++ pinsAt fp s5.heap) A (.forLoop tg (.ref it) body [] X.env) (.ret (fun r => ((match r with | .ok f => (.pure f : Sem Flow) | .error e => .raise e).onRaise (cameBack X.env)).wrap K J gd lv) none (gd false) (lv []) c p [] :: fs) id := by
          have q := gl (fun r => ((match r with | .ok f => (.pure f : Sem Flow) | .error e => .raise e).onRaise (cameBack X.env)).wrap K J gd lv)
          refine ⟨q.pn, fun p hp => ?_, q.apart, q.over, q.split, q.guard, q.gd⟩
          rcases List.mem_append.mp hp with hp | hp
          · exact q.ip p hp
          · exact fpS _ (of_pinsAt hp).1
        have gi6 : GI X S (ip ++ pinsAt fp s5.heap) ys σ6 H6 s6 := ⟨acc, cc, r, I6⟩
        have back : ∀ {ys' : List V} {σ7 : L2.St} {H7 : Hp} {s7 : Shared}, GI X S (ip ++ pinsAt fp s5.heap) ys' σ7 H7 s7 → GI X S ip ys' σ7 H7 s7 := fun {ys' σ7 H7 s7} ⟨a, b, c, d⟩ => ⟨a, b, c, Inv.unpinned (pins := (S, lstObj a b) :: ip) (by simpa using d)⟩
        have again : ∀ {n' : Nat} {ys' : List V} {s₀' s7 : Shared} {σ7 : L2.St} {H7 : Hp}, n' + ys'.length = sizeLine → GI X S (ip ++ pinsAt fp s5.heap) ys' σ7 H7 s7 → N ys' σ7 H7 → Seg (model X.prog X.w) A R (GY X S) n' s₀' (.forLoop tg (.ref it) body [] X.env) ((model X.prog X.w).den (.forLoop tg (.ref it) body [] X.env))
            (.ret (fun r => ((match r with | .ok f => (.pure f : Sem Flow) | .error e => .raise e).onRaise (cameBack X.env)).wrap K J gd lv) none (gd false) (lv []) c p [] :: fs) s7 := fun {n' ys' s₀' s7 σ7 H7} hn' h7 n7 => by
          obtain ⟨m', hm, w7⟩ := hN ys' σ7 H7 n7
          have h7' := h7
          obtain ⟨a7, c7, r7, I7⟩ := h7'
          refine ih m' hm n' (i + 1) ys' s₀' s7 σ7 H7 hn' w7 (back h7) (T.keep _ _ _ st5 fun b hb o e => (I7.pin (b, o) (List.mem_append_right _ (List.mem_cons_of_mem _ (List.mem_append_right _ (mem_pinsAt hb e))))).1) fun b hb => ?_
          obtain ⟨o, e, d⟩ := T.obj _ _ st5 b hb
          exact (I7.pin (b, o) (List.mem_append_right _ (List.mem_cons_of_mem _ (List.mem_append_right _ (mem_pinsAt hb e))))).2.1
        refine hb.run A S (ip ++ pinsAt fp s5.heap) R n ys s₀ _ _ _ _ id id s6 σ6 H6 { D with nx := N, ct := N, bk := D.nx } gc' hn ⟨fun n' ys' s₀' s7 f hn' hs => ?_, fun n' s₀' x s7 hx => ee n' s₀' x s7 hx⟩ gi6 q6
        cases f with
        | next =>
          obtain ⟨σ7, H7, I7, n7⟩ := hs
          exact seg_again rfl (again hn' I7 n7)
        | cont =>
          obtain ⟨σ7, H7, I7, n7⟩ := hs
          exact seg_again rfl (again hn' I7 n7)
        | brk =>
          obtain ⟨σ7, H7, I7, n7⟩ := hs
          exact seg_leaf (.ok .next) (k.ok n' ys' s₀' s7 .next hn' ⟨σ7, H7, back I7, n7⟩)
        | ret v =>
          obtain ⟨v7, σ7, H7, I7, r7, n7⟩ := hs
          exact seg_leaf (.ok (.ret v)) (k.ok n' ys' s₀' s7 (.ret v) hn' ⟨v7, σ7, H7, back I7, r7, n7⟩)
  exact loop m0 n 0 ys s₀ s2 σ H2 hn w0 ⟨acc, cc, r, I2⟩ st2 fun b hb => (f2 b hb).1
end MTG

/-! MT13: generators in the little language. -/
namespace MT
open PySem PySem.Spec PyProof.Rows L2 StX MTG
variable {g : G} {ρ ρ' ρ1 ρ2 : List Addr} {H H' H1 H2 : Hp} {m m' : Store} {ε ε' : EnvD} {σ σ' : L2.St} {W : Wx} {r : Res D} {Q Q' : VK} {X : Cx} {a b c e o : Expr} {pa pb pc pe po : Pg} {pos apos yp : Pos} {D0 : Ends} {es : List Expr} {ps : List Pg} {f : Fn} {k j : Nat} {x mm : Str} {p' : Pos}

inductive ResG where
  | nxt (e : EnvD) (ys : List D) (m : Store)
  | ret (ys : List D) (m : Store)
  | bad
abbrev PgG := EnvD → List D → Store → ResG
def ResG.bind (r : ResG) (f : EnvD → List D → Store → ResG) : ResG := match r with
  | .nxt e ys m => f e ys m
  | .ret ys m => .ret ys m
  | .bad => .bad
def FinG (g : G) (ρ : List Addr) (H : Hp) (r : ResG) (D : GEnds) : Prop := match r with
  | .nxt ε ds m => ∀ ρ' H' σ' ys, Up g ρ H ρ' H' → RelS g ρ' m H' → RelE g ρ' H' ε σ' → DenL g ρ' H' ds ys → D.nx ys σ' H'
  | .ret ds m => ∀ ρ' H' v ys, Up g ρ H ρ' H' → RelS g ρ' m H' → DenV g ρ' H' .non v → DenL g ρ' H' ds ys → D.rt ys v H'
  | .bad => False
theorem FinG.up {r : ResG} {D : GEnds} (u : Up g ρ H ρ' H') (h : FinG g ρ H r D) : FinG g ρ' H' r D := by
  cases r with
  | nxt e ys m => exact fun ρ2 H2 σ2 y u2 => h ρ2 H2 σ2 y (u.trans u2)
  | ret ys m => exact fun ρ2 H2 v y u2 => h ρ2 H2 v y (u.trans u2)
  | bad => exact h
def Tg (g : G) (p : PgG) : TGn := fun D ys σ H => ∃ ε ρ m ds, RelE g ρ H ε σ ∧ RelS g ρ m H ∧ DenL g ρ H ds ys ∧ FinG g ρ H (p ε ds m) D
theorem GS.imp {st : Stmt} {t t' : TGn} (h : GS X st t) (i : ∀ D ys σ H, t' D ys σ H → t D ys σ H) : GS X st t' := ⟨fun A S ip R n ys s₀ c fs K J gd lv s σ H D gc hn k hI ht => h.run A S ip R n ys s₀ c fs K J gd lv s σ H D gc hn k hI (i D ys σ H ht)⟩
theorem GSs.imp {st : List Stmt} {t t' : TGn} (h : GSs X st t) (i : ∀ D ys σ H, t' D ys σ H → t D ys σ H) : GSs X st t' := ⟨fun A S ip R n ys s₀ c fs K J gd lv s σ H D gc hn k hI ht => h.run A S ip R n ys s₀ c fs K J gd lv s σ H D gc hn k hI (i D ys σ H ht)⟩
/-! ### statements -/
def ygPlain (p : PgS) : PgG := fun ε ys m => match p ε m with
  | .nxt ε' m' => .nxt ε' ys m'
  | .ret .non m' => .ret ys m'
  | _ => .bad
def ygNil : PgG := fun ε ys m => .nxt ε ys m
def ygSeq (p q : PgG) : PgG := fun ε ys m => (p ε ys m).bind q
def ygYield (p : Pg) : PgG := fun ε ys m => match p ε m with
  | .ok d m' => if ys.length ≤ lim then .nxt ε (ys ++ [d]) m' else .bad
  | _ => .bad
def ygForN (nx : Nx) (t : Tgt) (pb : PgG) : Nat → Nat → PgG
  | 0, _, _, _, _ => .bad
  | n + 1, i, ε, ys, m => match nx i m with
    | none => .bad
    | some none => .nxt ε ys m
    | some (some d) => match bindT t d ε with
      | none => .bad
      | some ε1 => (pb ε1 ys m).bind (ygForN nx t pb n (i + 1))
def ygFor (pi : PgI) (t : Tgt) (pb : PgG) : PgG := fun ε ys m => match pi ε m with
  | .ok nx m' => ygForN nx t pb bigN 0 ε ys m'
  | _ => .bad
theorem tg_plain {st : Stmt} {p : PgS} (h : L2.PS X st (Ts g W0 p)) : GS X st (Tg g (ygPlain p)) := GS.imp (gs_ps h) fun D ys σ H h => by
  obtain ⟨ε, ρ, m, ds, e, s, l, h⟩ := h
  refine ⟨ε, ρ, m, e, s, ?_⟩
  unfold ygPlain at h
  cases hp : p ε m with
  | nxt ε' m' => rw [hp] at h; exact fun ρ' H' σ' u s' e' => h ρ' H' σ' ys u s' e' (l.up u)
  | ret d m' =>
    rw [hp] at h
    cases d <;> first | exact False.elim h | exact fun ρ' H' v u s' dv => h ρ' H' v ys u s' dv (l.up u)
  | exc x e m' => rw [hp] at h; exact False.elim h
  | bad => rw [hp] at h; exact False.elim h
theorem tg_nil : GSs X [] (Tg g ygNil) := GSs.imp gss_nil fun D ys σ H h => by
  obtain ⟨ε, ρ, m, ds, e, s, l, h⟩ := h
  exact h ρ H σ ys .refl s e l
theorem FinG.bnd {r : ResG} {f : EnvD → List D → Store → ResG} {D : GEnds} {N : List V → L2.St → Hp → Prop} (h : FinG g ρ H (r.bind f) D) (hN : ∀ ρ' H' σ' ys ε' ds' m', Up g ρ H ρ' H' → RelS g ρ' m' H' → RelE g ρ' H' ε' σ' → DenL g ρ' H' ds' ys → FinG g ρ' H' (f ε' ds' m') D → N ys σ' H') {bk ct : List V → L2.St → Hp → Prop} : FinG g ρ H r { nx := N, rt := D.rt, bk := bk, ct := ct } := by
  cases r with
  | nxt e ys m => exact fun ρ' H' σ' y u s e' l => hN ρ' H' σ' y e ys m u s e' l (FinG.up u h)
  | ret ys m => exact h
  | bad => exact h
theorem tg_cons {st : Stmt} {rest : List Stmt} {p q : PgG} (h1 : GS X st (Tg g p)) (h2 : GSs X rest (Tg g q)) : GSs X (st :: rest) (Tg g (ygSeq p q)) := GSs.imp (gss_cons h1 h2) fun D ys σ H h => by
  obtain ⟨ε, ρ, m, ds, e, s, l, h⟩ := h
  have h' : FinG g ρ H ((p ε ds m).bind q) D := h
  exact ⟨ε, ρ, m, ds, e, s, l, FinG.bnd h' fun ρ' H' σ' ys ε' ds' m' u s' e' l' z => ⟨ε', ρ', m', ds', e', s', l', z⟩⟩
theorem tg_yield (he : PE X e (T g W0 pe)) (hco : X.env.scope.isCoroutine = false := by rfl) (hi : interactive X.env = false := by rfl) : GS X (.Expr (.Yield (some e) yp) pos) (Tg g (ygYield pe)) := GS.imp (gs_yield he hco hi) fun D ys σ H h => by
  obtain ⟨ε, ρ, m, ds, e, s, l, h⟩ := h
  unfold ygYield at h
  cases hp : pe ε m with
  | bad => simp only [hp] at h; exact False.elim h
  | exc x m' => simp only [hp] at h; exact False.elim h
  | ok d m' =>
    simp only [hp] at h
    by_cases c : ds.length ≤ lim
    · rw [if_pos c] at h
      refine ⟨by rw [← l.length]; exact lim_lt c, ε, ρ, m, [], e, s, .nil, ?_⟩
      show Fin g W0 ρ H σ (pe ε m) _
      rw [hp]
      exact fun ρ' H' v u s' dv => h ρ' H' σ _ u s' (e.up u) ((l.up u).append (.cons dv .nil))
    · rw [if_neg c] at h; exact False.elim h
theorem tg_for {tg iter : Expr} {body : List Stmt} {pi : PgI} {t : Tgt} {p : PgG} (hp : PassesOwn (model X.prog X.w) X.A X.env X.xe) (hc : X.calm = true) (hi : SrcR g W0 X tg iter pi) (hg : TgOk g X tg t) (hb : GSs X body (Tg g p))
    (hs : ∀ x, foldedSetIterable iter X.env x = pure x := by intro _; rfl) : GS X (.For tg iter body [] pos) (Tg g (ygFor pi t p)) := by
  obtain ⟨wi, i1, i2⟩ := hi
  refine GS.imp (gs_for hp hc i1 hg hb hs) fun D ys σ H h => ?_
  obtain ⟨ε, ρ, m, ds, e, s, l, h⟩ := h
  refine i2 ρ m H σ ε _ e s ?_
  unfold ygFor at h
  cases hr : pi ε m with
  | bad => simp only [hr] at h; exact h
  | exc x m' => simp only [hr] at h; exact False.elim h
  | ok nx m' =>
    simp only [hr] at h
    intro ρ' H' J u s' ok
    refine ⟨fun i n ys σ H2 => ∃ ε ρ2 m ds, Up g ρ' H' ρ2 H2 ∧ RelE g ρ2 H2 ε σ ∧ RelS g ρ2 m H2 ∧ DenL g ρ2 H2 ds ys ∧ FinG g ρ2 H2 (ygForN nx t p n i ε ds m) D, ⟨bigN, ε, ρ', m', ds, .refl, e.up u, s', l.up u, FinG.up u h⟩, ?_⟩
    rintro i n ys1 σ1 H1 ⟨ε, ρ1, m1, ds1, u1, e1, s1, l1, q⟩
    cases n with
    | zero => exact False.elim q
    | succ n =>
      obtain ⟨k1, k2⟩ := ok ρ1 H1 m1 i u1 s1
      have q' : FinG g ρ1 H1 (match nx i m1 with
        | none => .bad
        | some none => .nxt ε ds1 m1
        | some (some d) => match bindT t d ε with
          | none => .bad
          | some ε1 => (p ε1 ds1 m1).bind (ygForN nx t p n (i + 1))) D := q
      cases hn : nx i m1 with
      | none => rw [hn] at q'; exact False.elim q'
      | some o =>
        cases o with
        | none => rw [hn] at q'; exact .inl ⟨k1 hn, q' ρ1 H1 σ1 ys1 .refl s1 e1 l1⟩
        | some d =>
          simp only [hn] at q'
          obtain ⟨k3, k4⟩ := k2 d hn
          cases hbt : bindT t d ε with
          | none => rw [hbt] at q'; exact False.elim q'
          | some ε1 =>
            simp only [hbt] at q'
            refine .inr ⟨k3, fun ys σ H2 => ∃ ε ρ2 m ds, Up g ρ' H' ρ2 H2 ∧ RelE g ρ2 H2 ε σ ∧ RelS g ρ2 m H2 ∧ DenL g ρ2 H2 ds ys ∧ FinG g ρ2 H2 (ygForN nx t p n (i + 1) ε ds m) D, fun ys' σ' H2 z => ⟨n, Nat.lt_succ_self n, z⟩, fun x H2 y => ?_⟩
            obtain ⟨u2, s2, dv⟩ := k4 x H2 y
            refine trT_ok (e1.up u2) dv hbt fun σ3 e3 _ => ⟨ε1, ρ1, m1, ds1, e3, s2, l1.up u2, ?_⟩
            exact FinG.bnd (FinG.up u2 q') fun ρ4 H4 σ4 ys4 ε4 ds4 m4 u4 s4 e4 l4 z => ⟨ε4, ρ4, m4, ds4, (u1.trans u2).trans u4, e4, s4, l4, z⟩

/-! ### defs -/
abbrev FnG := List D → Store → Res (List D)
def runG (n N : Nat) (p : PgG) : FnG := fun ds m => if ds.length = n then (match p (ds.map some ++ List.replicate (N - n) none) [] m with
  | .nxt _ ys m => .ok ys m
  | .ret ys m => .ok ys m
  | .bad => .bad) else .bad
def spG (g : G) (f : FnG) : SpG := fun vs H cont _ => ∃ ρ m ds, RelS g ρ m H ∧ DenL g ρ H ds vs ∧ FinL g W0 ρ H [] (f ds m) cont
/-- a generator def of the module -/
structure Gf (P : Program) (w : World) (mg : Str → Option Value) (base : Heap) (g : G) (k : Nat) (x : Str) (f : FnG) : Prop where
  ex : ∃ (ad : Addr) (fd : FuncData) (pn : List Str), GFn P w g.K mg base k ad fd pn (spG g f) ∧ mg x = some (.ref ad) ∧ PySem.W.keepIn g.K (.ref ad) = true ∧ Binds g.K fd pn []
theorem gfn {P : Program} {w : World} {mg : Str → Option Value} {base : Heap} {qual : Str} {st : Stmt} {ad : Addr} {fd : FuncData} {N pn : List Str} {p : PgG} (F : Fun g.K x qual st ad fd) (S : GScope N pn (defScope st))
    (hb : ∀ (cdv : Value) (A : Around) (outer : List Env) (s : Shared) (H : Hp) (E : XK) (pin : List (Addr × Obj)), Room k (A.deeper (envOfC qual (defScope st) s.heap.objs.size ad cdv)) →
      GSs (gcxOf P w g.K mg base N qual (defScope st) ad cdv A outer s H E pin) (defBody st) (Tg g p)) : GFn P w g.K mg base (k + 1) ad fd pn (spG g (runG pn.length N.length p)) := by
  obtain ⟨oc, od, kV, doc, pm, an, cdv, ct, osl, rfl, lk, hcd⟩ := F.ex
  refine gfn_of lk hcd S (fun vs H Q E h => ?_) fun A outer s H vs Q E pin hr h => ⟨_, hb cdv A outer s H E pin hr, ?_⟩
  · obtain ⟨ρ, m, ds, s, l, h⟩ := h
    unfold runG at h
    split at h
    · rename_i hl; rw [← l.length, hl]
    · exact h.elim
  · obtain ⟨ρ, m, ds, s, l, h⟩ := h
    unfold runG at h
    split at h
    · rename_i hl
      have e := l.start (N.length - vs.length)
      refine ⟨ds.map some ++ List.replicate (N.length - vs.length) none, ρ, m, [], e, s, .nil, ?_⟩
      rw [← l.length, hl]
      cases hp : p (ds.map some ++ List.replicate (N.length - pn.length) none) [] m with
      | nxt ε ys m' => rw [hp] at h; exact fun ρ' H' σ' ys u s' e' l' => h ρ' H' ys u s' l'
      | ret ys m' => rw [hp] at h; exact fun ρ' H' v ys u s' dv l' => ⟨by cases dv; rfl, h ρ' H' ys u s' l'⟩
      | bad => rw [hp] at h; exact h
    · exact h.elim
/-- list(x(..)), x a generator def -/
def pListG (f : FnG) (ps : List Pg) : Pg := fun ε m => (evL ps ε m).bind fun ds m1 => (f ds m1).bind fun ys m2 => .ok (.loc m2.length) (m2 ++ [.lst ys])
theorem passG : Passes (L2.CX X.prog X.w) X E0 := fun pins σ H s e s' I h => by
  obtain ⟨a, B, H', cls, d, _, _, _, _, _, _, _, z⟩ := h
  exact z.elim
theorem te_listG {q1 q2 : Pos} {f : FnG} (hK : X.K = g.K) (c : Gf X.prog X.w X.mg X.base g k x f) (hr : Room j X.A) (hm : X.mg "list" = none) (ha : PA X (e :: es) (Ta g W0 ps)) (hk : k + 3 ≤ j := by decide) (hg : Gl X "list" := by rfl) (hg2 : Gl X x := by rfl)
    (hdb : (x == ("__debug__" : Str)) = false := by decide) (he : starEach (e :: es) X.env = (false, eval e X.env) :: starEach es X.env := by rfl) (hpl : (backTo q2 (starEach es X.env)).any (·.1) = false := by rfl)
    (ho : starEach [.Call (.Name x q1) (e :: es) [] q2] X.env = (false, eval (.Call (.Name x q1) (e :: es) [] q2) X.env) :: starEach [] X.env := by rfl) :
    PE X (.Call (.Name "list" p') [.Call (.Name x q1) (e :: es) [] q2] [] pos) (T g W0 (pListG f ps)) := by
  obtain ⟨ad, fd, pn, F, hmx, kp, b⟩ := c.ex
  rw [← hK] at F kp b
  refine PE.imp (pe_listG (pgen_call (E := E0) F (hr.mono (by omega)) hg2 hmx kp b .nil ha hdb he hpl) passG (fun _ _ _ z => z.elim) (hr.mono hk) hg hm (by decide +kernel) (by decide) (by decide) ho) fun σ H Q h => ?_
  obtain ⟨ε, ρ, m, ds, e, s, l, h⟩ := h
  refine ⟨ε, ρ, m, e, s, Fin.bindL h fun ρ' H' vs ds m' u s' dl q => ?_⟩
  refine ⟨ρ', m', ds, s', by rw [List.append_nil]; exact dl, ?_⟩
  cases hf : f ds m' with
  | bad => simp only [hf] at q; exact False.elim q
  | exc x m2 => simp only [hf] at q; exact fun ρ2 H2 u2 s2 => (q ρ2 H2 u2 s2).elim
  | ok ys m2 =>
    simp only [hf] at q
    intro ρ2 H2 out u2 s2 l2 p hp
    exact Fin.newL (Fin.up u2 q) s2 hp l2
end MT

/-! MT14: len, bool, [..] of a room; any; texts and tuples as lists; comprehensions with two clauses; TURNED walked. -/
namespace MT
open PySem PySem.Spec PyProof.Rows L2 StX
variable {g : G} {ρ ρ' ρ1 ρ2 : List Addr} {H H' H1 H2 : Hp} {m m' : Store} {ε ε' : EnvD} {σ σ' : L2.St} {W : Wx} {r : Res D} {Q Q' : VK} {X : Cx} {a b c e o : Expr} {pa pb pc pe po : Pg} {pos apos : Pos} {D0 : Ends} {es : List Expr} {ps : List Pg} {f : Fn} {k j : Nat} {x mm : Str} {p' : Pos}

/-- a special method of Room -/
structure Dn (P : Program) (w : World) (mg : Str → Option Value) (base : Heap) (g : G) (k : Nat) (name : Str) (f : Fn) : Prop where
  ex : ∃ ad : Addr, PySem.W.findIn g.K (.ref g.CR) name = some (some (.ref ad)) ∧ PySem.W.isFn g.K (.ref ad) = true ∧ PySem.W.fnIn g.K ad = true ∧ FnR P w g.K mg base CX0 k ad (spOf g f)
theorem env0_at {A : Around} {pins : List (Addr × Obj)} {s : Shared} (I : Inv X pins σ H s) (hA : A.frames = X.A.frames) : Env0 X.prog X.w X.K X.mg X.base A X.stack s H := by
  have e := I.env0
  exact ⟨by rw [hA]; exact e.frames, e.mod, e.bs, e.bsz, e.funs, e.frf, e.hok, e.bare⟩
/-! ### len -/
def gLenU (f : Fn) : Fn := fun ds m => match ds with
  | [.room ls] => (f [.room ls] m).bind fun d m' => match d with
    | .int n => if 0 ≤ n ∧ n < 2 ^ 62 then .ok (.int n) m' else .bad
    | _ => .bad
  | _ => gLen ds m
theorem call_lenR (hK : X.K = g.K) (c : Dn X.prog X.w X.mg X.base g k "__len__" f) (hr : Room j X.A) (hk : k + 1 ≤ j) : CallR X (.builtin "len") (fun xs H Q => ∃ p ls, xs = [.ref p] ∧ RoomAt g H p ls ∧ spOf g f [.ref p] H (fun v H' => ∃ n : Int, v = .int n ∧ 0 ≤ n ∧ n < 2 ^ 63 ∧ Q v H') E0) := by
  obtain ⟨ad, h1, h2, h3, F⟩ := c.ex
  rw [← hK] at h1 h2 F
  intro pins s σ H xs us Q I r h
  obtain ⟨p, ls, rfl, hrm, q⟩ := h
  obtain ⟨u, rfl, ru⟩ := vals1 r
  cases (show u = Value.ref p from ru)
  obtain ⟨ox, od, J⟩ := room_inst I hrm
  obtain ⟨mm, hF⟩ := I.fr
  refine PySem.W.len_K hF I.mod.kin J h1 h2 (wpAny_mono (run_room (us := [.ref p]) (vs := [.ref p]) F ((hr.mono hk).in1) (env0_at I rfl) I (.cons rfl .nil) q) (fun v s' z => ?_) fun _ _ z => z)
  obtain ⟨v', H', I', rv, n, ev, n0, n1, q⟩ := z
  subst ev
  obtain ⟨t, rfl⟩ := (show ∃ t, v = Value.int n t from rv)
  exact ⟨⟨n0, n1⟩, .int n, H', I'.tok _, ⟨_, rfl⟩, q⟩
theorem te_lenU (hK : X.K = g.K) (c : Dn X.prog X.w X.mg X.base g k "__len__" f) (hr : Room j X.A) (hm : X.mg "len" = none) (ha : PA X [e] (Ta g W0 ps)) (hk : k + 1 ≤ j := by decide) (hg : Gl X "len" := by rfl) (he : starEach [e] X.env = (false, eval e X.env) :: starEach [] X.env := by rfl) :
    PE X (.Call (.Name "len" p') [e] [] pos) (T g W0 (pF (gLenU f) ps)) :=
  te_b (CallR.or (call_lenR hK c hr hk) call_len) (fun ρ m σ H ds vs Q s l h => by
    have other : ∀ {ds : List D}, gLenU f ds m = gLen ds m → DenL g ρ H ds vs → Fin g W0 ρ H σ (gLenU f ds m) Q → (fun xs H Q => ∃ x n, xs = [x] ∧ LenV X.K x H n ∧ Q (.int n) H) vs H Q := fun {ds} e l h => by
      rw [e] at h
      rw [hK]
      exact o_len ρ m σ H ds vs Q s l h
    cases l with
    | nil => exact .inr (other rfl .nil h)
    | cons d1 l =>
      cases l with
      | cons d2 l => exact .inr (other (by cases d1 <;> rfl) (.cons d1 (.cons d2 l)) h)
      | nil =>
        cases d1 with
        | @room p ls hrm =>
          refine .inl ⟨p, ls, rfl, hrm, ρ, m, [.room ls], s, .cons (.room hrm) .nil, ?_⟩
          have h' : Fin g W0 ρ H σ ((f [.room ls] m).bind fun d m' => match d with
            | .int n => if 0 ≤ n ∧ n < 2 ^ 62 then .ok (.int n) m' else .bad
            | _ => .bad) Q := h
          refine fin_any (Fin.bind h' fun ρ' H' v d m' u s' dv q => ?_)
          cases dv with
          | int n =>
            simp only at q
            split at q
            · rename_i hn
              exact ⟨n, rfl, hn.1, by omega, Fin.okc q s' (.int n)⟩
            · exact q.elim
          | _ => exact False.elim q
        | _ => exact .inr (other rfl (.cons (by first | assumption | constructor <;> assumption | constructor) .nil) h)) hm boot_len ha hg he

/-! ### bool -/
theorem boolNew_in {prog : Program} {w : World} (x : Value) : MeetsIn prog w (Builtin.«bool.__new__» ⟨[.type "bool", x], []⟩) (fun A R s => wpAny (model prog w) A.in1 (truthy x) (fun b s' => R (.ok (.ret (.bool b))) s') (fun e s' => R (.error e) s') s) := .of_wp fun A R s h => by
  obtain ⟨hp, g, d, tk, os⟩ := s
  have f1 := F.conv_sub_bool
  unfold Builtin.«bool.__new__»
  repeat (first
    | (refine wpAny_bind (m := truthy x) (wpAny_mono h (fun b s' q => wpAny_pure ⟨_, rfl, q⟩) fun _ _ z => z))
    | wp_step)
def gBool (f : Fn) : Fn
  | [.room ls], m => (f [.room ls] m).bind fun d m' => match d with
    | .bl b => .ok (.bl b) m'
    | _ => .bad
  | [.bl b], m => .ok (.bl b) m
  | [.int i], m => .ok (.bl (i != 0)) m
  | _, _ => .bad
theorem call_boolR (hK : X.K = g.K) (c : Dn X.prog X.w X.mg X.base g k "__bool__" f) (hr : Room j X.A) (hk : k + 2 ≤ j) : CallR X (.type "bool") (fun xs H Q => ∃ p ls, xs = [.ref p] ∧ RoomAt g H p ls ∧ spOf g f [.ref p] H (fun v H' => ∃ b : Bool, v = .bl b ∧ Q v H') E0) := by
  obtain ⟨ad, h1, h2, h3, F⟩ := c.ex
  rw [← hK] at h1 h2 F
  intro pins s σ H xs us Q I r h
  obtain ⟨p, ls, rfl, hrm, q⟩ := h
  obtain ⟨u, rfl, ru⟩ := vals1 r
  cases (show u = Value.ref p from ru)
  obtain ⟨ox, od, J⟩ := room_inst I hrm
  obtain ⟨mm, hF⟩ := I.fr
  have hr2 : Room k X.A.in1.in1 := (show Room (k + 1) X.A.in1 from Room.in1 (hr.mono hk)).in1
  refine callType_newIn PySem.F.called_bool PySem.F.newNe_bool (PySem.F.typeCall_bool_1 _) (PySem.F.newCall_bool_1 _) (fun obj => PySem.F.args_object_init_2 obj _) PySem.F.entry_bool_new (boolNew_in _) ?_
  refine PySem.W.truthy_K hF I.mod.kin J h1 h2 (wpAny_mono (run_room (us := [.ref p]) (vs := [.ref p]) F hr2 (env0_at I rfl) I (.cons rfl .nil) q) (fun v s' z => ?_) fun _ _ z => z)
  obtain ⟨v', H', I', rv, b, ev, q⟩ := z
  subst ev
  cases (show v = Value.bool b from rv)
  exact ⟨rfl, .bl b, H', I', rfl, q⟩
theorem te_boolU (hK : X.K = g.K) (c : Dn X.prog X.w X.mg X.base g k "__bool__" f) (hr : Room j X.A) (hm : X.mg "bool" = none) (ha : PA X [e] (Ta g W0 ps)) (hk : k + 2 ≤ j := by decide) (hg : Gl X "bool" := by rfl) (he : starEach [e] X.env = (false, eval e X.env) :: starEach [] X.env := by rfl) :
    PE X (.Call (.Name "bool" p') [e] [] pos) (T g W0 (pF (gBool f) ps)) :=
  te_ty (CallR.or (call_boolR hK c hr hk) call_bool1) (fun ρ m σ H ds vs Q s l h => by
    cases l with
    | nil => exact False.elim h
    | cons d1 l =>
      cases l with
      | cons d2 l => cases d1 <;> exact False.elim h
      | nil =>
        cases d1 with
        | @room p ls hrm =>
          refine .inl ⟨p, ls, rfl, hrm, ρ, m, [.room ls], s, .cons (.room hrm) .nil, ?_⟩
          have h' : Fin g W0 ρ H σ ((f [.room ls] m).bind fun d m' => match d with
            | .bl b => .ok (.bl b) m'
            | _ => .bad) Q := h
          refine fin_any (Fin.bind h' fun ρ' H' v d m' u s' dv q => ?_)
          cases dv with
          | bl b => exact ⟨b, rfl, Fin.okc q s' (.bl b)⟩
          | _ => exact False.elim q
        | bl b => exact .inr (.inr ⟨b, rfl, Fin.okc (W := W0) (σ := σ) h s (.bl _)⟩)
        | int i => exact .inr (.inl ⟨i, rfl, Fin.okc (W := W0) (σ := σ) h s (.bl _)⟩)
        | _ => exact False.elim h) hm (by decide +kernel) ha hg he

/-! ### any, all of a list -/
def blsOf : List D → Option (List Bool)
  | [] => some []
  | .bl b :: ds => (blsOf ds).map fun r => b :: r
  | _ => none
theorem bls_den {ds : List D} {vs : List V} (l : DenL g ρ H ds vs) {bs : List Bool} (h : blsOf ds = some bs) : vs = bs.map V.bl := by
  induction ds generalizing vs bs with
  | nil => cases l; cases h; rfl
  | cons d ds ih =>
    cases l with
    | cons a l =>
      cases a <;> try cases h
      simp only [blsOf, Option.map_eq_some_iff] at h
      obtain ⟨r, h1, rfl⟩ := h
      rw [ih l h1]; rfl
theorem vals_bls {bs : List Bool} {us : List Value} (r : Vals (bs.map V.bl) us) : us = bs.map Value.bool := by
  induction bs generalizing us with
  | nil => cases r; rfl
  | cons b bs ih =>
    cases r with
    | cons a t =>
      cases (show _ = Value.bool b from a)
      rw [ih t]; rfl
theorem range_any (bs : List Bool) : ((List.range bs.length).any fun i => bs.getD i false) = bs.any id := by
  induction bs with
  | nil => rfl
  | cons b bs ih =>
    rw [List.length_cons, List.range_succ_eq_map, List.any_cons, List.any_map, List.any_cons, ← ih]
    rfl
theorem call_anyL (hc : X.calm = true) : CallR X (.builtin "any") (fun xs H Q => ∃ (p : Addr) (bs : List Bool), xs = [.ref p] ∧ SqL X.K H p (bs.map V.bl) ∧ Q (.bl (bs.any id)) H) := by
  intro pins s σ H xs us Q I r h
  obtain ⟨p, bs, rfl, hp, q⟩ := h
  obtain ⟨u, rfl, ru⟩ := vals1 r
  cases (show u = Value.ref p from ru)
  obtain ⟨its, rv, pl, hz⟩ := I.list hp
  have hits := vals_bls rv
  have hl := pl.isList
  refine call_any_walk (wpAny_pyIter_list hl ?_)
  have hne : p ≠ s.heap.objs.size := by
    obtain ⟨o, ho, _⟩ := hl
    exact Nat.ne_of_lt (Heap.lt_size ho)
  refine ⟨s.heap.objs.size, _, _, _, _, _, fun i => bs.getD i false, rfl, Walks.list (A := X.A.in1) (I.ok.hd hc) _ p hne its.toArray, ⟨⟨_, Heap.get?_push_size _ rfl, rfl, rfl⟩, hl.at fun o e => Heap.get?_push_of_some _ e⟩, fun i v s Q E hv hq => ?_, fun h' tk hk => ?_⟩
  · have hv' : its.toArray[i]? = some v := hv
    rw [hits] at hv'
    simp only [List.getElem?_toArray, List.getElem?_map, Option.map_eq_some_iff] at hv'
    obtain ⟨b, hb, rfl⟩ := hv'
    refine wpAny_truthy_bool ?_
    have : bs.getD i false = b := by rw [List.getD_eq_getElem?_getD, hb]; rfl
    rw [← this]; exact hq
  · have e1 : its.toArray.size = bs.length := by rw [List.size_toArray, hits, List.length_map]
    refine ⟨.bl (bs.any id), H, I.kept fun b o e => hk b o (by simpa using fun z => Nat.lt_irrefl _ (z ▸ Heap.lt_size e)) (Heap.get?_push_of_some _ e), ?_, q⟩
    show _ = _
    rw [e1, range_any]
def gAny : Fn
  | [d], m => match lsD m d with
    | some xs => match blsOf xs with
      | some bs => .ok (.bl (bs.any id)) m
      | none => .bad
    | _ => .bad
  | _, _ => .bad
theorem te_any (hK : X.K = g.K) (hc : X.calm = true) (hm : X.mg "any" = none) (ha : PA X [e] (Ta g W ps)) (hg : Gl X "any" := by rfl) (he : starEach [e] X.env = (false, eval e X.env) :: starEach [] X.env := by rfl) :
    PE X (.Call (.Name "any" p') [e] [] pos) (T g W (pF gAny ps)) :=
  te_b (call_anyL hc) (fun ρ m σ H ds vs Q s l h => by
    cases l with
    | nil => exact False.elim h
    | cons d1 l =>
      cases l with
      | cons d2 l => cases d1 <;> exact False.elim h
      | nil =>
        simp only [gAny] at h
        split at h
        · rename_i xs hc
          obtain ⟨p, ws, rfl, r, l⟩ := s.seq (by assumption) hc
          split at h
          · rename_i bs hb
            have ev := bls_den l hb
            subst ev
            exact ⟨p, bs, rfl, .inl r, Fin.okc (W := W) (σ := σ) h s (.bl _)⟩
          · exact h.elim
        · exact h.elim) hm (by decide +kernel) ha hg he

/-! ### list(..), tuple(..) -/
def gListOf : Fn
  | [.loc n], m => match m[n]? with
    | some (.lst xs) => .ok (.loc m.length) (m ++ [.lst xs])
    | _ => .bad
  | [.tup xs], m => .ok (.loc m.length) (m ++ [.lst xs])
  | [.fl xs], m => .ok (.loc m.length) (m ++ [.lst xs])
  | _, _ => .bad
theorem te_listOf (hK : X.K = g.K) (hm : X.mg "list" = none) (ha : PA X [e] (Ta g W ps)) (hg : Gl X "list" := by rfl) (he : starEach [e] X.env = (false, eval e X.env) :: starEach [] X.env := by rfl) :
    PE X (.Call (.Name "list" p') [e] [] pos) (T g W (pF gListOf ps)) :=
  te_ty call_list_of (fun ρ m σ H ds vs Q s l h => by
    rw [hK]
    cases l with
    | nil => exact False.elim h
    | cons d1 l =>
      cases l with
      | cons d2 l => cases d1 <;> exact False.elim h
      | nil =>
        cases d1 with
        | @loc n p hp =>
          simp only [gListOf] at h
          split at h
          · rename_i xs hc
            obtain ⟨_, e1, _, ws, hv, l⟩ := s.cell (.loc hp) hc
            cases e1
            exact ⟨p, ws, rfl, .inl (SqL.of hv), fun q hq => Fin.newL (W := W) (σ := σ) h s hq l⟩
          · exact h.elim
        | @tup p ds vs hp l => exact ⟨p, vs, rfl, .inr hp, fun q hq => Fin.newL (W := W) (σ := σ) h s hq l⟩
        | @fl p ds vs hp l => exact ⟨p, vs, rfl, .inl hp.sq, fun q hq => Fin.newL (W := W) (σ := σ) h s hq l⟩
        | _ => exact False.elim h) hm (by decide +kernel) ha hg he
def gTupOf : Fn
  | [.loc n], m => match m[n]? with
    | some (.lst xs) => .ok (.tup xs) m
    | _ => .bad
  | [.tup xs], m => .ok (.tup xs) m
  | [.fl xs], m => .ok (.tup xs) m
  | _, _ => .bad
theorem te_tupOf (hK : X.K = g.K) (hm : X.mg "tuple" = none) (ha : PE X a (T g W pa)) (hg : Gl X "tuple" := by rfl) (he : starEach [a] X.env = (false, eval a X.env) :: starEach [] X.env := by rfl) :
    PE X (.Call (.Name "tuple" p') [a] [] pos) (T g W (p1 gTupOf pa)) :=
  PE.imp (pe_tupleOf hg hm ha he) fun σ H Q h => t_op1 (f := gTupOf) (r := fun x H Q => kTup X.K x H Q) (fun ρ m σ H d x Q s dv h => by
    rw [hK]
    cases dv with
    | @loc n p hp =>
      simp only [gTupOf] at h
      split at h
      · rename_i xs hc
        obtain ⟨_, e1, _, ws, hv, l⟩ := s.cell (.loc hp) hc
        cases e1
        exact .inl ⟨p, ws, rfl, SqL.of hv, fun q hq => h.newT s hq l⟩
      · exact h.elim
    | @tup p ds vs hp l => exact .inr ⟨p, vs, rfl, hp, h.okc s (.tup hp l)⟩
    | @fl p ds vs hp l => exact .inl ⟨p, vs, rfl, hp.sq, fun q hq => h.newT s hq l⟩
    | _ => exact False.elim h) h

/-! ### t[::-1] of a tuple -/
section
variable {prog : Program} {w : World} {A : Around} {E : Value → Shared → Prop} {s : Shared}
theorem sliceApplied_rev {sl : Addr} {n : Nat} {u : Tok} {Q : Int × Int × Nat → Shared → Prop} (hs : s.heap.IsSliceOf sl .none .none (.int (-1) u)) (h : Q ((n : Int) - 1, -1, n) s) :
    wpAny (model prog w) A (Builtin.Slice.sliceApplied (.ref sl) (pure (n : Int))) Q E s := by
  obtain ⟨os, hos, hcs, hds⟩ := id hs
  unfold Builtin.Slice.sliceApplied Builtin.Slice.sliceFields
  refine wpAny_bind (wpAny_bind (wpAny_field hos hds (x := .none) rfl (wpAny_bind (wpAny_field hos hds (x := .none) rfl (wpAny_bind (wpAny_field hos hds (x := .int (-1) u) rfl (wpAny_pure ?_)))))))
  refine wpAny_bind (slicePart_int ?_)
  show wpAny _ _ (if ((-1 : Int) == 0) = true then _ else _) _ _ s
  rw [if_neg (by decide)]
  refine wpAny_bind (slicePart_none (wpAny_bind (slicePart_none (wpAny_bind (wpAny_pure ?_)))))
  have e1 : Builtin.Slice.sliceAdjust none none (-1) (n : Int) = ((n : Int) - 1, -1) := by
    unfold Builtin.Slice.sliceAdjust
    simp
  have e2 : Builtin.Slice.slicePlaces ((n : Int) - 1) (-1) (-1) = n := by
    unfold Builtin.Slice.slicePlaces
    have h1 : ¬ ((-1 : Int) > 0) := by omega
    rw [if_neg h1]
    have h2 : ((n : Int) - 1 - -1 - 1) / - -1 = (n : Int) - 1 := by
      rw [show -(-1 : Int) = 1 from rfl, Int.ediv_one]; omega
    rw [h2]
    split <;> omega
  show wpAny _ _ (match Builtin.Slice.sliceAdjust none none (-1) (n : Int) with | (lo, hi) => pure (lo, (-1 : Int), Builtin.Slice.slicePlaces lo hi (-1))) _ _ s
  rw [e1]
  show wpAny _ _ (pure ((n : Int) - 1, (-1 : Int), Builtin.Slice.slicePlaces ((n : Int) - 1) (-1) (-1))) _ _ s
  rw [e2]
  exact wpAny_pure h
theorem pick_rev (xs : Array Value) : ((List.range xs.size).filterMap fun (k : Nat) => xs[((xs.size : Int) - 1 + (k : Int) * -1).toNat]?).toArray = xs.toList.reverse.toArray := by
  congr 1
  apply List.ext_getElem?
  intro i
  have e : ((List.range xs.size).filterMap fun (k : Nat) => xs[((xs.size : Int) - 1 + (k : Int) * -1).toNat]?) = (List.range xs.size).map fun k => xs.toList.reverse.getD k .none := by
    have key : ∀ l : List Nat, (∀ k ∈ l, k < xs.size) → (l.filterMap fun (k : Nat) => xs[((xs.size : Int) - 1 + (k : Int) * -1).toNat]?) = l.map fun k => xs.toList.reverse.getD k .none := by
      intro l
      induction l with
      | nil => intro _; rfl
      | cons k l ih =>
        intro hl
        have hk' : k < xs.size := hl k List.mem_cons_self
        have e1 : ((xs.size : Int) - 1 + (k : Int) * -1).toNat = xs.size - 1 - k := by omega
        have h2 : xs.size - 1 - k < xs.size := by omega
        have e3 : xs[((xs.size : Int) - 1 + (k : Int) * -1).toNat]? = some (xs.toList.reverse.getD k .none) := by
          rw [e1, Array.getElem?_eq_getElem h2, List.getD_eq_getElem?_getD, List.getElem?_eq_getElem (by simpa using hk')]
          simp
        rw [List.filterMap_cons, e3, List.map_cons]
        exact congrArg _ (ih fun k hk => hl k (List.mem_cons_of_mem _ hk))
    exact key _ fun k hk => List.mem_range.mp hk
  rw [e, List.getElem?_map]
  by_cases h : i < xs.size
  · rw [List.getElem?_eq_getElem (by simpa using h), List.getElem?_eq_getElem (l := xs.toList.reverse) (by simpa using h)]
    simp only [List.getElem_range, Option.map_some]
    rw [List.getD_eq_getElem?_getD, List.getElem?_eq_getElem (l := xs.toList.reverse) (by simpa using h)]
    rfl
  · rw [List.getElem?_eq_none (by simpa using Nat.not_lt.mp h), List.getElem?_eq_none (by simpa using Nat.not_lt.mp h)]
    rfl
theorem getItem_tuple_rev {t sl : Addr} {items : Array Value} {u : Tok} {Q : Value → Shared → Prop} (ht : IsTup s.heap t items) (hs : s.heap.IsSliceOf sl .none .none (.int (-1) u))
    (h : Q (.ref s.heap.objs.size) { s with heap := s.heap.push { cls := .type "tuple", data := .seq items.toList.reverse.toArray } })
    (hsz : items.size ≤ sizeLine) : wpAny (model prog w) A (getItem (.ref t) (.ref sl)) Q E s := by
  have hdrop : sizeOk (.seq items.toList.reverse.toArray) := by
    show items.toList.reverse.toArray.size ≤ sizeLine
    rw [List.size_toArray, List.length_reverse, Array.length_toList]
    exact hsz
  obtain ⟨os, hos, hcs, hds⟩ := id hs
  have hTs : s.TypeIs (.ref sl) "slice" := ⟨os, hos, hcs⟩
  unfold getItem
  try with_reducible refine wpAny_holding ?_
  first | refine wpAny_bind (wpAny_pure ?_) | skip
  refine wpAny_bind (wpAny_sequenceKey ht.typeIs (by decide) ?_)
  refine wpAny_bind (wpAny_callSpecial?_slot (name := Str.ofString "__getitem__") ht.typeIs slot_tuple_getitem
    (wpAny_call_entry slot_tuple_getitem ht.typeIs entry_tuple_getitem ?_ (args_tuple_getitem _ _)))
  show wpAny _ _ (Builtin.Tuple.tupleItemsOf (.ref t) >>= _) _ _ s
  refine wpAny_bind (tupleItemsOf_ ht ?_)
  refine wpAny_bind (wpAny_typeOf hTs ?_)
  rw [if_pos (by decide)]
  refine wpAny_bind (sliceApplied_rev hs ?_)
  have hno : ¬ (((items.size : Int) - 1 == 0 && (-1 : Int) == 1 && items.size == items.size) = true) := by simp
  show wpAny _ _ (if ((items.size : Int) - 1 == 0 && (-1 : Int) == 1 && items.size == items.size) = true then _ else _) _ _ s
  rw [if_neg hno, pick_rev items]
  first
    | exact wpAny_bind (m := Builtin.Tuple.tupleExact _) (wpAny_newObj_type (wpAny_pure ⟨_, rfl, wpAny_pure h⟩) hdrop)
    | exact wpAny_bind (m := Builtin.Tuple.tupleExact _) (wpAny_newObj_type (wpAny_bind (wpAny_pure (wpAny_pure ⟨_, rfl, wpAny_pure h⟩))) hdrop)
    | exact wpAny_bind (wpAny_bind (m := Builtin.Tuple.tupleExact _) (wpAny_newObj_type (wpAny_pure (wpAny_pure ⟨_, rfl, wpAny_pure h⟩)) hdrop))
    | exact wpAny_bind (wpAny_bind (m := Builtin.Tuple.tupleExact _) (wpAny_newObj_type (wpAny_pure ⟨_, rfl, wpAny_pure h⟩) hdrop))
end
def gRevT : Fn
  | [.tup xs], m => .ok (.tup xs.reverse) m
  | _, _ => .bad
theorem isPart_int {v : Value} {i : Int} (h : IsPart v (some i)) : ∃ t, v = .int i t := by
  cases h; exact ⟨_, rfl⟩
theorem te_revT {kk : Nat} {q1 q2 q3 : Pos} (hK : X.K = g.K) (ha : PE X a (T g W pa)) : PE X (.Subscript a (.Slice none none (some (.UnaryOp .USub (.Constant (.int 1) kk q1) q2)) q3) pos) (T g W (p1 gRevT pa)) := by
  refine ⟨fun pins s σ H Q I h => ?_⟩
  have h2 := t_op1 (f := gRevT) (r := fun x H1 Q => ∃ a xs, x = .ref a ∧ SqT X.K H1 a xs ∧ ∀ p, H1 p = none → Q (.ref p) (upd H1 p (.tup xs.reverse))) (fun ρ m σ H d x Q s dv h => by
    cases dv with
    | @tup p ds vs hp l => exact ⟨p, vs, rfl, by rw [hK]; exact hp, fun q hq => Fin.newT (W := W) (σ := σ) h s hq l.reverse⟩
    | _ => exact False.elim h) h
  refine Subscript_ (thn (ha.run pins s σ H _ I h2) fun v s1 ⟨x, H1, I1, r1, q1⟩ => ?_)
  obtain ⟨p, xs, ex, hx, q⟩ := q1
  subst ex
  cases (show v = Value.ref p from r1)
  have hst : PO X (some (.UnaryOp .USub (.Constant (.int 1) kk q1) q2)) (tPart (tUn (rU fun i => .int (-i)) (tC (.int 1)))) := po_some (pe_un un_neg pe_int)
  refine wpAny_Slice (thn (po_none.run pins s1 σ H1 (fun o H2 => o = none ∧ H2 = H1) I1 ⟨rfl, rfl⟩) fun vl s2 ⟨l, H2, I2, pl, el, e2⟩ => ?_)
  subst el e2
  refine thn (po_none.run pins s2 σ H2 (fun o H3 => o = none ∧ H3 = H2) I2 ⟨rfl, rfl⟩) fun vu s3 ⟨u, H3, I3, pu, eu, e3⟩ => ?_
  subst eu e3
  refine thn (hst.run pins s3 σ H3 (fun o H4 => o = some (-1) ∧ H4 = H3) I3 ⟨1, rfl, -1, rfl, rfl, rfl⟩) fun vs s4 ⟨o, H4, I4, ps, eo, e4⟩ => ?_
  subst eo e4
  cases pl
  cases pu
  obtain ⟨tt, rfl⟩ := isPart_int ps
  have I5 : Inv X pins σ H4 { s4 with heap := s4.heap.push { cls := .type "slice", data := .fields #[.none, .none, .int (-1) tt] } } := I4.kept (t' := s4.toks) fun b ob q => Heap.get?_push_of_some _ q
  obtain ⟨its, r, ht, hz⟩ := I5.tuple hx
  have hlen := r.length
  show wpAny (model X.prog X.w) X.A (subscriptTail a (.Slice none none (some (.UnaryOp .USub (.Constant (.int 1) kk q1) q2)) q3) (.ref p) (.ref s4.heap.objs.size)) (EP X pins σ Q) X.xe { s4 with heap := s4.heap.push { cls := .type "slice", data := .fields #[.none, .none, .int (-1) tt] } }
  refine tail_any (ops := [.ref p, .ref s4.heap.objs.size]) ht.typeIs (PyProof.Rows.slot_tuple_getitem.lookup) ?_ (by with_unfolding_all rfl)
  refine getItem_tuple_rev ht (Heap.IsSliceOf.new ..) ?_ (by rw [List.size_toArray]; omega)
  refine ⟨.ref _, _, I5.laid (t' := s4.toks) (o := .tup xs.reverse) (fun b ob q => Heap.get?_push_of_some _ q) (Nat.le_refl _) ?_, rfl, q _ (I5.hok.fresh (Nat.le_refl _))⟩
  refine ⟨by rw [List.length_reverse]; exact hz, its.reverse, r.reverse, ?_⟩
  have : its.toArray.toList.reverse.toArray = its.reverse.toArray := by simp
  rw [this]
  exact IsTup.new _ _
end MT

/-! MT15: a comprehension whose element wants a token (str.replace). -/
namespace MTR
open PySem PySem.Spec PyProof.Rows L2
theorem thnT {M : Model} {A : Around} {E : Value → Shared → Prop} {α : Type} {t : Sem α} {Q Q' : α → Shared → Prop} {s : Shared} (h0 : 1 ≤ s.toks) (h : wpAny M A t Q E s) (k : ∀ a s1, 1 ≤ s1.toks → Q a s1 → Q' a s1) : wpAny M A t Q' E s :=
  wpAny_mono (PySem.wpAny_toks h) (fun a s1 q => k a s1 (Nat.le_trans h0 q.1) q.2) fun _ _ z => z.2
theorem thnFT {M : Model} {A : Around} {E : Value → Shared → Prop} {α : Type} {t : Sem α} {Q Q' : α → Shared → Prop} {s : Shared} (h0 : 1 ≤ s.toks) (h : wpAny M A t Q (fun _ _ => False) s) (k : ∀ a s1, 1 ≤ s1.toks → Q a s1 → Q' a s1) : wpAny M A t Q' E s :=
  wpAny_mono (PySem.wpAny_toks h) (fun a s1 q => k a s1 (Nat.le_trans h0 q.1) q.2) fun _ _ z => z.2.elim
section
variable {X : Cx}
theorem lcT {pins : List (Addr × Obj)} {s : Shared} {σ : L2.St} {H : Hp} {Q : VK} {elt tg iter : Expr} {scope : Scope} {own : List (Str × Nat)} {pos pos' : Pos} {wi : TI} {g : TG} {te : TE} {use : Option (Value → Sem Unit)} {Qf : Value → Shared → Prop} (h0 : 1 ≤ s.toks)
    (hc : X.calm = true) (hN : X.N.Nodup) (I : Inv X pins σ H s) (hi : PI X tg iter wi) (ok : BlkOk X.N X.env.scope scope own)
    (hg : ∀ (s : Shared) (H : Hp) (C : Addr) (cl : List (Str × Addr)) (fp : List Addr), PG (X.blk s H scope (compEnvC scope cl C X.env) fp) tg g)
    (he : ∀ (s : Shared) (H : Hp) (C : Addr) (cl : List (Str × Addr)) (fp : List Addr), PET (X.blk s H scope (compEnvC scope cl C X.env) fp) elt te) (hs : ∀ x, foldedSetIterable iter X.env x = pure x)
    (h : tLc wi g tYes te (own.map (·.2)) σ H Q)
    (hRR : ∀ D C s' m H', 1 ≤ s'.toks → Inv X pins σ H' s' → Q (.ref D) H' → s'.heap.Ns C m → FpOk X pins H' C → compPost (model X.prog X.w) X.A X.xe use Qf (.ref D) C (.ok .next) s') :
    wpAny (model X.prog X.w) X.A (comprehension (.ListComp elt [⟨tg, iter, [], 0⟩] scope pos) scope X.env pos' (newList []) false (eval iter X.env) use) Qf X.xe s := by
  have hfree : ∀ y ∈ scope.names, y.2 = .free → ∃ c, X.env.cells.lookup y.1 = some c := fun y hy e =>
    I.ok.has _ (ok.free y hy e)
  refine wpAny_comprehension_free (use := use) rfl hs (closure_ok hfree) ok.kind (fun y hy e => by rw [ok.uniq y hy, e])
    (thnT h0 (hi.run pins s σ H _ I h) fun xv s1 t1 hx => thnT t1 hx fun itv s2 t2 h2 => ?_)
  obtain ⟨it, fp, tn, J, H2, e, I2, T, st2, f2, q⟩ := h2
  subst e
  refine wpAny_newObj_type (newEnv_comp ?_) (by show 0 ≤ sizeLine; decide)
  generalize hD : s2.heap.objs.size = D
  have hDn : H2 D = none := I2.hok.fresh (Nat.le_of_eq hD)
  obtain ⟨W, ⟨m0, w0⟩, turn⟩ := q D hDn
  generalize hs3 : ({ s2 with heap := s2.heap.push { cls := .type "list", data := .seq ([] : List Value).toArray } } : Shared) = s3
  have t3 : 1 ≤ s3.toks := by rw [← hs3]; exact t2
  have I3 : Inv X pins σ (upd H2 D (.lst [])) s3 := by
    rw [← hs3]
    refine I2.laid (t' := s2.toks) (fun b o e => Heap.get?_push_of_some _ e) (Nat.le_of_eq hD) ⟨Nat.zero_le _, [], 0, .nil, ?_⟩
    rw [← hD]
    exact Heap.get?_push_size _ rfl
  have h3 : s3.heap = s2.heap.push { cls := .type "list", data := .seq ([] : List Value).toArray } := by rw [← hs3]
  have f3 : ∀ b ∈ fp, FpOk X pins (upd H2 D (.lst [])) b ∧ b < s3.heap.objs.size := fun b hb => by
    obtain ⟨o, e, _⟩ := T.obj _ _ st2 b hb
    have hlt := Heap.lt_size e
    refine ⟨⟨?_, (f2 b hb).2⟩, by rw [h3, Heap.size_push]; exact Nat.lt_succ_of_lt hlt⟩
    rw [upd_ne (by rw [← hD]; exact Nat.ne_of_lt hlt)]
    exact (f2 b hb).1
  have st3 : tn 0 s3.heap := T.keep _ _ _ st2 fun b _ o e => by rw [h3]; exact Heap.get?_push_of_some _ e
  have I4 := block_start I3 ok hN f3
  have pg := hg s3 (upd H2 D (.lst [])) s3.heap.objs.size (cellsFrom (s3.heap.objs.size + 1) scope.names (cloFrom X.env.cells scope.names [])) fp
  have pe := he s3 (upd H2 D (.lst [])) s3.heap.objs.size (cellsFrom (s3.heap.objs.size + 1) scope.names (cloFrom X.env.cells scope.names [])) fp
  show codeAny _ _ (.compStart (.ListComp elt [⟨tg, iter, [], 0⟩] scope pos) 0 (.ref it) (.ref D) (compEnvC scope (cellsFrom (s3.heap.objs.size + 1) scope.names (cloFrom X.env.cells scope.names [])) s3.heap.objs.size X.env)) (compPost (model X.prog X.w) X.A X.xe use Qf (.ref D) s3.heap.objs.size) { s3 with heap := pushCells (s3.heap.push { cls := .type "dict", data := .dict #[] }) scope.names }
  have nfp : ∀ b ∈ fp, (upd H2 D (.lst [])) b = none := fun b hb => (f3 b hb).1.1
  generalize hce : compEnvC scope (cellsFrom (s3.heap.objs.size + 1) scope.names (cloFrom X.env.cells scope.names [])) s3.heap.objs.size X.env = ce at I4 pg pe ⊢
  have cL : ce.locals = s3.heap.objs.size := by subst hce; rfl
  generalize hH3 : upd H2 D (.lst []) = H3 at I3 I4 pg pe w0 nfp f3
  generalize hs4 : ({ s3 with heap := pushCells (s3.heap.push { cls := .type "dict", data := .dict #[] }) scope.names } : Shared) = s4 at I4 ⊢
  have t4 : 1 ≤ s4.toks := by rw [← hs4]; exact t3
  have st4 : tn 0 s4.heap := T.keep _ _ _ st3 fun b _ o e => by rw [← hs4]; exact pushCells_keeps _ _ _ _ (Heap.get?_push_of_some _ e)
  have stat : ∀ {σ' : L2.St} {H' : Hp} {s' : Shared}, Inv (X.blk s3 H3 scope ce fp) [] σ' H' s' → (∀ b ∈ fp, H' b = none) → ∀ b ∈ fp, FpOk (X.blk s3 H3 scope ce fp) [] H' b := fun {σ' H' s'} I' hn b hb =>
    ⟨hn b hb, (I'.ok.exf b hb).1, I'.ok.exfs b hb, .inl hb, fun x c e => (I'.ok.exf b hb).2 x c e, fun p hp => absurd (show p ∈ ([] : List (Addr × Obj)) ++ [] from hp) (by simp)⟩
  have loop : codeAny (model X.prog X.w) X.A (.compLoop (.ListComp elt [⟨tg, iter, [], 0⟩] scope pos) 0 (.ref it) (.ref D) ce) (compPost (model X.prog X.w) X.A X.xe use Qf (.ref D) s3.heap.objs.size) s4 := by
    refine compLoop_any (fun n s' => 1 ≤ s'.toks ∧ ∃ i H', Inv (X.blk s3 H3 scope ce fp) [] (wipe σ (own.map (·.2))) H' s' ∧ tn i s'.heap ∧ (∀ b ∈ fp, H' b = none) ∧ W i n H') ?_ m0 ⟨t4, 0, H3, I4, st4, nfp, w0⟩
    rintro n s5 ⟨t5, i, H5, I5, st5, n5, w5⟩
    rcases turn i n H5 w5 with ⟨stop, qq⟩ | ⟨go, Nx, hNx, step⟩
    · have td := T.done (X.blk s3 H3 scope ce fp) rfl rfl rfl hc i [] s5 _ H5 (fun _ _ => False) I5 (stat I5 n5) st5 stop
      refine thnFT t5 td fun r s6 t6 ⟨hr, I6⟩ => ?_
      subst hr
      have I7 : Inv X pins σ H5 s6 := I3.call' (ch := fp) I6.os I6.base I6.hok I6.bare fun b hb => ⟨(f3 b hb).1.2.2.2.1, (f3 b hb).1.2.1, (f3 b hb).1.2.2.2.2.1, (f3 b hb).1.2.2.2.2.2⟩
      have nC : H5 s3.heap.objs.size = none := by
        have z : H5 ce.locals = none := I6.free
        rw [cL] at z
        exact z
      obtain ⟨m, hn, _⟩ := I6.loc
      have hn : s6.heap.Ns ce.locals m := hn
      rw [cL] at hn
      exact hRR D s3.heap.objs.size s6 m H5 t6 I7 qq hn (I3.fpOk (Nat.le_refl _) nC)
    · have ti := T.item (X.blk s3 H3 scope ce fp) rfl rfl rfl hc i [] s5 _ H5 (fun _ _ => False) I5 (stat I5 n5) st5 go
      refine thnFT t5 ti fun r s6 t6 ⟨u, hr, h6⟩ => ?_
      subst hr
      refine thnFT t6 h6 fun _ s7 t7 ⟨x, H7, I7, r7, y7, st7, n7⟩ => ?_
      have I7' := I7.pinned (stat I7 n7) (T.obj _ _ st7)
      refine thnFT t7 (pg.run _ s7 _ H7 x u _ I7' r7 (step x H7 y7)) fun _ s8 t8 ⟨σ8, H8, I8, hw8, q8⟩ => ?_
      refine thnFT t8 ((pts_nil (X := X.blk s3 H3 scope ce fp)).run _ s8 σ8 H8 _ I8 q8) fun b s9 t9 ⟨H9, I9, q9⟩ => ?_
      have fin : ∀ {s' : Shared} {H' : Hp}, 1 ≤ s'.toks → Inv (X.blk s3 H3 scope ce fp) ([] ++ pinsAt fp s7.heap) σ8 H' s' → Nx H' → ∃ m, m < n ∧ 1 ≤ s'.toks ∧ ∃ i H', Inv (X.blk s3 H3 scope ce fp) [] (wipe σ (own.map (·.2))) H' s' ∧ tn i s'.heap ∧ (∀ b ∈ fp, H' b = none) ∧ W i m H' := fun {s' H'} t' I' nx => by
        obtain ⟨m', hm, w'⟩ := hNx H' nx
        have pin' : ∀ b ∈ fp, ∀ o, s7.heap.get? b = some o → s'.heap.get? b = some o ∧ H' b = none := fun b hb o e =>
          let z := I'.pin (b, o) (List.mem_append_right _ (List.mem_append_right _ (mem_pinsAt hb e)))
          ⟨z.1, z.2.1⟩
        have hl : (wipe σ (own.map (·.2))).length = σ8.length := by rw [← hw8, wipe_length]
        refine ⟨m', hm, t', i + 1, H', (I'.unpinned (pins := [])).weak hl (fun j v e => ?_), T.keep _ _ _ st7 fun b hb o e => (pin' b hb o e).1, fun b hb => ?_, w'⟩
        · rw [← hw8] at e
          exact (wipe_some e).1
        · obtain ⟨o, e, _⟩ := T.obj _ _ st7 b hb
          exact (pin' b hb o e).2
      cases b with
      | false =>
        simp only [Bool.false_eq_true, if_false] at q9 ⊢
        exact fin t9 I9 q9
      | true =>
        simp only [if_true] at q9 ⊢
        refine thnFT t9 (pe _ s9 σ8 H9 _ t9 I9 q9) fun z s10 t10 ⟨yv, H10, I10, r10, acc, hD10, hz10, nx⟩ => ?_
        exact thnT t10 (app_ok (X := X.blk s3 H3 scope ce fp) (Q := fun _ s11 => L2.Inv (X.blk s3 H3 scope ce fp) ([] ++ pinsAt fp s7.heap) σ8 (upd H10 D (.lst (acc ++ [yv]))) s11) I10 hD10 hz10 r10 fun s11 I11 => I11) fun _ s11 t11 I11 => fin t11 I11 nx
  exact codeAny_compStart_list loop (T.self X.A 0 _ _ _ st4 loop)
theorem pet_lc {elt tg iter : Expr} {scope : Scope} {own : List (Str × Nat)} {pos : Pos} {wi : TI} {g : TG} {te : TE} (hc : X.calm = true) (hN : X.N.Nodup) (hi : PI X tg iter wi) (ok : BlkOk X.N X.env.scope scope own)
    (hg : ∀ (s : Shared) (H : Hp) (C : Addr) (cl : List (Str × Addr)) (fp : List Addr), PG (X.blk s H scope (compEnvC scope cl C X.env) fp) tg g)
    (he : ∀ (s : Shared) (H : Hp) (C : Addr) (cl : List (Str × Addr)) (fp : List Addr), PET (X.blk s H scope (compEnvC scope cl C X.env) fp) elt te) (hs : ∀ x, foldedSetIterable iter X.env x = pure x := by intro _; rfl) :
    PET X (.ListComp elt [⟨tg, iter, [], 0⟩] scope pos) (tLc wi g tYes te (own.map (·.2))) := by
  intro pins s σ H Q h0 I h
  rw [eval_ListComp]
  refine lcT h0 hc hN I hi ok hg he hs h fun D C s' m H' _ I' q hn f => ⟨m, hn, fun h'' sb => ?_⟩
  obtain ⟨f0, f1, f2, f3, f4, f5⟩ := f
  exact ⟨.ref D, H', I'.turned (t' := s'.toks) (fun b o hb e => (sb.2 b hb).trans e) f0 f1 f3 f4 f5, rfl, q⟩
theorem pst_setLc {i : Nat} {y : Str} {py : Pos} {elt tg iter : Expr} {scope : Scope} {own : List (Str × Nat)} {pos spos : Pos} {wi : TI} {g : TG} {te : TE} (hc : X.calm = true) (hN : X.N.Nodup) (hy : X.N[i]? = some y) (hyl : X.env.scope.names.lookup y = some .local)
    (hsw : swapsWith (.ListComp elt [⟨tg, iter, [], 0⟩] scope pos) (some (.Name y py)) spos.line X.env = pure true) (hi : PI X tg iter wi) (ok : BlkOk X.N X.env.scope scope own)
    (hg : ∀ (s : Shared) (H : Hp) (C : Addr) (cl : List (Str × Addr)) (fp : List Addr), PG (X.blk s H scope (compEnvC scope cl C X.env) fp) tg g)
    (he : ∀ (s : Shared) (H : Hp) (C : Addr) (cl : List (Str × Addr)) (fp : List Addr), PET (X.blk s H scope (compEnvC scope cl C X.env) fp) elt te) (hs : ∀ x, foldedSetIterable iter X.env x = pure x := by intro _; rfl) :
    PST X (.Assign [.Name y py] (.ListComp elt [⟨tg, iter, [], 0⟩] scope pos) spos) (tAsg (tLc wi g tYes te (own.map (·.2))) (gName i)) := by
  intro pins s σ H D h0 I h
  rw [exec_Assign_Name_used _ _ _ _ hsw]
  refine wpAny_bind (wpAny_standAt (wpAny_bind ?_))
  show wpAny _ X.A (do let _ ← comprehension (.ListComp elt [⟨tg, iter, [], 0⟩] scope pos) scope X.env (firstIterPos [⟨tg, iter, [], 0⟩] pos) (newList []) false (eval iter X.env) (some (assign (.Name y py) X.env))) _ _ s
  have h : tLc wi g tYes te (own.map (·.2)) σ H (fun x H1 => gName i x σ H1 D.nx) := h
  refine wpAny_bind (thn (lcT (Qf := fun _ s' => SP X pins D .next s') h0 hc hN I hi ok hg he hs h fun L C s' m H' _ I' q hn f => ?_) fun _ s' hq => wpAny_pure (wpAny_pure hq))
  show wpAny _ _ (assign (.Name y py) X.env (.ref L)) _ _ _
  refine wpAny_assign_Name (store_ok2 (v := V.ref L) I' hN hy (.inl hyl) rfl (fun s2 I2 ⟨a, sb, ha⟩ => ?_) (.inr hyl))
  obtain ⟨f0, f1, f2, f3, f4, f5⟩ := f
  have haC : C ≠ a := by
    rcases ha with z | z
    · rw [z]; exact f1
    · exact fun e => f4 y a z e.symm
  refine ⟨m, hn.sameBut sb haC, fun h3 sb3 => ?_⟩
  exact ⟨_, H', I2.turned (t' := s2.toks) (fun b o hb e => (sb3.2 b hb).trans e) f0 f1 f3 f4 f5, q⟩
/-- a statement behind which a token is out -/
def PSK (X : Cx) (st : Stmt) (t : TS) : Prop :=
  ∀ (pins : List (Addr × Obj)) (s : Shared) (σ : L2.St) (H : Hp) (D : Ends), Inv X pins σ H s → t D σ H → wpAny (model X.prog X.w) X.A (exec st X.env) (fun f s' => 1 ≤ s'.toks ∧ SP X pins D f s') X.xe s
theorem pssk_cons {st : Stmt} {rest : List Stmt} {t u : TS} (h1 : PSK X st t) (h2 : PSsT X rest u) : L2.PSs X (st :: rest) (tSeq t u) := by
  refine ⟨fun pins s σ H D I h => ?_⟩
  refine wpAny_execs_cons (wpAny_mono (h1 pins s σ H { D with nx := u D } I h) (fun f s1 q => ?_) fun _ _ x => x)
  obtain ⟨hk, q⟩ := q
  cases f with
  | next =>
    obtain ⟨σ', H', I', q⟩ := q
    exact h2 pins s1 σ' H' D hk I' q
  | ret v => exact q
  | brk => exact q
  | cont => exact q
end
end MTR
namespace MT
open PySem PySem.Spec PyProof.Rows L2 StX MTR
variable {g : G} {ρ ρ' ρ1 ρ2 : List Addr} {H H' H1 H2 : Hp} {m m' : Store} {ε ε' : EnvD} {σ σ' : L2.St} {W : Wx} {r : Res D} {Q Q' : VK} {X : Cx} {a b c e o : Expr} {pa pb pc pe po : Pg} {pos apos : Pos} {D0 : Ends} {es : List Expr} {ps : List Pg} {f : Fn} {k j : Nat} {x mm : Str} {p' : Pos}
theorem PET.imp {t t' : TE} (h : PET X e t) (i : ∀ σ H Q, t' σ H Q → t σ H Q) : PET X e t' := fun pins s σ H Q h0 I q => h pins s σ H Q h0 I (i σ H Q q)
theorem PST.imp {st : Stmt} {t t' : TS} (h : PST X st t) (i : ∀ D σ H, t' D σ H → t D σ H) : PST X st t' := fun pins s σ H D h0 I q => h pins s σ H D h0 I (i D σ H q)
theorem PSsT.imp {st : List Stmt} {t t' : TS} (h : PSsT X st t) (i : ∀ D σ H, t' D σ H → t D σ H) : PSsT X st t' := fun pins s σ H D h0 I q => h pins s σ H D h0 I (i D σ H q)
def gRepl (y z : Str) : Fn
  | [.str x], m => if x.length + (x.length + 1) * z.length ≤ lim then .ok (.str (Txt.replace x y z)) m else .bad
  | _, _ => .bad
theorem o_repl {y z : Str} : Op1 g W (fun v H1 Q => ∃ x, v = .str x ∧ x.length + (x.length + 1) * z.length ≤ 16777216 ∧ Q (.str (Txt.replace x y z)) H1) (gRepl y z) := by
  intro ρ m σ H d x Q s dv h
  cases dv with
  | str x =>
    simp only [gRepl] at h
    split at h
    · rename_i hl
      exact ⟨x, rfl, lim16 hl, Fin.okc h s (.str _)⟩
    · exact h.elim
  | _ => exact False.elim h
theorem tet_repl {y z : Str} {jj kk : Nat} {c0 c1 : Pos} (ho : PE X o (T g W po)) (hyz : (y == z) = false := by decide)
    (hst : starEach [.Constant (.str y) jj c0, .Constant (.str z) kk c1] X.env = [(false, eval (.Constant (.str y) jj c0) X.env), (false, eval (.Constant (.str z) kk c1) X.env)] := by rfl)
    (hbase : attributeBase o "replace" X.env (eval o X.env) = eval o X.env := by rfl) (hline : (apos.endLine == pos.line) = true := by rfl) :
    PET X (.Call (.Attribute o "replace" apos) [.Constant (.str y) jj c0, .Constant (.str z) kk c1] [] pos) (T g W (p1 (gRepl y z) po)) :=
  PET.imp (CwR.pet_replC ho hyz hst hbase hline) fun σ H Q h => t_op1 o_repl h
theorem tet_replT {y z : Str} {jj kk : Nat} {c0 c1 : Pos} (ho : PET X o (T g W po)) (hyz : (y == z) = false := by decide)
    (hst : starEach [.Constant (.str y) jj c0, .Constant (.str z) kk c1] X.env = [(false, eval (.Constant (.str y) jj c0) X.env), (false, eval (.Constant (.str z) kk c1) X.env)] := by rfl)
    (hbase : attributeBase o "replace" X.env (eval o X.env) = eval o X.env := by rfl) (hline : (apos.endLine == pos.line) = true := by rfl) :
    PET X (.Call (.Attribute o "replace" apos) [.Constant (.str y) jj c0, .Constant (.str z) kk c1] [] pos) (T g W (p1 (gRepl y z) po)) :=
  PET.imp (CwR.pet_replT ho hyz hst hbase hline) fun σ H Q h => t_op1 o_repl h
variable {tg iter elt : Expr}
theorem t_lcY {wi : TI} {pi : PgI} {t : Tgt} {own : List Nat} (ht : ∀ i ∈ t.slots, i ∈ own)
    (i2 : ∀ (ρ : List Addr) (m : Store) (H : Hp) (σ : L2.St) (ε : EnvD) (R : It → Hp → Prop), RelE g ρ H ε σ → RelS g ρ m H → FinN g W ρ H σ (pi ε m) R → wi σ H R)
    (h : T g W (pLc pi own t (pC (.bl true)) pe) σ H Q) : tLc wi (trT g.K t) tYes (T g W0 pe) own σ H Q := by
  obtain ⟨ε, ρ, m, ds, e, s, l, h⟩ := h
  refine i2 ρ m H σ ε _ e s ?_
  have h' : Fin g W ρ H σ (match pi ε m with
    | .ok nx m' => lcN nx t (pC (.bl true)) pe (wipeD ε own) m'.length bigN 0 (m' ++ [.lst []])
    | .exc x m' => .exc x m'
    | .bad => .bad) Q := h
  cases hr : pi ε m with
  | bad => rw [hr] at h'; exact h'
  | exc x m' => rw [hr] at h'; exact h'
  | ok nx m' =>
    rw [hr] at h'
    intro ρ' H' J u s' ok A hA
    have h2 : Fin g W ρ' H' σ (lcN nx t (pC (.bl true)) pe (wipeD ε own) m'.length bigN 0 (m' ++ [.lst []])) Q := Fin.up u h'
    have u1 : Up g ρ' H' (ρ' ++ [A]) (upd H' A (.lst [])) := Up.trans (Up.new hA) Up.app
    refine ⟨fun i n H2 => ∃ ρ2 m, Up g (ρ' ++ [A]) (upd H' A (.lst [])) ρ2 H2 ∧ RelS g ρ2 m H2 ∧ Fin g W ρ2 H2 σ (lcN nx t (pC (.bl true)) pe (wipeD ε own) m'.length n i m) Q, ⟨bigN, ρ' ++ [A], m' ++ [.lst []], .refl, s'.push (c := .lst []) hA ⟨[], upd_same, .nil⟩, Fin.up u1 h2⟩, ?_⟩
    rintro i n H1 ⟨ρ1, m1, u2, s1, q⟩
    have uu : Up g ρ' H' ρ1 H1 := u1.trans u2
    have hA1 : ρ1[m'.length]? = some A := u2.ext _ _ (loc_last s')
    cases n with
    | zero => exact q.elim
    | succ n =>
      obtain ⟨k1, k2⟩ := ok ρ1 H1 m1 i uu s1
      have q' : Fin g W ρ1 H1 σ (match nx i m1 with
        | none => .bad
        | some none => .ok (.loc m'.length) m1
        | some (some d) => match bindT t d (wipeD ε own) with
          | none => .bad
          | some ε1 => match pC (.bl true) ε1 m1 with
            | .ok (.bl false) m1 => lcN nx t (pC (.bl true)) pe (wipeD ε own) m'.length n (i + 1) m1
            | .ok (.bl true) m1 => (match pe ε1 m1 with
              | .ok y m2 => (match m2[m'.length]? with
                | some (.lst acc) => if acc.length ≤ lim then lcN nx t (pC (.bl true)) pe (wipeD ε own) m'.length n (i + 1) (m2.set m'.length (.lst (acc ++ [y]))) else .bad
                | _ => .bad)
              | _ => .bad)
            | _ => .bad) Q := q
      cases hn : nx i m1 with
      | none => rw [hn] at q'; exact False.elim q'
      | some o =>
        cases o with
        | none => rw [hn] at q'; exact .inl ⟨k1 hn, Fin.okc q' s1 (.loc hA1)⟩
        | some d =>
          simp only [hn] at q'
          obtain ⟨k3, k4⟩ := k2 d hn
          cases hbt : bindT t d (wipeD ε own) with
          | none => rw [hbt] at q'; exact False.elim q'
          | some ε1 =>
            simp only [hbt] at q'
            refine .inr ⟨k3, fun H2 => ∃ ρ2 m, Up g (ρ' ++ [A]) (upd H' A (.lst [])) ρ2 H2 ∧ RelS g ρ2 m H2 ∧ Fin g W ρ2 H2 σ (lcN nx t (pC (.bl true)) pe (wipeD ε own) m'.length n (i + 1) m) Q, fun H2 z => ⟨n, Nat.lt_succ_self n, z⟩, fun x H2 y => ?_⟩
            obtain ⟨u3, s3, dv⟩ := k4 x H2 y
            refine trT_ok ((e.up (u.trans (uu.trans u3))).wipe) dv hbt fun σ3 e3 so => ⟨wipe_same (so.mono ht), ?_⟩
            have q3 := Fin.up u3 q'
            simp only [pC] at q3
            simp only [tYes, if_true]
            refine ⟨ε1, ρ1, m1, [], e3, s3, .nil, ?_⟩
            cases hpe : pe ε1 m1 with
            | bad => simp only [hpe] at q3; exact False.elim q3
            | exc x m5 => simp only [hpe] at q3; exact False.elim q3
            | ok y5 m5 =>
              show Fin g W0 ρ1 H2 σ3 (pe ε1 m1) _
              rw [hpe]
              intro ρ5 H5 v5 u5 s5 dv5
              simp only [hpe] at q3
              cases hc : m5[m'.length]? with
              | none => simp only [hc] at q3; exact False.elim q3
              | some c =>
                cases c <;> simp only [hc] at q3 <;> first | exact False.elim q3 | skip
                rename_i acc
                have hA5 : ρ5[m'.length]? = some A := u5.ext _ _ (u3.ext _ _ hA1)
                obtain ⟨vs, hv, lv⟩ := s5.at_ _ _ _ hA5 hc
                by_cases hl : acc.length ≤ lim
                · rw [if_pos hl] at q3
                  have uw : Up g ρ5 H5 ρ5 (upd H5 A (.lst (vs ++ [v5]))) := Up.write hv trivial
                  refine ⟨vs, hv, by rw [← lv.length]; exact lim_lt hl, ρ5, _, (u2.trans u3).trans (u5.trans uw), s5.set (c' := .lst (acc ++ [y5])) hA5 hc ⟨_, upd_same, (lv.append (.cons dv5 .nil)).up uw⟩, Fin.up (u5.trans uw) q3⟩
                · rw [if_neg hl] at q3; exact False.elim q3

variable {scope : Scope} {own : List (Str × Nat)} {pi : PgI} {t : Tgt} {spos : Pos}
theorem tet_lc (hc : X.calm = true) (hN : X.N.Nodup) (hi : SrcR g W X tg iter pi) (ok : BlkOk X.N X.env.scope scope own)
    (hg : ∀ (s : Shared) (H : Hp) (C : Addr) (cl : List (Str × Addr)) (fp : List Addr), TgOk g (X.blk s H scope (compEnvC scope cl C X.env) fp) tg t)
    (he : ∀ (s : Shared) (H : Hp) (C : Addr) (cl : List (Str × Addr)) (fp : List Addr), PET (X.blk s H scope (compEnvC scope cl C X.env) fp) elt (T g W0 pe)) (hsl : ∀ i ∈ t.slots, i ∈ own.map (·.2)) (hs : ∀ x, foldedSetIterable iter X.env x = pure x := by intro _; rfl) :
    PET X (.ListComp elt [⟨tg, iter, [], 0⟩] scope pos) (T g W (pLc pi (own.map (·.2)) t (pC (.bl true)) pe)) := by
  obtain ⟨wi, i1, i2⟩ := hi
  exact PET.imp (pet_lc hc hN i1 ok hg he hs) fun σ H Q h => t_lcY hsl i2 h
theorem tst_setLc (i : Nat) {y : Str} {py : Pos} (hc : X.calm = true) (hN : X.N.Nodup) (hi : SrcR g W X tg iter pi) (ok : BlkOk X.N X.env.scope scope own)
    (hg : ∀ (s : Shared) (H : Hp) (C : Addr) (cl : List (Str × Addr)) (fp : List Addr), TgOk g (X.blk s H scope (compEnvC scope cl C X.env) fp) tg t)
    (he : ∀ (s : Shared) (H : Hp) (C : Addr) (cl : List (Str × Addr)) (fp : List Addr), PET (X.blk s H scope (compEnvC scope cl C X.env) fp) elt (T g W0 pe)) (hsl : ∀ i ∈ t.slots, i ∈ own.map (·.2))
    (hsw : swapsWith (.ListComp elt [⟨tg, iter, [], 0⟩] scope pos) (some (.Name y py)) spos.line X.env = pure true) (hy : X.N[i]? = some y := by rfl) (hyl : X.env.scope.names.lookup y = some .local := by rfl) (hs : ∀ x, foldedSetIterable iter X.env x = pure x := by intro _; rfl) :
    PST X (.Assign [.Name y py] (.ListComp elt [⟨tg, iter, [], 0⟩] scope pos) spos) (Ts g W (sSet i (pLc pi (own.map (·.2)) t (pC (.bl true)) pe))) := by
  obtain ⟨wi, i1, i2⟩ := hi
  exact PST.imp (pst_setLc hc hN hy hyl hsw i1 ok hg he hs) fun D σ H h => t_lcY hsl i2 (t_set h)
/-- blocks -/
theorem tst_cons {st : Stmt} {rest : List Stmt} {p q : PgS} (h1 : PST X st (Ts g W p)) (h2 : PSsT X rest (Ts g W q)) : PSsT X (st :: rest) (Ts g W (sSeq p q)) := PSsT.imp (psst_cons h1 h2) fun _ _ _ h => t_seq h
theorem tst_one {st : Stmt} {p : PgS} (h1 : PST X st (Ts g W p)) : PSsT X [st] (Ts g W p) := CwR.psst_one h1
theorem tsk_cons {st : Stmt} {rest : List Stmt} {p q : PgS} (h1 : PSK X st (Ts g W p)) (h2 : PSsT X rest (Ts g W q)) : L2.PSs X (st :: rest) (Ts g W (sSeq p q)) := PSs.imp (pssk_cons h1 h2) fun _ _ _ h => t_seq h
theorem tst_ret (he : PET X e (T g W pe)) : PST X (.Return (some e) pos) (Ts g W (sRet pe)) := PST.imp (CwR.pst_ret he) fun D σ H h =>
  T.mono (ts_ex h) fun v H1 ⟨ε, ρ, m, d, e, s, dv, q⟩ => q ρ H1 v .refl s dv
/-- name = e -/
theorem tst_set (i : Nat) {x : Str} {pos' : Pos} (hN : X.N.Nodup) (he : PET X e (T g W pe)) (hi : X.N[i]? = some x := by rfl) (hx : Loc X.env.scope x := by first | exact Or.inl rfl | exact Or.inr rfl) (hs : swapsWith e (some (.Name x pos')) pos.line X.env = pure false := by rfl) (hf : X.fn x = true ∨ X.env.scope.names.lookup x = some .local := by first | exact .inl rfl | exact .inr rfl | assumption) :
    PST X (.Assign [.Name x pos'] e pos) (Ts g W (sSet i pe)) := by
  intro pins s σ H D h0 I h
  exact wpAny_Assign_Name (thn (he pins s σ H _ h0 I (t_set h)) fun u s1 ⟨v, H1, I1, r1, q1⟩ => store_ok I1 hN hi hx r1 (fun s2 I2 => ⟨_, H1, I2, q1⟩) hf) hs
/-- x(e), e wants a token -/
theorem tet_call (hK : X.K = g.K) (c : Cf X.prog X.w X.mg X.base g k x f) (hr : Room j X.A) (he : PET X e (T g W0 pe)) (hk : k ≤ j := by decide) (hg : Gl X x := by rfl)
    (hdb : (x == ("__debug__" : Str)) = false := by decide) (hst : starEach [e] X.env = (false, eval e X.env) :: starEach [] X.env := by rfl) :
    PET X (.Call (.Name x p') [e] [] pos) (T g W0 (p1 f pe)) := by
  obtain ⟨ad, F, hm, kp⟩ := c.ex
  rw [← hK] at F kp
  intro pins s σ H Q h0 I h
  refine wpAny_Call_Name_kw (ld_glob I hg hm ?_ hdb)
  have h2 := t_op1 (r := fun v H Q => spOf g f [v] H Q E0) (fun ρ m σ H d v Q s dv h => sp_args s (.cons dv .nil) h rfl) h
  refine PySem.W.callWith_K (h₀ := X.base) I.ok.mod.kin kp ?_ hst rfl
  rw [hst]
  exact Calls.spliced_cons (thn (he pins s σ H _ h0 I h2) fun u s1 ⟨v, H1, I1, r, q⟩ => Calls.spliced_nil ⟨I1.kIn, wpAny_call (run_fnR (us := [u]) (vs := [v]) F (hr.mono hk) pass0 I1 (.cons r .nil) q)⟩)
/-- name = x(a, 31): behind it a token is out -/
theorem tsk_first (i : Nat) {y : Str} {pos' q1 q2 : Pos} {cI : Int} {jj : Nat} (hN : X.N.Nodup) (hK : X.K = g.K) (c : Cf X.prog X.w X.mg X.base g k x f) (hr : Room j X.A) (ha : PE X a (T g W0 pa)) (hk : k ≤ j := by decide) (hg : Gl X x := by rfl)
    (hdb : (x == ("__debug__" : Str)) = false := by decide) (hi : X.N[i]? = some y := by rfl) (hx : Loc X.env.scope y := by first | exact Or.inl rfl | exact Or.inr rfl)
    (hs : swapsWith (.Call (.Name x p') [a, .Constant (.int cI) jj q1] [] q2) (some (.Name y pos')) pos.line X.env = pure false := by rfl) (hf : X.fn y = true ∨ X.env.scope.names.lookup y = some .local := by first | exact .inl rfl | exact .inr rfl | assumption)
    (hst : starEach [a, .Constant (.int cI) jj q1] X.env = [(false, eval a X.env), (false, eval (.Constant (.int cI) jj q1) X.env)] := by rfl) (hpl : (backTo q2 (starEach [.Constant (.int cI) jj q1] X.env)).any (·.1) = false := by rfl)
    (hst2 : starEach [a, .Constant (.int cI) jj q1] X.env = (false, eval a X.env) :: starEach [.Constant (.int cI) jj q1] X.env := by rfl) :
    PSK X (.Assign [.Name y pos'] (.Call (.Name x p') [a, .Constant (.int cI) jj q1] [] q2) pos) (Ts g W0 (sSet i (pF f [pa, pC (.int cI)]))) := by
  obtain ⟨ad, F, hm, kp⟩ := c.ex
  rw [← hK] at F kp
  intro pins s σ H D I h
  refine wpAny_Assign_Name ?_ hs
  refine wpAny_Call_Name_kw (ld_glob I hg hm ?_ hdb)
  have h2 := t_fn (r := fun vs H Q => spOf g f vs H Q E0) (fun ρ m σ H ds vs Q s l h => sp_args s l h rfl) (t_set h)
  have h3 : T g W0 pa σ H fun v H1 => ∀ u : V, u = .int cI → spOf g f [v, u] H1 (fun v' H2 => gName i v' σ H2 D.nx) E0 := by
    refine T.mono (t_cons h2) fun v H1 z u eu => ?_
    obtain ⟨ε, ρ, m, e, s, z⟩ := z
    subst eu
    exact z ρ H1 [.int cI] .refl s (.cons (.int cI) .nil)
  refine PySem.W.callWith_K (h₀ := X.base) I.ok.mod.kin kp ?_ hst2 hpl
  rw [hst]
  show wpAny _ _ (spliced [(false, eval a X.env), (false, eval (.Constant (.int cI) jj q1) X.env)]) _ _ s
  refine Calls.spliced_cons (thn (ha.run pins s σ H _ I h3) fun u s1 ⟨v, H1, I1, r, q⟩ => ?_)
  refine Calls.spliced_cons (wpAny_Constant_int (Calls.spliced_nil ?_))
  have I2 : L2.Inv X pins σ H1 { s1 with toks := s1.toks + 1 } := I1.tok _
  refine ⟨I2.kIn, ?_⟩
  have call := wpAny_call (run_fnR (us := [u, .int cI s1.toks]) (vs := [v, .int cI]) F (hr.mono hk) pass0 I2 (.cons r (.cons ⟨_, rfl⟩ .nil)) (q (.int cI) rfl))
  refine wpAny_mono (PySem.wpAny_toks call) (fun w s3 z => ?_) fun _ _ z => z.2
  obtain ⟨hk3, v3, H3, I3, r3, q3⟩ := z
  have h1 : 1 ≤ s3.toks := Nat.le_trans (Nat.succ_le_succ (Nat.zero_le _)) hk3
  refine wpAny_mono (PySem.wpAny_toks (store_ok (Q := fun _ s4 => SP X pins D .next s4) I3 hN hi hx r3 (fun s4 I4 => ⟨_, H3, I4, q3⟩) hf)) (fun _ s4 z => ⟨Nat.le_trans h1 z.1, z.2⟩) fun _ _ z => z.2
end MT

/-! MT16: TURNED walked; comprehensions with two clauses. -/
namespace MT
open PySem PySem.Spec PyProof.Rows L2 StX
variable {g : G} {ρ ρ' ρ1 ρ2 : List Addr} {H H' H1 H2 : Hp} {m m' : Store} {ε ε' : EnvD} {σ σ' : L2.St} {W : Wx} {r : Res D} {Q Q' : VK} {X : Cx} {a b c e o : Expr} {pa pb pc pe po : Pg} {pos apos : Pos} {D0 : Ends} {es : List Expr} {ps : List Pg} {f : Fn} {k j : Nat} {x mm : Str} {p' : Pos} {tg : Expr}

/-! ### for x in TURNED -/
structure TurnK (P : Program) (w : World) (K : PySem.W.Frag) (d : Addr) : Prop where
  dict : ∃ es n, KDict K w d es n ∧ es.size = 2
  walk : ∀ h : Heap, K.In h → ∃ vs n, h.DictAt (strKind P w) d vs n ∧ vs.map (·.1) = [kR, kF] ∧ ∃ es, K.lookup d = some ⟨.type "dict", none, .dict es n, #[]⟩
def ItK (ks : List Str) : It := ⟨fun i H => i < ks.length, fun i H x H' => H' = H ∧ ∃ z, ks[i]? = some z ∧ x = .str z, fun i H => ks.length ≤ i⟩
theorem turn_kd {P : Program} {w : World} {K : PySem.W.Frag} {d : Addr} {es : Array DictEntry} {ep : Nat} (it : Addr) (D : KDict K w d es ep) (hsz : es.size = 2) (hw : ∀ h : Heap, K.In h → ∃ vs, h.DictAt (strKind P w) d vs ep ∧ vs.map (·.1) = [kR, kF]) :
    Turn P w K tg (ItK [kR, kF]) [it] it (fun i h => h.IsKeyIter it d i 2 ep) where
  mem := by simp
  obj := fun i h st b hb => by
    have e : b = it := by simpa using hb
    subst e
    obtain ⟨oi, e, c, dd⟩ := st
    exact ⟨oi, e, fun v z => by rw [dd] at z; cases z⟩
  keep := fun i h h' st k => st.at fun oi e => k it (by simp) oi e
  item := by
    intro X hP hw2 hK hc i pins s σ H E I hf st hg
    subst hP hw2 hK
    have hi : i < 2 := hg
    obtain ⟨f0, f1, f2, f3, f4, f5⟩ := hf it (by simp)
    obtain ⟨vs, hm, hv⟩ := hw s.heap I.kIn
    have hl : vs.length = 2 := by
      have := congrArg List.length hv
      simpa using this
    obtain ⟨⟨k, u⟩, hkv⟩ : ∃ p, vs[i]? = some p := ⟨vs[i]'(by omega), List.getElem?_eq_getElem (by omega)⟩
    have hk : ([kR, kF] : List Str)[i]? = some k := by
      rw [← hv, List.getElem?_map, hkv]; rfl
    rw [← hl] at st
    refine wpAny_pyNext_dict_item st hm hkv fun key h' hkey st' sb => ?_
    have I1 : Inv X pins σ H { s with heap := h' } := I.turned (t' := s.toks) (fun b ob hb e => (sb.2 b hb).trans e) f0 f1 f3 f4 f5
    obtain ⟨oi, e, c, dd⟩ := id st'
    obtain ⟨tk, rfl⟩ := Value.isStrOf_shape (show Value.isStrOf k key = true from hkey)
    refine ⟨_, rfl, go_of (s := { s with heap := h' }) e c dd (by decide) ⟨.str k, H, I1, ⟨tk, rfl⟩, ⟨rfl, k, hk, rfl⟩, ?_, fun b hb => (hf b hb).1⟩⟩
    show h'.IsKeyIter it d (i + 1) 2 _
    rw [← hl]
    exact st'
  done := by
    intro X hP hw2 hK hc i pins s σ H E I hf st hg
    subst hP hw2 hK
    obtain ⟨f0, f1, f2, f3, f4, f5⟩ := hf it (by simp)
    exact next_key_end (I.ok.hd hc) st (I.kIn _ _ D.at_) rfl hsz (show 2 ≤ i from hg) fun h' eb => ⟨rfl, I.turned (t' := s.toks) (fun b ob hb e => eb b ob hb e) f0 f1 f3 f4 f5⟩
  self := fun A i s Q E st h => wpAny_pyIter_keyiter st h
def iKd (ks : List Str) : TI := fun σ H R => R (ItK ks) H
theorem pi_kd {d : Addr} (t : TurnK X.prog X.w X.K d) (hm : X.mg "TURNED" = some (.ref d)) (hg : Gl X "TURNED" := by rfl) : PI X tg (.Name ("TURNED" : Str) p') (iKd [kR, kF]) := by
  obtain ⟨es, n, D, hsz⟩ := t.dict
  refine ⟨fun pins s σ H R I h => ?_⟩
  refine ld_glob I hg hm ?_ (by decide)
  have hw : ∀ h : Heap, X.K.In h → ∃ vs, h.DictAt (strKind X.prog X.w) d vs n ∧ vs.map (·.1) = [kR, kF] := fun hh hin => by
    obtain ⟨vs, n', h1, h2, es', h3⟩ := t.walk hh hin
    rw [D.at_] at h3
    cases h3
    exact ⟨vs, h1, h2⟩
  refine iter_keys D.low (I.kIn _ _ D.at_) ⟨rfl, rfl, rfl⟩ rfl (pi_one (tk := s.toks) I _ (turn_kd _ D hsz hw) ⟨_, Heap.get?_push_size _ rfl, rfl, ?_⟩ h)
  rw [hsz] <;> rfl
def iTurned : PgI := fun _ m => .ok (nxF [.str kR, .str kF]) m
theorem src_k {ks : List Str} : SrcOk g ρ H (ItK ks) (nxF (ks.map .str)) := by
  intro ρ' H' m' i u s
  unfold nxF
  refine ⟨fun q => ?_, fun d q => ?_⟩
  · have := List.getElem?_eq_none_iff.mp (Option.some.inj q)
    show ks.length ≤ i
    simpa using this
  · have q' := Option.some.inj q
    rw [List.getElem?_map, Option.map_eq_some_iff] at q'
    obtain ⟨z, hz, rfl⟩ := q'
    refine ⟨(List.getElem?_eq_some_iff.mp hz).1, ?_⟩
    rintro x H2 ⟨rfl, z', hz', rfl⟩
    rw [hz] at hz'; cases hz'
    exact ⟨.refl, s, .str _⟩
theorem s_turned {d : Addr} (t : TurnK X.prog X.w X.K d) (hm : X.mg "TURNED" = some (.ref d)) (hg : Gl X "TURNED" := by rfl) : SrcR g W X tg (.Name ("TURNED" : Str) p') iTurned :=
  ⟨_, pi_kd t hm hg, fun ρ m H σ ε R e s h => h ρ H _ .refl s (src_k (ks := [kR, kF]))⟩

/-! ### two clauses -/
def lcI (nx1 : Nx) (t1 : Tgt) (pt1 pe : Pg) (ε : EnvD) (n0 : Nat) : Nat → Nat → Store → Res Unit
  | 0, _, _ => .bad
  | n + 1, i, m => match nx1 i m with
    | none => .bad
    | some none => .ok () m
    | some (some d) => match bindT t1 d ε with
      | none => .bad
      | some ε2 => match pt1 ε2 m with
        | .ok (.bl false) m1 => lcI nx1 t1 pt1 pe ε n0 n (i + 1) m1
        | .ok (.bl true) m1 => (match pe ε2 m1 with
          | .ok y m2 => (match m2[n0]? with
            | some (.lst acc) => if acc.length ≤ lim then lcI nx1 t1 pt1 pe ε n0 n (i + 1) (m2.set n0 (.lst (acc ++ [y]))) else .bad
            | _ => .bad)
          | _ => .bad)
        | _ => .bad
def lc2N (nx : Nx) (t : Tgt) (pt : Pg) (pi1 : PgI) (vs1 : List Nat) (t1 : Tgt) (pt1 pe : Pg) (ε : EnvD) (n0 : Nat) : Nat → Nat → Store → Res D
  | 0, _, _ => .bad
  | n + 1, i, m => match nx i m with
    | none => .bad
    | some none => .ok (.loc n0) m
    | some (some d) => match bindT t d ε with
      | none => .bad
      | some ε1 => match pt ε1 m with
        | .ok (.bl false) m1 => lc2N nx t pt pi1 vs1 t1 pt1 pe ε n0 n (i + 1) m1
        | .ok (.bl true) m1 => (match pi1 ε1 m1 with
          | .ok nx1 m2 => (lcI nx1 t1 pt1 pe (wipeD ε1 vs1) n0 bigN 0 m2).bind fun _ m3 => lc2N nx t pt pi1 vs1 t1 pt1 pe ε n0 n (i + 1) m3
          | _ => .bad)
        | _ => .bad
def pLc2 (pi : PgI) (own : List Nat) (t : Tgt) (pt : Pg) (pi1 : PgI) (vs1 : List Nat) (t1 : Tgt) (pt1 pe : Pg) : Pg := fun ε m => match pi ε m with
  | .ok nx m' => lc2N nx t pt pi1 vs1 t1 pt1 pe (wipeD ε own) m'.length bigN 0 (m' ++ [.lst []])
  | .exc x m' => .exc x m'
  | .bad => .bad
theorem t_lc2 {wi wi1 : TI} {pi pi1 : PgI} {t t1 : Tgt} {pt pt1 : Pg} {own vs1 : List Nat} (ht : ∀ i ∈ t.slots, i ∈ own) (ht1 : ∀ i ∈ t1.slots, i ∈ vs1)
    (i2 : ∀ (ρ : List Addr) (m : Store) (H : Hp) (σ : L2.St) (ε : EnvD) (R : It → Hp → Prop), RelE g ρ H ε σ → RelS g ρ m H → FinN g W ρ H σ (pi ε m) R → wi σ H R)
    (i3 : ∀ (ρ : List Addr) (m : Store) (H : Hp) (σ : L2.St) (ε : EnvD) (R : It → Hp → Prop), RelE g ρ H ε σ → RelS g ρ m H → FinN g W0 ρ H σ (pi1 ε m) R → wi1 σ H R)
    (h : T g W (pLc2 pi own t pt pi1 vs1 t1 pt1 pe) σ H Q) : tLc2 wi (trT g.K t) (Tt g W0 pt) wi1 (trT g.K t1) (Tt g W0 pt1) (T g W0 pe) own vs1 σ H Q := by
  obtain ⟨ε, ρ, m, ds, e, s, l, h⟩ := h
  refine i2 ρ m H σ ε _ e s ?_
  have h' : Fin g W ρ H σ (match pi ε m with
    | .ok nx m' => lc2N nx t pt pi1 vs1 t1 pt1 pe (wipeD ε own) m'.length bigN 0 (m' ++ [.lst []])
    | .exc x m' => .exc x m'
    | .bad => .bad) Q := h
  cases hr : pi ε m with
  | bad => rw [hr] at h'; exact h'
  | exc x m' => rw [hr] at h'; exact h'
  | ok nx m' =>
    rw [hr] at h'
    intro ρ' H' J u s' ok A hA
    have h2 : Fin g W ρ' H' σ (lc2N nx t pt pi1 vs1 t1 pt1 pe (wipeD ε own) m'.length bigN 0 (m' ++ [.lst []])) Q := Fin.up u h'
    have u1 : Up g ρ' H' (ρ' ++ [A]) (upd H' A (.lst [])) := Up.trans (Up.new hA) Up.app
    refine ⟨fun i n H2 => ∃ ρ2 m, Up g (ρ' ++ [A]) (upd H' A (.lst [])) ρ2 H2 ∧ RelS g ρ2 m H2 ∧ Fin g W ρ2 H2 σ (lc2N nx t pt pi1 vs1 t1 pt1 pe (wipeD ε own) m'.length n i m) Q, ⟨bigN, ρ' ++ [A], m' ++ [.lst []], .refl, s'.push (c := .lst []) hA ⟨[], upd_same, .nil⟩, Fin.up u1 h2⟩, ?_⟩
    rintro i n H1 ⟨ρ1, m1, u2, s1, q⟩
    have uu : Up g ρ' H' ρ1 H1 := u1.trans u2
    have hA1 : ρ1[m'.length]? = some A := u2.ext _ _ (loc_last s')
    cases n with
    | zero => exact q.elim
    | succ n =>
      obtain ⟨k1, k2⟩ := ok ρ1 H1 m1 i uu s1
      have q' : Fin g W ρ1 H1 σ (match nx i m1 with
        | none => .bad
        | some none => .ok (.loc m'.length) m1
        | some (some d) => match bindT t d (wipeD ε own) with
          | none => .bad
          | some ε1 => match pt ε1 m1 with
            | .ok (.bl false) m1 => lc2N nx t pt pi1 vs1 t1 pt1 pe (wipeD ε own) m'.length n (i + 1) m1
            | .ok (.bl true) m1 => (match pi1 ε1 m1 with
              | .ok nx1 m2 => (lcI nx1 t1 pt1 pe (wipeD ε1 vs1) m'.length bigN 0 m2).bind fun _ m3 => lc2N nx t pt pi1 vs1 t1 pt1 pe (wipeD ε own) m'.length n (i + 1) m3
              | _ => .bad)
            | _ => .bad) Q := q
      cases hn : nx i m1 with
      | none => rw [hn] at q'; exact False.elim q'
      | some o =>
        cases o with
        | none => rw [hn] at q'; exact .inl ⟨k1 hn, Fin.okc q' s1 (.loc hA1)⟩
        | some d =>
          simp only [hn] at q'
          obtain ⟨k3, k4⟩ := k2 d hn
          cases hbt : bindT t d (wipeD ε own) with
          | none => rw [hbt] at q'; exact False.elim q'
          | some ε1 =>
            simp only [hbt] at q'
            refine .inr ⟨k3, fun H2 => ∃ ρ2 m, Up g (ρ' ++ [A]) (upd H' A (.lst [])) ρ2 H2 ∧ RelS g ρ2 m H2 ∧ Fin g W ρ2 H2 σ (lc2N nx t pt pi1 vs1 t1 pt1 pe (wipeD ε own) m'.length n (i + 1) m) Q, fun H2 z => ⟨n, Nat.lt_succ_self n, z⟩, fun x H2 y => ?_⟩
            obtain ⟨u3, s3, dv⟩ := k4 x H2 y
            refine trT_ok ((e.up (u.trans (uu.trans u3))).wipe) dv hbt fun σ3 e3 so => ⟨wipe_same (so.mono ht), ?_⟩
            refine ⟨ε1, ρ1, m1, [], e3, s3, .nil, ?_⟩
            have q3 := Fin.up u3 q'
            cases hpt : pt ε1 m1 with
            | bad => simp only [hpt] at q3; exact False.elim q3
            | exc x m4 => simp only [hpt] at q3; exact False.elim q3
            | ok b m4 =>
              show Fin g W0 ρ1 H2 σ3 (pt ε1 m1) _
              rw [hpt]
              intro ρ4 H4 v4 u4 s4 dv4
              cases dv4 <;> simp only [hpt] at q3 <;> first | exact False.elim q3 | skip
              rename_i k
              refine ⟨k, rfl, ?_⟩
              cases k with
              | false => exact iteF ⟨ρ4, m4, (u2.trans u3).trans u4, s4, Fin.up u4 q3⟩
              | true =>
                refine iteT (i3 ρ4 m4 H4 σ3 ε1 _ (e3.up u4) s4 ?_)
                cases hp1 : pi1 ε1 m4 with
                | bad => simp only [hp1] at q3; exact False.elim q3
                | exc x m5 => simp only [hp1] at q3; exact False.elim q3
                | ok nx1 m5 =>
                  simp only [hp1] at q3
                  intro ρ5 H5 J1 u5 s5 ok1
                  have u25 : Up g (ρ' ++ [A]) (upd H' A (.lst [])) ρ5 H5 := ((u2.trans u3).trans u4).trans u5
                  refine ⟨fun j k H6 => ∃ ρ6 m6, Up g ρ5 H5 ρ6 H6 ∧ RelS g ρ6 m6 H6 ∧ Fin g W ρ6 H6 σ ((lcI nx1 t1 pt1 pe (wipeD ε1 vs1) m'.length k j m6).bind fun _ m3 => lc2N nx t pt pi1 vs1 t1 pt1 pe (wipeD ε own) m'.length n (i + 1) m3) Q, ⟨bigN, ρ5, m5, .refl, s5, Fin.up (u4.trans u5) q3⟩, ?_⟩
                  rintro j k H6 ⟨ρ6, m6, u6, s6, q6⟩
                  have hA6 : ρ6[m'.length]? = some A := (u25.trans u6).ext _ _ (loc_last s')
                  cases k with
                  | zero => exact False.elim q6
                  | succ k =>
                    obtain ⟨k5, k6⟩ := ok1 ρ6 H6 m6 j u6 s6
                    have q7 : Fin g W ρ6 H6 σ (Res.bind (α := Unit) (match nx1 j m6 with
                      | none => Res.bad
                      | some none => .ok () m6
                      | some (some d) => match bindT t1 d (wipeD ε1 vs1) with
                        | none => .bad
                        | some ε2 => match pt1 ε2 m6 with
                          | .ok (.bl false) m1 => lcI nx1 t1 pt1 pe (wipeD ε1 vs1) m'.length k (j + 1) m1
                          | .ok (.bl true) m1 => (match pe ε2 m1 with
                            | .ok y m2 => (match m2[m'.length]? with
                              | some (.lst acc) => if acc.length ≤ lim then lcI nx1 t1 pt1 pe (wipeD ε1 vs1) m'.length k (j + 1) (m2.set m'.length (.lst (acc ++ [y]))) else .bad
                              | _ => .bad)
                            | _ => .bad)
                          | _ => .bad) fun _ m3 => lc2N nx t pt pi1 vs1 t1 pt1 pe (wipeD ε own) m'.length n (i + 1) m3) Q := q6
                    cases hn1 : nx1 j m6 with
                    | none => rw [hn1] at q7; exact False.elim q7
                    | some o1 =>
                      cases o1 with
                      | none => rw [hn1] at q7; exact .inl ⟨k5 hn1, ρ6, m6, u25.trans u6, s6, q7⟩
                      | some d1 =>
                        simp only [hn1] at q7
                        obtain ⟨k7, k8⟩ := k6 d1 hn1
                        cases hb1 : bindT t1 d1 (wipeD ε1 vs1) with
                        | none => rw [hb1] at q7; exact False.elim q7
                        | some ε2 =>
                          simp only [hb1] at q7
                          refine .inr ⟨k7, fun H7 => ∃ ρ7 m7, Up g ρ5 H5 ρ7 H7 ∧ RelS g ρ7 m7 H7 ∧ Fin g W ρ7 H7 σ ((lcI nx1 t1 pt1 pe (wipeD ε1 vs1) m'.length k (j + 1) m7).bind fun _ m3 => lc2N nx t pt pi1 vs1 t1 pt1 pe (wipeD ε own) m'.length n (i + 1) m3) Q, fun H7 z => ⟨k, Nat.lt_succ_self k, z⟩, fun x1 H7 y1 => ?_⟩
                          obtain ⟨u7, s7, dv1⟩ := k8 x1 H7 y1
                          refine trT_ok ((e3.up (u4.trans (u5.trans (u6.trans u7)))).wipe) dv1 hb1 fun σ5 e5 so1 => ⟨wipe_same (so1.mono ht1), ?_⟩
                          refine ⟨ε2, ρ6, m6, [], e5, s7, .nil, ?_⟩
                          have q8 := Fin.up u7 q7
                          cases hpt1 : pt1 ε2 m6 with
                          | bad => simp only [hpt1] at q8; exact False.elim q8
                          | exc x m4 => simp only [hpt1] at q8; exact False.elim q8
                          | ok b m8 =>
                            show Fin g W0 ρ6 H7 σ5 (pt1 ε2 m6) _
                            rw [hpt1]
                            intro ρ8 H8 v8 u8 s8 dv8
                            cases dv8 <;> simp only [hpt1] at q8 <;> first | exact False.elim q8 | skip
                            rename_i kb
                            refine ⟨kb, rfl, ?_⟩
                            cases kb with
                            | false => exact iteF ⟨ρ8, m8, (u6.trans u7).trans u8, s8, Fin.up u8 q8⟩
                            | true =>
                              refine iteT ⟨ε2, ρ8, m8, [], e5.up u8, s8, .nil, ?_⟩
                              cases hpe : pe ε2 m8 with
                              | bad => simp only [hpe] at q8; exact False.elim q8
                              | exc x m5 => simp only [hpe] at q8; exact False.elim q8
                              | ok y9 m9 =>
                                show Fin g W0 ρ8 H8 σ5 (pe ε2 m8) _
                                rw [hpe]
                                intro ρ9 H9 v9 u9 s9 dv9
                                simp only [hpe] at q8
                                cases hc : m9[m'.length]? with
                                | none => simp only [hc] at q8; exact False.elim q8
                                | some c =>
                                  cases c <;> simp only [hc] at q8 <;> first | exact False.elim q8 | skip
                                  rename_i acc
                                  have hA9 : ρ9[m'.length]? = some A := u9.ext _ _ (u8.ext _ _ (u7.ext _ _ hA6))
                                  obtain ⟨vs, hv, lv⟩ := s9.at_ _ _ _ hA9 hc
                                  by_cases hl : acc.length ≤ lim
                                  · rw [if_pos hl] at q8
                                    have uw : Up g ρ9 H9 ρ9 (upd H9 A (.lst (vs ++ [v9]))) := Up.write hv trivial
                                    refine ⟨vs, hv, by rw [← lv.length]; exact lim_lt hl, ρ9, _, ((u6.trans u7).trans u8).trans (u9.trans uw), s9.set (c' := .lst (acc ++ [y9])) hA9 hc ⟨_, upd_same, (lv.append (.cons dv9 .nil)).up uw⟩, Fin.up ((u8.trans u9).trans uw) q8⟩
                                  · rw [if_neg hl] at q8; exact False.elim q8
theorem te_lc2 {elt iter tg1 iter1 : Expr} {ifs ifs1 : List Expr} {scope : Scope} {own : List (Str × Nat)} {vs1 : List Nat} {pi pi1 : PgI} {t t1 : Tgt} {pt pt1 : Pg} (hc : X.calm = true) (hN : X.N.Nodup) (hi : SrcR g W X tg iter pi) (ok : BlkOk X.N X.env.scope scope own) (hv : ∀ i ∈ vs1, i ∈ own.map (·.2))
    (hg : ∀ (s : Shared) (H : Hp) (C : Addr) (cl : List (Str × Addr)) (fp : List Addr), TgOk g (X.blk s H scope (compEnvC scope cl C X.env) fp) tg t) (ht : ∀ (s : Shared) (H : Hp) (C : Addr) (cl : List (Str × Addr)) (fp : List Addr), PTs (X.blk s H scope (compEnvC scope cl C X.env) fp) ifs (Tt g W0 pt))
    (hi1 : ∃ wi1 : TI, (∀ (s : Shared) (H : Hp) (C : Addr) (cl : List (Str × Addr)) (fp : List Addr), PI (X.blk s H scope (compEnvC scope cl C X.env) fp) tg1 iter1 wi1) ∧ ∀ (ρ : List Addr) (m : Store) (H : Hp) (σ : L2.St) (ε : EnvD) (R : It → Hp → Prop), RelE g ρ H ε σ → RelS g ρ m H → FinN g W0 ρ H σ (pi1 ε m) R → wi1 σ H R)
    (hg1 : ∀ (s : Shared) (H : Hp) (C : Addr) (cl : List (Str × Addr)) (fp : List Addr), TgOk g (X.blk s H scope (compEnvC scope cl C X.env) fp) tg1 t1) (ht1 : ∀ (s : Shared) (H : Hp) (C : Addr) (cl : List (Str × Addr)) (fp : List Addr), PTs (X.blk s H scope (compEnvC scope cl C X.env) fp) ifs1 (Tt g W0 pt1))
    (he : ∀ (s : Shared) (H : Hp) (C : Addr) (cl : List (Str × Addr)) (fp : List Addr), PE (X.blk s H scope (compEnvC scope cl C X.env) fp) elt (T g W0 pe)) (hsl : ∀ i ∈ t.slots, i ∈ own.map (·.2)) (hsl1 : ∀ i ∈ t1.slots, i ∈ vs1) (hs : ∀ x, foldedSetIterable iter X.env x = pure x := by intro _; rfl) (hs1 : ∀ env x, foldedSetIterable iter1 env x = pure x := by intro _ _; rfl) :
    PE X (.ListComp elt [⟨tg, iter, ifs, 0⟩, ⟨tg1, iter1, ifs1, 0⟩] scope pos) (T g W (pLc2 pi (own.map (·.2)) t pt pi1 vs1 t1 pt1 pe)) := by
  obtain ⟨wi, i1, i2⟩ := hi
  obtain ⟨wi1, j1, j2⟩ := hi1
  exact PE.imp (pe_lc2 hc hN i1 ok hv hg ht j1 hg1 ht1 he hs hs1) fun σ H Q h => t_lc2 hsl hsl1 i2 j2 h
end MT

/-! MT17: list(text), constants, properties, three names at once. -/
namespace MT
open PySem PySem.Spec PyProof.Rows L2 StX
variable {g : G} {ρ ρ' ρ1 ρ2 : List Addr} {H H' H1 H2 : Hp} {m m' : Store} {ε ε' : EnvD} {σ σ' : L2.St} {W : Wx} {r : Res D} {Q Q' : VK} {X : Cx} {a b c e o : Expr} {pa pb pc pe po : Pg} {pos apos : Pos} {D0 : Ends} {es : List Expr} {ps : List Pg} {f : Fn} {k j : Nat} {x mm : Str} {p' : Pos}

/-! ### list of a text -/
theorem vals_chars {z : Str} {acc : Array Value} (h : ItemsOf (SignAt z) acc z.cps.size) : Vals (z.cps.toList.map fun c => V.str ⟨#[c]⟩) acc.toList := by
  have e : acc.toList.length = z.cps.size := by rw [Array.length_toList]; exact h.1
  have key := vals_of_get acc.toList (fun j => V.str ⟨#[z.cps.toList.getD j 0]⟩) fun j u hj => by
    obtain ⟨c, t, hc, hu⟩ := h.2 j u (by rw [← hj, Array.getElem?_toList])
    have : z.cps.toList.getD j 0 = c := by
      rw [List.getD_eq_getElem?_getD, Array.getElem?_toList, hc]; rfl
    rw [this]
    exact ⟨t, hu⟩
  rw [e] at key
  have e2 : (List.range z.cps.size).map (fun j => V.str ⟨#[z.cps.toList.getD j 0]⟩) = z.cps.toList.map fun c => V.str ⟨#[c]⟩ := by
    apply List.ext_getElem?
    intro i
    rw [List.getElem?_map, List.getElem?_map]
    by_cases hi : i < z.cps.size
    · rw [List.getElem?_eq_getElem (by simpa using hi), List.getElem?_eq_getElem (l := z.cps.toList) (by simpa using hi)]
      simp only [List.getElem_range, Option.map_some, Option.some.injEq, V.str.injEq]
      rw [List.getD_eq_getElem?_getD, List.getElem?_eq_getElem (by simpa using hi)]
      rfl
    · rw [List.getElem?_eq_none (by simpa using Nat.not_lt.mp hi), List.getElem?_eq_none (by simpa using Nat.not_lt.mp hi)]
      rfl
  rw [← e2]
  exact key
theorem call_listS (hc : X.calm = true) : CallR X (.type "list") (fun xs H Q => ∃ z : Str, xs = [.str z] ∧ z.length ≤ sizeLine ∧ ∀ p, H p = none → Q (.ref p) (upd H p (.lst (z.cps.toList.map fun c => V.str ⟨#[c]⟩)))) := by
  intro pins s σ H xs us Q I r h
  obtain ⟨z, rfl, hz, q⟩ := h
  obtain ⟨u, rfl, ru⟩ := vals1 r
  obtain ⟨t, rfl⟩ := ru
  refine call_list_str (I.ok.hd hc) z t (fun h' tk acc' c' hk hS hacc => ?_) (show z.cps.size ≤ sizeLine from hz)
  refine ⟨.ref s.heap.objs.size, _, I.laid (t' := tk) (o := .lst (z.cps.toList.map fun c => V.str ⟨#[c]⟩)) hk (Nat.le_refl _) (show ObjOk X.prog X.w _ h' _ (.lst _) from ⟨?_, acc'.toList, c', vals_chars hacc, ?_⟩), rfl, q _ (I.hok.fresh (Nat.le_refl _))⟩
  · rw [List.length_map, Array.length_toList]; exact hz
  · rw [Array.toArray_toList]; exact hS
def gListS : Fn
  | [.str z], m => if z.length ≤ lim then .ok (.loc m.length) (m ++ [.lst (chars z)]) else .bad
  | _, _ => .bad
theorem den_chars {z : Str} : DenL g ρ H (chars z) (z.cps.toList.map fun c => V.str ⟨#[c]⟩) := by
  unfold chars
  have h1 : (z.cps.toList.map fun c => D.str ⟨#[c]⟩) = (z.cps.toList.map fun c => (⟨#[c]⟩ : Str)).map D.str := by rw [List.map_map]; rfl
  have h2 : (z.cps.toList.map fun c => V.str ⟨#[c]⟩) = (z.cps.toList.map fun c => (⟨#[c]⟩ : Str)).map V.str := by rw [List.map_map]; rfl
  rw [h1, h2]
  exact DenL.strs
theorem te_listS (hc : X.calm = true) (hm : X.mg "list" = none) (ha : PA X [e] (Ta g W ps)) (hg : Gl X "list" := by rfl) (he : starEach [e] X.env = (false, eval e X.env) :: starEach [] X.env := by rfl) :
    PE X (.Call (.Name "list" p') [e] [] pos) (T g W (pF gListS ps)) :=
  te_ty (call_listS hc) (fun ρ m σ H ds vs Q s l h => by
    cases l with
    | nil => exact False.elim h
    | cons d1 l =>
      cases l with
      | cons d2 l => cases d1 <;> exact False.elim h
      | nil =>
        cases d1 with
        | str z =>
          simp only [gListS] at h
          split at h
          · rename_i hl
            exact ⟨z, rfl, lim_le hl, fun q hq => Fin.newL (W := W) (σ := σ) h s hq den_chars⟩
          · exact h.elim
        | _ => exact False.elim h) hm (by decide +kernel) ha hg he

/-! ### constants, properties -/
def Kc (mg : Str → Option Value) (g : G) (x : Str) (d : D) : Prop := ∃ v u, mg x = some u ∧ RelV v u ∧ ∀ (ρ : List Addr) (H : Hp), DenV g ρ H d v
theorem te_k {d : D} (c : Kc X.mg g x d) (hg : Gl X x := by rfl) (hdb : (x == ("__debug__" : Str)) = false := by decide) : PE X (.Name x pos) (T g W (pC d)) := by
  obtain ⟨v, u, h1, h2, h3⟩ := c
  exact te_glob h1 h2 h3 hg hdb
/-- Room.f, a constant -/
def Cv (mg : Str → Option Value) (g : G) (ff : Str) (d : D) : Prop := mg "Room" = some (.ref g.CR) ∧ ∃ mc v u, ClX.CRead g.K g.CR mc ∧ ClX.CVal g.K g.CR mc ff v u ∧ ∀ (ρ : List Addr) (H : Hp), DenV g ρ H d v
theorem te_cv {ff : Str} {q' : Pos} {d : D} (hK : X.K = g.K) (c : Cv X.mg g ff d) (hg : Gl X "Room" := by rfl)
    (hb : attributeBase (.Name ("Room" : Str) q') ff X.env (eval (.Name ("Room" : Str) q') X.env) = eval (.Name ("Room" : Str) q') X.env := by rfl) : PE X (.Attribute (.Name ("Room" : Str) q') ff pos) (T g W (pC d)) := by
  obtain ⟨hm, mc, v, u, h1, h2, h3⟩ := c
  exact te_cval hK hm h1 h2 h3 hg (by decide) hb
structure Pf (P : Program) (w : World) (mg : Str → Option Value) (base : Heap) (g : G) (k : Nat) (m : Str) (f : Fn) : Prop where
  ex : ∃ (p ad : Addr) (fd : FuncData) (pn : List Str), PropOf g.K g.CR m p ad ∧ FnOk P w g.K mg base CX0 k ad fd pn (spOf g f) ∧ Binds g.K fd pn []
theorem te_prop (hK : X.K = g.K) (R : RoomC g) (c : Pf X.prog X.w X.mg X.base g k mm f) (hr : Room j X.A) (ho : PE X o (T g W0 po)) (hk : k + 1 ≤ j := by decide) (hab : attributeBase o mm X.env (eval o X.env) = eval o X.env := by rfl) :
    PE X (.Attribute o mm pos) (T g W0 (pRm f po [])) := by
  obtain ⟨p, ad, fd, pn, hp, F, b⟩ := c.ex
  exact te_rp hK R hp F b hr ho hk hab
/-- room(port) -/
structure Cl (P : Program) (w : World) (mg : Str → Option Value) (base : Heap) (g : G) (k : Nat) (f : Fn) : Prop where
  ex : ∃ ad : Addr, CallO g.K g.CR ad ∧ FnR P w g.K mg base CX0 k ad (spOf g f)
theorem te_rcall (hK : X.K = g.K) (c : Cl X.prog X.w X.mg X.base g k f) (hr : Room j X.A) (ho : PE X o (T g W0 po)) (ha : PA X (e :: es) (Ta g W0 ps)) (hk : k ≤ j := by decide)
    (ht : eval (.Call o (e :: es) [] pos) X.env = (do callWith pos (← eval o X.env) [] (backTo pos (starEach (e :: es) X.env)) (backToKw pos (keywordEach [] X.env))) := by rfl)
    (he : starEach (e :: es) X.env = (false, eval e X.env) :: starEach es X.env := by rfl) (hpl : (backTo pos (starEach es X.env)).any (·.1) = false := by rfl) : PE X (.Call o (e :: es) [] pos) (T g W0 (pRm f po ps)) := by
  obtain ⟨ad, hc, F⟩ := c.ex
  exact te_rc hK hc F hr ho ha hk ht he hpl
/-- x, y, z = a, b, c -/
def sPar3 (i j l : Nat) (ps : List Pg) : PgS := fun ε m => (evL ps ε m).toS ε fun ds m' => match ds with
  | [d, e, f] => .nxt (((ε.set i (some d)).set j (some e)).set l (some f)) m'
  | _ => .bad
theorem ts_par3 (i j l : Nat) {x y z : Str} {px py pz pt : Pos} {kt k2 pt2} (hc : X.calm = true) (hN : X.N.Nodup) (ha : PA X [a, b, c] (Ta g W ps)) (hi : X.N[i]? = some x := by rfl) (hj : X.N[j]? = some y := by rfl) (hl : X.N[l]? = some z := by rfl) (hij : i ≠ j := by decide) (hil : i ≠ l := by decide) (hjl : j ≠ l := by decide)
    (hx : X.env.scope.names.lookup x = some .local := by rfl) (hy : X.env.scope.names.lookup y = some .local := by rfl) (hz : X.env.scope.names.lookup z = some .local := by rfl)
    (hw : swappedStores [.Tuple [.Name x px, .Name y py, .Name z pz] kt pt] (.Tuple [a, b, c] k2 pt2) X.env = pure (some [x, y, z]) := by rfl)
    (hs : swapsWithSole [.Tuple [.Name x px, .Name y py, .Name z pz] kt pt] (.Tuple [a, b, c] k2 pt2) pos.line X.env = pure false := by rfl) :
    L2.PS X (.Assign [.Tuple [.Name x px, .Name y py, .Name z pz] kt pt] (.Tuple [a, b, c] k2 pt2) pos) (Ts g W (sPar3 i j l ps)) := PS.imp (ps_par3 hc hN hi hj hl hij hil hjl hx hy hz ha hw hs) fun D σ H h =>
  Ta.mono (ts_exL (k := fun ε ds m' => match ds with
  | [d, e, f] => .nxt (((ε.set i (some d)).set j (some e)).set l (some f)) m'
  | _ => .bad) h) fun v H1 ⟨ε, ρ, m, d, e, s, dv, q⟩ => by
    match d, dv with
    | [_, _, _], .cons d1 (.cons d2 (.cons d3 .nil)) => exact ⟨_, _, _, rfl, q ρ H1 _ .refl s (((e.set d1).set d2).set d3)⟩
    | [], _ => exact False.elim q
    | [_], _ => exact False.elim q
    | [_, _], _ => exact False.elim q
    | _ :: _ :: _ :: _ :: _, _ => exact False.elim q
end MT

/-! MTE: how programs of the little language are evaluated, forwards. -/
namespace MT
open PySem L2
variable {ε ε1 ε2 : EnvD} {m m1 m2 m3 : Store} {x y z d : D} {pa pb pc pe po pi : Pg} {ps : List Pg} {ds : List D} {f f' : Fn} {p q : PgS} {r : ResS} {R : Res D} {b : Bool} {i j : Nat} {t : Tgt}
theorem v_ok (h : ε[i]? = some (some d)) : pVar i ε m = .ok d m := by unfold pVar; rw [h]
theorem p1_ok (ha : pa ε m = .ok x m1) : p1 f pa ε m = f [x] m1 := by unfold p1; rw [ha]; rfl
theorem p2_ok (ha : pa ε m = .ok x m1) (hb : pb ε m1 = .ok y m2) : p2 f pa pb ε m = f [x, y] m2 := by
  unfold p2; rw [ha]; show (pb ε m1).bind _ = _; rw [hb]; rfl
theorem ev_nil : evL [] ε m = .ok [] m := rfl
theorem ev_cons (ha : pa ε m = .ok x m1) (hb : evL ps ε m1 = .ok ds m2) : evL (pa :: ps) ε m = .ok (x :: ds) m2 := by
  show (pa ε m).bind _ = _; rw [ha]; show (evL ps ε m1).bind _ = _; rw [hb]; rfl
theorem pF_ok (h : evL ps ε m = .ok ds m1) : pF f ps ε m = f ds m1 := by unfold pF; rw [h]; rfl
theorem pF1 (ha : pa ε m = .ok x m1) : pF f [pa] ε m = f [x] m1 := pF_ok (ev_cons ha ev_nil)
theorem pF2 (ha : pa ε m = .ok x m1) (hb : pb ε m1 = .ok y m2) : pF f [pa, pb] ε m = f [x, y] m2 := pF_ok (ev_cons ha (ev_cons hb ev_nil))
theorem pF3 (ha : pa ε m = .ok x m1) (hb : pb ε m1 = .ok y m2) (hc : pc ε m2 = .ok z m3) : pF f [pa, pb, pc] ε m = f [x, y, z] m3 := pF_ok (ev_cons ha (ev_cons hb (ev_cons hc ev_nil)))
theorem and_f (ha : pa ε m = .ok (.bl false) m1) : pAnd pa pb ε m = .ok (.bl false) m1 := by unfold pAnd; rw [ha]; rfl
theorem and_t (ha : pa ε m = .ok (.bl true) m1) : pAnd pa pb ε m = pb ε m1 := by unfold pAnd; rw [ha]; rfl
theorem or_f (ha : pa ε m = .ok (.bl false) m1) : pOr pa pb ε m = pb ε m1 := by unfold pOr; rw [ha]; rfl
theorem or_t (ha : pa ε m = .ok (.bl true) m1) : pOr pa pb ε m = .ok (.bl true) m1 := by unfold pOr; rw [ha]; rfl
theorem if_t (ha : pc ε m = .ok (.bl true) m1) : pIf pc pa pb ε m = pa ε m1 := by unfold pIf; rw [ha]; rfl
theorem if_f (ha : pc ε m = .ok (.bl false) m1) : pIf pc pa pb ε m = pb ε m1 := by unfold pIf; rw [ha]; rfl
theorem chain_t (ha : pa ε m = .ok x m1) (hb : pb ε m1 = .ok y m2) (hf : f [x, y] m2 = .ok (.bl true) m2) (hc : pc ε m2 = .ok z m3) : pChain f f' pa pb pc ε m = f' [y, z] m3 := by
  unfold pChain; rw [ha]; show (pb ε m1).bind _ = _; rw [hb]; show (f [x, y] m2).bind _ = _; rw [hf]; show (pc ε m2).bind _ = _; rw [hc]; rfl
theorem chain_f (ha : pa ε m = .ok x m1) (hb : pb ε m1 = .ok y m2) (hf : f [x, y] m2 = .ok (.bl false) m2) : pChain f f' pa pb pc ε m = .ok (.bl false) m2 := by
  unfold pChain; rw [ha]; show (pb ε m1).bind _ = _; rw [hb]; show (f [x, y] m2).bind _ = _; rw [hf]; rfl
theorem seq_nxt (h : p ε m = .nxt ε1 m1) : sSeq p q ε m = q ε1 m1 := by unfold sSeq; rw [h]; rfl
theorem seq_ret (h : p ε m = .ret d m1) : sSeq p q ε m = .ret d m1 := by unfold sSeq; rw [h]; rfl
theorem sif_t (h : pc ε m = .ok (.bl true) m1) : sIf pc p q ε m = p ε m1 := by unfold sIf; rw [h]; rfl
theorem sif_f (h : pc ε m = .ok (.bl false) m1) : sIf pc p q ε m = q ε m1 := by unfold sIf; rw [h]; rfl
theorem set_ok (h : pe ε m = .ok d m1) : sSet i pe ε m = .nxt (ε.set i (some d)) m1 := by unfold sSet; rw [h]; rfl
theorem ret_ok (h : pe ε m = .ok d m1) : sRet pe ε m = .ret d m1 := by unfold sRet; rw [h]; rfl
theorem expr_ok (h : pe ε m = .ok d m1) : sExpr pe ε m = .nxt ε m1 := by unfold sExpr; rw [h]; rfl
theorem asg_ok (h : pe ε m = .ok d m1) (hb : bindT t d ε = some ε1) : sAsgT t pe ε m = .nxt ε1 m1 := by
  unfold sAsgT; rw [h]; show (match bindT t d ε with | some ε' => _ | none => _) = _; rw [hb]
theorem par_ok (h : evL ps ε m = .ok [x, y] m1) : sPar i j ps ε m = .nxt ((ε.set i (some x)).set j (some y)) m1 := by unfold sPar; rw [h]; rfl
theorem rm_ok {ls : List Str} (h : po ε m = .ok (.room ls) m1) (hv : evL ps ε m1 = .ok ds m2) : pRm f po ps ε m = f (.room ls :: ds) m2 := by
  unfold pRm; rw [h]; show (evL ps ε m1).bind _ = _; rw [hv]; rfl
theorem run_ret {n N : Nat} (hl : ds.length = n) (h : p (ds.map some ++ List.replicate (N - n) none) m = .ret d m1) : runD n N p ds m = .ok d m1 := by unfold runD; rw [if_pos hl, h]
theorem run_nxt {n N : Nat} (hl : ds.length = n) (h : p (ds.map some ++ List.replicate (N - n) none) m = .nxt ε m1) : runD n N p ds m = .ok .non m1 := by unfold runD; rw [if_pos hl, h]
theorem while_t {pb : PgS} {n : Nat} (hc : pc ε m = .ok (.bl true) m1) (hb : pb ε m1 = .nxt ε1 m2) : whileN pc pb (n + 1) ε m = whileN pc pb n ε1 m2 := by
  show (pc ε m).toS ε _ = _; rw [hc]; show (pb ε m1).bind _ = _; rw [hb]; rfl
theorem while_f {pb : PgS} {n : Nat} (hc : pc ε m = .ok (.bl false) m1) : whileN pc pb (n + 1) ε m = .nxt ε m1 := by
  show (pc ε m).toS ε _ = _; rw [hc]; rfl
theorem sub_ok {o : D} {m4 : Store} (he : pe ε m = .ok d m1) (ho : po ε m1 = .ok o m2) (hi : pi ε m2 = .ok x m3) (hs : gSetL o x d m3 = some m4) : sSub po pi pe ε m = .nxt ε m4 := by
  unfold sSub; rw [he]; show (po ε m1).toS ε _ = _; rw [ho]; show (pi ε m2).toS ε _ = _; rw [hi]
  show (match gSetL o x d m3 with | some m4 => ResS.nxt ε m4 | none => .bad) = _; rw [hs]
theorem lm_ok {n : Nat} {xs : List D} (ho : po ε m = .ok (.loc n) m1) (hc : m1[n]? = some (.lst xs)) (hv : evL ps ε m1 = .ok ds m2) : pLm f po ps ε m = f (.loc n :: ds) m2 := by
  unfold pLm; rw [ho]; show (match m1[n]? with | some (.lst _) => _ | _ => _) = _; rw [hc]; show (evL ps ε m1).bind _ = _; rw [hv]; rfl
theorem sm_ok {s : Str} (ho : po ε m = .ok (.str s) m1) (hv : evL ps ε m1 = .ok ds m2) : pSm f po ps ε m = f (.str s :: ds) m2 := by
  unfold pSm; rw [ho]; show (evL ps ε m1).bind _ = _; rw [hv]; rfl
end MT

/-! MTF: freezing: what a call or an expression hands back becomes a value; what it made besides is forgotten. -/
namespace MT
open PySem PySem.Spec PyProof.Rows L2 StX
variable {g : G} {ρ ρ' ρ1 ρ2 : List Addr} {H H' H1 H2 : Hp} {m m' : Store} {ε ε' : EnvD} {σ σ' : L2.St} {W : Wx} {r : Res D} {Q Q' : VK} {X : Cx} {e : Expr} {p : Pg} {f : Fn} {k : Nat}

/-! ### which places a value names -/
mutual
def ltD (n : Nat) : D → Bool
  | .loc k => decide (k < n)
  | .tup xs => ltDs n xs
  | .fl xs => ltDs n xs
  | .kl xs => ltDs n xs
  | .non => true
  | .bl _ => true
  | .int _ => true
  | .str _ => true
  | .room _ => true
  | .adr _ => true
def ltDs (n : Nat) : List D → Bool
  | [] => true
  | d :: ds => ltD n d && ltDs n ds
end
def ltC (n : Nat) : Cell → Bool
  | .lst ds => ltDs n ds
  | .dK kvs => ltDs n (kvs.map (·.2))
  | .dT kvs => ltDs n (kvs.map (·.2))
  | .ins _ fs => ltDs n (fs.map (·.2))
mutual
theorem DenV.lt : ∀ {d : D} {v : V}, DenV g ρ H d v → ltD ρ.length d = true
  | _, _, .non => rfl
  | _, _, .bl _ => rfl
  | _, _, .int _ => rfl
  | _, _, .str _ => rfl
  | _, _, .loc h => decide_eq_true (List.getElem?_eq_some_iff.mp h).1
  | _, _, .tup _ l => DenL.lt l
  | _, _, .fl _ l => DenL.lt l
  | _, _, .kl _ l => DenL.lt l
  | _, _, .room _ => rfl
  | _, _, .adr _ => rfl
theorem DenL.lt : ∀ {ds : List D} {vs : List V}, DenL g ρ H ds vs → ltDs ρ.length ds = true
  | _, _, .nil => rfl
  | _, _, .cons h l => Bool.and_eq_true_iff.mpr ⟨DenV.lt h, DenL.lt l⟩
end
theorem CellAt.lt {a : Addr} {c : Cell} (h : CellAt g ρ H a c) : ltC ρ.length c = true := by
  cases c with
  | lst ds => obtain ⟨vs, _, l⟩ := h; exact l.lt
  | dK kvs => obtain ⟨vs, _, l⟩ := h; exact l.lt
  | dT kvs => obtain ⟨vs, _, l⟩ := h; exact l.lt
  | ins c fs => obtain ⟨dx, vs, _, l, _⟩ := h; exact l.lt

/-! ### frozen -/
def frzL (f : D → Option D) : List D → Option (List D)
  | [] => some []
  | d :: ds => match f d, frzL f ds with
    | some a, some b => some (a :: b)
    | _, _ => none
def frzD (m : Store) (n0 : Nat) : Nat → D → Option D
  | 0, d => if ltD n0 d = true then some d else none
  | k + 1, d => if ltD n0 d = true then some d else match d with
    | .loc n => match m[n]? with
      | some (.lst xs) => (frzL (frzD m n0 k) xs).map .fl
      | _ => none
    | .tup xs => (frzL (frzD m n0 k) xs).map .tup
    | .fl xs => (frzL (frzD m n0 k) xs).map .fl
    | _ => none
/-- the old places name old places -/
def OldOk (m m' : Store) : Prop := m.length ≤ m'.length ∧ ∀ i c, i < m.length → m'[i]? = some c → m[i]? = some c ∨ ltC m.length c = true
open Classical in
noncomputable def fzK (m : Store) (r : Res D) : Res D := match r with
  | .ok d m' => match frzD m' m.length 6 d with
    | some d' => if OldOk m m' then .ok d' (m'.take m.length) else .bad
    | none => .bad
  | .exc x m' => .exc x m'
  | .bad => .bad
noncomputable def fzF (f : Fn) : Fn := fun ds m => fzK m (f ds m)
noncomputable def pFz (p : Pg) : Pg := fun ε m => fzK m (p ε m)

/-- as are the lists of the new places -/
structure Fz (n0 : Nat) (ρ' : List Addr) (H' H2 : Hp) : Prop where
  new : ∀ i a vs, n0 ≤ i → ρ'[i]? = some a → H' a = some (.lst vs) → ∃ o, H2 a = some (.frz o (.lst vs))
  old : ∀ a, (∀ i vs, n0 ≤ i → ρ'[i]? = some a → H' a ≠ some (.lst vs)) → H2 a = H' a
section
variable {n0 : Nat}
theorem Fz.keep {a : Addr} {o : HO} (z : Fz n0 ρ' H' H2) (h : H' a = some o) (ne : ∀ vs, o ≠ .lst vs) : H2 a = some o :=
  (z.old a fun i vs _ _ q => by rw [h] at q; exact ne vs (Option.some.inj q)).trans h
theorem Fz.sqt {a : Addr} {vs : List V} (z : Fz n0 ρ' H' H2) (h : SqT g.K H' a vs) : SqT g.K H2 a vs := by
  rcases h with (h | ⟨o, h⟩) | h
  · exact .inl (.inl (z.keep h fun _ q => nomatch q))
  · exact .inl (.inr ⟨o, z.keep h fun _ q => nomatch q⟩)
  · exact .inr h
theorem Fz.sqf {a : Addr} {vs : List V} (z : Fz n0 ρ' H' H2) (h : SqF H' a vs) : SqF H2 a vs := let ⟨o, h⟩ := h; ⟨o, z.keep h fun _ q => nomatch q⟩
theorem Fz.sqk {a : Addr} {vs : List V} (z : Fz n0 ρ' H' H2) (h : SqK g.K H' a vs) : SqK g.K H2 a vs := by
  rcases h with ⟨o, h⟩ | h
  · exact .inl ⟨o, z.keep h fun _ q => nomatch q⟩
  · exact .inr h
theorem Fz.room {a : Addr} {ls : List Str} (z : Fz n0 ρ' H' H2) (h : RoomAt g H' a ls) : RoomAt g H2 a ls := by
  obtain ⟨dx, t, q, o, h1, h2, h3, h4⟩ := h
  exact ⟨dx, t, q, o, z.keep h1 (fun _ q => nomatch q), z.sqt h2, z.keep h3 (fun _ q => nomatch q), h4⟩
mutual
theorem den_lt (z : Fz n0 ρ' H' H2) (hr : ∀ i a, i < n0 → ρ'[i]? = some a → ρ[i]? = some a) : ∀ {d : D} {v : V}, DenV g ρ' H' d v → ltD n0 d = true → DenV g ρ H2 d v
  | _, _, .non, _ => .non
  | _, _, .bl b, _ => .bl b
  | _, _, .int i, _ => .int i
  | _, _, .str s, _ => .str s
  | _, _, .loc h, q => .loc (hr _ _ (of_decide_eq_true q) h)
  | _, _, .tup h l, q => .tup (z.sqt h) (denL_lt z hr l q)
  | _, _, .fl h l, q => .fl (z.sqf h) (denL_lt z hr l q)
  | _, _, .kl h l, q => .kl (z.sqk h) (denL_lt z hr l q)
  | _, _, .room h, _ => .room (z.room h)
  | _, _, .adr a, _ => .adr a
theorem denL_lt (z : Fz n0 ρ' H' H2) (hr : ∀ i a, i < n0 → ρ'[i]? = some a → ρ[i]? = some a) : ∀ {ds : List D} {vs : List V}, DenL g ρ' H' ds vs → ltDs n0 ds = true → DenL g ρ H2 ds vs
  | _, _, .nil, _ => .nil
  | _, _, .cons h l, q => .cons (den_lt z hr h (Bool.and_eq_true_iff.mp q).1) (denL_lt z hr l (Bool.and_eq_true_iff.mp q).2)
end
theorem frzL_den {f : D → Option D} (hf : ∀ d d' v, f d = some d' → DenV g ρ' H' d v → DenV g ρ H2 d' v) : ∀ {ds ds' : List D} {vs : List V}, frzL f ds = some ds' → DenL g ρ' H' ds vs → DenL g ρ H2 ds' vs
  | [], ds', vs, h, l => by cases h; cases l; exact .nil
  | d :: ds, ds', vs, h, l => by
    cases l with
    | cons dv l =>
      unfold frzL at h
      split at h
      · rename_i a b h1 h2
        cases h
        exact .cons (hf _ _ _ h1 dv) (frzL_den hf h2 l)
      · cases h
theorem frzD_den (z : Fz n0 ρ' H' H2) (s : RelS g ρ' m' H') (hr : ∀ i a, i < n0 → ρ'[i]? = some a → ρ[i]? = some a) : ∀ (k : Nat) (d d' : D) (v : V), frzD m' n0 k d = some d' → DenV g ρ' H' d v → DenV g ρ H2 d' v
  | 0, d, d', v, h, dv => by
    unfold frzD at h
    split at h
    · rename_i q; cases h; exact den_lt z hr dv q
    · cases h
  | k + 1, d, d', v, h, dv => by
    unfold frzD at h
    split at h
    · rename_i q; cases h; exact den_lt z hr dv q
    · rename_i q
      cases dv with
      | @loc n a hn =>
        simp only at h
        split at h
        · rename_i xs hc
          cases hx : frzL (frzD m' n0 k) xs with
          | none => rw [hx] at h; cases h
          | some xs' =>
            rw [hx] at h; cases h
            obtain ⟨_, e1, e2, vs, hv, l⟩ := s.cell (.loc hn) hc
            cases e1
            have hle : n0 ≤ n := Nat.not_lt.mp fun lt => q (decide_eq_true lt)
            obtain ⟨o, ho⟩ := z.new n a vs hle hn hv
            exact .fl ⟨o, ho⟩ (frzL_den (frzD_den z s hr k) hx l)
        · cases h
      | @tup a ds vs ht l =>
        simp only at h
        cases hx : frzL (frzD m' n0 k) ds with
        | none => rw [hx] at h; cases h
        | some xs' =>
          rw [hx] at h; cases h
          exact .tup (z.sqt ht) (frzL_den (frzD_den z s hr k) hx l)
      | @fl a ds vs ht l =>
        simp only at h
        cases hx : frzL (frzD m' n0 k) ds with
        | none => rw [hx] at h; cases h
        | some xs' =>
          rw [hx] at h; cases h
          exact .fl (z.sqf ht) (frzL_den (frzD_den z s hr k) hx l)
      | kl ht l => cases h
      | _ => exact absurd rfl q
end
/-- what is behind the locks -/
theorem fz_end {d : D} {v : V} (s : RelS g ρ m H) (u : Up g ρ H ρ' H') (s' : RelS g ρ' m' H') (dv : DenV g ρ' H' d v) (z : Fz m.length ρ' H' H2) (h : Fin g W ρ H σ (fzK m (.ok d m')) Q) : Q v H2 := by
  unfold fzK at h
  simp only at h
  have hr : ∀ i a, i < m.length → ρ'[i]? = some a → ρ[i]? = some a := fun i a hi ha => by
    have hi' : i < ρ.length := by rw [s.len]; exact hi
    have e := List.getElem?_eq_getElem hi'
    have e2 := u.ext _ _ e
    rw [ha] at e2
    rw [e, Option.some.inj e2]
  cases hd : frzD m' m.length 6 d with
  | none => rw [hd] at h; exact h.elim
  | some d' =>
    rw [hd] at h
    simp only at h
    by_cases ho : OldOk m m'
    · rw [if_pos ho] at h
      refine h ρ H2 v ⟨fun _ _ q => q, fun a xs q => z.keep (u.tup _ _ q) (fun _ q => nomatch q), fun a o w q => z.keep (u.frz _ _ _ q) (fun _ q => nomatch q), fun a dx fs q => z.keep (u.rm _ _ _ q) (fun _ q => nomatch q)⟩ ⟨?_, s.nd, ?_, tabs_keep s'.tabs (fun _ _ q => z.keep q (fun _ q => nomatch q)) (fun _ _ q => z.keep q (fun _ q => nomatch q))⟩ (frzD_den z s' hr 6 d d' v hd dv)
      · rw [List.length_take, s.len]; exact (Nat.min_eq_left ho.1).symm
      · intro i a c h1 h2
        have hi : i < m.length := by rw [← s.len]; exact (List.getElem?_eq_some_iff.mp h1).1
        rw [List.getElem?_take, if_pos hi] at h2
        have ha := u.ext _ _ h1
        have q := s'.at_ i a c ha h2
        have lt : ltC m.length c = true := by
          rcases ho.2 i c hi h2 with e | e
          · have := (s.at_ i a c h1 e).lt
            rw [s.len] at this; exact this
          · exact e
        have hk : H2 a = H' a := z.old a fun j vs hj hja _ => by
          have := s'.nd i j a ha hja
          omega
        cases c with
        | lst ds => obtain ⟨vs, h3, l⟩ := q; exact ⟨vs, hk.trans h3, denL_lt z hr l lt⟩
        | dK kvs => obtain ⟨vs, h3, l⟩ := q; exact ⟨vs, hk.trans h3, denL_lt z hr l lt⟩
        | dT kvs => obtain ⟨vs, h3, l⟩ := q; exact ⟨vs, hk.trans h3, denL_lt z hr l lt⟩
        | ins cc fs => obtain ⟨dx, vs, h3, l, n⟩ := q; exact ⟨dx, vs, hk.trans h3, denL_lt z hr l lt, n⟩
    · rw [if_neg ho] at h; exact h.elim

/-! ### locks -/
def Locks : List Addr → Hp → (Hp → Prop) → Prop
  | [], H, k => k H
  | a :: as, H, k => ∃ u, H a = some u ∧ Mut (some u) ∧ ∀ o, Locks as (upd H a (.frz o u)) k
structure Lkd (as : List Addr) (H H2 : Hp) : Prop where
  new : ∀ a ∈ as, ∀ u, H a = some u → ∃ o, H2 a = some (.frz o u)
  old : ∀ a, a ∉ as → H2 a = H a
theorem locks_of {K : Hp → Prop} : ∀ {as : List Addr} {H : Hp}, as.Nodup → (∀ a ∈ as, ∃ vs, H a = some (.lst vs)) → (∀ H2, Lkd as H H2 → K H2) → Locks as H K
  | [], H, _, _, k => k H ⟨fun a ha => absurd ha (by simp), fun _ _ => rfl⟩
  | a :: as, H, nd, hl, k => by
    obtain ⟨vs, ha⟩ := hl a List.mem_cons_self
    have hn := List.nodup_cons.mp nd
    refine ⟨_, ha, trivial, fun o => locks_of hn.2 (fun b hb => ?_) fun H2 z => k H2 ⟨fun b hb u hu => ?_, fun b hb => ?_⟩⟩
    · obtain ⟨ws, hw⟩ := hl b (List.mem_cons_of_mem _ hb)
      exact ⟨ws, by rw [upd_ne (fun e => hn.1 (by rw [← e]; exact hb))]; exact hw⟩
    · rcases List.mem_cons.mp hb with rfl | hb
      · rw [ha] at hu; cases hu
        exact ⟨o, by rw [z.old _ hn.1]; exact upd_same⟩
      · exact z.new b hb u (by rw [upd_ne (fun e => hn.1 (by rw [← e]; exact hb))]; exact hu)
    · have h1 : b ≠ a := fun e => hb (by rw [e]; exact List.mem_cons_self)
      rw [z.old b (fun q => hb (List.mem_cons_of_mem _ q)), upd_ne h1]
open Classical in
noncomputable def frsL (n0 : Nat) (ρ' : List Addr) (H' : Hp) : List Addr := (ρ'.drop n0).filter fun a => decide (∃ vs, H' a = some (.lst vs))
theorem frsL_nodup {n0 : Nat} (s : RelS g ρ' m' H') : (frsL n0 ρ' H').Nodup := by
  have h : ρ'.Nodup := List.pairwise_iff_getElem.mpr fun i j hi hj lt e => by
    have e1 : ρ'[i]? = some ρ'[j] := by rw [List.getElem?_eq_getElem hi, e]
    have := s.nd i j _ e1 (List.getElem?_eq_getElem hj)
    omega
  exact List.Pairwise.filter _ (h.sublist (List.drop_sublist _ _))
open Classical in
theorem frsL_mem {n0 : Nat} {a : Addr} : a ∈ frsL n0 ρ' H' ↔ (∃ i, n0 ≤ i ∧ ρ'[i]? = some a) ∧ ∃ vs, H' a = some (.lst vs) := by
  unfold frsL
  rw [List.mem_filter, decide_eq_true_iff]
  refine and_congr_left fun _ => ⟨fun h => ?_, fun ⟨i, h1, h2⟩ => ?_⟩
  · obtain ⟨i, hi⟩ := List.mem_iff_getElem?.mp h
    rw [List.getElem?_drop] at hi
    exact ⟨n0 + i, Nat.le_add_right _ _, hi⟩
  · refine List.mem_iff_getElem?.mpr ⟨i - n0, ?_⟩
    rw [List.getElem?_drop, Nat.add_sub_cancel' h1]
    exact h2
theorem Lkd.fz {n0 : Nat} (z : Lkd (frsL n0 ρ' H') H' H2) : Fz n0 ρ' H' H2 :=
  ⟨fun i a vs h1 h2 h3 => z.new a (frsL_mem.mpr ⟨⟨i, h1, h2⟩, vs, h3⟩) _ h3, fun a h => z.old a fun q => by
    obtain ⟨⟨i, h1, h2⟩, vs, h3⟩ := frsL_mem.mp q
    exact h i vs h1 h2 h3⟩
/-- a result with its lists locked -/
def LockQ (Q : VK) : VK := fun v H1 => ∃ as, Locks as H1 fun H2 => Q v H2
theorem Fin.locks {r : Res D} (s : RelS g ρ m H) (h : Fin g W ρ H σ (fzK m r) Q) : Fin g W ρ H σ r (LockQ Q) := by
  cases r with
  | ok d m' => exact fun ρ' H' v u s' dv => ⟨frsL m.length ρ' H', locks_of (frsL_nodup s') (fun a ha => (frsL_mem.mp ha).2) fun H2 z => fz_end s u s' dv z.fz h⟩
  | exc x m' => exact h
  | bad => exact h
theorem ce_lock {P : Program} {w : World} {fs ex : List Addr} {h h' : Heap} {d : Addr} {u : HO} (U : Un fs ex H H' h h') (K : HOk P w H' h') (e : H' d = some u) (mu : Mut (some u)) :
    ∃ od, Un fs ex H (upd H' d (.frz od u)) h h' ∧ HOk P w (upd H' d (.frz od u)) h' := by
  have x := K d u e
  obtain ⟨od, eo⟩ : ∃ od, h'.get? d = some od := by
    have lt := x.lt
    cases u with
    | lst xs => obtain ⟨_, _, _, _, e⟩ := x; exact ⟨_, e⟩
    | dK kvs => obtain ⟨_, _, _, _, o, _, _, e, _⟩ := x; exact ⟨o, e⟩
    | dT kvs => obtain ⟨_, _, _, _, o, _, _, e, _⟩ := x; exact ⟨o, e⟩
    | set S n => obtain ⟨o, _, _, _, e, _⟩ := x; exact ⟨o, e⟩
    | ins C dx fs => obtain ⟨_, _, _, e, _⟩ := x; exact ⟨_, e⟩
    | ext φ => obtain ⟨_, ⟨_, e⟩, _⟩ := x; exact ⟨_, e⟩
    | _ => exact False.elim mu
  have new : ObjOk P w (upd H' d (.frz od u)) h' d (.frz od u) := by
    refine ⟨eo, x.stay (fun b v _ q => q) (fun b q => ?_) fun b xs q => ?_⟩
    · rw [upd_ne (fun z => by rw [z, e] at q; cases q; exact mu)]; exact q
    · rw [upd_ne (fun z => by rw [z, e] at q; cases q; exact mu)]; exact q
  exact ⟨od, U.trans (Un.write (x := d) (e := d) (by rw [e]; exact mu) (.inl rfl) (fun _ _ _ q => q) ⟨od, eo⟩), K.write (x := d) (e := d) (by rw [e]; exact mu) (.inl rfl) (fun _ _ _ q => q) ⟨od, eo⟩ new⟩
theorem ce_locks {P : Program} {w : World} {fs ex : List Addr} {h h' : Heap} {K : Hp → Prop} : ∀ {as : List Addr} {H' : Hp}, Un fs ex H H' h h' → HOk P w H' h' → Locks as H' K → ∃ H2, Un fs ex H H2 h h' ∧ HOk P w H2 h' ∧ K H2
  | [], H', U, O, k => ⟨H', U, O, k⟩
  | a :: as, H', U, O, k => by
    obtain ⟨u, e, mu, k⟩ := k
    obtain ⟨od, U2, O2⟩ := ce_lock U O e mu
    exact ce_locks U2 O2 (k od)
/-- a def whose results are frozen -/
theorem fnr_fz {P : Program} {w : World} {mg : Str → Option Value} {base : Heap} {ad : Addr} (F : FnR P w g.K mg base CX0 k ad (spOf g f)) : FnR P w g.K mg base CX0 k ad (spOf g (fzF f)) := by
  intro A outer s H us vs Q E hr e0 r hs
  obtain ⟨ρ, m, ds, s0, l, h⟩ := hs
  refine codeAny_mono (F A outer s H us vs (LockQ Q) E hr e0 r ⟨ρ, m, ds, s0, l, Fin.locks s0 h⟩) fun r s' hq => ?_
  cases r with
  | error e => exact hq
  | ok fl =>
    cases fl with
    | ret u =>
      obtain ⟨v, H', os, bare, un, hok, rv, as, q⟩ := hq
      obtain ⟨H2, un2, hok2, q2⟩ := ce_locks un hok q
      exact ⟨v, H2, os, bare, un2, hok2, rv, q2⟩
    | next => exact hq
    | brk => exact hq
    | cont => exact hq
theorem Cf.fz {P : Program} {w : World} {mg : Str → Option Value} {base : Heap} {x : Str} (c : Cf P w mg base g k x f) : Cf P w mg base g k x (fzF f) :=
  let ⟨ad, F, hm, kp⟩ := c.ex; ⟨ad, fnr_fz F, hm, kp⟩
theorem Mf.fz {P : Program} {w : World} {mg : Str → Option Value} {base : Heap} {C : Addr} {mm : Str} (c : Mf P w mg base g k C mm f) : Mf P w mg base g k C mm (fzF f) :=
  let ⟨ad, hm, F⟩ := c.ex; ⟨ad, hm, fnr_fz F⟩
theorem Cl.fz {P : Program} {w : World} {mg : Str → Option Value} {base : Heap} (c : Cl P w mg base g k f) : Cl P w mg base g k (fzF f) :=
  let ⟨ad, hm, F⟩ := c.ex; ⟨ad, hm, fnr_fz F⟩
theorem Cm.fz {P : Program} {w : World} {mg : Str → Option Value} {base : Heap} {mm : Str} (c : Cm P w mg base g k mm f) : Cm P w mg base g k mm (fzF f) :=
  let ⟨ad, q, mc, r, cm, F⟩ := c.ex; ⟨ad, q, mc, r, cm, fnr_fz F⟩
theorem Dn.fz {P : Program} {w : World} {mg : Str → Option Value} {base : Heap} {mm : Str} (c : Dn P w mg base g k mm f) : Dn P w mg base g k mm (fzF f) :=
  let ⟨ad, h1, h2, h3, F⟩ := c.ex; ⟨ad, h1, h2, h3, fnr_fz F⟩

/-! ### expressions -/
theorem EP.locks {pins : List (Addr × Obj)} {σ : L2.St} {K : Hp → Prop} {s : Shared} : ∀ {as : List Addr} {H : Hp}, Inv X pins σ H s → Locks as H K → ∃ H2, Inv X pins σ H2 s ∧ K H2
  | [], H, I, k => ⟨H, I, k⟩
  | a :: as, H, I, k => by
    obtain ⟨u, e, mu, k⟩ := k
    obtain ⟨od, I2⟩ := I.lock e mu
    exact EP.locks I2 (k od)
theorem te_fz (h : PE X e (T g W p)) : PE X e (T g W (pFz p)) := ⟨fun pins s σ H Q I q => by
  obtain ⟨ε, ρ, m, ds, e0, s0, l, q⟩ := q
  refine wpAny_mono (h.run pins s σ H (LockQ Q) I ⟨ε, ρ, m, ds, e0, s0, l, Fin.locks s0 q⟩) (fun v s1 z => ?_) fun _ _ z => z
  obtain ⟨v', H1, I1, r, as, q⟩ := z
  obtain ⟨H2, I2, q2⟩ := EP.locks I1 q
  exact ⟨v', H2, I2, r, q2⟩⟩
theorem t_fzl (h : T g W (pFz p) σ H Q) : T g W p σ H (LockQ Q) := by
  obtain ⟨ε, ρ, m, ds, e0, s0, l, q⟩ := h
  exact ⟨ε, ρ, m, ds, e0, s0, l, Fin.locks s0 q⟩
theorem ps_lk {st : Stmt} {t : TS} (h : L2.PS X st t) : L2.PS X st (fun D σ H => t { D with nx := fun σ' H' => ∃ as, Locks as H' fun H2 => D.nx σ' H2 } σ H) := ⟨fun pins s σ H D I q => by
  refine wpAny_mono (h.run pins s σ H _ I q) (fun f s1 z => ?_) fun _ _ z => z
  cases f with
  | next =>
    obtain ⟨σ', H', I', as, z⟩ := z
    obtain ⟨H2, I2, z2⟩ := EP.locks I' z
    exact ⟨σ', H2, I2, z2⟩
  | brk => exact z
  | cont => exact z
  | ret u => exact z⟩
theorem ts_setLcF (i : Nat) {y : Str} {py : Pos} {elt tg iter : Expr} {ifs : List Expr} {scope : Scope} {own : List (Str × Nat)} {pos spos : Pos} {pi : PgI} {t : Tgt} {pt pe : Pg} (hc : X.calm = true) (hN : X.N.Nodup) (hi : SrcR g W X tg iter pi) (ok : BlkOk X.N X.env.scope scope own)
    (hg : ∀ (s : Shared) (H : Hp) (C : Addr) (cl : List (Str × Addr)) (fp : List Addr), TgOk g (X.blk s H scope (compEnvC scope cl C X.env) fp) tg t) (ht : ∀ (s : Shared) (H : Hp) (C : Addr) (cl : List (Str × Addr)) (fp : List Addr), PTs (X.blk s H scope (compEnvC scope cl C X.env) fp) ifs (Tt g W0 pt))
    (he : ∀ (s : Shared) (H : Hp) (C : Addr) (cl : List (Str × Addr)) (fp : List Addr), PE (X.blk s H scope (compEnvC scope cl C X.env) fp) elt (T g W0 pe)) (hsl : ∀ i ∈ t.slots, i ∈ own.map (·.2))
    (hsw : swapsWith (.ListComp elt [⟨tg, iter, ifs, 0⟩] scope pos) (some (.Name y py)) spos.line X.env = pure true) (hy : X.N[i]? = some y := by rfl) (hyl : X.env.scope.names.lookup y = some .local := by rfl) (hs : ∀ x, foldedSetIterable iter X.env x = pure x := by intro _; rfl) :
    L2.PS X (.Assign [.Name y py] (.ListComp elt [⟨tg, iter, ifs, 0⟩] scope pos) spos) (Ts g W (sSet i (pFz (pLc pi (own.map (·.2)) t pt pe)))) := by
  obtain ⟨wi, i1, i2⟩ := hi
  exact PS.imp (ps_lk (ps_setLc hc hN hy hyl hsw i1 ok hg ht he hs)) fun D σ H h => t_lc hsl i2 (t_fzl (t_set h))
theorem fnok_fz {P : Program} {w : World} {mg : Str → Option Value} {base : Heap} {ad : Addr} {fd : FuncData} {pn : List Str} (F : FnOk P w g.K mg base CX0 k ad fd pn (spOf g f)) : FnOk P w g.K mg base CX0 k ad fd pn (spOf g (fzF f)) := by
  refine ⟨fun vs H Q E h => ?_, fun A outer s H args us vs Q E hr e0 hb r hs => ?_⟩
  · obtain ⟨ρ, m, ds, s0, l, h⟩ := h
    exact F.len vs H (LockQ Q) E ⟨ρ, m, ds, s0, l, Fin.locks s0 h⟩
  · obtain ⟨ρ, m, ds, s0, l, h⟩ := hs
    refine codeAny_mono (F.run A outer s H args us vs (LockQ Q) E hr e0 hb r ⟨ρ, m, ds, s0, l, Fin.locks s0 h⟩) fun r s' hq => ?_
    cases r with
    | error e => exact hq
    | ok fl =>
      cases fl with
      | ret u =>
        obtain ⟨v, H', os, bare, un, hok, rv, as, q⟩ := hq
        obtain ⟨H2, un2, hok2, q2⟩ := ce_locks un hok q
        exact ⟨v, H2, os, bare, un2, hok2, rv, q2⟩
      | next => exact hq
      | brk => exact hq
      | cont => exact hq
theorem Pf.fz {P : Program} {w : World} {mg : Str → Option Value} {base : Heap} {mm : Str} (c : Pf P w mg base g k mm f) : Pf P w mg base g k mm (fzF f) :=
  let ⟨p, ad, fd, pn, hp, F, b⟩ := c.ex; ⟨p, ad, fd, pn, hp, fnok_fz F, b⟩
end MT

/-! MTO: objects of own classes with fields: read, written, made, their methods and properties; room[i, j]; TURNED[s]. -/
namespace MT
open PySem PySem.Spec PyProof.Rows L2 StX
variable {g : G} {ρ ρ' ρ1 ρ2 : List Addr} {H H' H1 H2 : Hp} {m m' : Store} {ε ε' : EnvD} {σ σ' : L2.St} {W : Wx} {r : Res D} {Q Q' : VK} {X : Cx} {a b c e o : Expr} {pa pb pc pe po : Pg} {pos apos : Pos} {D0 : Ends} {es : List Expr} {ps : List Pg} {f : Fn} {k j : Nat} {x mm cc : Str} {p' : Pos}

/-! ### fields -/
/-- the class cc of the text behind the top -/
structure OCls (g : G) (cc : Str) : Prop where
  cls : Cls g.K (g.cl cc)
  ne : g.cl cc ≠ g.CR
def getO (m : Store) (n : Nat) (c : Str) : Option (List (Str × D)) := match m[n]? with
  | some (.ins c' fs) => if c' = c then some fs else none
  | _ => none
theorem getO_eq {n : Nat} {fs : List (Str × D)} (h : getO m n cc = some fs) : m[n]? = some (.ins cc fs) := by
  unfold getO at h
  split at h
  · rename_i c' fs' he
    split at h
    · rename_i hc; cases h; rw [he, hc]
    · cases h
  · cases h
theorem RelS.obj (s : RelS g ρ m H) {n : Nat} {p : Addr} {fs : List (Str × D)} (hp : ρ[n]? = some p) (h : getO m n cc = some fs) :
    ∃ dx vs, H p = some (.ins (g.cl cc) dx ((fs.map (·.1)).zip vs)) ∧ DenL g ρ H (fs.map (·.2)) vs ∧ g.cl cc ≠ g.CR := s.at_ n p _ hp (getO_eq h)
theorem lookup_zip : ∀ {fs : List (Str × D)} {vs : List V} {d : D}, DenL g ρ H (fs.map (·.2)) vs → fs.lookup x = some d → ∃ v, ((fs.map (·.1)).zip vs).lookup x = some v ∧ DenV g ρ H d v
  | [], _, _, _, h => nomatch h
  | (y, e) :: fs, _, d, .cons (v := v) dv l, h => by
    simp only [List.map_cons, List.zip_cons_cons, List.lookup] at h ⊢
    split at h
    · cases h; exact ⟨v, rfl, dv⟩
    · exact lookup_zip l h
theorem lookup_zipN : ∀ {fs : List (Str × D)} {vs : List V}, DenL g ρ H (fs.map (·.2)) vs → fs.lookup x = none → ((fs.map (·.1)).zip vs).lookup x = none
  | [], _, _, _ => rfl
  | (y, e) :: fs, _, .cons (v := v) dv l, h => by
    simp only [List.map_cons, List.zip_cons_cons, List.lookup] at h ⊢
    split at h
    · cases h
    · exact lookup_zipN l h
def putD (f : Str) (v : D) : List (Str × D) → List (Str × D)
  | [] => [(f, v)]
  | (g, x) :: r => if g = f then (g, v) :: r else (g, x) :: putD f v r
theorem put_zip {d : D} {v : V} (dv : DenV g ρ H d v) : ∀ {fs : List (Str × D)} {vs : List V}, DenL g ρ H (fs.map (·.2)) vs → ∃ ws, putF x v ((fs.map (·.1)).zip vs) = ((putD x d fs).map (·.1)).zip ws ∧ DenL g ρ H ((putD x d fs).map (·.2)) ws
  | [], _, .nil => ⟨[v], rfl, .cons dv .nil⟩
  | (y, e) :: fs, _, .cons (v := u) (vs := vs) du l => by
    simp only [List.map_cons, List.zip_cons_cons, putF, putD]
    split
    · exact ⟨v :: vs, rfl, .cons dv l⟩
    · obtain ⟨ws, e1, l1⟩ := put_zip dv l
      exact ⟨u :: ws, by rw [e1]; rfl, .cons du l1⟩
theorem zip_len {fs : List (Str × D)} {vs : List V} (l : DenL g ρ H (fs.map (·.2)) vs) : ((fs.map (·.1)).zip vs).length = fs.length := by
  have := l.length
  rw [List.length_map] at this
  rw [List.length_zip, List.length_map, ← this, Nat.min_self]
def gFld (c x : Str) : Fn
  | [.loc n], m => match getO m n c with
    | some fs => (match fs.lookup x with | some d => .ok d m | none => .bad)
    | none => .bad
  | _, _ => .bad
theorem te_ofld (hK : X.K = g.K) (C : OCls g cc) (na : NoAttr g.K (g.cl cc) x) (ho : PE X o (T g W po)) (hb : attributeBase o x X.env (eval o X.env) = eval o X.env := by rfl) : PE X (.Attribute o x pos) (T g W (p1 (gFld cc x) po)) :=
  PE.imp (pe_fld ho hb) fun σ H Q h => t_op1 (f := gFld cc x) (r := fun y H1 Q => ∃ a C dx fs v, y = .ref a ∧ H1 a = some (.ins C dx fs) ∧ Cls X.K C ∧ NoAttr X.K C x ∧ fs.lookup x = some v ∧ Q v H1) (fun ρ m σ H d y Q s dv h => by
    cases dv with
    | @loc n p hp =>
      simp only [gFld] at h
      split at h
      · rename_i fs hc
        obtain ⟨dx, vs, ha, l, _⟩ := s.obj hp hc
        split at h
        · rename_i d hd
          obtain ⟨v, hv, dv⟩ := lookup_zip l hd
          exact ⟨p, g.cl cc, dx, _, v, rfl, ha, by rw [hK]; exact C.cls, by rw [hK]; exact na, hv, Fin.okc h s dv⟩
        · exact h.elim
      · exact h.elim
    | _ => exact False.elim h) h
/-- o.x = e -/
def setO (c x : Str) (o d : D) (m : Store) : Option Store := match o with
  | .loc n => match getO m n c with
    | some fs => if fs.length < 1000 then some (m.set n (.ins c (putD x d fs))) else none
    | none => none
  | _ => none
def sFldC (c x : Str) (po pe : Pg) : PgS := fun ε m => (pe ε m).toS ε fun d m1 => (po ε m1).toS ε fun o m2 => match setO c x o d m2 with
  | some m4 => .nxt ε m4
  | none => .bad
theorem ts_fld {pos' : Pos} (hK : X.K = g.K) (C : OCls g cc) (na : NoAttr g.K (g.cl cc) x) (ho : PE X o (T g W po)) (he : PE X e (T g W pe)) (hs : swapsWith e (some (.Attribute o x pos')) pos.line X.env = pure false := by rfl) :
    L2.PS X (.Assign [.Attribute o x pos'] e pos) (Ts g W (sFldC cc x po pe)) := by
  refine PS.imp (ps_fld ho he hs) fun D σ H h => ?_
  refine T.mono (ts_ex (k := fun ε d m1 => (po ε m1).toS ε fun o m2 => match setO cc x o d m2 with
    | some m4 => .nxt ε m4
    | none => .bad) h) fun v H1 ⟨ε, ρ, m, d, e, s, dv, q⟩ => ?_
  refine ⟨ε, ρ, m, [], e, s, .nil, FinS.ex q e fun ρ2 H2 v2 d2 m2 u2 s2 dv2 q2 => ?_⟩
  unfold setO at q2
  cases dv2 with
  | @loc n p hp =>
    simp only at q2
    split at q2
    · rename_i m4 hm
      split at hm
      · rename_i fs hc
        split at hm
        · rename_i hl
          cases hm
          obtain ⟨dx, vs, ha, l, nC⟩ := s2.obj hp hc
          refine ⟨p, g.cl cc, dx, _, rfl, ha, by rw [hK]; exact C.cls, by rw [hK]; exact na, by rw [zip_len l]; exact hl, ?_⟩
          obtain ⟨ws, e1, l1⟩ := put_zip (x := x) (dv.up u2) l
          have uw : Up g ρ2 H2 ρ2 (upd H2 p (.ins (g.cl cc) dx (putF x v ((fs.map (·.1)).zip vs)))) := Up.write ha nC
          refine q2 ρ2 _ σ uw (s2.set hp (getO_eq hc) ⟨dx, ws, ?_, l1.up uw, nC⟩) ((e.up u2).up uw)
          rw [upd_same, e1]
        · cases hm
      · cases hm
    · exact q2.elim
  | _ => exact False.elim q2
/-! ### methods and properties -/
def pOm (c mm : Str) (f : Fn) (po : Pg) (ps : List Pg) : Pg := fun ε m => (po ε m).bind fun d m1 => match d with
  | .loc n => match getO m1 n c with
    | some fs => if fs.lookup mm = none then (evL ps ε m1).bind fun ds m2 => f (.loc n :: ds) m2 else .bad
    | none => .bad
  | _ => .bad
theorem t_om {R2 : List V → Hp → VK → Prop} (hs : ∀ (ρ : List Addr) (m : Store) (σ : L2.St) (H : Hp) (n : Nat) (p : Addr) (ds : List D) (vs : List V) (Q : VK), RelS g ρ m H → ρ[n]? = some p → DenL g ρ H ds vs → Fin g W ρ H σ (f (.loc n :: ds) m) Q → R2 (.ref p :: vs) H Q)
    (h : T g W (pOm cc mm f po ps) σ H Q) : T g W po σ H fun x H1 => ∃ a dx fs, x = .ref a ∧ H1 a = some (.ins (g.cl cc) dx fs) ∧ fs.lookup mm = none ∧ Ta g W ps σ H1 fun vs H2 => R2 (x :: vs) H2 Q := by
  refine T.mono (At.bind (f := fun ε ds m => match ds with
    | [.loc n] => (match getO m n cc with
      | some fs => if fs.lookup mm = none then (evL ps ε m).bind fun ds m2 => f (.loc n :: ds) m2 else .bad
      | none => .bad)
    | _ => .bad) h fun ε ds m hl => match ds, hl with
    | [], _ => by
      unfold pOm
      congr 1
      funext d m1
      cases d <;> rfl) fun x H1 h1 => ?_
  obtain ⟨ε, ρ, m, d, e, s, dv, h⟩ := h1.one
  cases dv with
  | @loc n p hp =>
    simp only at h
    split at h
    · rename_i fs hc
      obtain ⟨dx, vs, ha, l, nC⟩ := s.obj hp hc
      split at h
      · rename_i hn
        exact ⟨p, dx, _, rfl, ha, lookup_zipN l hn, ε, ρ, m, e, s, Fin.bindL h fun ρ' H' vs ds m' u s' dl q => hs ρ' m' σ H' n p ds vs Q s' (u.ext _ _ hp) dl q⟩
      · exact False.elim h
    · exact False.elim h
  | _ => exact False.elim h
theorem te_om {pl : Sem Bool} (hK : X.K = g.K) (C : OCls g cc) (c : Mf X.prog X.w X.mg X.base g k (g.cl cc) mm f) (hr : Room j X.A) (ho : PE X o (T g W0 po)) (ha : PA X (e :: es) (Ta g W0 ps)) (hk : k ≤ j := by decide)
    (hst : starEach (e :: es) X.env = (false, eval e X.env) :: starEach es X.env := by rfl) (hpl : (backTo pos (starEach es X.env)).any (·.1) = false := by rfl)
    (ht : eval (.Call (.Attribute o mm apos) (e :: es) [] pos) X.env = (do
      let ov ← eval o X.env
      standAt apos.atName
      let (f, first) ← holding [ov] (getMethod ov mm pl)
      callWith pos f first (backTo pos (starEach (e :: es) X.env)) (backToKw pos (keywordEach [] X.env))) := by rfl) :
    PE X (.Call (.Attribute o mm apos) (e :: es) [] pos) (T g W0 (pOm cc mm f po ps)) := by
  obtain ⟨ad, hm, F⟩ := c.ex
  have cl := C.cls
  rw [← hK] at F hm cl
  exact PE.imp (pe_methR ho cl hm F (hr.mono hk) pass0 ha hst hpl ht) fun σ H Q h => t_om (R2 := fun vs H Q => spOf g f vs H Q E0) (fun ρ m σ H n p ds vs Q s hp l h => sp_args s (.cons (.loc hp) l) h rfl) h
theorem te_om0 {pl : Sem Bool} (hK : X.K = g.K) (C : OCls g cc) (c : Mf X.prog X.w X.mg X.base g k (g.cl cc) mm f) (hr : Room j X.A) (ho : PE X o (T g W0 po)) (hk : k ≤ j := by decide)
    (ht : eval (.Call (.Attribute o mm apos) [] [] pos) X.env = (do
      let ov ← eval o X.env
      standAt apos.atName
      let (f, first) ← holding [ov] (getMethod ov mm pl)
      callWith pos f first (backTo pos (starEach [] X.env)) (backToKw pos (keywordEach [] X.env))) := by rfl) :
    PE X (.Call (.Attribute o mm apos) [] [] pos) (T g W0 (pOm cc mm f po [])) := by
  obtain ⟨ad, hm, F⟩ := c.ex
  have cl := C.cls
  rw [← hK] at F hm cl
  refine ⟨fun pins s σ H Q I h => ?_⟩
  have h2 := t_om (R2 := fun vs H Q => spOf g f vs H Q E0) (fun ρ m σ H n p ds vs Q s hp l h => sp_args s (.cons (.loc hp) l) h rfl) h
  refine PySem.W.methodCall_KW (pl := pl) (thn (ho.run pins s σ H _ I h2) fun u s1 ⟨x, H1, I1, rx, a, dx, fs, ex, ea, l, q⟩ => ?_) ht
  subst ex
  obtain rfl : u = Value.ref a := rx
  refine getmeth_ok I1 ea cl hm l ?_
  obtain ⟨ε, ρ, m, e, s, z⟩ := q
  exact PySem.W.callWith_K0 (first := [.ref a]) I1.kIn hm.kp (wpAny_call (run_fnR (us := [.ref a]) (vs := [.ref a]) F (hr.mono hk) pass0 I1 (.cons rfl .nil) (z ρ H1 [] .refl s .nil)))
/-- a property of the class cc -/
structure Po (P : Program) (w : World) (mg : Str → Option Value) (base : Heap) (g : G) (k : Nat) (C : Addr) (m : Str) (f : Fn) : Prop where
  ex : ∃ (p ad : Addr) (fd : FuncData) (pn : List Str), PropOf g.K C m p ad ∧ FnOk P w g.K mg base CX0 k ad fd pn (spOf g f) ∧ Binds g.K fd pn []
theorem te_oprop (hK : X.K = g.K) (C : OCls g cc) (c : Po X.prog X.w X.mg X.base g k (g.cl cc) mm f) (hr : Room j X.A) (ho : PE X o (T g W0 po)) (hk : k + 1 ≤ j := by decide) (hab : attributeBase o mm X.env (eval o X.env) = eval o X.env := by rfl) :
    PE X (.Attribute o mm pos) (T g W0 (pOm cc mm f po [])) := by
  obtain ⟨p, ad, fd, pn, hp, F, b⟩ := c.ex
  have cl := C.cls
  rw [← hK] at F b hp cl
  refine PE.imp (pe_prop ho cl hp F (hr.mono hk) b .nil pass0 hab) fun σ H Q h => ?_
  refine T.mono (t_om (R2 := fun vs H Q => spOf g f (vs ++ []) H Q E0) (fun ρ m σ H n p ds vs Q s hp l h => by rw [List.append_nil]; exact sp_args s (.cons (.loc hp) l) h rfl) h) fun v H1 ⟨a, dx, fs, e1, h1, hn, z⟩ => ⟨a, dx, fs, e1, h1, ?_⟩
  obtain ⟨ε, ρ, m, e, s, z⟩ := z
  have z' := z ρ H1 [] .refl s .nil
  rw [e1] at z'
  exact z'
/-! ### an instance made -/
structure Mo (P : Program) (w : World) (mg : Str → Option Value) (base : Heap) (g : G) (k : Nat) (C : Addr) (f : Fn) : Prop where
  ex : ∃ ad : Addr, Mk g.K C ad ∧ FnR P w g.K mg base CX0 k ad (spOf g f)
def pNew (c : Str) (f : Fn) (ps : List Pg) : Pg := fun ε m => (evL ps ε m).bind fun ds m1 => (f (.loc m1.length :: ds) (m1 ++ [.ins c []])).bind fun d m2 => match d with
  | .non => .ok (.loc m1.length) m2
  | _ => .bad
theorem te_new (hK : X.K = g.K) (C : OCls g cc) (c : Mo X.prog X.w X.mg X.base g k (g.cl cc) f) (hm : X.mg x = some (.ref (g.cl cc))) (hr : Room j X.A) (ha : PA X (e :: es) (Ta g W0 ps)) (hk : k + 1 ≤ j := by decide) (hg : Gl X x := by rfl) (hdb : (x == ("__debug__" : Str)) = false := by decide)
    (he : starEach (e :: es) X.env = (false, eval e X.env) :: starEach es X.env := by rfl) (hpl : (backTo pos (starEach es X.env)).any (·.1) = false := by rfl) :
    PE X (.Call (.Name x p') (e :: es) [] pos) (T g W0 (pNew cc f ps)) := by
  obtain ⟨ad, M, F⟩ := c.ex
  rw [← hK] at M F
  refine ⟨fun pins s σ H Q I h => ?_⟩
  refine wpAny_Call_Name_kw (ld_glob I hg hm ?_ hdb)
  have h2 : Ta g W0 ps σ H fun vs H1 => ∀ x dx, H1 x = none → H1 dx = none → dx ≠ x → spOf g f (.ref x :: vs) (upd (upd H1 dx (.own x)) x (.ins (g.cl cc) dx [])) (fun v H2 => v = .non ∧ Q (.ref x) H2) E0 := by
    obtain ⟨ε, ρ, m, ds, e, s, l, h⟩ := h
    refine ⟨ε, ρ, m, e, s, Fin.bindL h fun ρ' H' vs ds m' u s' dl q x dx hx hdx ne => ?_⟩
    have hx1 : upd H' dx (.own x) x = none := by rw [upd_ne (Ne.symm ne)]; exact hx
    have hlen : ρ'.length = m'.length := s'.len
    have s2 : RelS g (ρ' ++ [x]) (m' ++ [.ins cc []]) (upd (upd H' dx (.own x)) x (.ins (g.cl cc) dx [])) := (s'.off hdx).push hx1 ⟨dx, [], upd_same, .nil, C.ne⟩
    have u2 : Up g ρ' H' (ρ' ++ [x]) (upd (upd H' dx (.own x)) x (.ins (g.cl cc) dx [])) := ((Up.new hdx).trans (Up.new hx1)).trans Up.app
    have hn : (ρ' ++ [x])[m'.length]? = some x := by rw [← hlen]; simp
    refine ⟨ρ' ++ [x], m' ++ [.ins cc []], .loc m'.length :: ds, s2, .cons (.loc hn) (dl.up u2), ?_⟩
    refine fin_any (Fin.bind (Fin.up u2 q) fun ρ3 H3 v d m3 u3 s3 dv q3 => ?_)
    cases dv with
    | non => exact ⟨rfl, q3 ρ3 H3 _ .refl s3 (.loc (u3.ext _ _ hn))⟩
    | _ => exact False.elim q3
  refine PySem.W.callWith_K (h₀ := X.base) I.ok.mod.kin M.kp (thn (ha.run pos pins s σ H _ I h2) fun us s1 ⟨vs, H1, I1, r, q⟩ => ⟨I1.kIn, ?_⟩) he hpl
  exact run_makeR M F (hr.mono hk) pass0 I1 r q
/-! ### room[i, j] -/
def gGetR (f : Fn) : Fn
  | [.room ls, d], m => f [.room ls, d] m
  | _, _ => .bad
theorem te_getR (hK : X.K = g.K) (c : Dn X.prog X.w X.mg X.base g k "__getitem__" f) (hr : Room j X.A) (ha : PE X a (T g W0 pa)) (hb : PE X b (T g W0 pb)) (hk : k + 1 ≤ j := by decide)
    (hsl : ∀ o i : Value, subscripted b true o i = runValue (.builtin "lifetime.subscript" ⟨[o, i], []⟩) := by intro _ _; rfl) : PE X (.Subscript a b pos) (T g W0 (p2 (gGetR f) pa pb)) := by
  obtain ⟨ad, h1, h2, h3, F⟩ := c.ex
  rw [← hK] at h1 h2 h3 F
  refine ⟨fun pins s σ H Q I h => ?_⟩
  have h0 := t_op2 (f := gGetR f) (r := fun x y H Q => ∃ p ls, x = .ref p ∧ RoomAt g H p ls ∧ spOf g f [.ref p, y] H Q E0) (fun ρ m σ H d1 d2 x y Q s v1 v2 h => by
    cases v1 with
    | @room p ls hrm => exact ⟨p, ls, rfl, hrm, ρ, m, [.room ls, d2], s, .cons (.room hrm) (.cons v2 .nil), fin_any h⟩
    | _ => exact False.elim h) h
  refine Subscript_ (binT ha hb I h0 fun v u s2 x y H2 I2 rx ry q => ?_)
  obtain ⟨p, ls, rfl, hrm, q⟩ := q
  cases (show v = Value.ref p from rx)
  obtain ⟨ox, od, J⟩ := room_inst I2 hrm
  obtain ⟨mm, hF⟩ := I2.fr
  exact PySem.W.sub_K hF I2.mod.kin J h1 h3 h2 (run_room (us := [.ref p, u]) (vs := [.ref p, y]) F ((hr.mono hk).in1) (env0_at I2 rfl) I2 (.cons rfl (.cons ry .nil)) q) (hsl _ _)
/-! ### TURNED[s], s not in TURNED -/
def gTurnIx : Fn
  | [.str z], m => if isTurnS z = true then .ok (.str (turnS z)) m else .bad
  | _, _ => .bad
theorem te_turnIx (hK : X.K = g.K) {d : Addr} (t : TurnD X.K X.w d) (hm : X.mg "TURNED" = some (.ref d)) (hb : PE X b (T g W pb)) (hg : Gl X "TURNED" := by rfl) (hs : NoSl b := by intro _ _; rfl) :
    PE X (.Subscript (.Name ("TURNED" : Str) p') b pos) (T g W (p1 gTurnIx pb)) := by
  obtain ⟨es, n, kd⟩ := t.kd
  refine ⟨fun pins s σ H Q I h => ?_⟩
  have h0 : T g W pb σ H fun y H2 => ∃ (z : Str) (u0 : Value) (v0 : V), V.ref d = .ref d ∧ y = .str z ∧ PySem.W.nsIn X.K d z = some (some u0) ∧ RelV v0 u0 ∧ Q v0 H2 :=
    t_op1 (f := gTurnIx) (r := fun y H2 Q => ∃ (z : Str) (u0 : Value) (v0 : V), V.ref d = .ref d ∧ y = .str z ∧ PySem.W.nsIn X.K d z = some (some u0) ∧ RelV v0 u0 ∧ Q v0 H2) (fun ρ m σ H dd y Q s dv h => by
      cases dv with
      | str z =>
        simp only [gTurnIx] at h
        split at h
        · rename_i hz
          obtain ⟨r, h1, h2, h3⟩ := t.get z
          rw [hz] at h2
          cases r with
          | none => cases h2
          | some u => exact ⟨z, u, _, rfl, rfl, h1, h3 u rfl, Fin.okc h s (.str _)⟩
        · exact h.elim
      | _ => exact False.elim h) h
  refine subD_of PySem.F.slot_dict_getitem.lookup hs (thn ((pe_glob (pos := p') hg hm (v := .ref d) rfl).run pins s σ H (fun x H1 => T g W pb σ H1 fun y H2 => ∃ (z : Str) (u0 : Value) (v0 : V), x = .ref d ∧ y = .str z ∧ PySem.W.nsIn X.K d z = some (some u0) ∧ RelV v0 u0 ∧ Q v0 H2) I h0) fun v s1 ⟨x, H1, I1, rx, q⟩ => thn (hb.run pins s1 σ H1 _ I1 q) fun u s2 ⟨y, H2, I2, ry, q2⟩ => ?_)
  obtain ⟨z, u0, v0, rfl, q3⟩ := q2
  cases (show v = Value.ref d from rx)
  exact ⟨kd_type kd I2, op_item_kd kd pins s2 σ H2 (.ref d) y (.ref d) u Q I2 rfl ry ⟨z, u0, v0, rfl, q3⟩⟩
def gNotTurn : Fn
  | [.str z], m => .ok (.bl (!isTurnS z)) m
  | _, _ => .bad
theorem te_notTurn (hK : X.K = g.K) {d : Addr} (t : TurnD X.K X.w d) (hm : X.mg "TURNED" = some (.ref d)) (ha : PE X a (T g W pa)) (hg : Gl X "TURNED" := by rfl) (hb : behindInMarks .NotIn (.Name ("TURNED" : Str) p') = false := by rfl) :
    PE X (.Compare a [.NotIn] [.Name ("TURNED" : Str) p'] pos) (T g W (p1 gNotTurn pa)) := by
  obtain ⟨es, n, kd⟩ := t.kd
  refine PE.imp (pe_cmpR (op_notIn_kd kd) ha (pe_glob hg hm (v := .ref d) rfl) hb) fun σ H Q h => ?_
  refine t_op1 (f := gNotTurn) (r := fun x H1 Q => tC (.ref d) σ H1 fun y H2 => ∃ (z : Str) (r : Option Value), x = .str z ∧ y = .ref d ∧ PySem.W.nsIn X.K d z = some r ∧ Q (.bl (!r.isSome)) H2) (fun ρ m σ H dd x Q s dv h => ?_) h
  cases dv with
  | str z =>
    obtain ⟨r, h1, h2, h3⟩ := t.get z
    exact ⟨z, r, rfl, rfl, h1, by rw [h2]; exact Fin.okc h s (.bl _)⟩
  | _ => exact False.elim h
theorem tt_notTurn (hK : X.K = g.K) {d : Addr} (t : TurnD X.K X.w d) (hm : X.mg "TURNED" = some (.ref d)) (ha : PE X a (T g W pa)) (hg : Gl X "TURNED" := by rfl) (hb : behindInMarks .NotIn (.Name ("TURNED" : Str) p') = false := by rfl) :
    PT X (.Compare a [.NotIn] [.Name ("TURNED" : Str) p'] pos) (Tt g W (p1 gNotTurn pa)) := by
  obtain ⟨es, n, kd⟩ := t.kd
  refine PT.imp (pt_cmpR (op_notIn_kd kd) ha (pe_glob hg hm (v := .ref d) rfl) hb) fun σ H Q h => ?_
  refine t_op1 (f := gNotTurn) (r := fun x H1 Q => tC (.ref d) σ H1 fun y H2 => ∃ (z : Str) (r : Option Value), x = .str z ∧ y = .ref d ∧ PySem.W.nsIn X.K d z = some r ∧ Q (.bl (!r.isSome)) H2) (fun ρ m σ H dd x Q s dv h => ?_) h
  cases dv with
  | str z =>
    obtain ⟨r, h1, h2, h3⟩ := t.get z
    exact ⟨z, r, rfl, rfl, h1, by rw [h2]; exact Fin.okc h s (.bl _)⟩
  | _ => exact False.elim h
/-! ### an empty dict -/
def gDict0 : Fn
  | [], m => .ok (.loc m.length) (m ++ [.dK []])
  | _, _ => .bad
theorem te_dict0 : PE X (.Dict [] [] pos) (T g W (pF gDict0 [])) :=
  PE.imp pe_dnewK fun σ H Q h p hp => by
    obtain ⟨ε, ρ, m, ds, e, s, l, h⟩ := h
    cases l
    have h : Fin g W ρ H σ (.ok (.loc m.length) (m ++ [.dK []])) Q := h
    exact h.new s hp ⟨[], upd_same, .nil⟩
/-! ### lists times a number -/
def gRep : Fn
  | [.loc n, .int k], m => match m[n]? with
    | some (.lst xs) => if -(2 ^ 62) ≤ k ∧ k < 2 ^ 62 ∧ xs.length * k.toNat ≤ lim then .ok (.loc m.length) (m ++ [.lst (List.replicate k.toNat xs).flatten]) else .bad
    | _ => .bad
  | _, _ => .bad
theorem DenL.rep {ds : List D} {vs : List V} (l : DenL g ρ H ds vs) : ∀ k : Nat, DenL g ρ H (List.replicate k ds).flatten (List.replicate k vs).flatten
  | 0 => .nil
  | k + 1 => by
    rw [List.replicate_succ, List.replicate_succ, List.flatten_cons, List.flatten_cons]
    exact l.append (DenL.rep l k)
theorem te_rep (hK : X.K = g.K) (ha : PE X a (T g W pa)) (hb : PE X b (T g W pb)) : PE X (.BinOp a .Mult b pos) (T g W (p2 gRep pa pb)) :=
  te_bin op_rep (fun ρ m σ H d1 d2 x y Q s v1 v2 h => by
    cases v1 with
    | @loc n p hp =>
      cases v2 with
      | int k =>
        simp only [gRep] at h
        split at h
        · rename_i xs hc
          obtain ⟨_, e1, _, vs, hv, l⟩ := s.cell (.loc hp) hc
          cases e1
          split at h
          · rename_i hz
            obtain ⟨z1, z2, z3⟩ := hz
            exact ⟨p, k, vs, rfl, rfl, hv, by omega, by omega, by rw [← l.length]; exact lim_le z3, fun q hq => h.newL s hq (l.rep _)⟩
          · exact h.elim
        · exact h.elim
      | _ => exact False.elim h
    | _ => exact False.elim h) ha hb
/-! ### xs.pop() -/
def gPop : Fn
  | [.loc n], m => match m[n]? with
    | some (.lst xs) => (match xs[xs.length - 1]? with
      | some d => .ok d (m.set n (.lst xs.dropLast))
      | none => .bad)
    | _ => .bad
  | _, _ => .bad
theorem DenL.dropL {ds : List D} {vs : List V} (l : DenL g ρ H ds vs) : DenL g ρ H ds.dropLast vs.dropLast := by
  rw [List.dropLast_eq_take, List.dropLast_eq_take, l.length]
  exact l.take _
theorem te_pop0 (hK : X.K = g.K) (ho : PE X o (T g W po)) (hbase : attributeBase o "pop" X.env (eval o X.env) = eval o X.env := by rfl) (hline : (apos.endLine == pos.line) = true := by rfl) :
    PE X (.Call (.Attribute o "pop" apos) [] [] pos) (T g W (p1 gPop po)) :=
  PE.imp (pe_bm0 PySem.F.plainAttrs_list PySem.F.slot_list_pop PySem.F.type_list_pop mt_pop ho hbase hline) fun σ H Q h =>
    t_op1 (f := gPop) (r := fun x H1 Q => tyV X.K "list" x H1 ∧ rPop x [] H1 Q) (fun ρ m σ H d x Q s dv h => by
      cases dv with
      | @loc n p hp =>
        simp only [gPop] at h
        split at h
        · rename_i xs hc
          obtain ⟨_, e1, _, vs, hv, l⟩ := s.cell (.loc hp) hc
          cases e1
          split at h
          · rename_i d hd
            obtain ⟨v, h1, h2⟩ := l.get hd
            have u : Up g ρ H ρ (upd H p (.lst vs.dropLast)) := Up.write hv trivial
            refine ⟨.inl ⟨rfl, vs, SqL.of hv⟩, p, vs, v, rfl, rfl, hv, by rw [← l.length]; exact h1, h.wr s hp hc ⟨_, upd_same, l.dropL.up u⟩ (h2.up u)⟩
          · exact h.elim
        · exact h.elim
      | _ => exact False.elim h) h
/-! ### xs.extend(ys) -/
def gExtend : Fn
  | [.loc n, .loc b], m => match m[n]? with
    | some (.lst xs) => (match m[b]? with
      | some (.lst ys) => if xs.length + ys.length ≤ lim then .ok .non (m.set n (.lst (xs ++ ys))) else .bad
      | _ => .bad)
    | _ => .bad
  | _, _ => .bad
theorem o_extend : OpM g W rExtend gExtend := by
  intro ρ m σ H d ds x vs Q s dv dl h
  cases dv with
  | @loc n p hp =>
    cases dl with
    | nil => exact False.elim h
    | cons d1 dl =>
      cases dl with
      | cons d2 dl => cases d1 <;> exact False.elim h
      | nil =>
        cases d1 with
        | @loc b q hq =>
          simp only [gExtend] at h
          split at h
          · rename_i xs hc
            obtain ⟨_, e1, _, ws, hv, l⟩ := s.cell (.loc hp) hc
            cases e1
            split at h
            · rename_i ys hb
              obtain ⟨_, e2, _, zs, hz, l2⟩ := s.cell (.loc hq) hb
              cases e2
              split at h
              · rename_i hl
                have u : ∀ o', Up g ρ H ρ (upd H p o') := fun o' => Up.write hv trivial
                exact ⟨p, q, ws, zs, rfl, rfl, hv, hz, by rw [← l.length, ← l2.length]; exact lim_le hl, h.wr s hp hc ⟨_, upd_same, (l.append l2).up (u _)⟩ .non⟩
              · exact h.elim
            · exact h.elim
          · exact h.elim
        | _ => exact False.elim h
  | _ => exact False.elim h
theorem te_extend (hK : X.K = g.K) (ho : PE X o (T g W po)) (ha : PA X [e] (Ta g W ps)) (hbase : attributeBase o "extend" X.env (eval o X.env) = eval o X.env := by rfl)
    (hfew : ((backTo pos (starEach [e] X.env)).all (fun x => !x.1) && (backToKw pos (keywordEach [] X.env)).all (fun x => x.1.isSome)
      && decide ([e].length + ([] : List Keyword).length + (if ([] : List Keyword).isEmpty then 0 else 1) < 30)) = true := by rfl)
    (hline : (apos.endLine == pos.line) = true := by rfl) (hst : starEach [e] X.env = (false, eval e X.env) :: starEach [] X.env := by rfl) : PE X (.Call (.Attribute o "extend" apos) [e] [] pos) (T g W (pLm gExtend po ps)) :=
  te_lm hK PySem.F.slot_list_extend PySem.F.type_list_extend mt_extend o_extend ho ha hbase hfew hline hst
end MT

/-! MTP: is None, all, x in a list of texts, the place of a pair in a list. -/
namespace MT
open PySem PySem.Spec PyProof.Rows L2 StX
variable {g : G} {ρ ρ' ρ1 ρ2 : List Addr} {H H' H1 H2 : Hp} {m m' : Store} {ε ε' : EnvD} {σ σ' : L2.St} {W : Wx} {r : Res D} {Q Q' : VK} {X : Cx} {a b c e o : Expr} {pa pb pc pe po : Pg} {pos apos : Pos} {D0 : Ends} {es : List Expr} {ps : List Pg} {f : Fn} {k j : Nat} {x mm cc : Str} {p' : Pos}
/-! ### is None -/
def isN : D → Bool
  | .non => true
  | _ => false
def gIsN : Fn
  | [d, .non], m => .ok (.bl (isN d)) m
  | _, _ => .bad
theorem o_isN : Op2 g W (fun x y H Q => y = .non ∧ Q (.bl (decide (x = .non))) H) gIsN := by
  intro ρ m σ H d e x y Q s ha hb h
  cases hb with
  | non =>
    have h : Fin g W ρ H σ (.ok (.bl (isN d)) m) Q := h
    refine ⟨rfl, ?_⟩
    have e : decide (x = V.non) = isN d := by
      cases ha <;> first | rfl | exact decide_eq_false (fun z => nomatch z)
    rw [e]
    exact Fin.okc h s (.bl _)
  | _ => cases ha <;> exact False.elim h
theorem te_isN (ha : PE X a (T g W pa)) (hb : PE X b (T g W pb)) (hm : behindInMarks .Is b = false := by rfl) : PE X (.Compare a [.Is] [b] pos) (T g W (p2 gIsN pa pb)) := te_cmp op_isN o_isN ha hb hm
theorem tt_isN (ha : PE X a (T g W pa)) (hb : PE X b (T g W pb)) (hm : behindInMarks .Is b = false := by rfl) : PT X (.Compare a [.Is] [b] pos) (Tt g W (p2 gIsN pa pb)) := tt_cmp op_isN o_isN ha hb hm
/-! ### all -/
def gAll : Fn
  | [d], m => match lsD m d with
    | some xs => match blsOf xs with
      | some bs => .ok (.bl (bs.all id)) m
      | none => .bad
    | _ => .bad
  | _, _ => .bad
theorem te_all (hK : X.K = g.K) (hc : X.calm = true) (hm : X.mg "all" = none) (ha : PA X [e] (Ta g W ps)) (hg : Gl X "all" := by rfl) (he : starEach [e] X.env = (false, eval e X.env) :: starEach [] X.env := by rfl) :
    PE X (.Call (.Name "all" p') [e] [] pos) (T g W (pF gAll ps)) :=
  te_b (cr_all hc) (fun ρ m σ H ds vs Q s l h => by
    cases l with
    | nil => exact False.elim h
    | cons d1 l =>
      cases l with
      | cons d2 l => cases d1 <;> exact False.elim h
      | nil =>
        simp only [gAll] at h
        split at h
        · rename_i xs hc
          obtain ⟨p, ws, rfl, r, l⟩ := s.seq (by assumption) hc
          split at h
          · rename_i bs hb
            have := bls_den l hb
            subst this
            exact ⟨p, bs, rfl, .inl r, Fin.okc h s (.bl _)⟩
          · exact h.elim
        · exact h.elim) hm boot_all ha hg he
/-! ### a text in a list of texts -/
def gInT (neg : Bool) : Fn
  | [.str z, d], m => match lsD m d with
    | some xs => match strsOf xs with
      | some zs => .ok (.bl (if neg then !(zs.any fun y => y == z) else zs.any fun y => y == z)) m
      | none => .bad
    | _ => .bad
  | _, _ => .bad
theorem flat_strs : ∀ zs : List Str, (zs.map V.str).all flatV = true
  | [] => rfl
  | z :: zs => by rw [List.map_cons, List.all_cons, flat_strs zs]; rfl
theorem in_strs (z : Str) : ∀ zs : List Str, inV (.str z) (zs.map V.str) = zs.any fun y => y == z
  | [] => rfl
  | y :: zs => by
    have := in_strs z zs
    unfold inV at this ⊢
    rw [List.map_cons, List.any_cons, List.any_cons, this]; rfl
theorem o_inT {neg : Bool} : Op2 g W (rIn g.K neg) (gInT neg) := by
  intro ρ m σ H d e x y Q s ha hb h
  cases ha with
  | str z =>
    simp only [gInT] at h
    split at h
    · rename_i xs hc
      obtain ⟨p, ws, rfl, r, l⟩ := s.seq hb hc
      split at h
      · rename_i zs hz
        have := strs_den l hz
        subst this
        refine ⟨p, _, rfl, .inl (.inl r), rfl, flat_strs zs, ?_⟩
        rw [in_strs]
        exact Fin.okc h s (.bl _)
      · exact h.elim
    · exact h.elim
  | _ => exact False.elim h
theorem te_inT (hK : X.K = g.K) (ha : PE X a (T g W pa)) (hb : PE X b (T g W pb)) (hm : behindInMarks .In b = false := by rfl) : PE X (.Compare a [.In] [b] pos) (T g W (p2 (gInT false) pa pb)) := te_cmp op_in_seq (by rw [hK]; exact o_inT) ha hb hm
theorem tt_inT (hK : X.K = g.K) (ha : PE X a (T g W pa)) (hb : PE X b (T g W pb)) (hm : behindInMarks .In b = false := by rfl) : PT X (.Compare a [.In] [b] pos) (Tt g W (p2 (gInT false) pa pb)) := tt_cmp op_in_seq (by rw [hK]; exact o_inT) ha hb hm
/-! ### the place of a pair of ints in a list -/
def prOf : D → Option (Int × Int)
  | .tup [.int i, .int j] => some (i, j)
  | _ => none
def prsOf : List D → Option (List (Int × Int))
  | [] => some []
  | d :: ds => match prOf d, prsOf ds with
    | some x, some xs => some (x :: xs)
    | _, _ => none
def firstAt (x : Int × Int) : List (Int × Int) → Option Nat
  | [] => none
  | y :: ys => if y = x then some 0 else (firstAt x ys).map (· + 1)
def gIndex : Fn
  | [.loc n, .tup [.int i, .int j]], m => match m[n]? with
    | some (.lst xs) => (match prsOf xs with
      | some ys => (match firstAt (i, j) ys with
        | some k => .ok (.int (k : Nat)) m
        | none => .bad)
      | none => .bad)
    | _ => .bad
  | _, _ => .bad
def pyPr (x : Int × Int) : PyData := .tuple [.int x.1, .int x.2]
theorem dp_pr {d : D} {v : V} {x : Int × Int} (dv : DenV g ρ H d v) (h : prOf d = some x) : Dp g.K H v (pyPr x) := by
  unfold prOf at h
  split at h
  · rename_i i j
    cases h
    cases dv with
    | tup hp l =>
      cases l with
      | cons d1 l =>
        cases d1
        cases l with
        | cons d2 l =>
          cases d2
          cases l
          exact .tup hp (.cons (.int _) (.cons (.int _) .nil))
  · cases h
theorem dp_prs : ∀ {ds : List D} {vs : List V} {xs : List (Int × Int)}, DenL g ρ H ds vs → prsOf ds = some xs → DpAll g.K H vs (xs.map pyPr)
  | [], _, _, .nil, h => by cases h; exact .nil
  | d :: ds, _, xs, .cons dv l, h => by
    unfold prsOf at h
    split at h
    · rename_i x ys h1 h2
      cases h
      exact .cons (dp_pr dv h1) (dp_prs l h2)
    · cases h
theorem pr_shaped (x : Int × Int) : SeqAt.shaped (pyPr x) = true := rfl
theorem prs_lay : ∀ xs : List (Int × Int), PyData.canLayAll0 (xs.map pyPr) = true
  | [] => rfl
  | x :: xs => by
    have := prs_lay xs
    simp only [List.map_cons, PyData.canLayAll0, this, Bool.and_true]; rfl
theorem prs_depth : ∀ xs : List (Int × Int), PyData.depthAll (xs.map pyPr) ≤ 3
  | [] => by simp [PyData.depthAll]
  | x :: xs => by
    have := prs_depth xs
    simp only [List.map_cons, PyData.depthAll]
    have h : (pyPr x).depth ≤ 3 := by simp [pyPr, PyData.depth, PyData.depthAll]
    omega
theorem prs_shaped (xs : List (Int × Int)) : SeqAt.shaped (.list (xs.map pyPr)) = true := by
  unfold SeqAt.shaped
  have h1 := prs_lay xs
  have h2 := prs_depth xs
  simp only [PyData.canLay0, PyData.depth, h1, Bool.true_and]
  exact decide_eq_true (by omega)
theorem pr_eqv (x y : Int × Int) : PyData.eqv (pyPr x) (pyPr y) = decide (x = y) := by
  obtain ⟨a, b⟩ := x
  obtain ⟨c, d⟩ := y
  by_cases h1 : a = c <;> by_cases h2 : b = d <;> simp [pyPr, PyData.eqv, PyData.eqvAll, h1, h2]
theorem first_spec (x : Int × Int) : ∀ {ys : List (Int × Int)} {k : Nat}, firstAt x ys = some k → ys[k]? = some x ∧ ∀ (j : Nat) (y : Int × Int), j < k → ys[j]? = some y → y ≠ x
  | y :: ys, k, h => by
    unfold firstAt at h
    split at h
    · rename_i e
      cases h
      exact ⟨by rw [e]; rfl, fun j _ hj => absurd hj (Nat.not_lt_zero _)⟩
    · rename_i ne
      rw [Option.map_eq_some_iff] at h
      obtain ⟨n, hn, rfl⟩ := h
      obtain ⟨h1, h2⟩ := first_spec x hn
      refine ⟨h1, fun j z hj hz => ?_⟩
      cases j with
      | zero => cases hz; exact ne
      | succ j => exact h2 j z (by omega) hz
theorem o_index : OpM g W (rIndexD g.K) gIndex := by
  intro ρ m σ H d ds x vs Q s dv dl h
  cases dv with
  | @loc n p hp =>
    cases dl with
    | nil => exact False.elim h
    | @cons d1 v1 ds vs dv1 dl =>
      unfold gIndex at h
      split at h
      · rename_i heq
        cases heq
        cases dl
        split at h
        · rename_i xs hc
          obtain ⟨_, e1, _, ws, hv, l⟩ := s.cell (.loc hp) hc
          cases e1
          split at h
          · rename_i ys hy
            split at h
            · rename_i k hk
              obtain ⟨f1, f2⟩ := first_spec _ hk
              refine ⟨p, v1, pyPr _, ys.map pyPr, k, _, rfl, rfl, .lst (SqL.of hv) (dp_prs l hy), dp_pr dv1 rfl, prs_shaped ys, pr_shaped _, by rw [List.getElem?_map, f1]; rfl, by rw [pr_eqv]; exact decide_eq_true rfl, fun j z hj hz => ?_, Fin.okc h s (.int _)⟩
              rw [List.getElem?_map, Option.map_eq_some_iff] at hz
              obtain ⟨w, hw, rfl⟩ := hz
              rw [pr_eqv]
              exact decide_eq_false (f2 j w hj hw)
            · exact h.elim
          · exact h.elim
        · exact h.elim
      · exact h.elim
  | _ => exact False.elim h
theorem te_index (hK : X.K = g.K) (hr : Room j X.A) (ho : PE X o (T g W po)) (ha : PA X [e] (Ta g W ps)) (hbase : attributeBase o "index" X.env (eval o X.env) = eval o X.env := by rfl)
    (hfew : ((backTo pos (starEach [e] X.env)).all (fun x => !x.1) && (backToKw pos (keywordEach [] X.env)).all (fun x => x.1.isSome)
      && decide ([e].length + ([] : List Keyword).length + (if ([] : List Keyword).isEmpty then 0 else 1) < 30)) = true := by rfl)
    (hline : (apos.endLine == pos.line) = true := by rfl) (hst : starEach [e] X.env = (false, eval e X.env) :: starEach [] X.env := by rfl) : PE X (.Call (.Attribute o "index" apos) [e] [] pos) (T g W (pLm gIndex po ps)) :=
  te_lm hK PySem.F.slot_list_index PySem.F.type_list_index (mt_indexD (by have := hr.un; omega)) (by rw [hK]; exact o_index) ho ha hbase hfew hline hst
/-- a body that nothing is promised of -/
theorem pss_bad {ss : List Stmt} : L2.PSs X ss (Ts g W sBad) := ⟨by
  intro pins s D σ H I h
  obtain ⟨ε, ρ, m, e, s0, h⟩ := h
  exact h.elim⟩
end MT

/-! MTQ: dicts whose keys are ints and texts: read, asked, written, their length. -/
namespace MT
open PySem PySem.Spec PyProof.Rows L2 StX
variable {g : G} {ρ ρ' ρ1 ρ2 : List Addr} {H H' H1 H2 : Hp} {m m' : Store} {ε ε' : EnvD} {σ σ' : L2.St} {W : Wx} {r : Res D} {Q Q' : VK} {X : Cx} {a b c e o i : Expr} {pa pb pc pe po pi : Pg} {pos apos : Pos} {D0 : Ends} {es : List Expr} {ps : List Pg} {f : Fn} {k j : Nat}
section
variable {κ : Type} [DecidableEq κ]
def valD (kvs : List (κ × D)) (k : κ) : Option D := (kvs.find? fun kv => decide (kv.1 = k)).map (·.2)
def putKD (kvs : List (κ × D)) (k : κ) (d : D) : List (κ × D) :=
  if (kvs.any fun kv => decide (kv.1 = k)) = true then kvs.map (fun kv => if kv.1 = k then (kv.1, d) else kv) else kvs ++ [(k, d)]
theorem valD_nil {k : κ} : valD ([] : List (κ × D)) k = none := rfl
theorem valD_pos {p : κ × D} {r : List (κ × D)} {k : κ} (e : p.1 = k) : valD (p :: r) k = some p.2 := by simp [valD, List.find?_cons, e]
theorem valD_neg {p : κ × D} {r : List (κ × D)} {k : κ} (e : ¬ p.1 = k) : valD (p :: r) k = valD r k := by simp [valD, List.find?_cons, e]
theorem val_zip {k : κ} : ∀ {kvs : List (κ × D)} {vs : List V}, DenL g ρ H (kvs.map (·.2)) vs →
    (∀ d, valD kvs k = some d → ∃ v, valV ((kvs.map (·.1)).zip vs) k = some v ∧ DenV g ρ H d v) ∧ (valD kvs k = none → valV ((kvs.map (·.1)).zip vs) k = none)
  | [], _, _ => ⟨fun d h => (nomatch h), fun _ => rfl⟩
  | p :: kvs, _, .cons (v := v) (vs := vs) dv l => by
    have ih := val_zip (k := k) (kvs := kvs) l
    simp only [List.map_cons, List.zip_cons_cons]
    by_cases e : p.1 = k
    · rw [valD_pos e, valV_pos (p := (p.1, v)) e]
      exact ⟨fun d h => ⟨v, rfl, (by cases h; exact dv)⟩, fun h => (nomatch h)⟩
    · rw [valD_neg e, valV_neg (p := (p.1, v)) e]
      exact ih
theorem any_zip {k : κ} : ∀ {kvs : List (κ × D)} {vs : List V}, DenL g ρ H (kvs.map (·.2)) vs → (((kvs.map (·.1)).zip vs).any fun kv => decide (kv.1 = k)) = kvs.any fun kv => decide (kv.1 = k)
  | [], _, _ => rfl
  | p :: kvs, _, .cons (v := v) (vs := vs) dv l => by
    simp only [List.map_cons, List.zip_cons_cons, List.any_cons]
    rw [any_zip l]
theorem map_zip {k : κ} {d : D} {v : V} (dv : DenV g ρ H d v) : ∀ {kvs : List (κ × D)} {vs : List V}, DenL g ρ H (kvs.map (·.2)) vs →
    ∃ ws, (((kvs.map (·.1)).zip vs).map fun kv => if kv.1 = k then (kv.1, v) else kv) = ((kvs.map fun kv => if kv.1 = k then (kv.1, d) else kv).map (·.1)).zip ws ∧ DenL g ρ H ((kvs.map fun kv => if kv.1 = k then (kv.1, d) else kv).map (·.2)) ws
  | [], _, .nil => ⟨[], rfl, .nil⟩
  | p :: kvs, _, .cons (v := u) (vs := vs) du l => by
    obtain ⟨ws, e1, l1⟩ := map_zip (k := k) dv l
    simp only [List.map_cons, List.zip_cons_cons]
    by_cases e : p.1 = k
    · refine ⟨v :: ws, ?_, ?_⟩
      · simp only [if_pos e, e1, List.zip_cons_cons]
      · simp only [if_pos e]; exact .cons dv l1
    · refine ⟨u :: ws, ?_, ?_⟩
      · simp only [if_neg e, e1, List.zip_cons_cons]
      · simp only [if_neg e]; exact .cons du l1
theorem put_zipK {k : κ} {d : D} {v : V} (dv : DenV g ρ H d v) {kvs : List (κ × D)} {vs : List V} (l : DenL g ρ H (kvs.map (·.2)) vs) :
    ∃ ws, putK ((kvs.map (·.1)).zip vs) k v = ((putKD kvs k d).map (·.1)).zip ws ∧ DenL g ρ H ((putKD kvs k d).map (·.2)) ws := by
  unfold putK putKD
  rw [any_zip l]
  split
  · exact map_zip dv l
  · refine ⟨vs ++ [v], ?_, ?_⟩
    · rw [List.map_append, List.zip_append (by have := l.length; simpa using this)]; rfl
    · rw [List.map_append]; exact l.append (.cons dv .nil)
theorem zipK_len {kvs : List (κ × D)} {vs : List V} (l : DenL g ρ H (kvs.map (·.2)) vs) : ((kvs.map (·.1)).zip vs).length = kvs.length := by
  have := l.length
  rw [List.length_map] at this
  rw [List.length_zip, List.length_map, ← this, Nat.min_self]
end
def keyD : D → Option Key
  | .int i => some (.inl i)
  | .str z => some (.inr z)
  | _ => none
theorem keyD_v {d : D} {v : V} {k : Key} (dv : DenV g ρ H d v) (h : keyD d = some k) : v = kV k := by
  cases dv <;> cases h <;> rfl
theorem RelS.dk (s : RelS g ρ m H) {n : Nat} {p : Addr} {kvs : List (Key × D)} (hp : ρ[n]? = some p) (h : m[n]? = some (.dK kvs)) : ∃ vs, H p = some (.dK ((kvs.map (·.1)).zip vs)) ∧ DenL g ρ H (kvs.map (·.2)) vs := s.at_ n p _ hp h
/-! ### d[k] -/
def gDGet : Fn
  | [.loc n, d], m => match m[n]?, keyD d with
    | some (.dK kvs), some k => (match valD kvs k with | some x => .ok x m | none => .bad)
    | _, _ => .bad
  | _, _ => .bad
theorem te_dget (hr : Room j X.A) (ho : PE X o (T g W po)) (hi : PE X i (T g W pi)) (hk : 1 ≤ j := by decide) (hs : NoSl i := by intro _ _; rfl) : PE X (.Subscript o i pos) (T g W (p2 gDGet po pi)) :=
  PE.imp (pe_dget (by have := hr.un; omega) ho hi hs) fun σ H Q h => t_op2 (f := gDGet) (r := fun x y H2 Q => ∃ a v, x = .ref a ∧ DGet H2 a y (some v) ∧ Q v H2) (fun ρ m σ H d1 d2 x y Q s v1 v2 h => by
    cases v1 with
    | @loc n p hp =>
      simp only [gDGet] at h
      split at h
      · rename_i kvs k hc hk
        split at h
        · rename_i z hz
          obtain ⟨vs, hv, l⟩ := s.dk hp hc
          obtain ⟨v, e1, dv⟩ := (val_zip (k := k) l).1 z hz
          refine ⟨p, v, rfl, ?_, Fin.okc h s dv⟩
          rw [keyD_v v2 hk, ← e1]
          exact DGet.k hv
        · exact h.elim
      · exact h.elim
    | _ => exact False.elim h) h
/-! ### k in d -/
def gDIn (neg : Bool) : Fn
  | [d, .loc n], m => match m[n]?, keyD d with
    | some (.dK kvs), some k => .ok (.bl (if neg = true then !(valD kvs k).isSome else (valD kvs k).isSome)) m
    | _, _ => .bad
  | _, _ => .bad
theorem val_isSome {k : Key} {kvs : List (Key × D)} {vs : List V} (l : DenL g ρ H (kvs.map (·.2)) vs) : (valV ((kvs.map (·.1)).zip vs) k).isSome = (valD kvs k).isSome := by
  have h := val_zip (k := k) l
  cases e : valD kvs k with
  | none => rw [h.2 e]; rfl
  | some d => obtain ⟨v, e1, _⟩ := h.1 d e; rw [e1]; rfl
theorem o_din (neg : Bool) : Op2 g W (fun y x H2 Q => ∃ a o, x = .ref a ∧ DGet H2 a y o ∧ Q (.bl (if neg = true then !o.isSome else o.isSome)) H2) (gDIn neg) := fun ρ m σ H d1 d2 y x Q s v1 v2 h => by
  cases v2 with
  | @loc n p hp =>
    simp only [gDIn] at h
    split at h
    · rename_i kvs k hc hk
      obtain ⟨vs, hv, l⟩ := s.dk hp hc
      refine ⟨p, valV ((kvs.map (·.1)).zip vs) k, rfl, ?_, ?_⟩
      · rw [keyD_v v1 hk]; exact DGet.k hv
      · rw [val_isSome l]; exact Fin.okc h s (.bl _)
    · exact h.elim
  | _ => cases v1 <;> exact False.elim h
theorem te_din (hr : Room j X.A) (ha : PE X a (T g W pa)) (hb : PE X b (T g W pb)) (hk : 1 ≤ j := by decide) (hm : behindInMarks .In b = false := by rfl) : PE X (.Compare a [.In] [b] pos) (T g W (p2 (gDIn false) pa pb)) :=
  PE.imp (pe_cmp (pc_din (by have := hr.un; omega) ha hb) hm) fun σ H Q h => t_op2 (o_din false) h
theorem tt_din (hr : Room j X.A) (ha : PE X a (T g W pa)) (hb : PE X b (T g W pb)) (hk : 1 ≤ j := by decide) (hm : behindInMarks .In b = false := by rfl) : PT X (.Compare a [.In] [b] pos) (Tt g W (p2 (gDIn false) pa pb)) :=
  PT.imp (pt_cmp (pc_din (by have := hr.un; omega) ha hb) hm) fun σ H Q h => t_op2 (o_din false) h
theorem te_dnotin (hr : Room j X.A) (ha : PE X a (T g W pa)) (hb : PE X b (T g W pb)) (hk : 1 ≤ j := by decide) (hm : behindInMarks .NotIn b = false := by rfl) : PE X (.Compare a [.NotIn] [b] pos) (T g W (p2 (gDIn true) pa pb)) :=
  PE.imp (pe_cmp (pc_dnotin (by have := hr.un; omega) ha hb) hm) fun σ H Q h => t_op2 (o_din true) h
theorem tt_dnotin (hr : Room j X.A) (ha : PE X a (T g W pa)) (hb : PE X b (T g W pb)) (hk : 1 ≤ j := by decide) (hm : behindInMarks .NotIn b = false := by rfl) : PT X (.Compare a [.NotIn] [b] pos) (Tt g W (p2 (gDIn true) pa pb)) :=
  PT.imp (pt_cmp (pc_dnotin (by have := hr.un; omega) ha hb) hm) fun σ H Q h => t_op2 (o_din true) h
/-! ### d[k] = e -/
def setDK (o i d : D) (m : Store) : Option Store := match o with
  | .loc n => match m[n]?, keyD i with
    | some (.dK kvs), some k => if kvs.length < lim then some (m.set n (.dK (putKD kvs k d))) else none
    | _, _ => none
  | _ => none
def sDPutD (po pi pe : Pg) : PgS := fun ε m => (pe ε m).toS ε fun d m1 => (po ε m1).toS ε fun o m2 => (pi ε m2).toS ε fun i m3 => match setDK o i d m3 with
  | some m4 => .nxt ε m4
  | none => .bad
theorem ts_dput {pos' : Pos} (hr : Room j X.A) (ho : PE X o (T g W po)) (hi : PE X i (T g W pi)) (he : PE X e (T g W pe)) (hk : 1 ≤ j := by decide) (hs : swapsWith e (some (.Subscript o i pos')) pos.line X.env = pure false := by rfl) :
    L2.PS X (.Assign [.Subscript o i pos'] e pos) (Ts g W (sDPutD po pi pe)) := by
  refine PS.imp (ps_dput (by have := hr.un; omega) ho hi he hs) fun D σ H h => ?_
  refine T.mono (ts_ex (k := fun ε d m1 => (po ε m1).toS ε fun o m2 => (pi ε m2).toS ε fun i m3 => match setDK o i d m3 with
    | some m4 => .nxt ε m4
    | none => .bad) h) fun v H1 ⟨ε, ρ, m, d, e, s, dv, q⟩ => ?_
  refine ⟨ε, ρ, m, [], e, s, .nil, FinS.ex q e fun ρ2 H2 v2 d2 m2 u2 s2 dv2 q2 => ?_⟩
  refine ⟨ε, ρ2, m2, [], e.up u2, s2, .nil, FinS.ex q2 (e.up u2) fun ρ3 H3 v3 d3 m3 u3 s3 dv3 q3 => ?_⟩
  unfold setDK at q3
  cases dv2 with
  | @loc n p hp =>
    simp only at q3
    split at q3
    · rename_i m4 hm
      split at hm
      · rename_i kvs k hc hkey
        split at hm
        · rename_i hl
          cases hm
          have hp3 := u3.ext _ _ hp
          obtain ⟨vs, hv, l⟩ := s3.dk hp3 hc
          obtain ⟨ws, e1, l1⟩ := put_zipK (k := k) (dv.up (u2.trans u3)) l
          have uw : Up g ρ3 H3 ρ3 (upd H3 p (.dK (putK ((kvs.map (·.1)).zip vs) k v))) := Up.write hv trivial
          refine ⟨p, _, rfl, ?_, q3 ρ3 _ σ uw (s3.set (c' := .dK (putKD kvs k d)) hp3 hc ⟨ws, ?_, l1.up uw⟩) ((e.up (u2.trans u3)).up uw)⟩
          · rw [keyD_v dv3 hkey]
            exact DPut.k hv (by rw [zipK_len l]; exact Nat.lt_of_lt_of_le hl (by unfold lim sizeLine; decide))
          · rw [upd_same, e1]
        · cases hm
      · cases hm
    · exact q3.elim
  | _ => exact False.elim q3
end MT

/-! MTX: exceptions: raise, defs that may raise, their calls; calls of defs that do not raise where exceptions may pass. -/
namespace MT
open PySem PySem.Spec PyProof.Rows L2 StX
variable {g : G} {ρ ρ' ρ1 ρ2 : List Addr} {H H' H1 H2 : Hp} {m m' : Store} {ε ε' : EnvD} {σ σ' : L2.St} {W : Wx} {r : Res D} {Q Q' : VK} {X : Cx} {a b c e o i : Expr} {pa pb pc pe po pi : Pg} {pos apos : Pos} {D0 : Ends} {es : List Expr} {ps : List Pg} {f : Fn} {k j : Nat} {x mm cc : Str} {p' : Pos} {E : XK}
/-- a wish of the kit's, read for the little language -/
def WofE (g : G) (E : XK) : Wx := fun x ρ H _ => match x.fs with
  | [] => E (.ref (g.cl x.cls)) none H
  | fs => ∀ (d : Addr) (vs : List V), H d = some (.xd ((fs.map (·.1)).zip vs)) → DenL g ρ H (fs.map (·.2)) vs → E (.ref (g.cl x.cls)) (some d) H
theorem finE_any (h : Fin g (WofE g E) ρ H σ r Q) : Fin g (WofE g E) ρ H σ' r Q := by
  cases r with
  | ok d m => exact h
  | exc x m => exact h
  | bad => exact h
abbrev TakesE (X : Cx) (E : XK) : Prop := Takes X (fun cls d _ H => E cls d H)
theorem passE (tk : TakesE X E) : Passes (L2.CX X.prog X.w) X E := passes_call tk fun _ _ _ _ h => h
/-! ### defs that may raise -/
def spOfX (g : G) (f : Fn) : Sp := fun vs H Q E => ∃ ρ m ds, RelS g ρ m H ∧ DenL g ρ H ds vs ∧ Fin g (WofE g E) ρ H [] (f ds m) Q
theorem run_readsX {vs : List V} {ds : List D} {n N : Nat} {p : PgS} (s : RelS g ρ m H) (l : DenL g ρ H ds vs) (h : Fin g (WofE g E) ρ H [] (runD n N p ds m) Q) :
    Ts g (WofE g E) p { nx := fun _ H' => Q .non H', rt := Q } (vs.map some ++ List.replicate (N - vs.length) none) H := by
  unfold runD at h
  split at h
  · rename_i hl
    have e := l.start (N - vs.length)
    refine ⟨ds.map some ++ List.replicate (N - vs.length) none, ρ, m, e, s, ?_⟩
    rw [← l.length, hl]
    cases hp : p (ds.map some ++ List.replicate (N - n) none) m with
    | nxt ε m' => rw [hp] at h; exact fun ρ' H' σ' u s' e' => h ρ' H' .non u s' .non
    | ret d m' => rw [hp] at h; exact fun ρ' H' v u s' dv => h ρ' H' v u s' dv
    | exc x ε m' => rw [hp] at h; exact fun ρ' H' σ' u s' _ => h ρ' H' u s'
    | bad => rw [hp] at h; exact h
  · exact h.elim
theorem fnokX {P : Program} {w : World} {mg : Str → Option Value} {base : Heap} {qual : Str} {st : Stmt} {ad : Addr} {fd : FuncData} {N pn : List Str} {p : PgS} (F : Fun g.K x qual st ad fd) (S : FnScope N pn (defScope st))
    (hb : ∀ (cdv : Value) (A : Around) (outer : List Env) (s : Shared) (H : Hp) (E : XK), Room k (A.deeper (envOfC qual (defScope st) s.heap.objs.size ad cdv)) → TakesE (cxOf (L2.CX P w) P w g.K mg base N qual (defScope st) ad cdv A outer s H E) E →
      L2.PSs (cxOf (L2.CX P w) P w g.K mg base N qual (defScope st) ad cdv A outer s H E) (defBody st) (Ts g (WofE g E) p)) : FnOk P w g.K mg base (L2.CX P w) (k + 1) ad fd pn (spOfX g (runD pn.length N.length p)) := by
  refine F.okX S (fun vs H Q E h => ?_) (fun cdv A outer s H vs Q E hr h => ⟨_, hb cdv A outer s H E hr (takes_of rfl rfl rfl rfl), ?_⟩)
  · obtain ⟨ρ, m, ds, s, l, h⟩ := h
    unfold runD at h
    split at h
    · rename_i hl; rw [← l.length, hl]
    · exact h.elim
  · obtain ⟨ρ, m, ds, s, l, h⟩ := h
    exact run_readsX s l h
theorem fnrX {P : Program} {w : World} {mg : Str → Option Value} {base : Heap} {ad : Addr} {fd : FuncData} {pn : List Str} (F : FnOk P w g.K mg base (L2.CX P w) k ad fd pn (spOfX g f)) (b : Binds g.K fd pn []) : FnR P w g.K mg base (L2.CX P w) k ad (spOfX g f) :=
  FnR.imp (F.raw b .nil) fun vs H Q E h => by rw [List.append_nil]; exact h
theorem fnstarX {P : Program} {w : World} {mg : Str → Option Value} {base : Heap} {qual pv : Str} {st : Stmt} {ad : Addr} {fd : FuncData} {N pn : List Str} {p : PgS} (F : Fun g.K x qual st ad fd) (S : FnScope N (pn ++ [pv]) (defScope st)) (hbd : BindV x qual st pn pv)
    (hb : ∀ (cdv : Value) (A : Around) (outer : List Env) (s : Shared) (H : Hp) (E : XK), Room k (A.deeper (envOfC qual (defScope st) s.heap.objs.size ad cdv)) → TakesE (cxOf (L2.CX P w) P w g.K mg base N qual (defScope st) ad cdv A outer s H E) E →
      L2.PSs (cxOf (L2.CX P w) P w g.K mg base N qual (defScope st) ad cdv A outer s H E) (defBody st) (Ts g (WofE g E) p)) : FnR P w g.K mg base (L2.CX P w) (k + 1) ad (spOfX g (runV pn.length N.length p)) := by
  obtain ⟨oc, od, kV, doc, pm, an, cdv, ct, osl, rfl, lk, hcd⟩ := F.ex
  refine FnR.imp (fn_star (sp := fun vs H Q E => ∃ ρ m ds, RelS g ρ m H ∧ DenL g ρ H ds vs ∧ Fin g (WofE g E) ρ H [] (runD (pn.length + 1) N.length p ds m) Q) lk hcd S cxUp (hbd kV doc pm an cdv ct) fun A outer s H vs Q E hr h => ?_) fun vs H Q E h => ?_
  · obtain ⟨ρ, m, ds, s', l, h⟩ := h
    exact ⟨_, hb cdv A outer s H E hr (takes_of rfl rfl rfl rfl), run_readsX s' l h⟩
  · obtain ⟨ρ, m, ds, s, l, h⟩ := h
    unfold runV at h
    split at h
    · rename_i hl
      refine ⟨vs.take pn.length, vs.drop pn.length, (List.take_append_drop _ _).symm, ?_, ?_, fun q hq => ?_⟩
      · rw [List.length_take, ← l.length]; omega
      · rw [List.length_drop, ← l.length]; exact lim_le hl.2
      · exact ⟨ρ, m, _, s.off hq, ((l.take _).up (Up.new hq)).append (.cons (.tup (SqT.of upd_same) ((l.drop _).up (Up.new hq))) .nil), Fin.up (Up.new hq) h⟩
    · exact h.elim
/-- a def of the module that may raise, by its name -/
structure CfX (P : Program) (w : World) (mg : Str → Option Value) (base : Heap) (g : G) (k : Nat) (x : Str) (f : Fn) : Prop where
  ex : ∃ ad : Addr, FnR P w g.K mg base (L2.CX P w) k ad (spOfX g f) ∧ mg x = some (.ref ad) ∧ PySem.W.keepIn g.K (.ref ad) = true
theorem spX_args {ds : List D} {vs : List V} (s : RelS g ρ m H) (l : DenL g ρ H ds vs) (h : Fin g (WofE g E) ρ H σ (f ds m) Q) : spOfX g f vs H Q E := ⟨ρ, m, ds, s, l, finE_any h⟩
theorem te_callX (tk : TakesE X E) (hK : X.K = g.K) (c : CfX X.prog X.w X.mg X.base g k x f) (hr : Room j X.A) (ha : PA X (e :: es) (Ta g (WofE g E) ps)) (hk : k ≤ j := by decide) (hg : Gl X x := by rfl)
    (hdb : (x == ("__debug__" : Str)) = false := by decide) (he : starEach (e :: es) X.env = (false, eval e X.env) :: starEach es X.env := by rfl) (hpl : (backTo pos (starEach es X.env)).any (·.1) = false := by rfl) :
    PE X (.Call (.Name x p') (e :: es) [] pos) (T g (WofE g E) (pF f ps)) := by
  obtain ⟨ad, F, hm, kp⟩ := c.ex
  rw [← hK] at F kp
  refine ⟨fun pins s σ H Q I h => ?_⟩
  refine wpAny_Call_Name_kw (ld_glob I hg hm ?_ hdb)
  have h2 := t_fn (r := fun vs H Q => spOfX g f vs H Q E) (fun ρ m σ H ds vs Q s l h => spX_args s l h) h
  refine PySem.W.callWith_K (h₀ := X.base) I.ok.mod.kin kp (thn (ha.run pos pins s σ H _ I h2) fun us s1 ⟨vs, H1, I1, r, q⟩ => ⟨I1.kIn, ?_⟩) he hpl
  exact wpAny_call (run_fnR F (hr.mono hk) (passE tk) I1 r q)
theorem te_callSX (tk : TakesE X E) {pl : PgL} (hK : X.K = g.K) (c : CfX X.prog X.w X.mg X.base g k x f) (hr : Room j X.A) (ha : PA X (e :: es) (TaL g (WofE g E) pl)) (hk : k ≤ j := by decide) (hg : Gl X x := by rfl)
    (hdb : (x == ("__debug__" : Str)) = false := by decide) (he : starEach (e :: es) X.env = (false, eval e X.env) :: starEach es X.env := by rfl) (hst : (backTo pos (starEach es X.env)).any (·.1) = true := by rfl) :
    PE X (.Call (.Name x p') (e :: es) [] pos) (T g (WofE g E) (pFL f pl)) := by
  obtain ⟨ad, F, hm, kp⟩ := c.ex
  rw [← hK] at F kp
  exact PE.imp (pe_callS2 F (hr.mono hk) kp hg hm (passE tk) ha hdb he hst) fun σ H Q h => t_fl (r := fun vs H Q => spOfX g f vs H Q E) (fun ρ m σ H ds vs Q s l h => spX_args s l h) h
/-! ### calls of defs that do not raise -/
def nx (f : Fn) : Fn := fun ds m => match f ds m with
  | .ok d m' => .ok d m'
  | _ => .bad
theorem nx_e {ds : List D} {d : D} (h : f ds m = .ok d m') : nx f ds m = .ok d m' := by unfold nx; rw [h]
theorem spN_args {ds : List D} {vs : List V} (s : RelS g ρ m H) (l : DenL g ρ H ds vs) (h : Fin g W ρ H σ (nx f ds m) Q) {E : XK} : spOf g f vs H Q E := by
  refine ⟨ρ, m, ds, s, l, ?_⟩
  unfold nx at h
  cases q : f ds m with
  | ok d m' => rw [q] at h; exact h
  | exc x m' => rw [q] at h; exact h.elim
  | bad => rw [q] at h; exact h.elim
theorem te_callN (hK : X.K = g.K) (c : Cf X.prog X.w X.mg X.base g k x f) (hr : Room j X.A) (ha : PA X (e :: es) (Ta g W ps)) (hk : k ≤ j := by decide) (hg : Gl X x := by rfl)
    (hdb : (x == ("__debug__" : Str)) = false := by decide) (he : starEach (e :: es) X.env = (false, eval e X.env) :: starEach es X.env := by rfl) (hpl : (backTo pos (starEach es X.env)).any (·.1) = false := by rfl) :
    PE X (.Call (.Name x p') (e :: es) [] pos) (T g W (pF (nx f) ps)) := by
  obtain ⟨ad, F, hm, kp⟩ := c.ex
  rw [← hK] at F kp
  refine ⟨fun pins s σ H Q I h => ?_⟩
  refine wpAny_Call_Name_kw (ld_glob I hg hm ?_ hdb)
  have h2 := t_fn (r := fun vs H Q => spOf g f vs H Q E0) (fun ρ m σ H ds vs Q s l h => spN_args s l h) h
  refine PySem.W.callWith_K (h₀ := X.base) I.ok.mod.kin kp (thn (ha.run pos pins s σ H _ I h2) fun us s1 ⟨vs, H1, I1, r, q⟩ => ⟨I1.kIn, ?_⟩) he hpl
  exact wpAny_call (run_fnR F (hr.mono hk) pass0 I1 r q)
theorem te_rmN {pl : Sem Bool} (hK : X.K = g.K) (R : RoomC g) (c : Mf X.prog X.w X.mg X.base g k g.CR mm f) (hr : Room j X.A) (ho : PE X o (T g W po)) (ha : PA X (e :: es) (Ta g W ps)) (hk : k ≤ j := by decide) (n1 : ¬ mm = "lines" := by decide +kernel) (n2 : ¬ mm = "ports" := by decide +kernel)
    (hst : starEach (e :: es) X.env = (false, eval e X.env) :: starEach es X.env := by rfl) (hpl : (backTo pos (starEach es X.env)).any (·.1) = false := by rfl)
    (ht : eval (.Call (.Attribute o mm apos) (e :: es) [] pos) X.env = (do
      let ov ← eval o X.env
      standAt apos.atName
      let (f, first) ← holding [ov] (getMethod ov mm pl)
      callWith pos f first (backTo pos (starEach (e :: es) X.env)) (backToKw pos (keywordEach [] X.env))) := by rfl) :
    PE X (.Call (.Attribute o mm apos) (e :: es) [] pos) (T g W (pRm (nx f) po ps)) := by
  obtain ⟨ad, hm, F⟩ := c.ex
  have cl := R.cls
  rw [← hK] at F hm cl
  refine PE.imp (pe_methR ho cl hm F (hr.mono hk) pass0 ha hst hpl ht) fun σ H Q h => ?_
  refine T.mono (t_rm (R2 := fun vs H Q => spOf g f vs H Q E0) (fun ρ m σ H ls p ds vs Q s hr l h => spN_args s (.cons (.room hr) l) h) h) fun v H1 ⟨a, dx, fs, e1, h1, hn, z⟩ => ⟨a, dx, fs, e1, h1, hn mm n1 n2, z⟩
theorem te_propN (hK : X.K = g.K) (R : RoomC g) (c : Pf X.prog X.w X.mg X.base g k mm f) (hr : Room j X.A) (ho : PE X o (T g W po)) (hk : k + 1 ≤ j := by decide) (hab : attributeBase o mm X.env (eval o X.env) = eval o X.env := by rfl) :
    PE X (.Attribute o mm pos) (T g W (pRm (nx f) po [])) := by
  obtain ⟨p, ad, fd, pn, hp, F, b⟩ := c.ex
  have cl := R.cls
  rw [← hK] at F b hp cl
  refine PE.imp (pe_prop ho cl hp F (hr.mono hk) b .nil pass0 hab) fun σ H Q h => ?_
  refine T.mono (t_rm (R2 := fun vs H Q => spOf g f (vs ++ []) H Q E0) (fun ρ m σ H ls p ds vs Q s hr l h => by rw [List.append_nil]; exact spN_args s (.cons (.room hr) l) h) h) fun v H1 ⟨a, dx, fs, e1, h1, hn, z⟩ => ⟨a, dx, fs, e1, h1, ?_⟩
  obtain ⟨ε, ρ, m, e, s, z⟩ := z
  have z' := z ρ H1 [] .refl s .nil
  rw [e1] at z'
  exact z'
theorem te_rcallN (hK : X.K = g.K) (c : Cl X.prog X.w X.mg X.base g k f) (hr : Room j X.A) (ho : PE X o (T g W po)) (ha : PA X (e :: es) (Ta g W ps)) (hk : k ≤ j := by decide)
    (ht : eval (.Call o (e :: es) [] pos) X.env = (do callWith pos (← eval o X.env) [] (backTo pos (starEach (e :: es) X.env)) (backToKw pos (keywordEach [] X.env))) := by rfl)
    (he : starEach (e :: es) X.env = (false, eval e X.env) :: starEach es X.env := by rfl) (hpl : (backTo pos (starEach es X.env)).any (·.1) = false := by rfl) : PE X (.Call o (e :: es) [] pos) (T g W (pRm (nx f) po ps)) := by
  obtain ⟨ad, hc, F⟩ := c.ex
  rw [← hK] at F hc
  refine PE.imp (pe_callO ho hc F (hr.mono hk) pass0 ha ht he hpl) fun σ H Q h => ?_
  refine T.mono (t_rm (R2 := fun vs H Q => ∃ p tl ls, vs = .ref p :: tl ∧ RoomAt g H p ls ∧ spOf g f vs H Q E0) (fun ρ m σ H ls p ds vs Q s hr l h => ⟨p, vs, ls, rfl, hr, spN_args s (.cons (.room hr) l) h⟩) h) fun v H1 ⟨a, dx, fs, e1, h1, hn, z⟩ => ⟨a, e1, Ta.mono z fun vs H2 q => ?_⟩
  obtain ⟨p, tl, ls, e2, hr, q⟩ := q
  rw [e1] at e2 q
  cases e2
  obtain ⟨dx, t, q', ob, h3, _⟩ := hr
  exact ⟨.inr ⟨dx, _, h3⟩, q⟩
theorem te_invN (hK : X.K = g.K) (c : Mf X.prog X.w X.mg X.base g k g.CR "__invert__" f) (hr : Room j X.A) (ha : PE X a (T g W pa)) (hk : k ≤ j := by decide) : PE X (.UnaryOp .Invert a pos) (T g W (pRm (nx f) pa [])) := by
  obtain ⟨ad, hm, F⟩ := c.ex
  rw [← hK] at F hm
  have hu : UnR X (unaryOp .Invert) fun x H Q => ∃ p ls, x = .ref p ∧ RoomAt g H p ls ∧ spOf g f [x] H Q E0 := by
    intro pins s σ H x v Q I rx h
    obtain ⟨p, ls, rfl, hr2, h⟩ := h
    cases (show v = Value.ref p from rx)
    obtain ⟨ox, od, J⟩ := room_inst I hr2
    obtain ⟨mm, hF⟩ := I.fr
    exact PySem.W.ksp_inv hF I.mod.kin J hm.at_ hm.fn (run_room (us := [.ref p]) (vs := [.ref p]) F (hr.mono hk) I.env0 I (.cons rfl .nil) h)
  refine PE.imp (pe_un hu ha) fun σ H Q h => ?_
  refine T.mono (t_rm (R2 := fun vs H Q => ∃ p tl ls, vs = .ref p :: tl ∧ RoomAt g H p ls ∧ spOf g f vs H Q E0) (fun ρ m σ H ls p ds vs Q s hr l h => ⟨p, vs, ls, rfl, hr, spN_args s (.cons (.room hr) l) h⟩) h) fun v H1 ⟨a, dx, fs, e1, h1, hn, z⟩ => ?_
  obtain ⟨ε, ρ, m, e, s, z⟩ := z
  obtain ⟨p, tl, ls, e2, hr, q⟩ := z ρ H1 [] .refl s .nil
  cases e2
  exact ⟨p, ls, rfl, hr, q⟩
/-! ### raise -/
/-- a class of the program over ValueError without an own __init__ -/
structure ExC (K : PySem.W.Frag) (C : Addr) : Prop where
  q : PySem.W.excIn K C [.type "ValueError", .type "Exception", .type "BaseException", .type "object"] "ValueError.__new__" = true
  kC : PySem.W.keepIn K (.ref C) = true
  bP : PySem.W.subIn K (.ref C) (.type "BaseException") = some true
  tP : PySem.W.typeIn K (.ref C) = some (.type "type")
def sRaise (x : Str) : PgS := fun ε m => .exc ⟨x, []⟩ ε m
theorem ts_raise {msg : Str} {jj : Nat} {p2 pos' : Pos} (tk : TakesE X E) (hc : X.calm = true) (hK : X.K = g.K) (C : ExC g.K (g.cl x)) (hm : X.mg x = some (.ref (g.cl x))) (hg : Gl X x := by rfl) (hdb : (x == ("__debug__" : Str)) = false := by decide) :
    L2.PS X (.Raise (some (.Call (.Name x p') [.Constant (.str msg) jj p2] [] pos)) none pos') (Ts g (WofE g E) (sRaise x)) := by
  obtain ⟨q, kC, bP, tP⟩ := C
  rw [← hK] at q kC bP tP
  refine PS.imp (ps_raise hc tk (pmk_own PySem.F.excBase_ValueError q hm kC (raises_own bP tP) hg hdb)) fun D σ H h => ?_
  obtain ⟨ε, ρ, m, e, s, h⟩ := h
  exact h ρ H σ .refl s e
end MT

/-! MTY: count and index over data of any depth, x in l of data. -/
namespace L2
open PySem PySem.Spec PyProof.Rows
section
variable {X : Cx}
/-- l.count(x) over data -/
def rCountD (K : PySem.W.Frag) : V → List V → Hp → VK → Prop := fun x xs H Q => ∃ (a : Addr) (y : V) (d : PyData) (ds : List PyData), x = V.ref a ∧ xs = [y] ∧ Dp K H (V.ref a) (.list ds) ∧ Dp K H y d ∧
  SeqAt.shaped (.list ds) = true ∧ SeqAt.shaped d = true ∧ Q (.int (ds.countP fun z => PyData.eqv z d : Nat)) H
theorem mt_countD (hu : X.A.units + 65 < cLine) : MtR X "list.count" (rCountD X.K) := by
  intro pins s σ H x xs v us Q I rx rxs h
  obtain ⟨a, y, d, ds, rfl, rfl, hl, hy, sl, sd, q⟩ := h
  cases rx
  cases rxs with
  | cons ry rt =>
    rename_i uy ut
    cases rt
    obtain ⟨bs, r1⟩ := Dp.reads I d y uy hy ry
    have hxs : PyData.canLayAll0 ds = true := SeqAt.canLay_of_shaped sl
    have hroom : X.A.units + 1 + min (PyData.depthAll ds) d.depth < cLine := room_in_shaped sd hu
    cases hl with
    | lst hs ha =>
      obtain ⟨its, rv, ⟨⟨cls, dd, data, sls⟩, n, ho, hc, hdn, hdt⟩, hlen⟩ := I.list hs
      simp only at hc hdt
      subst hc hdt
      obtain ⟨as, h4⟩ := Dp.readsAll I ds _ its ha rv
      have hmap : its.map (SeqAt.readOf s.heap) = ds := SeqAt.readsAll_map ds its as hxs h4
      refine call_meets PySem.F.slot_list_count ⟨_, ho, rfl⟩ PySem.F.entry_list_count (PySem.F.args_list_count_2 _ _)
        (SeqAt.list_countAt a its.toArray n dd sls uy (fun u => PyData.eqv (SeqAt.readOf s.heap u) d)) ⟨ho, SeqAt.items_eqAt (vs := its.toArray) (show ReadsAll s.heap its.toArray.toList ds as from h4) r1 hxs (SeqAt.canLay_of_shaped sd) hroom, ?_⟩
      refine ⟨.int (ds.countP fun z => PyData.eqv z d : Nat), H, I.tok _, ⟨s.toks, ?_⟩, q⟩
      have e : its.countP (fun u => PyData.eqv (SeqAt.readOf s.heap u) d) = ds.countP fun z => PyData.eqv z d := by
        rw [← hmap, List.countP_map]; rfl
      show Value.int ((its.countP (fun u => PyData.eqv (SeqAt.readOf s.heap u) d) : Nat) : Int) s.toks = _
      rw [e]
end
end L2
namespace MT
open PySem PySem.Spec PyProof.Rows L2 StX
variable {g : G} {ρ ρ' ρ1 ρ2 : List Addr} {H H' H1 H2 : Hp} {m m' : Store} {ε ε' : EnvD} {σ σ' : L2.St} {W : Wx} {r : Res D} {Q Q' : VK} {X : Cx} {a b c e o i : Expr} {pa pb pc pe po pi : Pg} {pos apos : Pos} {D0 : Ends} {es : List Expr} {ps : List Pg} {f : Fn} {k j : Nat} {x mm cc : Str} {p' : Pos} {E : XK}
def pdL (f : D → Option PyData) : List D → Option (List PyData)
  | [] => some []
  | d :: ds => match f d, pdL f ds with
    | some x, some xs => some (x :: xs)
    | _, _ => none
def pdD : Nat → D → Option PyData
  | 0, _ => none
  | n + 1, d => match d with
    | .non => some .none
    | .bl b => some (.bool b)
    | .int i => some (.int i)
    | .str z => some (.str z)
    | .tup xs => (pdL (pdD n) xs).map .tuple
    | .fl xs => (pdL (pdD n) xs).map .list
    | _ => none
theorem dp_pdL {f : D → Option PyData} (hf : ∀ (d : D) (v : V) (x : PyData), DenV g ρ H d v → f d = some x → Dp g.K H v x) : ∀ {ds : List D} {vs : List V} {xs : List PyData}, DenL g ρ H ds vs → pdL f ds = some xs → DpAll g.K H vs xs
  | [], _, _, .nil, h => by cases h; exact .nil
  | d :: ds, _, xs, .cons dv l, h => by
    unfold pdL at h
    split at h
    · rename_i x ys h1 h2
      cases h
      exact .cons (hf _ _ _ dv h1) (dp_pdL hf l h2)
    · cases h
theorem dp_pd : ∀ (n : Nat) (d : D) (v : V) (x : PyData), DenV g ρ H d v → pdD n d = some x → Dp g.K H v x
  | n + 1, d, v, x, dv, h => by
    unfold pdD at h
    cases dv with
    | non => cases h; exact .non
    | bl b => cases h; exact .bl b
    | int i => cases h; exact .int i
    | str z => cases h; exact .str z
    | tup hp l =>
      simp only [Option.map_eq_some_iff] at h
      obtain ⟨ys, hy, rfl⟩ := h
      exact .tup hp (dp_pdL (dp_pd n) l hy)
    | fl hp l =>
      simp only [Option.map_eq_some_iff] at h
      obtain ⟨ys, hy, rfl⟩ := h
      exact .lst hp.sq (dp_pdL (dp_pd n) l hy)
    | loc h' => cases h
    | kl hp l => cases h
    | room h' => cases h
    | adr a => cases h
/-- methods of lists, live or frozen -/
def pLw (f : Fn) (po : Pg) (ps : List Pg) : Pg := fun ε m => (po ε m).bind fun d m1 => match lsD m1 d with
  | some _ => (evL ps ε m1).bind fun ds m2 => f (d :: ds) m2
  | none => .bad
theorem t_lw {r : V → List V → Hp → VK → Prop} (hs : OpM g W r f) (h : T g W (pLw f po ps) σ H Q) : T g W po σ H fun x H1 => tyV g.K "list" x H1 ∧ Ta g W ps σ H1 fun xs H2 => r x xs H2 Q := by
  obtain ⟨ε, ρ, m, ds, e, s, l, h⟩ := h
  refine ⟨ε, ρ, m, [], e, s, .nil, Fin.bind h fun ρ' H' v d m' u s' dv q => ?_⟩
  cases hl : lsD m' d with
  | none => simp only [hl] at q; exact q.elim
  | some xs =>
    simp only [hl] at q
    obtain ⟨a, vs, rfl, rd, l⟩ := s'.seq dv hl
    exact ⟨.inl ⟨rfl, vs, .inl rd⟩, ε, ρ', m', e.up u, s', Fin.bindL q fun ρ2 H2 ws ds m2 u2 s2 dl q2 => hs ρ2 m2 σ H2 _ ds _ ws Q s2 (dv.up u2) dl q2⟩
def gCount : Fn
  | [l, d], m => match lsD m l, pdD 5 d with
    | some xs, some x => (match pdL (pdD 5) xs with
      | some ys => if SeqAt.shaped (.list ys) = true ∧ SeqAt.shaped x = true then .ok (.int (ys.countP fun z => PyData.eqv z x : Nat)) m else .bad
      | none => .bad)
    | _, _ => .bad
  | _, _ => .bad
theorem o_count : OpM g W (rCountD g.K) gCount := by
  intro ρ m σ H d ds x vs Q s dv dl h
  cases dl with
  | nil => exact False.elim h
  | @cons d1 v1 ds vs dv1 dl =>
    cases dl with
    | cons d2 dl => exact False.elim h
    | nil =>
      simp only [gCount] at h
      split at h
      · rename_i xs y hl hy
        split at h
        · rename_i ys hys
          split at h
          · rename_i hs
            obtain ⟨a, ws, rfl, rd, l⟩ := s.seq dv hl
            exact ⟨a, v1, y, ys, rfl, rfl, .lst (.inl rd) (dp_pdL (dp_pd 5) l hys), dp_pd 5 _ _ _ dv1 hy, hs.1, hs.2, Fin.okc h s (.int _)⟩
          · exact h.elim
        · exact h.elim
      · exact h.elim
theorem te_lw {name : Str} {id : String} {r : V → List V → Hp → VK → Prop} (hK : X.K = g.K) (slot : Slot "list" name id) (hty : typeOf (.builtin id) = pure (.type "method_descriptor")) (hm : MtR X id r) (hs : OpM g W r f) (ho : PE X o (T g W po)) (ha : PA X (e :: es) (Ta g W ps))
    (hbase : attributeBase o name X.env (eval o X.env) = eval o X.env := by rfl)
    (hfew : ((backTo pos (starEach (e :: es) X.env)).all (fun x => !x.1) && (backToKw pos (keywordEach [] X.env)).all (fun x => x.1.isSome)
      && decide ((e :: es).length + ([] : List Keyword).length + (if ([] : List Keyword).isEmpty then 0 else 1) < 30)) = true := by rfl)
    (hline : (apos.endLine == pos.line) = true := by rfl) (hst : starEach (e :: es) X.env = (false, eval e X.env) :: starEach es X.env := by rfl) (hplain : (backTo pos (starEach es X.env)).any (·.1) = false := by rfl) :
    PE X (.Call (.Attribute o name apos) (e :: es) [] pos) (T g W (pLw f po ps)) :=
  PE.imp (pe_bm PySem.F.plainAttrs_list slot hty hm ho ha hbase hfew hline hst hplain) fun σ H Q h => by
    have z := t_lw hs h
    rw [← hK] at z
    exact z
theorem te_count (hK : X.K = g.K) (hr : Room j X.A) (ho : PE X o (T g W po)) (ha : PA X [e] (Ta g W ps)) (hbase : attributeBase o "count" X.env (eval o X.env) = eval o X.env := by rfl)
    (hfew : ((backTo pos (starEach [e] X.env)).all (fun x => !x.1) && (backToKw pos (keywordEach [] X.env)).all (fun x => x.1.isSome)
      && decide ([e].length + ([] : List Keyword).length + (if ([] : List Keyword).isEmpty then 0 else 1) < 30)) = true := by rfl)
    (hline : (apos.endLine == pos.line) = true := by rfl) (hst : starEach [e] X.env = (false, eval e X.env) :: starEach [] X.env := by rfl) : PE X (.Call (.Attribute o "count" apos) [e] [] pos) (T g W (pLw gCount po ps)) :=
  te_lw hK PySem.F.slot_list_count PySem.F.type_list_count (mt_countD (by have := hr.un; omega)) (by rw [hK]; exact o_count) ho ha hbase hfew hline hst
def fstEq (x : PyData) : List PyData → Option Nat
  | [] => none
  | y :: ys => if PyData.eqv y x = true then some 0 else (fstEq x ys).map (· + 1)
theorem fstEq_spec (x : PyData) : ∀ {ys : List PyData} {k : Nat}, fstEq x ys = some k → (∃ z, ys[k]? = some z ∧ PyData.eqv z x = true) ∧ ∀ (j : Nat) (y : PyData), j < k → ys[j]? = some y → PyData.eqv y x = false
  | y :: ys, k, h => by
    unfold fstEq at h
    split at h
    · rename_i e
      cases h
      exact ⟨⟨y, rfl, e⟩, fun j _ hj => absurd hj (Nat.not_lt_zero _)⟩
    · rename_i ne
      rw [Option.map_eq_some_iff] at h
      obtain ⟨n, hn, rfl⟩ := h
      obtain ⟨h1, h2⟩ := fstEq_spec x hn
      refine ⟨h1, fun j z hj hz => ?_⟩
      cases j with
      | zero => cases hz; simpa using ne
      | succ j => exact h2 j z (by omega) hz
def gIndexG : Fn
  | [l, d], m => match lsD m l, pdD 5 d with
    | some xs, some x => (match pdL (pdD 5) xs with
      | some ys => if SeqAt.shaped (.list ys) = true ∧ SeqAt.shaped x = true then (match fstEq x ys with | some k => .ok (.int (k : Nat)) m | none => .bad) else .bad
      | none => .bad)
    | _, _ => .bad
  | _, _ => .bad
theorem o_indexG : OpM g W (rIndexD g.K) gIndexG := by
  intro ρ m σ H d ds x vs Q s dv dl h
  cases dl with
  | nil => exact False.elim h
  | @cons d1 v1 ds vs dv1 dl =>
    cases dl with
    | cons d2 dl => exact False.elim h
    | nil =>
      simp only [gIndexG] at h
      split at h
      · rename_i xs y hl hy
        split at h
        · rename_i ys hys
          split at h
          · rename_i hs
            split at h
            · rename_i k hk
              obtain ⟨a, ws, rfl, rd, l⟩ := s.seq dv hl
              obtain ⟨⟨z, f1, f2⟩, f3⟩ := fstEq_spec _ hk
              exact ⟨a, v1, y, ys, k, z, rfl, rfl, .lst (.inl rd) (dp_pdL (dp_pd 5) l hys), dp_pd 5 _ _ _ dv1 hy, hs.1, hs.2, f1, f2, f3, Fin.okc h s (.int _)⟩
            · exact h.elim
          · exact h.elim
        · exact h.elim
      · exact h.elim
theorem te_indexG (hK : X.K = g.K) (hr : Room j X.A) (ho : PE X o (T g W po)) (ha : PA X [e] (Ta g W ps)) (hbase : attributeBase o "index" X.env (eval o X.env) = eval o X.env := by rfl)
    (hfew : ((backTo pos (starEach [e] X.env)).all (fun x => !x.1) && (backToKw pos (keywordEach [] X.env)).all (fun x => x.1.isSome)
      && decide ([e].length + ([] : List Keyword).length + (if ([] : List Keyword).isEmpty then 0 else 1) < 30)) = true := by rfl)
    (hline : (apos.endLine == pos.line) = true := by rfl) (hst : starEach [e] X.env = (false, eval e X.env) :: starEach [] X.env := by rfl) : PE X (.Call (.Attribute o "index" apos) [e] [] pos) (T g W (pLw gIndexG po ps)) :=
  te_lw hK PySem.F.slot_list_index PySem.F.type_list_index (mt_indexD (by have := hr.un; omega)) (by rw [hK]; exact o_indexG) ho ha hbase hfew hline hst
/-! ### x in l of data -/
def gInD (neg : Bool) : Fn
  | [d, l], m => match pdD 5 d, lsD m l with
    | some x, some xs => (match pdL (pdD 5) xs with
      | some ys => if SeqAt.shaped (.list ys) = true ∧ SeqAt.shaped x = true then .ok (.bl (if neg = true then !(ys.any fun z => PyData.eqv z x) else ys.any fun z => PyData.eqv z x)) m else .bad
      | none => .bad)
    | _, _ => .bad
  | _, _ => .bad
theorem o_inD : Op2 g W (rInD g.K) (gInD false) := fun ρ m σ H d1 d2 x y Q s v1 v2 h => by
  simp only [gInD] at h
  split at h
  · rename_i z xs hz hl
    split at h
    · rename_i ys hys
      split at h
      · rename_i hs
        obtain ⟨a, ws, rfl, rd, l⟩ := s.seq v2 hl
        exact ⟨z, ys, dp_pd 5 _ _ _ v1 hz, .lst (.inl rd) (dp_pdL (dp_pd 5) l hys), hs.2, hs.1, Fin.okc h s (.bl _)⟩
      · exact h.elim
    · exact h.elim
  · exact h.elim
theorem o_notInD : Op2 g W (rNotInD g.K) (gInD true) := fun ρ m σ H d1 d2 x y Q s v1 v2 h => by
  simp only [gInD] at h
  split at h
  · rename_i z xs hz hl
    split at h
    · rename_i ys hys
      split at h
      · rename_i hs
        obtain ⟨a, ws, rfl, rd, l⟩ := s.seq v2 hl
        exact ⟨z, ys, dp_pd 5 _ _ _ v1 hz, .lst (.inl rd) (dp_pdL (dp_pd 5) l hys), hs.2, hs.1, Fin.okc h s (.bl _)⟩
      · exact h.elim
    · exact h.elim
  · exact h.elim
theorem te_inD (hK : X.K = g.K) (hr : Room j X.A) (ha : PE X a (T g W pa)) (hb : PE X b (T g W pb)) (hm : behindInMarks .In b = false := by rfl) : PE X (.Compare a [.In] [b] pos) (T g W (p2 (gInD false) pa pb)) := te_cmp (op_inD (by have := hr.un; omega)) (by rw [hK]; exact o_inD) ha hb hm
theorem tt_inD (hK : X.K = g.K) (hr : Room j X.A) (ha : PE X a (T g W pa)) (hb : PE X b (T g W pb)) (hm : behindInMarks .In b = false := by rfl) : PT X (.Compare a [.In] [b] pos) (Tt g W (p2 (gInD false) pa pb)) := tt_cmp (op_inD (by have := hr.un; omega)) (by rw [hK]; exact o_inD) ha hb hm
theorem te_notInD (hK : X.K = g.K) (hr : Room j X.A) (ha : PE X a (T g W pa)) (hb : PE X b (T g W pb)) (hm : behindInMarks .NotIn b = false := by rfl) : PE X (.Compare a [.NotIn] [b] pos) (T g W (p2 (gInD true) pa pb)) := te_cmp (op_notInD (by have := hr.un; omega)) (by rw [hK]; exact o_notInD) ha hb hm
theorem tt_notInD (hK : X.K = g.K) (hr : Room j X.A) (ha : PE X a (T g W pa)) (hb : PE X b (T g W pb)) (hm : behindInMarks .NotIn b = false := by rfl) : PT X (.Compare a [.NotIn] [b] pos) (Tt g W (p2 (gInD true) pa pb)) := tt_cmp (op_notInD (by have := hr.un; omega)) (by rw [hK]; exact o_notInD) ha hb hm
end MT

/-! MTZ: a lambda handed to a def that calls it in a try. -/
namespace MT
open PySem PySem.Spec PyProof.Rows L2 StX LamX
variable {g : G} {ρ ρ' ρ1 ρ2 : List Addr} {H H' H1 H2 : Hp} {m m' : Store} {ε ε' : EnvD} {σ σ' : L2.St} {W : Wx} {r : Res D} {Q Q' : VK} {X : Cx} {a b c e o i : Expr} {pa pb pc pe po pi : Pg} {pos apos : Pos} {D0 : Ends} {es : List Expr} {ps : List Pg} {f : Fn} {k j : Nat} {x mm cc : Str} {p' : Pos} {E : XK}
/-! ### isinstance of the caught exception -/
def gAdr (aE : Addr) (b : Bool) : Fn
  | [.adr a'], m => if a' = aE then .ok (.bl b) m else .bad
  | _, _ => .bad
theorem o_adr {K : PySem.W.Frag} {aE Dc : Addr} {b : Bool} {cV : V} {cv : Value} (hcv : ∀ u, RelV cV u → u = cv) (hk : PySem.W.kitOne K (.ref Dc) cv = some b) : Op1 g W (fun x H Q => rIsE K Dc aE [x, cV] H Q) (gAdr aE b) := by
  intro ρ m σ H d x Q s dv h
  cases dv with
  | adr a' =>
    simp only [gAdr] at h
    split at h
    · rename_i e
      subst e
      exact ⟨cV, cv, b, rfl, hcv, hk, Fin.okc h s (.bl _)⟩
    · exact h.elim
  | _ => exact False.elim h
theorem te_isE {aE Dc C : Addr} {oe : Obj} {pn : List (Addr × Obj)} {b : Bool} {y : Str} {q' : Pos} (hx : ExcC X.K Dc) (hz : Zc (.ref Dc) none oe) (hf : ∃ vs, oe.data = .fields vs) (hm : X.mg "isinstance" = none) (hm2 : X.mg y = some (.ref C)) (hk : PySem.W.kitOne X.K (.ref Dc) (.ref C) = some b)
    (ha : PE (X.suite aE ((aE, oe) :: pn)) a (T g W pa)) (hg : Gl (X.suite aE ((aE, oe) :: pn)) "isinstance" := by rfl) (hg2 : Gl (X.suite aE ((aE, oe) :: pn)) y := by rfl)
    (he : starEach [a, .Name y q'] X.env = (false, eval a X.env) :: starEach [.Name y q'] X.env := by rfl) (he2 : starEach [.Name y q'] X.env = (false, eval (.Name y q') X.env) :: starEach [] X.env := by rfl) (hpl : (backTo pos (starEach [.Name y q'] X.env)).any (·.1) = false := by rfl) (hd : (y == ("__debug__" : Str)) = false := by decide) :
    PE (X.suite aE ((aE, oe) :: pn)) (.Call (.Name "isinstance" p') [a, .Name y q'] [] pos) (T g W (p1 (gAdr aE b) pa)) :=
  PE.imp (pe_callB (X := X.suite aE ((aE, oe) :: pn)) (call_isE hx hz hf) hg hm boot_isinstance (pa_cons ha (pa_cons (pe_glob (v := .ref C) hg2 hm2 rfl hd) pa_nil he2) he) (he := he) (hpl := hpl)) fun σ H Q h =>
    t_op1 (o_adr (cV := .ref C) (fun u r => (show u = Value.ref C from r)) hk) h
theorem te_isEB {aE Dc : Addr} {oe : Obj} {pn : List (Addr × Obj)} {b : Bool} {y : Str} {ty : String} {q' : Pos} (hx : ExcC X.K Dc) (hz : Zc (.ref Dc) none oe) (hf : ∃ vs, oe.data = .fields vs) (hm : X.mg "isinstance" = none) (hm2 : X.mg y = none) (hv : bootBuiltins y = some (.type ty)) (hk : PySem.W.kitOne X.K (.ref Dc) (.type ty) = some b)
    (ha : PE (X.suite aE ((aE, oe) :: pn)) a (T g W pa)) (hg : Gl (X.suite aE ((aE, oe) :: pn)) "isinstance" := by rfl) (hg2 : Gl (X.suite aE ((aE, oe) :: pn)) y := by rfl)
    (he : starEach [a, .Name y q'] X.env = (false, eval a X.env) :: starEach [.Name y q'] X.env := by rfl) (he2 : starEach [.Name y q'] X.env = (false, eval (.Name y q') X.env) :: starEach [] X.env := by rfl) (hpl : (backTo pos (starEach [.Name y q'] X.env)).any (·.1) = false := by rfl) (hn : y ≠ "__name__" := by decide) (hd : (y == ("__debug__" : Str)) = false := by decide) :
    PE (X.suite aE ((aE, oe) :: pn)) (.Call (.Name "isinstance" p') [a, .Name y q'] [] pos) (T g W (p1 (gAdr aE b) pa)) :=
  PE.imp (pe_callB (X := X.suite aE ((aE, oe) :: pn)) (call_isE hx hz hf) hg hm boot_isinstance (pa_cons ha (pa_cons (pe_bltn (v := .ty ty) hg2 hm2 hv rfl hn hd) pa_nil he2) he) (he := he) (hpl := hpl)) fun σ H Q h =>
    t_op1 (o_adr (cV := .ty ty) (fun u r => (show u = Value.type ty from r)) hk) h
/-! ### count and index within a suite -/
theorem te_countU (hK : X.K = g.K) (hu : X.A.units + 65 < cLine) (ho : PE X o (T g W po)) (ha : PA X [e] (Ta g W ps)) (hbase : attributeBase o "count" X.env (eval o X.env) = eval o X.env := by rfl)
    (hfew : ((backTo pos (starEach [e] X.env)).all (fun x => !x.1) && (backToKw pos (keywordEach [] X.env)).all (fun x => x.1.isSome)
      && decide ([e].length + ([] : List Keyword).length + (if ([] : List Keyword).isEmpty then 0 else 1) < 30)) = true := by rfl)
    (hline : (apos.endLine == pos.line) = true := by rfl) (hst : starEach [e] X.env = (false, eval e X.env) :: starEach [] X.env := by rfl) : PE X (.Call (.Attribute o "count" apos) [e] [] pos) (T g W (pLw gCount po ps)) :=
  te_lw hK PySem.F.slot_list_count PySem.F.type_list_count (mt_countD hu) (by rw [hK]; exact o_count) ho ha hbase hfew hline hst
theorem te_indexU (hK : X.K = g.K) (hu : X.A.units + 65 < cLine) (ho : PE X o (T g W po)) (ha : PA X [e] (Ta g W ps)) (hbase : attributeBase o "index" X.env (eval o X.env) = eval o X.env := by rfl)
    (hfew : ((backTo pos (starEach [e] X.env)).all (fun x => !x.1) && (backToKw pos (keywordEach [] X.env)).all (fun x => x.1.isSome)
      && decide ([e].length + ([] : List Keyword).length + (if ([] : List Keyword).isEmpty then 0 else 1) < 30)) = true := by rfl)
    (hline : (apos.endLine == pos.line) = true := by rfl) (hst : starEach [e] X.env = (false, eval e X.env) :: starEach [] X.env := by rfl) : PE X (.Call (.Attribute o "index" apos) [e] [] pos) (T g W (pLw gIndexG po ps)) :=
  te_lw hK PySem.F.slot_list_index PySem.F.type_list_index (mt_indexD hu) (by rw [hK]; exact o_indexG) ho ha hbase hfew hline hst
/-! ### the def that tells an error -/
/-- the suite's answer: the exception (class c, at aE) in slot i of N -/
def errR (N i : Nat) (pS : Str → Addr → PgS) (c : Str) (aE : Addr) (m : Store) : Res D := match pS c aE ((List.replicate N none).set i (some (.adr aE))) m with
  | .ret d m' => .ok d m'
  | _ => .bad
def EW (g : G) (N i : Nat) (pS : Str → Addr → PgS) (ok : Str → Prop) (Q : VK) : XK := fun cls d H' => ∃ c, cls = .ref (g.cl c) ∧ d = none ∧ ok c ∧ ∀ aE, H' aE = none → ∃ ρ m, RelS g ρ m H' ∧ Fin g W0 ρ H' [] (errR N i pS c aE m) Q
def TErr (g : G) (N i : Nat) (pS : Str → Addr → PgS) (ok : Str → Prop) : (XK → Hp → VK → Prop) → Hp → VK → Prop := fun tl H Q => tl (EW g N i pS ok Q) H fun _ H' => Q .non H'
theorem takes_len {W : WX} (tk : Takes X W) : Takes X fun cls d σ H => σ.length = X.N.length → W cls d σ H := fun u s' ⟨a, B, sI, pins, σ, H, cls, d, e, I, nb, up, sky, na, os, ag, w⟩ =>
  tk u s' ⟨a, B, sI, pins, σ, H, cls, d, e, I, nb, up, sky, na, os, ag, w I.len⟩
theorem RelE.slot {N i : Nat} {aE : Addr} (hl : σ.length = N) : RelE g ρ H ((List.replicate N none).set i (some (.adr aE))) (σ.set i (some (.ref aE))) := by
  refine ⟨by simp [hl], fun j d h => ?_⟩
  by_cases hj : j = i
  · subst hj
    by_cases hi : j < N
    · rw [List.getElem?_set_self (by simpa using hi)] at h
      cases h
      exact ⟨.ref aE, List.getElem?_set_self (by omega), .adr aE⟩
    · rw [List.getElem?_eq_none (by simp; omega)] at h; cases h
  · rw [List.getElem?_set_ne (Ne.symm hj), List.getElem?_replicate] at h
    split at h <;> cases h
theorem err_gives {Ng : List Str} {x a e xc q : Str} {sg : Scope} {ga CS : Addr} {cdg : Value} {jn i : Nat} {b₀ : Stmt} {suite : List Stmt} {p1 p2 p3 p4 p6 p8 p9 p10 : Pos} {pS : Str → Addr → PgS} {ok : Str → Prop}
    (hge : sg.names.lookup xc = some .globalImplicit) (hme : X.mg xc = some (.ref CS)) (hde : (xc == ("__debug__" : Str)) = false) (hN : Ng.Nodup) (hi : Ng[i]? = some e) (hln : sg.names.lookup e = some .local) (h0 : ∀ f : Addr, (L2.start Ng [V.ref f])[0]? = some (some (V.ref f)))
    (hex : ∀ c, ok c → PySem.W.exmOne X.K (.ref (g.cl c)) (.ref CS) = some true)
    (hsu : ∀ (s : Shared) (H : Hp) (c : Str) (aE : Addr) (oe : Obj) (pn : List (Addr × Obj)), ok c → Zc (.ref (g.cl c)) none oe → (∃ vs, oe.data = .fields vs) →
      L2.PSs ((cxOf C8.CX0 X.prog X.w X.K X.mg X.base Ng x sg ga cdg X.A X.stack s H C8.E0).nox.suite aE ((aE, oe) :: pn)) (b₀ :: suite) (Ts g W0 (pS c aE))) :
    GivesTo X Ng x sg ga cdg [.Try [.Expr (.Call (.Name a p1) [] [] p2) p3] [.ExceptHandler (some (.Name xc p4)) (some e) (b₀ :: suite) p6] [] [] p8, .Return (some (.Constant .none jn p9)) p10] a q (TErr g Ng.length i pS ok) := by
  intro f c' s H Q tl act hc h
  have hgl : Gl (cxOf C8.CX0 X.prog X.w X.K X.mg X.base Ng x sg ga cdg X.A X.stack s H C8.E0).nox xc := hge
  refine ⟨_, pss_cons (ps_try_as (X := (cxOf C8.CX0 X.prog X.w X.K X.mg X.base Ng x sg ga cdg X.A X.stack s H C8.E0).nox) (c := .ref CS) (i := i)
      (tb := fun W D σ H => ∃ Ech : XK, (∀ cls d σ' H', Ech cls d H' → σ'.length = Ng.length → W cls d σ' H') ∧ σ[0]? = some (some (.ref f)) ∧ H c' = some (CodeO c' q) ∧ tl Ech H fun _ H' => D.nx σ H')
      (ts := fun aE cls d D σ H => ∃ c, cls = .ref (g.cl c) ∧ d = none ∧ ok c ∧ Ts g W0 (pS c aE) D σ H)
      rfl rfl hN hi hln ⟨hgl, hde, .inl hme⟩ LamX.takes0 (fun W pn xe tk _ => ?_) (fun aE oe cls d pn hz hf => ?_)) (pss_one (ps_ret pe_non)), ?_⟩
  · refine ⟨fun pins s' σ H' D I h' => ?_⟩
    obtain ⟨Ech, hW, h1, h2, h3⟩ := h'
    have hp := act _ pn xe Ech p1 p2 (takes_len tk) hW
    have hq := pss_one (ps_expr (pos := p3) hp)
    exact hq.run pins s' σ H' D I ⟨h1, h2, h3⟩
  · refine ⟨fun pins s' σ H' D I h' => ?_⟩
    obtain ⟨c, e1, e2, hok, h3⟩ := h'
    subst e1 e2
    exact (hsu s H c aE oe pn hok hz hf).run pins s' σ H' D I h3
  · refine ⟨EW g Ng.length i pS ok Q, fun cls d σ' H' ⟨c, e1, e2, hok, w⟩ hl => ⟨true, ?_, fun _ aE ha => ⟨c, e1, e2, hok, ?_⟩, fun z => nomatch z⟩, h0 f, hc, h⟩
    · rw [e1]; exact hex c hok
    · obtain ⟨ρ, m, s0, hF⟩ := w aE ha
      refine ⟨_, ρ, m, RelE.slot hl, s0, ?_⟩
      unfold errR at hF
      cases hp : pS c aE ((List.replicate Ng.length none).set i (some (.adr aE))) m with
      | ret d m' => rw [hp] at hF; exact fun ρ' H2 v u s' dv => hF ρ' H2 v u s' dv
      | nxt _ _ => rw [hp] at hF; exact hF.elim
      | exc _ _ _ => rw [hp] at hF; exact hF.elim
      | bad => rw [hp] at hF; exact hF.elim
/-! ### x(lambda: body) -/
theorem ExtN.up (x : ExtN H H1) : Up g ρ H ρ H1 :=
  ⟨fun _ _ h => h, fun a xs h => x a _ h (fun _ z => nomatch z), fun a o u h => x a _ h (fun _ z => nomatch z), fun a dx fs h => x a _ h (fun _ z => nomatch z)⟩
theorem RelS.extN (s : RelS g ρ m H) (x : ExtN H H1) (t : Tabs g.T H1) : RelS g ρ m H1 := s.up (ExtN.up x) t fun i a hi hm => by
  obtain ⟨o, ho, w⟩ := (s.at_ i a _ hi (List.getElem?_eq_getElem hm)).wr
  rw [ho]
  refine x a o ho fun ps z => ?_
  rw [z] at w; exact w
open Classical in
/-- x(lambda: body), x the def that tells errors; the suite may not ask where the exception stands -/
noncomputable def pErr (N i : Nat) (pS : Str → Addr → PgS) (ok : Str → Bool) (p : Pg) : Pg := fun ε m => match p ε m with
  | .ok _ m' => .ok .non m'
  | .exc x m' => if x.fs.isEmpty = true ∧ ok x.cls = true ∧ ∀ a, errR N i pS x.cls a m' = errR N i pS x.cls 0 m' then errR N i pS x.cls 0 m' else .bad
  | .bad => .bad
theorem te_err {x a : Str} {ga c0 P0 : Addr} {kk : Nat} {pg : Arguments} {bg : List Stmt} {sg : Scope} {dV kV doc pm cdv ct oc : Value} {an od : Option Addr} {osl : Array (Option Value)} {Ng : List Str} {i : Nat} {pS : Str → Addr → PgS} {ok : Str → Bool}
    {params : Arguments} {body : Expr} {scope : Scope} {pb : Pg} {p lpos pos : Pos} (hT : g.T = [(P0, X.env.qual ++ "<lambda>")]) (hm : X.mg x = some (.ref ga)) (hk : PySem.W.keepIn X.K (.ref ga) = true)
    (lk : X.K.lookup ga = some ⟨oc, od, .func (PySem.W.fnOf x x pg bg sg dV kV doc pm an cdv ct), osl⟩) (hcg : PySem.W.codeIn X.K cdv x = true) (hb : L2.Binds X.K (PySem.W.fnOf x x pg bg sg dV kV doc pm an cdv ct) [a] []) (Sg : FnScope Ng [a] sg) (hNg : Ng[0]? = some a) (hva : Vis sg a)
    (hG : GivesTo X Ng x sg ga cdv bg a (X.env.qual ++ "<lambda>") (TErr g Ng.length i pS fun c => ok c = true))
    (TB : TabB X.base X.mg c0 P0) (hcode : X.env.code = .ref c0) (hr : Room (kk + 2) X.A)
    (hbody : ∀ (A : Around) (outer : List Env) (s : Shared) (H : Hp) (E : XK) (f c' : Addr), Room kk (A.deeper (lamEnv X scope s.heap.objs.size f c')) → TakesE (lamCx X A outer s H E scope f c') E → PE (lamCx X A outer s H E scope f c') body (T g (WofE g E) pb))
    (L : LamS X.env.scope scope) (hg : Gl X x := by rfl) (hdef : defaultsOf params X.env = ([], []) := by rfl)
    (hbind : ∀ (q : Str) (cl : List (Str × Addr)) (pm cv ctv : Value), bindArgs (PySem.W.kla_fn "<lambda>" q params body scope cl pm cv ctv) ⟨[], []⟩ = pure [] := by intro _ _ _ _ _; rfl)
    (hdb : (x == ("__debug__" : Str)) = false := by decide) (hd : (a == ("__debug__" : Str)) = false := by decide) (hcd : (a == ("__classdict__" : Str)) = false := by decide) :
    PE X (.Call (.Name x p) [.Lambda params body scope lpos] [] pos) (T g W (pErr Ng.length i pS ok pb)) := by
  refine PE.imp (pe_lamcall (T := g.T) (t := fun E => T g (WofE g E) pb) hg hm hk lk hcg hb Sg hNg hva hG TB hcode (by rw [hT]; exact List.mem_singleton.mpr rfl) (fun p hp _ => by rw [hT] at hp; rw [List.mem_singleton.mp hp]) hr L hdef hbind
    (fun A outer s H E f c' hr => hbody A outer s H E f c' hr (takes_of rfl rfl rfl rfl)) hdb hd hcd) fun σ H Q h => ?_
  obtain ⟨ε, ρ, m, ds, e, s, l, h⟩ := h
  refine ⟨s.tabs, fun H1 x1 t1 => ⟨ε, ρ, m, [], e.up (ExtN.up x1), s.extN x1 t1, .nil, ?_⟩⟩
  unfold pErr at h
  have u1 : Up g ρ H ρ H1 := ExtN.up x1
  show Fin g (WofE g (EW g Ng.length i pS (fun c => ok c = true) Q)) ρ H1 σ (pb ε m) fun _ H' => Q .non H'
  cases hp : pb ε m with
  | ok d m' =>
    simp only [hp] at h
    exact fun ρ' H' v u s' _ => h ρ' H' .non (u1.trans u) s' .non
  | bad => simp only [hp] at h; exact h.elim
  | exc x m' =>
    simp only [hp] at h
    split at h
    · rename_i hc
      obtain ⟨cx, fs⟩ := x
      obtain ⟨h1, h2, hS⟩ := hc
      cases fs with
      | cons _ _ => simp at h1
      | nil =>
        refine fun ρ' H' u s' => ⟨cx, rfl, rfl, h2, fun aE ha => ⟨ρ', m', s', ?_⟩⟩
        rw [hS aE]
        have q := Fin.up (u1.trans u) h
        cases he : errR Ng.length i pS cx 0 m' with
        | ok d m2 => rw [he] at q; exact q
        | bad => rw [he] at q; exact q
        | exc y m2 =>
          exfalso
          unfold errR at he
          split at he <;> cases he
    · exact h.elim
/-! ### the def that tells errors, by its text -/
theorem te_errF {x a : Str} {st : Stmt} {c0 P0 : Addr} {kk : Nat} {Ng : List Str} {i : Nat} {pS : Str → Addr → PgS} {ok : Str → Bool} {params : Arguments} {body : Expr} {scope : Scope} {pb : Pg} {p lpos pos : Pos} (hK : X.K = g.K)
    (hd : ∃ ad fd, Fun g.K x x st ad fd ∧ X.mg x = some (.ref ad))
    (hb : ∀ (kV doc pm : Value) (an : Option Addr) (cdv ct : Value) (us : List Value), us.length = [a].length → bindArgs (PySem.W.fnOf x x (defArgs st) (defBody st) (defScope st) .none kV doc pm an cdv ct) ⟨us, []⟩ = pure ([a].zip us))
    (Sg : FnScope Ng [a] (defScope st)) (hNg : Ng[0]? = some a) (hva : Vis (defScope st) a)
    (hT : g.T = [(P0, X.env.qual ++ "<lambda>")]) (TB : TabB X.base X.mg c0 P0) (hcode : X.env.code = .ref c0) (hr : Room j X.A) (hj : kk + 2 ≤ j)
    (hG : ∀ ga cdv, GivesTo X Ng x (defScope st) ga cdv (defBody st) a (X.env.qual ++ "<lambda>") (TErr g Ng.length i pS fun c => ok c = true))
    (hbody : ∀ (A : Around) (outer : List Env) (s : Shared) (H : Hp) (E : XK) (f c' : Addr), Room kk (A.deeper (lamEnv X scope s.heap.objs.size f c')) → TakesE (lamCx X A outer s H E scope f c') E → PE (lamCx X A outer s H E scope f c') body (T g (WofE g E) pb))
    (L : LamS X.env.scope scope) (hg : Gl X x := by rfl) (hdef : defaultsOf params X.env = ([], []) := by rfl)
    (hbind : ∀ (q : Str) (cl : List (Str × Addr)) (pm cv ctv : Value), bindArgs (PySem.W.kla_fn "<lambda>" q params body scope cl pm cv ctv) ⟨[], []⟩ = pure [] := by intro _ _ _ _ _; rfl)
    (hdb : (x == ("__debug__" : Str)) = false := by decide) (hda : (a == ("__debug__" : Str)) = false := by decide) (hcd : (a == ("__classdict__" : Str)) = false := by decide) :
    PE X (.Call (.Name x p) [.Lambda params body scope lpos] [] pos) (T g W (pErr Ng.length i pS ok pb)) := by
  obtain ⟨ad, fd, F, hm⟩ := hd
  have b := F.binds hb
  have kp := F.kp
  obtain ⟨oc, od, kV, doc, pm, an, cdv, ct, osl, rfl, lk, hc⟩ := F.ex
  rw [← hK] at b kp lk hc
  exact te_err hT hm kp lk hc b Sg hNg hva (hG ad cdv) TB hcode (hr.mono hj) hbody L hg hdef hbind hdb hda hcd
/-- a def whose code object is known -/
theorem fnokC {P : Program} {w : World} {mg : Str → Option Value} {base : Heap} {qual : Str} {st : Stmt} {ad : Addr} {fd : FuncData} {N pn : List Str} {p : PgS} {cdv : Value} (F : Fun g.K x qual st ad fd) (hv : fd.code = cdv) (S : FnScope N pn (defScope st))
    (hb : ∀ (A : Around) (outer : List Env) (s : Shared) (H : Hp) (E : XK), Room k (A.deeper (envOfC qual (defScope st) s.heap.objs.size ad cdv)) →
      L2.PSs (cxOf CX0 P w g.K mg base N qual (defScope st) ad cdv A outer s H E).nox (defBody st) (Ts g W0 p)) : FnOk P w g.K mg base CX0 (k + 1) ad fd pn (spOf g (runD pn.length N.length p)) := by
  obtain ⟨oc, od, kV, doc, pm, an, cdv', ct, osl, rfl, lk, hcd⟩ := F.ex
  obtain rfl : cdv' = cdv := hv
  refine fn_of lk hcd S (fun vs H Q E h => ?_) fun A outer s H vs Q E hr h => ⟨_, (hb A outer s H E hr).nox, ?_⟩
  · obtain ⟨ρ, m, ds, s, l, h⟩ := h
    unfold runD at h
    split at h
    · rename_i hl; rw [← l.length, hl]
    · exact h.elim
  · obtain ⟨ρ, m, ds, s, l, h⟩ := h
    unfold runD at h
    split at h
    · rename_i hl
      have e := l.start (N.length - vs.length)
      refine ⟨ds.map some ++ List.replicate (N.length - vs.length) none, ρ, m, e, s, ?_⟩
      rw [← l.length, hl]
      cases hp : p (ds.map some ++ List.replicate (N.length - pn.length) none) m with
      | nxt ε m' => rw [hp] at h; exact fun ρ' H' σ' u s' e' => h ρ' H' .non u s' .non
      | ret d m' => rw [hp] at h; exact fun ρ' H' v u s' dv => h ρ' H' v u s' dv
      | exc x ε m' => rw [hp] at h; exact fun ρ' H' σ' u s' _ => h ρ' H' u s'
      | bad => rw [hp] at h; exact h
    · exact h.elim
/-- a list that nobody writes may be frozen at the call -/
theorem fnok_lock {P : Program} {w : World} {mg : Str → Option Value} {base : Heap} {ad : Addr} {fd : FuncData} {pn : List Str} {sp : Sp} {K : PySem.W.Frag} (F : FnOk P w K mg base CX0 k ad fd pn sp) :
    FnOk P w K mg base CX0 k ad fd pn fun vs H Q E => sp vs H Q E ∨ ∃ a xs, H a = some (.lst xs) ∧ ∀ o, sp vs (upd H a (.frz o (.lst xs))) Q E where
  len := fun vs H Q E h => by
    rcases h with h | ⟨a, xs, _, h⟩
    · exact F.len _ _ _ _ h
    · exact F.len _ _ _ _ (h { cls := .none, data := .fields #[] })
  run := fun A outer s H args us vs Q E hr e0 hb r h => by
    rcases h with h | ⟨a, xs, ha, h⟩
    · exact F.run A outer s H args us vs Q E hr e0 hb r h
    · obtain ⟨od, un, hok⟩ := ce_lock (fs := frs outer) (ex := []) (H := H) (h := s.heap) (Un.kept fun _ _ e => e) e0.hok ha trivial
      have ne : ∀ b, H b = none → b ≠ a := fun b hb z => by rw [z, ha] at hb; cases hb
      have e2 : Env0 P w K mg base A outer s (upd H a (.frz od (.lst xs))) :=
        ⟨e0.frames, e0.mod, fun b o q => ⟨(e0.bs b o q).1, by rw [upd_ne (ne b (e0.bs b o q).2)]; exact (e0.bs b o q).2⟩, e0.bsz, e0.funs, fun b hb => by rw [upd_ne (ne b (e0.frf b hb))]; exact e0.frf b hb, hok, e0.bare⟩
      refine codeAny_mono (F.run A outer s _ args us vs Q E hr e2 hb r (h od)) fun r s' hq => ?_
      cases r with
      | error e => exact hq
      | ok fl =>
        cases fl with
        | ret u =>
          obtain ⟨v, H', os, bare, un2, hok2, rv, q⟩ := hq
          exact ⟨v, H', os, bare, un.trans un2, hok2, rv, q⟩
        | _ => exact hq
/-! ### classes of errors -/
def errNames : List Str := ["InvalidRoom", "UnknownPort", "UnknownTile", "InvalidNumber", "OtherRoom", "TooMany", "Contradiction", "NotTurning", "InvalidName", "UnknownName", "InvalidOperation"]
structure ErrF (K : PySem.W.Frag) (cl : Str → Addr) (c : Str) : Prop where
  raise : ExC K (cl c)
  is : ExcC K (cl c)
  kit : ∀ t ∈ errNames, PySem.W.kitOne K (.ref (cl c)) (.ref (cl t)) = some (decide (t = c))
  kitV : PySem.W.kitOne K (.ref (cl c)) (.type "ValueError") = some true
  exm : PySem.W.exmOne K (.ref (cl c)) (.ref (cl "MirrorError")) = some true
def okErr (c : Str) : Bool := decide (c ∈ (["UnknownPort", "UnknownTile", "InvalidNumber", "OtherRoom", "TooMany", "Contradiction", "NotTurning", "InvalidName", "UnknownName"] : List Str))
def pBad : Pg := fun _ _ => .bad
theorem te_bad : PE X e (T g W pBad) := ⟨fun pins s σ H Q I h => by
  obtain ⟨ε, ρ, m, ds, e, s, l, h⟩ := h
  exact h.elim⟩
end MT

/-! MTH: the head's facts for the little language: a Hook over defs found by any path, Bools and tables. -/
namespace MT
open PySem PySem.Spec PyProof.Rows L2
section
variable {K : Frag} {h : Heap} {mg : Str → Option Value} {C m f x : Str}
open He
theorem bFn_ok (c : bFn C m K = true) : PySem.W.findIn K (.ref (He.ga K C)) m = some (some (.ref (atM C m K))) ∧ PySem.W.isFn K (.ref (atM C m K)) = true ∧ PySem.W.fnIn K (atM C m K) = true := by
  obtain ⟨c1, c⟩ := ba c
  obtain ⟨c2, c3⟩ := ba c
  exact ⟨eqO_ok c1, c2, c3⟩
theorem bProp_ok (c : bProp C m K = true) : PropOf K (He.ga K C) m (atM C m K) (atP C m K) := by
  obtain ⟨c1, c⟩ := ba c
  obtain ⟨c2, c⟩ := ba c
  obtain ⟨c3, c4⟩ := ba c
  refine ⟨eqO_ok c1, eqO_ok c2, of_decide_eq_true c3, ?_⟩
  split at c4
  · rename_i g rest q
    have e := of_decide_eq_true c4
    subst e
    exact ⟨rest, q⟩
  · cases c4
theorem bRead_ok (c : bRead C K = true) : ClX.CRead K (He.ga K C) (.type "type") := by
  obtain ⟨c1, c2⟩ := ba c
  exact ⟨c1, eqO_ok c2⟩
theorem bCV_ok {v : Dv} (c : bCV C f v K = true) : ∃ u, ClX.CVal K (He.ga K C) (.type "type") f (v.v K) u := by
  unfold bCV at c
  split at c
  · rename_i u q
    exact ⟨u, q, relB_ok c⟩
  · cases c
theorem bCM_ok (c : bCM C m K = true) : ClX.CMet K (He.ga K C) (.type "type") m (recC C m K) (atC C m K) := by
  obtain ⟨c1, c⟩ := ba c
  obtain ⟨c2, c3⟩ := ba c
  refine ⟨?_, ?_, c3⟩
  · split at c1
    · rename_i b p c0 q
      obtain ⟨d1, d⟩ := ba c1
      obtain ⟨d2, d3⟩ := ba d
      rw [q, of_decide_eq_true d1, of_decide_eq_true d2, of_decide_eq_true d3]
    · cases c1
  · split at c2
    · rename_i g rest q
      have e := of_decide_eq_true c2
      subst e
      exact ⟨rest, q⟩
    · cases c2
theorem bRoomI_ok {g : G} (hK : g.K = K) (hC : g.CR = cR K) (c : bRoomI K = true) : RoomI g := by
  obtain ⟨c1, c⟩ := ba c
  obtain ⟨c2, c⟩ := ba c
  obtain ⟨c3, c4⟩ := ba c
  subst hK
  exact ⟨by rw [hC]; exact eqO_ok c1, eqO_ok c2, of_decide_eq_true c3, by rw [hC]; exact of_decide_eq_true c4⟩
theorem bStr_kc {g : G} {z : Str} (X : K.In h) (N : h.Ns mainGlobals mg) (c : bStr x z K = true) : Kc mg g x (.str z) := by
  obtain ⟨t, e⟩ := str_ok X N c
  exact ⟨.str z, _, e, ⟨t, rfl⟩, fun _ _ => .str z⟩
theorem bInt_kc {g : G} {z : Int} (X : K.In h) (N : h.Ns mainGlobals mg) (c : bInt x z K = true) : Kc mg g x (.int z) := by
  obtain ⟨t, e⟩ := int_ok X N c
  exact ⟨.int z, _, e, ⟨t, rfl⟩, fun _ _ => .int z⟩
theorem bTup_kc {g : G} {is : List Int} (hK : g.K = K) (X : K.In h) (N : h.Ns mainGlobals mg) (c0 : bGlo x K = true) (c : bTup x (is.map He.Dv.int) K = true) : Kc mg g x (.tup (is.map D.int)) := by
  refine ⟨.ref (He.ga K x), _, glo_ok X N c0, rfl, fun ρ H => .tup (vs := is.map V.int) ?_ DenL.ints⟩
  have q := tupB_ok c H
  rw [hK]
  rw [List.map_map] at q
  exact q
theorem bCV_cv {g : G} {i : Int} (hK : g.K = K) (hC : g.CR = He.ga K "Room") (hm : mg "Room" = some (.ref g.CR)) (c1 : bRead "Room" K = true) (c : bCV "Room" f (.int i) K = true) : Cv mg g f (.int i) := by
  obtain ⟨u, q⟩ := bCV_ok c
  subst hK
  refine ⟨hm, .type "type", .int i, u, ?_, ?_, fun _ _ => .int i⟩
  · rw [hC]; exact bRead_ok c1
  · rw [hC]; exact q
end
/-! ### the table TURNED -/
theorem kv_ok {es : List DictEntry} {kvs : List (Str × Str)} (h : es.map kvE = kvs.map some) : Paired (fun (e : DictEntry) (q : Str × Str) => ∃ t u, e.key = .str q.1 t ∧ e.val = .str q.2 u) es kvs := by
  induction es generalizing kvs with
  | nil =>
    cases kvs with
    | nil => exact .nil
    | cons a l => cases h
  | cons e es ih =>
    cases kvs with
    | nil => cases h
    | cons a l =>
      have h' : kvE e :: es.map kvE = some a :: l.map some := h
      injection h' with h1 h2
      refine .cons ?_ (ih h2)
      unfold kvE at h1
      split at h1
      · rename_i x t y u e1 e2
        cases h1
        exact ⟨t, u, e1, e2⟩
      · cases h1
theorem turned_ok {P : Program} {w : World} {K : Frag} (c1 : He.dicW K (He.ga K "TURNED") = some (He.keysIn w.params [kR, kF])) (c2 : bTab "TURNED" [(kR, kF), (kF, kR)] K = true) : TurnD K w (He.ga K "TURNED") ∧ TurnK P w K (He.ga K "TURNED") := by
  obtain ⟨es, n, kd⟩ := He.dicW_ok c1
  unfold bTab at c2
  have hat := kd.at_
  rw [hat] at c2
  have pr := kv_ok (of_decide_eq_true c2)
  obtain ⟨l, hl⟩ : ∃ l, es.toList = l := ⟨_, rfl⟩
  rw [hl] at pr
  cases pr with
  | @cons e1 _ r1 _ q1 pr =>
    cases pr with
    | @cons e2 _ r2 _ q2 pr =>
      cases pr with
      | nil =>
        obtain ⟨t1, u1, k1, v1⟩ := q1
        obtain ⟨t2, u2, k2, v2⟩ := q2
        have hsz : es.size = 2 := by rw [← Array.length_toList, hl]; rfl
        have hRF : ¬ kR = kF := by decide +kernel
        refine ⟨⟨⟨es, n, kd⟩, fun z => ?_⟩, ⟨⟨es, n, kd, hsz⟩, fun h hin => ?_⟩⟩
        · have key : PySem.W.nsIn K (He.ga K "TURNED") z = (match es.toList.find? (·.key.isStr z) with
            | some e => some (some e.val)
            | none => if es.toList.any (·.refKey) then none else some none) := by
            unfold PySem.W.nsIn; rw [hat]; rfl
          rw [key, hl]
          have a1 : e1.key.isStr z = decide (kR = z) := by
            rw [k1]
            show (kR == z) = _
            exact Bool.beq_eq_decide_eq _ _
          have a2 : e2.key.isStr z = decide (kF = z) := by
            rw [k2]
            show (kF == z) = _
            exact Bool.beq_eq_decide_eq _ _
          have rk1 : e1.refKey = false := by unfold DictEntry.refKey; rw [k1]
          have rk2 : e2.refKey = false := by unfold DictEntry.refKey; rw [k2]
          unfold isTurnS turnS
          by_cases h1 : z = kR
          · subst h1
            refine ⟨some e1.val, ?_, by simp, fun u hu => ?_⟩
            · simp [List.find?, a1]
            · cases hu; rw [v1]; simp; exact ⟨u1, rfl⟩
          · by_cases h2 : z = kF
            · subst h2
              refine ⟨some e2.val, ?_, by simp, fun u hu => ?_⟩
              · have : decide (kR = kF) = false := decide_eq_false hRF
                simp [List.find?, a1, a2, this]
              · cases hu; rw [v2]; rw [if_neg h1, if_pos rfl]; exact ⟨u2, rfl⟩
            · refine ⟨none, ?_, ?_, fun u hu => by cases hu⟩
              · have b1 : decide (kR = z) = false := decide_eq_false (fun q => h1 q.symm)
                have b2 : decide (kF = z) = false := decide_eq_false (fun q => h2 q.symm)
                simp [List.find?, a1, a2, b1, b2, rk1, rk2]
              · simp [h1, h2]
        · refine ⟨[(kR, e1.val), (kF, e2.val)], n, ⟨_, es, hin _ _ hat, ⟨rfl, rfl, rfl⟩, rfl, ?_, ?_, ?_⟩, rfl, es, hat⟩
          · intro e he
            obtain ⟨x, t, d1, d2⟩ := kd.lit.all e (Array.mem_toList_iff.mpr he)
            exact ⟨x, by rw [d1]; exact strKind_is P w x t, d2⟩
          · rw [hl]
            exact .cons (by rw [k1]; exact strKind_is P w kR t1) rfl (.cons (by rw [k2]; exact strKind_is P w kF t2) rfl .nil)
          · show [kR, kF].Nodup
            decide +kernel
/-! ### the end -/
theorem law_binds {K : Frag} {st : Stmt} {f : Addr} {fd : FuncData} {x p : Str} {qual : Str} (F : Fun K x qual st f fd)
    (h : ∀ (kV doc pm : Value) (an : Option Addr) (cdv ct : Value) (us : List Value), us.length = [p].length → bindArgs (PySem.W.fnOf x qual (defArgs st) (defBody st) (defScope st) .none kV doc pm an cdv ct) ⟨us, []⟩ = pure ([p].zip us)) (s : Shared) (u : Value) : BindsTo s fd ⟨[u], []⟩ [(p, u)] := by
  obtain ⟨oc, od, kV, doc, pm, an, cdv, ct, osl, rfl, lk, hcd⟩ := F.ex
  exact .of_eq (h kV doc pm an cdv ct [u] rfl)
theorem law_sp {g : G} (hT : g.T = []) {f : Fn} {H : Hp} {a : Addr} {ns : List Int} (hO : Only H) (hS : SqL g.K H a (ns.map V.int)) (hp : ∃ m', f [.kl (ns.map D.int)] [] = .ok (.bl true) m') (E : XK) : spOf g f [.ref a] H (fun v _ => v = .bl true) E := by
  obtain ⟨m', hp⟩ := hp
  have hF : SqK g.K H a (ns.map V.int) := by
    rcases hS with (h | ⟨o, h⟩) | h
    · rcases hO a with z | ⟨o, xs, z⟩
      · rw [h] at z; cases z
      · rw [h] at z; cases z
    · exact .inl ⟨o, h⟩
    · exact .inr h
  refine ⟨[], [], [.kl (ns.map D.int)], ⟨rfl, fun i j a h => by simp at h, fun i a c h => by simp at h, by rw [hT]; exact fun p hp => absurd hp (by simp)⟩, .cons (.kl hF DenL.ints) .nil, ?_⟩
  rw [hp]
  intro ρ' H' v u s dv
  cases dv
  rfl
end MT

/-! MTI: the end of a law with lambdas: errors' classes, the script, the tables. -/
namespace MT
open PySem PySem.Spec PyProof.Rows L2
theorem bErr_ok {K : Frag} {c : Str} (h : bErr c K = true) : ErrF K (fun x => He.ga K x) c := by
  obtain ⟨h1, h⟩ := He.ba h
  obtain ⟨h2, h⟩ := He.ba h
  obtain ⟨h3, h⟩ := He.ba h
  obtain ⟨h4, h⟩ := He.ba h
  obtain ⟨h5, h⟩ := He.ba h
  obtain ⟨h6, h⟩ := He.ba h
  obtain ⟨h7, h⟩ := He.ba h
  obtain ⟨h8, h⟩ := He.ba h
  obtain ⟨h9, h⟩ := He.ba h
  obtain ⟨h10, h⟩ := He.ba h
  obtain ⟨h11, h⟩ := He.ba h
  obtain ⟨h12, h⟩ := He.ba h
  obtain ⟨h13, h14⟩ := He.ba h
  exact ⟨⟨h1, h2, of_decide_eq_true h3, of_decide_eq_true h4⟩, ⟨He.eqO_ok h5, He.eqO_ok h6, of_decide_eq_true h3, h7, He.eqO_ok h8, He.eqO_ok h9, of_decide_eq_true h10, of_decide_eq_true h11⟩,
    fun t ht => of_decide_eq_true (List.all_eq_true.mp h12 t ht), of_decide_eq_true h13, of_decide_eq_true h14⟩
theorem bErrs_ok {K : Frag} (h : bErrs K = true) : ∀ c, okErr c = true → ErrF K (fun x => He.ga K x) c := fun c hc =>
  bErr_ok (List.all_eq_true.mp h c (of_decide_eq_true (show decide (c ∈ okNames) = true from hc)))
theorem law_spT {g : G} {P0 : Addr} {q : Str} (hT : g.T = [(P0, q)]) {f : Fn} {H : Hp} {a : Addr} {ns : List Int} (h0 : H P0 = some (.tbl #[])) (hS : SqL g.K H a (ns.map V.int)) (hp : ∃ m', f [.kl (ns.map D.int)] [] = .ok (.bl true) m') (E : XK) :
    spOf g f [.ref a] H (fun v _ => v = .bl true) E ∨ ∃ a' xs, H a' = some (.lst xs) ∧ ∀ o, spOf g f [.ref a] (upd H a' (.frz o (.lst xs))) (fun v _ => v = .bl true) E := by
  obtain ⟨m', hp⟩ := hp
  have key : ∀ H : Hp, H P0 = some (.tbl #[]) → SqK g.K H a (ns.map V.int) → spOf g f [.ref a] H (fun v _ => v = .bl true) E := fun H h0 hF => by
    refine ⟨[], [], [.kl (ns.map D.int)], ⟨rfl, fun i j a h => by simp at h, fun i a c h => by simp at h, ?_⟩, .cons (.kl hF DenL.ints) .nil, ?_⟩
    · rw [hT]
      intro p hp
      rw [List.mem_singleton.mp hp]
      exact LamX.TabS.nil h0
    · rw [hp]
      intro ρ' H' v u s dv
      cases dv
      rfl
  rcases hS with (h | ⟨o, h⟩) | h
  · refine .inr ⟨a, _, h, fun o => key _ ?_ (.inl ⟨o, upd_same⟩)⟩
    rw [upd_ne (ne_of h0 h fun z => nomatch z)]
    exact h0
  · exact .inl (key H h0 (.inl ⟨o, h⟩))
  · exact .inl (key H h0 (.inr h))
/-- the code object of a def of the module -/
theorem code_of {K : Frag} {x : Str} {st : Stmt} {fd : FuncData} (F : Fun K x x st (atG x K) fd) : fd.code = .ref (He.cT K (x, none)).1 := by
  obtain ⟨oc, od, kV, doc, pm, an, cdv, ct, osl, rfl, lk, hc⟩ := F.ex
  obtain ⟨c, e⟩ := He.codeIn_ref hc
  have e2 : He.codeOf K (x, none) = c := He.codeOf_eq (p := (x, none)) lk e
  show cdv = Value.ref (He.codeOf K (x, none))
  rw [e2, e]
end MT

/-! The defs of the text as programs of the little language; their rules. -/
namespace MT
open PySem PySem.Spec PyProof.Rows L2 StX
def N_is_int_in : List Str := ["value", "low", "high"]
noncomputable def P_is_int_in : PgS :=
  (sRet (pAnd (p1 (gIsi "int") (pVar 0)) (pAnd (p1 gNot (p1 (gIsi "bool") (pVar 0))) (pChain gLe gLe (pVar 1) (pVar 0) (pVar 2)))))
noncomputable def f_is_int_in : Fn := runD 3 3 (P_is_int_in)
def N_thrown : List Str := ["sign", "way", "down", "right"]
noncomputable def P_thrown : PgS :=
  (sSeq (sIf (p2 (gEqS false) (pVar 0) (pC (.str "."))) (sRet (pVar 1)) sNil)
    (sSeq (sAsgT (.tp [2, 3]) (pVar 1))
    (sRet (pIf (p2 (gInS false) (pVar 0) (pC (.str "rR"))) (pF gTup [(p2 gSub (pC (.int 0)) (pVar 3)), (p2 gSub (pC (.int 0)) (pVar 2))]) (pF gTup [(pVar 3), (pVar 2)])))))
noncomputable def f_thrown : Fn := runD 2 4 (P_thrown)
def N___init__ : List Str := ["self", "rows", "turning", "row", "line", "column", "sign"]
noncomputable def P___init__ : PgS :=
  (sSeq (sIf (p2 (gEqD false false) (pVar 1) (pF gTup [])) sBad sNil)
    (sSeq (sSet 2 (pC (.int 0)))
    (sFor (iEnT (pVar 1)) (.tp [3, 4]) (sSeq (sIf (pOr (p2 (gEqS false) (pVar 3) (pC (.int 8))) (pOr (p1 gNot (p1 (gIsi "str") (pVar 4))) (p2 (gEqS false) (pVar 4) (pC (.str ""))))) sBad sNil)
    (sSeq (sFor (iEnS (pVar 4)) (.tp [5, 6]) (sSeq (sAug 2 (· + ·) (pF gInt [(p1 gInTurn (pVar 6))]))
    (sIf (pOr (p2 (gEqS false) (pVar 5) (pF gMin2 [(pC (.int 8)), (pF gLen [(p2 gIx (pVar 1) (pC (.int 0)))])])) (pOr (p2 (gInS true) (pVar 6) (pC (.str ".rfRF"))) (p2 gGt (pVar 2) (pC (.int 10))))) sBad sNil)))
    (sIf (p2 gLt (pF gLen [(pVar 4)]) (pF gLen [(p2 gIx (pVar 1) (pC (.int 0)))])) sBad sNil))))))
noncomputable def PN___init__ : Pg := (p2 gMul (pC (.int 2)) (p2 gAdd (pF gLen [(pVar 1)]) (pF gLen [(p2 gIx (pVar 1) (pC (.int 0)))])))
def N_parse : List Str := ["cls", "text", "rows"]
noncomputable def P_parse (CR : Addr) : PgS :=
  (sSeq (sSet 2 (pFz (p1 (gSplit "\n") (pVar 1))))
    (sRet (pMkV 0 CR (pVar 2))))
noncomputable def f_parse (CR : Addr) : Fn := runD 2 3 (P_parse CR)
def N_rows : List Str := ["self"]
noncomputable def P_rows : PgS :=
  (sRet (p1 gLines (pVar 0)))
noncomputable def f_rows : Fn := runD 1 1 (P_rows)
def N_text : List Str := ["self"]
noncomputable def P_text : PgS :=
  (sRet (pSm gJoin (pC (.str "\n")) [(p1 gLines (pVar 0))]))
noncomputable def f_text : Fn := runD 1 1 (P_text)
def N_size : List Str := ["self"]
noncomputable def P_size : PgS :=
  (sRet (pF gTup [(pF gLen [(p1 gLines (pVar 0))]), (pF gLen [(p2 gIx (p1 gLines (pVar 0)) (pC (.int 0)))])]))
noncomputable def f_size : Fn := runD 1 1 (P_size)
def N_turning : List Str := ["self", "found", "row", "line", "column", "sign"]
noncomputable def P_turning : PgS :=
  (sSeq (sSet 1 (pF gList []))
    (sSeq (sFor (iEnT (p1 gLines (pVar 0))) (.tp [2, 3]) (sExpr (pLm gExtend (pVar 1) [(pLc (iEnS (pVar 3)) [4, 5] (.tp [4, 5]) (p1 gInTurn (pVar 5)) (pF gTup [(pVar 2), (pVar 4)]))])))
    (sRet (pVar 1))))
noncomputable def f_turning : Fn := runD 1 6 (P_turning)
def N_entry : List Str := ["self", "port", "height", "width"]
noncomputable def P_entry : PgS :=
  (sSeq (sAsgT (.tp [2, 3]) (pRm f_size (pVar 0) []))
    (sSeq (sIf (p2 gLt (pVar 1) (pVar 3)) (sRet (pF gTup [(pC (.int 0)), (pVar 1), (pC (.tup [.int 1, .int 0]))])) sNil)
    (sSeq (sSet 1 (p2 gSub (pVar 1) (pVar 3)))
    (sSeq (sIf (p2 gLt (pVar 1) (pVar 2)) (sRet (pF gTup [(pVar 1), (p2 gSub (pVar 3) (pC (.int 1))), (pC (.tup [.int 0, .int (-1)]))])) sNil)
    (sSeq (sSet 1 (p2 gSub (pVar 1) (pVar 2)))
    (sSeq (sIf (p2 gLt (pVar 1) (pVar 3)) (sRet (pF gTup [(p2 gSub (pVar 2) (pC (.int 1))), (pVar 1), (pC (.tup [.int (-1), .int 0]))])) sNil)
    (sRet (pF gTup [(p2 gSub (pVar 1) (pVar 3)), (pC (.int 0)), (pC (.tup [.int 0, .int 1]))]))))))))
noncomputable def f_entry : Fn := runD 2 4 (P_entry)
def N_exit_of : List Str := ["self", "row", "column", "height", "width"]
noncomputable def P_exit_of : PgS :=
  (sSeq (sAsgT (.tp [3, 4]) (pRm f_size (pVar 0) []))
    (sSeq (sIf (p2 gLt (pVar 1) (pC (.int 0))) (sRet (pVar 2)) sNil)
    (sSeq (sIf (p2 (gEqS false) (pVar 2) (pVar 4)) (sRet (p2 gAdd (pVar 4) (pVar 1))) sNil)
    (sSeq (sIf (p2 (gEqS false) (pVar 1) (pVar 3)) (sRet (p2 gAdd (p2 gAdd (pVar 4) (pVar 3)) (pVar 2))) sNil)
    (sRet (p2 gAdd (p2 gAdd (p2 gMul (pC (.int 2)) (pVar 4)) (pVar 3)) (pVar 1)))))))
noncomputable def f_exit_of : Fn := runD 3 5 (P_exit_of)
def N___len__ : List Str := ["self"]
noncomputable def P___len__ : PgS :=
  (sRet (p1 gPorts (pVar 0)))
noncomputable def f___len__ : Fn := runD 1 1 (P___len__)
def N_has_port : List Str := ["self", "port"]
noncomputable def P_has_port : PgS :=
  (sRet (pF (f_is_int_in) [(pVar 1), (pC (.int 0)), (p2 gSub (pF (gLenU f___len__) [(pVar 0)]) (pC (.int 1)))]))
noncomputable def f_has_port : Fn := runD 2 2 (P_has_port)
def N_beam : List Str := ["self", "port", "grid", "line", "height", "width", "row", "column", "way", "passed", "sign", "lines"]
noncomputable def P_beam : PgS :=
  (sSeq (sSet 2 (pLc (iTp (p1 gLines (pVar 0))) [3] (.nm 3) (pC (.bl true)) (pF gListS [(pVar 3)])))
    (sSeq (sAsgT (.tp [4, 5]) (pRm f_size (pVar 0) []))
    (sSeq (sAsgT (.tp [6, 7, 8]) (pRm f_entry (pVar 0) [(pVar 1)]))
    (sSeq (sSet 9 (pF gList []))
    (sSeq (sWhile (pAnd (pChain gLe gLt (pC (.int 0)) (pVar 6) (pVar 4)) (pChain gLe gLt (pC (.int 0)) (pVar 7) (pVar 5))) (sSeq (sExpr (pLm gAppend (pVar 9) [(pF gTup [(pVar 6), (pVar 7)])]))
    (sSeq (sSet 10 (p2 gIx (p2 gIx (pVar 2) (pVar 6)) (pVar 7)))
    (sSeq (sSet 8 (pF (f_thrown) [(pVar 10), (pVar 8)]))
    (sSeq (sSub (p2 gIx (pVar 2) (pVar 6)) (pVar 7) (p2 gTurnGet (pVar 10) (pVar 10)))
    (sPar 6 7 [(p2 gAdd (pVar 6) (p2 gIx (pVar 8) (pC (.int 0)))), (p2 gAdd (pVar 7) (p2 gIx (pVar 8) (pC (.int 1))))]))))))
    (sSeq (sSet 11 (pFz (pLc (iSeq (pVar 2)) [3] (.nm 3) (pC (.bl true)) (pSm gJoin (pC (.str "")) [(pVar 3)]))))
    (sRet (pF gTup [(pRm f_exit_of (pVar 0) [(pVar 6), (pVar 7)]), (pVar 9), (pMk (pVar 11))]))))))))
noncomputable def f_beam : Fn := runD 2 12 (P_beam)
def N___call__ : List Str := ["self", "port", "leaving", "passed", "room"]
noncomputable def P___call__ : PgS :=
  (sSeq (sIf (p1 gNot (pRm f_has_port (pVar 0) [(pVar 1)])) sBad sNil)
    (sSeq (sAsgT (.tp [2, 3, 4]) (pRm (fzF f_beam) (pVar 0) [(pVar 1)]))
    (sRet (pF gTup [(pVar 2), (pVar 4)]))))
noncomputable def f___call__ : Fn := runD 2 5 (P___call__)
def N___eq__ : List Str := ["self", "other"]
noncomputable def P___eq__ : PgS :=
  (sRet (pAnd (p1 gIsR (pVar 1)) (p2 (gEqD false false) (p1 gLines (pVar 0)) (p1 gLines (pVar 1)))))
noncomputable def f___eq__ : Fn := runD 2 2 (P___eq__)
def N___bool__ : List Str := ["self", "line", "sign"]
noncomputable def P___bool__ : PgS :=
  (sRet (pF gAny [(pFz (pLc2 (iTp (p1 gLines (pVar 0))) [1, 2] (.nm 1) (pC (.bl true)) iTurned [2] (.nm 2) (pC (.bl true)) (p2 (gInS false) (pVar 2) (pVar 1))))]))
noncomputable def f___bool__ : Fn := runD 1 3 (P___bool__)
def N___getitem__ : List Str := ["self", "at", "height", "width"]
noncomputable def P___getitem__ : PgS :=
  (sSeq (sAsgT (.tp [2, 3]) (pRm f_size (pVar 0) []))
    (sSeq (sIf (pOr (p1 gNot (p1 (gIsi "tuple") (pVar 1))) (p2 (gEqS true) (pF gLen [(pVar 1)]) (pC (.int 2)))) sBad sNil)
    (sSeq (sIf (pOr (p1 gNot (pF (f_is_int_in) [(p2 gIx (pVar 1) (pC (.int 0))), (pC (.int 0)), (p2 gSub (pVar 2) (pC (.int 1)))])) (p1 gNot (pF (f_is_int_in) [(p2 gIx (pVar 1) (pC (.int 1))), (pC (.int 0)), (p2 gSub (pVar 3) (pC (.int 1)))]))) sBad sNil)
    (sRet (p2 gIx (p2 gIx (p1 gLines (pVar 0)) (p2 gIx (pVar 1) (pC (.int 0)))) (p2 gIx (pVar 1) (pC (.int 1))))))))
noncomputable def f___getitem__ : Fn := runD 2 4 (P___getitem__)
def N___invert__ : List Str := ["self", "lines", "sign", "line"]
noncomputable def P___invert__ : PgS :=
  (sSeq (sSet 1 (pFz (pLc (iTp (p1 gLines (pVar 0))) [3] (.nm 3) (pC (.bl true)) (pSm gJoin (pC (.str "")) [(pFz (pLc (iSt (pVar 3)) [2] (.nm 2) (pC (.bl true)) (p2 gTurnGet (pVar 2) (pVar 2))))]))))
    (sRet (pMk (pVar 1))))
noncomputable def f___invert__ : Fn := runD 1 4 (P___invert__)
def N_check_port : List Str := ["room", "port"]
noncomputable def P_check_port : PgS :=
  (sIf (p1 gNot (pRm f_has_port (pVar 0) [(pVar 1)])) sBad sNil)
noncomputable def f_check_port : Fn := runD 2 2 (P_check_port)
noncomputable def PX_check_port : PgS :=
  (sIf (p1 gNot (pRm (nx f_has_port) (pVar 0) [(pVar 1)])) (sRaise "UnknownPort") sNil)
noncomputable def fX_check_port : Fn := runD 2 2 PX_check_port
def N_path : List Str := ["room", "port", "at"]
noncomputable def P_path : PgG :=
  (ygSeq (ygPlain (sExpr (pF (f_check_port) [(pVar 0), (pVar 1)]))) (ygSeq (ygFor (iSeq (p2 gIx (pRm (fzF f_beam) (pVar 0) [(pVar 1)]) (pC (.int 1)))) (.nm 2) (ygSeq (ygYield (pVar 2)) ygNil)) ygNil))
noncomputable def f_path : FnG := runG 2 3 P_path
def N_send : List Str := ["room", "ports", "port", "found", "leaving"]
noncomputable def P_send : PgS :=
  (sSeq (sFor (iTp (pVar 1)) (.nm 2) (sExpr (pF (f_check_port) [(pVar 0), (pVar 2)])))
    (sSeq (sSet 3 (pF gList []))
    (sSeq (sFor (iTp (pVar 1)) (.nm 2) (sSeq (sAsgT (.tp [4, 0]) (pRm f___call__ (pVar 0) [(pVar 2)]))
    (sExpr (pLm gAppend (pVar 3) [(pVar 4)]))))
    (sRet (pF gTup [(pVar 3), (pVar 0)])))))
noncomputable def f_send : Fn := runV 1 5 (P_send)
noncomputable def PX_send : PgS :=
  (sSeq (sFor (iTp (pVar 1)) (.nm 2) (sExpr (pF (fX_check_port) [(pVar 0), (pVar 2)])))
    (sSeq (sSet 3 (pF gList []))
    (sSeq (sFor (iTp (pVar 1)) (.nm 2) (sSeq (sAsgT (.tp [4, 0]) (pRm (nx f___call__) (pVar 0) [(pVar 2)]))
    (sExpr (pLm gAppend (pVar 3) [(pVar 4)]))))
    (sRet (pF gTup [(pVar 3), (pVar 0)])))))
noncomputable def fX_send : Fn := runV 1 5 PX_send
def N_unsent : List Str := ["room", "exits", "turned", "found", "before"]
noncomputable def P_unsent : PgS :=
  (sSeq (sSet 2 (p1 gRevT (pVar 1)))
    (sSeq (sAsgT (.tp [3, 4]) (pFL (fzF (f_send)) (plCons (pRm f___invert__ (pVar 0) []) (plStar (pVar 2) plNil))))
    (sRet (pF gTup [(pFz (p1 gRev (pVar 3))), (pRm f___invert__ (pVar 4) [])]))))
noncomputable def f_unsent : Fn := runV 1 5 (P_unsent)
noncomputable def PL_unsent : PgS :=
  (sSeq (sSet 2 (p1 gRevT (pVar 1)))
    (sSeq (sAsgT (.tp [3, 4]) (pFL (fzF (f_send)) (plCons (pRm f___invert__ (pVar 0) []) (plStar (pVar 2) plNil))))
    (sRet (pF gTup [(p1 gRev (pVar 3)), (pRm f___invert__ (pVar 4) [])]))))
noncomputable def fL_unsent : Fn := runV 1 5 PL_unsent
noncomputable def PX_unsent : PgS :=
  (sSeq (sSet 2 (p1 gRevT (pVar 1)))
    (sSeq (sAsgT (.tp [3, 4]) (pFL (fX_send) (plCons (pRm (nx f___invert__) (pVar 0) []) (plStar (pVar 2) plNil))))
    (sRet (pF gTup [(p1 gRev (pVar 3)), (pRm (nx f___invert__) (pVar 4) [])]))))
noncomputable def fX_unsent : Fn := runV 1 5 PX_unsent
def N_check_tile : List Str := ["room", "at", "height", "width"]
noncomputable def P_check_tile : PgS :=
  (sSeq (sAsgT (.tp [2, 3]) (pRm f_size (pVar 0) []))
    (sSeq (sIf (pOr (p1 gNot (p1 (gIsi "tuple") (pVar 1))) (p2 (gEqS true) (pF gLen [(pVar 1)]) (pC (.int 2)))) sBad sNil)
    (sIf (pOr (p1 gNot (pF (f_is_int_in) [(p2 gIx (pVar 1) (pC (.int 0))), (pC (.int 0)), (p2 gSub (pVar 2) (pC (.int 1)))])) (p1 gNot (pF (f_is_int_in) [(p2 gIx (pVar 1) (pC (.int 1))), (pC (.int 0)), (p2 gSub (pVar 3) (pC (.int 1)))]))) sBad sNil)))
noncomputable def f_check_tile : Fn := runD 2 4 (P_check_tile)
def N_with_sign : List Str := ["room", "at", "sign", "lines"]
noncomputable def P_with_sign : PgS :=
  (sSeq (sSet 3 (pF gListOf [(pRm f_rows (pVar 0) [])]))
    (sSeq (sSub (pVar 3) (p2 gIx (pVar 1) (pC (.int 0))) (p2 gAdd (p2 gAdd (p2 gSlU (p2 gIx (pVar 3) (p2 gIx (pVar 1) (pC (.int 0)))) (p2 gIx (pVar 1) (pC (.int 1)))) (pVar 2)) (p2 gSlL (p2 gIx (pVar 3) (p2 gIx (pVar 1) (pC (.int 0)))) (p2 gAdd (p2 gIx (pVar 1) (pC (.int 1))) (pC (.int 1))))))
    (sRet (pMk (pVar 3)))))
noncomputable def f_with_sign : Fn := runD 3 4 (P_with_sign)
def N_Bench___init__ : List Str := ["self", "room"]
noncomputable def P_Bench___init__ : PgS :=
  (sSeq (sFldC "Bench" "now" (pVar 0) (pF gTup [(pVar 1), (pC (.int 0))]))
    (sSeq (sFldC "Bench" "past" (pVar 0) (pF gList []))
    (sSeq (sFldC "Bench" "undone" (pVar 0) (pF gList []))
    (sFldC "Bench" "saved" (pVar 0) (pF gDict0 [])))))
noncomputable def f_Bench___init__ : Fn := runD 2 2 (P_Bench___init__)
def N_Bench_record : List Str := ["self", "word", "now"]
noncomputable def P_Bench_record : PgS :=
  (sSeq (sExpr (pLm gAppend (p1 (gFld "Bench" "past") (pVar 0)) [(pF gTup [(pVar 1), (p1 (gFld "Bench" "now") (pVar 0)), (pVar 2)])]))
    (sSeq (sFldC "Bench" "undone" (pVar 0) (pF gList []))
    (sFldC "Bench" "now" (pVar 0) (pVar 2))))
noncomputable def f_Bench_record : Fn := runD 3 3 (P_Bench_record)
def N_Bench_beam : List Str := ["self", "port", "room", "count", "leaving", "later"]
noncomputable def P_Bench_beam : PgS :=
  (sSeq (sAsgT (.tp [2, 3]) (p1 (gFld "Bench" "now") (pVar 0)))
    (sSeq (sAsgT (.tp [4, 5]) (pRm f___call__ (pVar 2) [(pVar 1)]))
    (sSeq (sExpr (pOm "Bench" "record" f_Bench_record (pVar 0) [(pC (.str "beam")), (pF gTup [(pVar 5), (p2 gAdd (pVar 3) (pF gLen [(p2 gIx (pRm (fzF f_beam) (pVar 2) [(pVar 1)]) (pC (.int 1)))]))])]))
    (sRet (pVar 4)))))
noncomputable def f_Bench_beam : Fn := runD 2 6 (P_Bench_beam)
def N_Bench_turn : List Str := ["self", "row", "column", "room", "count", "sign"]
noncomputable def P_Bench_turn : PgS :=
  (sSeq (sAsgT (.tp [3, 4]) (p1 (gFld "Bench" "now") (pVar 0)))
    (sSeq (sExpr (pF (f_check_tile) [(pVar 3), (pF gTup [(pVar 1), (pVar 2)])]))
    (sSeq (sSet 5 (p2 (gGetR f___getitem__) (pVar 3) (pF gTup [(pVar 1), (pVar 2)])))
    (sSeq (sIf (p1 gNotTurn (pVar 5)) sBad sNil)
    (sSeq (sExpr (pOm "Bench" "record" f_Bench_record (pVar 0) [(pC (.str "turn")), (pF gTup [(pF (f_with_sign) [(pVar 3), (pF gTup [(pVar 1), (pVar 2)]), (p1 gTurnIx (pVar 5))]), (pVar 4)])]))
    (sRet (p1 gTurnIx (pVar 5))))))))
noncomputable def f_Bench_turn : Fn := runD 3 6 (P_Bench_turn)
def N_Bench_turn_all : List Str := ["self", "room", "count"]
noncomputable def P_Bench_turn_all : PgS :=
  (sSeq (sAsgT (.tp [1, 2]) (p1 (gFld "Bench" "now") (pVar 0)))
    (sSeq (sExpr (pOm "Bench" "record" f_Bench_record (pVar 0) [(pC (.str "turn_all")), (pF gTup [(pRm f___invert__ (pVar 1) []), (pVar 2)])]))
    (sRet (pF gLen [(pRm (fzF f_turning) (pVar 1) [])]))))
noncomputable def f_Bench_turn_all : Fn := runD 1 3 (P_Bench_turn_all)
def N_Bench_undo : List Str := ["self", "entry"]
noncomputable def P_Bench_undo : PgS :=
  (sSeq (sIf (p2 (gEqD false false) (p1 (gFld "Bench" "past") (pVar 0)) (pFz (pF gList []))) (sRet (pC (.bl false))) sNil)
    (sSeq (sSet 1 (p1 gPop (p1 (gFld "Bench" "past") (pVar 0))))
    (sSeq (sExpr (pLm gAppend (p1 (gFld "Bench" "undone") (pVar 0)) [(pVar 1)]))
    (sSeq (sFldC "Bench" "now" (pVar 0) (p2 gIx (pVar 1) (pC (.int 1))))
    (sRet (pC (.bl true)))))))
noncomputable def f_Bench_undo : Fn := runD 1 2 (P_Bench_undo)
def N_Bench_redo : List Str := ["self", "entry"]
noncomputable def P_Bench_redo : PgS :=
  (sSeq (sIf (p2 (gEqD false false) (p1 (gFld "Bench" "undone") (pVar 0)) (pFz (pF gList []))) (sRet (pC (.bl false))) sNil)
    (sSeq (sSet 1 (p1 gPop (p1 (gFld "Bench" "undone") (pVar 0))))
    (sSeq (sExpr (pLm gAppend (p1 (gFld "Bench" "past") (pVar 0)) [(pVar 1)]))
    (sSeq (sFldC "Bench" "now" (pVar 0) (p2 gIx (pVar 1) (pC (.int 2))))
    (sRet (pC (.bl true)))))))
noncomputable def f_Bench_redo : Fn := runD 1 2 (P_Bench_redo)
def N_Bench_room_now : List Str := ["self"]
noncomputable def P_Bench_room_now : PgS :=
  (sRet (p2 gIx (p1 (gFld "Bench" "now") (pVar 0)) (pC (.int 0))))
noncomputable def f_Bench_room_now : Fn := runD 1 1 (P_Bench_room_now)
def N_Bench_passes : List Str := ["self"]
noncomputable def P_Bench_passes : PgS :=
  (sRet (p2 gIx (p1 (gFld "Bench" "now") (pVar 0)) (pC (.int 1))))
noncomputable def f_Bench_passes : Fn := runD 1 1 (P_Bench_passes)
def N_Bench_operations : List Str := ["self", "entry"]
noncomputable def P_Bench_operations : PgS :=
  (sRet (pLc (iSeq (p1 (gFld "Bench" "past") (pVar 0))) [1] (.nm 1) (pC (.bl true)) (p2 gIx (pVar 1) (pC (.int 0)))))
noncomputable def f_Bench_operations : Fn := runD 1 2 (P_Bench_operations)
def N__law_random : List Str := ["_law_script", "_law_salt", "_law_seed", "_law_cell"]
noncomputable def P__law_random : PgS :=
  (sSeq (sSet 2 (pVar 1))
    (sSeq (sFor (iSeq (pVar 0)) (.nm 3) (sSet 2 (p2 gMod (p2 gAdd (p2 gMul (pVar 2) (pC (.int 31))) (pF gAbs [(pVar 3)])) (pC (.int 2147483647)))))
    (sRet (p2 gAdd (pFz (pF gList [(pVar 2), (pC (.int 0))])) (pFz (pLc (iSeq (pVar 0)) [3] (.nm 3) (p2 gGe (pVar 3) (p2 gPow (pC (.int 10)) (pC (.int 18)))) (pVar 3)))))))
noncomputable def f__law_random : Fn := runD 2 4 (P__law_random)
def N__law_room : List Str := ["_law_lines_here"]
noncomputable def P__law_room (CR : Addr) : PgS :=
  (sRet (pCm (f_parse CR) CR [(pSm gJoin (pC (.str "\n")) [(pVar 0)])]))
noncomputable def f__law_room (CR : Addr) : Fn := runD 1 1 (P__law_room CR)
def N__law_below : List Str := ["_law_d", "_law_limit", "_law_result"]
noncomputable def P__law_below : PgS :=
  (sSeq (sIf (pAnd (p2 (gEqS false) (p2 gIx (pVar 0) (pC (.int 1))) (pC (.int 0))) (p2 gGt (pF gLen [(pVar 0)]) (pC (.int 2)))) (sSub (pVar 0) (pC (.int 1)) (pLm gPopAt (pVar 0) [(pC (.int 2))])) sNil)
    (sSeq (sIf (p2 gGt (p2 gIx (pVar 0) (pC (.int 1))) (pC (.int 0))) (sSeq (sSet 2 (p2 gMod (p2 gIx (pVar 0) (pC (.int 1))) (pVar 1)))
    (sSeq (sSub (pVar 0) (pC (.int 1)) (p2 gFdiv (p2 gIx (pVar 0) (pC (.int 1))) (pVar 1)))
    (sRet (pVar 2)))) sNil)
    (sSeq (sSub (pVar 0) (pC (.int 0)) (p2 gMod (p2 gAdd (p2 gMul (p2 gIx (pVar 0) (pC (.int 0))) (pC (.int 48271))) (pC (.int 11))) (pC (.int 2147483647))))
    (sRet (p2 gMod (p2 gFdiv (p2 gIx (pVar 0) (pC (.int 0))) (pC (.int 64))) (pVar 1))))))
noncomputable def f__law_below : Fn := runD 2 3 (P__law_below)
def N__law_lines : List Str := ["_law_d", "_law_most", "_law_turning", "_law_height", "_law_width", "_law_lines_here", "_law_left", "_law_dense", "_law_row", "_law_line", "_law_column", "_law_sign"]
noncomputable def P__law_lines : PgS :=
  (sSeq (sAsgT (.tp [3, 4, 5, 6]) (pF gTup [(p2 gAdd (pC (.int 1)) (pF (f__law_below) [(pVar 0), (pVar 1)])), (p2 gAdd (pC (.int 1)) (pF (f__law_below) [(pVar 0), (pVar 1)])), (pF gList []), (pVar 2)]))
    (sSeq (sSet 7 (p2 gAdd (pC (.int 1)) (pF (f__law_below) [(pVar 0), (pC (.int 4))])))
    (sSeq (sFor (iR1 (pVar 3)) (.nm 8) (sSeq (sSet 9 (pC (.str "")))
    (sSeq (sFor (iR1 (pVar 4)) (.nm 10) (sSeq (sSet 11 (pIf (p2 gLt (pF (f__law_below) [(pVar 0), (pC (.int 5))]) (pVar 7)) (pC (.str ".")) (p2 gIx (pC (.str "rfrfRF")) (pF (f__law_below) [(pVar 0), (pC (.int 6))]))))
    (sSeq (sIf (p2 (gInS false) (pVar 11) (pC (.str "rf"))) (sAsgT (.tp [11, 6]) (pIf (p2 gGt (pVar 6) (pC (.int 0))) (pF gTup [(pVar 11), (p2 gSub (pVar 6) (pC (.int 1)))]) (pF gTup [(p2 gIx (pC (.str "RF")) (pF (f__law_below) [(pVar 0), (pC (.int 2))])), (pC (.int 0))]))) sNil)
    (sSet 9 (p2 gAdd (pVar 9) (pVar 11))))))
    (sExpr (pLm gAppend (pVar 5) [(pVar 9)])))))
    (sRet (pVar 5)))))
noncomputable def f__law_lines : Fn := runD 3 12 (P__law_lines)
def N__law_edges : List Str := ["_law_lines_here", "_law_height", "_law_width", "_law_found", "_law_k"]
noncomputable def P__law_edges : PgS :=
  (sSeq (sAsgT (.tp [1, 2]) (pF gTup [(pF gLen [(pVar 0)]), (pF gLen [(p2 gIx (pVar 0) (pC (.int 0)))])]))
    (sSeq (sSet 3 (pFz (p2 gAdd (pFz (pLc (iR1 (pVar 2)) [4] (.nm 4) (pC (.bl true)) (pF gTup [(p2 gSub (pC (.int 0)) (pC (.int 1))), (pVar 4), (pC (.int 1)), (pC (.int 0))]))) (pFz (pLc (iR1 (pVar 1)) [4] (.nm 4) (pC (.bl true)) (pF gTup [(pVar 4), (pVar 2), (pC (.int 0)), (p2 gSub (pC (.int 0)) (pC (.int 1)))]))))))
    (sRet (p2 gAdd (pFz (p2 gAdd (pVar 3) (pFz (pLc (iR1 (pVar 2)) [4] (.nm 4) (pC (.bl true)) (pF gTup [(pVar 1), (pVar 4), (p2 gSub (pC (.int 0)) (pC (.int 1))), (pC (.int 0))]))))) (pFz (pLc (iR1 (pVar 1)) [4] (.nm 4) (pC (.bl true)) (pF gTup [(pVar 4), (p2 gSub (pC (.int 0)) (pC (.int 1))), (pC (.int 0)), (pC (.int 1))])))))))
noncomputable def f__law_edges : Fn := runD 1 5 (P__law_edges)
def N__law_beam : List Str := ["_law_lines_here", "_law_port", "_law_edges_here", "_law_grid", "_law_passed", "_law_sign", "_law_line", "_law_row", "_law_column", "_law_down", "_law_right", "_law_leaving", "_law_one"]
noncomputable def P__law_beam : PgS :=
  (sSeq (sPar3 2 3 4 [(pF (fzF (f__law_edges)) [(pVar 0)]), (pLc (iSeq (pVar 0)) [6] (.nm 6) (pC (.bl true)) (pLc (iSt (pVar 6)) [5] (.nm 5) (pC (.bl true)) (pVar 5))), (pF gList [])])
    (sSeq (sAsgT (.tp [7, 8, 9, 10]) (p2 gIx (pVar 2) (pVar 1)))
    (sSeq (sPar 7 8 [(p2 gAdd (pVar 7) (pVar 9)), (p2 gAdd (pVar 8) (pVar 10))])
    (sSeq (sWhile (pAnd (pChain gLe gLt (pC (.int 0)) (pVar 7) (pF gLen [(pVar 3)])) (pChain gLe gLt (pC (.int 0)) (pVar 8) (pF gLen [(p2 gIx (pVar 3) (pC (.int 0)))]))) (sSeq (sExpr (pLm gAppend (pVar 4) [(pF gTup [(pVar 7), (pVar 8)])]))
    (sSeq (sSet 5 (p2 gIx (p2 gIx (pVar 3) (pVar 7)) (pVar 8)))
    (sSeq (sIf (p2 (gInT false) (pVar 5) (pFz (pF gList [(pC (.str "r")), (pC (.str "R"))]))) (sPar 9 10 [(p2 gSub (pC (.int 0)) (pVar 10)), (p2 gSub (pC (.int 0)) (pVar 9))]) sNil)
    (sSeq (sIf (p2 (gInT false) (pVar 5) (pFz (pF gList [(pC (.str "f")), (pC (.str "F"))]))) (sPar 9 10 [(pVar 10), (pVar 9)]) sNil)
    (sSeq (sIf (p2 (gInT false) (pVar 5) (pFz (pF gList [(pC (.str "r")), (pC (.str "f"))]))) (sSub (p2 gIx (pVar 3) (pVar 7)) (pVar 8) (pIf (p2 (gEqS false) (pVar 5) (pC (.str "r"))) (pC (.str "f")) (pC (.str "r")))) sNil)
    (sPar 7 8 [(p2 gAdd (pVar 7) (pVar 9)), (p2 gAdd (pVar 8) (pVar 10))])))))))
    (sSeq (sSet 11 (pLm gIndex (pLc (iSeq (pVar 2)) [12] (.nm 12) (pC (.bl true)) (pF gTup [(p2 gIx (pVar 12) (pC (.int 0))), (p2 gIx (pVar 12) (pC (.int 1)))])) [(pF gTup [(pVar 7), (pVar 8)])]))
    (sRet (pF gTup [(pVar 11), (pVar 4), (pFz (pLc (iSeq (pVar 3)) [6] (.nm 6) (pC (.bl true)) (pSm gJoin (pC (.str "")) [(pVar 6)])))])))))))
noncomputable def f__law_beam : Fn := runD 2 13 (P__law_beam)
def N__law_spots : List Str := ["_law_lines_here", "_law_signs", "_law_found", "_law_row", "_law_k"]
noncomputable def P__law_spots : PgS :=
  (sSeq (sSet 2 (pFz (pF gList [])))
    (sSeq (sFor (iR1 (pF gLen [(pVar 0)])) (.nm 3) (sSet 2 (pFz (p2 gAdd (pVar 2) (pFz (pLc (iR1 (pF gLen [(p2 gIx (pVar 0) (pC (.int 0)))])) [4] (.nm 4) (p2 (gInS false) (p2 gIx (p2 gIx (pVar 0) (pVar 3)) (pVar 4)) (pVar 1)) (pF gTup [(pVar 3), (pVar 4)])))))))
    (sRet (pVar 2))))
noncomputable def f__law_spots : Fn := runD 2 5 (P__law_spots)
def N__law_equal : List Str := ["_law_actual", "_law_expected", "_law_k"]
noncomputable def f__law_equal_0 : Fn := runD 2 3 sBad
noncomputable def P__law_equal_1 : PgS :=
  (sSeq (sIf (p2 gIsN (pVar 1) (pC .non)) (sRet (p2 gIsN (pVar 0) (pC .non))) sNil)
    (sSeq (sIf (p1 (gIsi "bool") (pVar 1)) (sRet (pAnd (p1 (gIsi "bool") (pVar 0)) (p2 (gEqS false) (pVar 0) (pVar 1)))) sNil)
    (sSeq (sIf (p1 (gIsi "int") (pVar 1)) (sRet (pAnd (p1 (gIsi "int") (pVar 0)) (pAnd (p1 gNot (p1 (gIsi "bool") (pVar 0))) (p2 (gEqS false) (pVar 0) (pVar 1))))) sNil)
    (sSeq (sIf (p1 (gIsi "str") (pVar 1)) (sRet (pAnd (p1 (gIsi "str") (pVar 0)) (p2 (gEqS false) (pVar 0) (pVar 1)))) sNil)
    (sSeq (sIf (p2 (gEqS true) (p1 (gIsi "tuple") (pVar 1)) (p1 (gIsi "tuple") (pVar 0))) (sRet (pC (.bl false))) sNil)
    (sSeq (sIf (p2 (gEqS true) (p1 (gIsi "list") (pVar 1)) (p1 (gIsi "list") (pVar 0))) (sRet (pC (.bl false))) sNil)
    (sSeq (sIf (p2 (gEqS true) (pF gLen [(pVar 0)]) (pF gLen [(pVar 1)])) (sRet (pC (.bl false))) sNil)
    (sRet (pF gAll [(pFz (pLc (iR1 (pF gLen [(pVar 1)])) [2] (.nm 2) (pC (.bl true)) (pF (f__law_equal_0) [(p2 gIx (pVar 0) (pVar 2)), (p2 gIx (pVar 1) (pVar 2))])))])))))))))
noncomputable def f__law_equal_1 : Fn := runD 2 3 P__law_equal_1
noncomputable def P__law_equal_2 : PgS :=
  (sSeq (sIf (p2 gIsN (pVar 1) (pC .non)) (sRet (p2 gIsN (pVar 0) (pC .non))) sNil)
    (sSeq (sIf (p1 (gIsi "bool") (pVar 1)) (sRet (pAnd (p1 (gIsi "bool") (pVar 0)) (p2 (gEqS false) (pVar 0) (pVar 1)))) sNil)
    (sSeq (sIf (p1 (gIsi "int") (pVar 1)) (sRet (pAnd (p1 (gIsi "int") (pVar 0)) (pAnd (p1 gNot (p1 (gIsi "bool") (pVar 0))) (p2 (gEqS false) (pVar 0) (pVar 1))))) sNil)
    (sSeq (sIf (p1 (gIsi "str") (pVar 1)) (sRet (pAnd (p1 (gIsi "str") (pVar 0)) (p2 (gEqS false) (pVar 0) (pVar 1)))) sNil)
    (sSeq (sIf (p2 (gEqS true) (p1 (gIsi "tuple") (pVar 1)) (p1 (gIsi "tuple") (pVar 0))) (sRet (pC (.bl false))) sNil)
    (sSeq (sIf (p2 (gEqS true) (p1 (gIsi "list") (pVar 1)) (p1 (gIsi "list") (pVar 0))) (sRet (pC (.bl false))) sNil)
    (sSeq (sIf (p2 (gEqS true) (pF gLen [(pVar 0)]) (pF gLen [(pVar 1)])) (sRet (pC (.bl false))) sNil)
    (sRet (pF gAll [(pFz (pLc (iR1 (pF gLen [(pVar 1)])) [2] (.nm 2) (pC (.bl true)) (pF (f__law_equal_1) [(p2 gIx (pVar 0) (pVar 2)), (p2 gIx (pVar 1) (pVar 2))])))])))))))))
noncomputable def f__law_equal_2 : Fn := runD 2 3 P__law_equal_2
noncomputable def P__law_equal_3 : PgS :=
  (sSeq (sIf (p2 gIsN (pVar 1) (pC .non)) (sRet (p2 gIsN (pVar 0) (pC .non))) sNil)
    (sSeq (sIf (p1 (gIsi "bool") (pVar 1)) (sRet (pAnd (p1 (gIsi "bool") (pVar 0)) (p2 (gEqS false) (pVar 0) (pVar 1)))) sNil)
    (sSeq (sIf (p1 (gIsi "int") (pVar 1)) (sRet (pAnd (p1 (gIsi "int") (pVar 0)) (pAnd (p1 gNot (p1 (gIsi "bool") (pVar 0))) (p2 (gEqS false) (pVar 0) (pVar 1))))) sNil)
    (sSeq (sIf (p1 (gIsi "str") (pVar 1)) (sRet (pAnd (p1 (gIsi "str") (pVar 0)) (p2 (gEqS false) (pVar 0) (pVar 1)))) sNil)
    (sSeq (sIf (p2 (gEqS true) (p1 (gIsi "tuple") (pVar 1)) (p1 (gIsi "tuple") (pVar 0))) (sRet (pC (.bl false))) sNil)
    (sSeq (sIf (p2 (gEqS true) (p1 (gIsi "list") (pVar 1)) (p1 (gIsi "list") (pVar 0))) (sRet (pC (.bl false))) sNil)
    (sSeq (sIf (p2 (gEqS true) (pF gLen [(pVar 0)]) (pF gLen [(pVar 1)])) (sRet (pC (.bl false))) sNil)
    (sRet (pF gAll [(pFz (pLc (iR1 (pF gLen [(pVar 1)])) [2] (.nm 2) (pC (.bl true)) (pF (f__law_equal_2) [(p2 gIx (pVar 0) (pVar 2)), (p2 gIx (pVar 1) (pVar 2))])))])))))))))
noncomputable def f__law_equal_3 : Fn := runD 2 3 P__law_equal_3
noncomputable def P__law_equal_4 : PgS :=
  (sSeq (sIf (p2 gIsN (pVar 1) (pC .non)) (sRet (p2 gIsN (pVar 0) (pC .non))) sNil)
    (sSeq (sIf (p1 (gIsi "bool") (pVar 1)) (sRet (pAnd (p1 (gIsi "bool") (pVar 0)) (p2 (gEqS false) (pVar 0) (pVar 1)))) sNil)
    (sSeq (sIf (p1 (gIsi "int") (pVar 1)) (sRet (pAnd (p1 (gIsi "int") (pVar 0)) (pAnd (p1 gNot (p1 (gIsi "bool") (pVar 0))) (p2 (gEqS false) (pVar 0) (pVar 1))))) sNil)
    (sSeq (sIf (p1 (gIsi "str") (pVar 1)) (sRet (pAnd (p1 (gIsi "str") (pVar 0)) (p2 (gEqS false) (pVar 0) (pVar 1)))) sNil)
    (sSeq (sIf (p2 (gEqS true) (p1 (gIsi "tuple") (pVar 1)) (p1 (gIsi "tuple") (pVar 0))) (sRet (pC (.bl false))) sNil)
    (sSeq (sIf (p2 (gEqS true) (p1 (gIsi "list") (pVar 1)) (p1 (gIsi "list") (pVar 0))) (sRet (pC (.bl false))) sNil)
    (sSeq (sIf (p2 (gEqS true) (pF gLen [(pVar 0)]) (pF gLen [(pVar 1)])) (sRet (pC (.bl false))) sNil)
    (sRet (pF gAll [(pFz (pLc (iR1 (pF gLen [(pVar 1)])) [2] (.nm 2) (pC (.bl true)) (pF (f__law_equal_3) [(p2 gIx (pVar 0) (pVar 2)), (p2 gIx (pVar 1) (pVar 2))])))])))))))))
noncomputable def f__law_equal_4 : Fn := runD 2 3 P__law_equal_4
def N__law_error_of : List Str := ["_law_call", "e", "_law_kinds", "_law_names", "_law_name"]
noncomputable def pS__law_error_of (c : Str) (aE : Addr) : PgS :=
  (sSeq (sSet 2 (pF gList [(p1 (gAdr aE (decide (("InvalidRoom" : Str) = c))) (pVar 1)), (p1 (gAdr aE (decide (("UnknownPort" : Str) = c))) (pVar 1)), (p1 (gAdr aE (decide (("UnknownTile" : Str) = c))) (pVar 1))]))
    (sSeq (sSet 2 (p2 gAdd (pVar 2) (pF gList [(p1 (gAdr aE (decide (("InvalidNumber" : Str) = c))) (pVar 1)), (p1 (gAdr aE (decide (("OtherRoom" : Str) = c))) (pVar 1)), (p1 (gAdr aE (decide (("TooMany" : Str) = c))) (pVar 1))])))
    (sSeq (sSet 2 (p2 gAdd (pVar 2) (pF gList [(p1 (gAdr aE (decide (("Contradiction" : Str) = c))) (pVar 1)), (p1 (gAdr aE (decide (("NotTurning" : Str) = c))) (pVar 1)), (p1 (gAdr aE (decide (("InvalidName" : Str) = c))) (pVar 1))])))
    (sSeq (sSet 2 (p2 gAdd (pVar 2) (pF gList [(p1 (gAdr aE (decide (("UnknownName" : Str) = c))) (pVar 1)), (p1 (gAdr aE (decide (("InvalidOperation" : Str) = c))) (pVar 1))])))
    (sSeq (sIf (pOr (p2 (gEqS true) (pLw gCount (pVar 2) [(pC (.bl true))]) (pC (.int 1))) (p1 gNot (p1 (gAdr aE true) (pVar 1)))) (sRet (pF gTup [(pC (.str "other")), (pC (.int 0))])) sNil)
    (sSeq (sSet 3 (pF gList [(pC (.str "room")), (pC (.str "port")), (pC (.str "tile")), (pC (.str "number")), (pC (.str "other")), (pC (.str "many")), (pC (.str "contradiction")), (pC (.str "turning")), (pC (.str "name")), (pC (.str "unknown"))]))
    (sSeq (sSet 4 (p2 gIx (p2 gAdd (pVar 3) (pF gList [(pC (.str "operation"))])) (pLw gIndexG (pVar 2) [(pC (.bl true))])))
    (sSeq (sIf (p2 (gEqS false) (pVar 4) (pC (.str "room"))) sBad sNil)
    (sRet (pF gTup [(pVar 4), (pIf (p2 (gEqS false) (pVar 4) (pC (.str "operation"))) pBad (pC (.int 0)))]))))))))))
def N_law : List Str := ["_law_script", "_law_d", "_law_step", "_law_room_here", "_law_ports", "_law_k", "_law_exits", "_law_after", "_law_found", "_law_before", "_law_leaving", "_law_later", "_law_there", "_law_back", "_law_turns", "_law_at", "_law_row", "_law_column", "_law_some", "_law_none"]
noncomputable def P_law (CR : Addr) : PgS :=
  (sSeq (sSet 1 (pF (f__law_random) [(pVar 0), (pC (.int 4))]))
    (sSeq (sFor (iR1 (pC (.int 3))) (.nm 2) (sSeq (sSet 3 (pF (f__law_room CR) [(pF (fzF (f__law_lines)) [(pVar 1), (pC (.int 8)), (pC (.int 10))])]))
    (sSeq (sSet 4 (pFz (pLc (iR1 (pC (.int 4))) [5] (.nm 5) (pC (.bl true)) (pF (f__law_below) [(pVar 1), (pF (gLenU f___len__) [(pVar 3)])]))))
    (sSeq (sAsgT (.tp [6, 7]) (pF (fzF (f_send)) [(pVar 3), (p2 gIx (pVar 4) (pC (.int 0))), (p2 gIx (pVar 4) (pC (.int 1))), (p2 gIx (pVar 4) (pC (.int 2))), (p2 gIx (pVar 4) (pC (.int 3)))]))
    (sSeq (sAsgT (.tp [8, 9]) (pF (fL_unsent) [(pVar 7), (p2 gIx (pVar 6) (pC (.int 0))), (p2 gIx (pVar 6) (pC (.int 1))), (p2 gIx (pVar 6) (pC (.int 2))), (p2 gIx (pVar 6) (pC (.int 3)))]))
    (sSeq (sIf (p1 gNot (pF (f__law_equal_4) [(pFz (pF gList [(pVar 8), (pRm f_rows (pVar 9) [])])), (pFz (pF gList [(pVar 4), (pRm f_rows (pVar 3) [])]))])) (sRet (pC (.bl false))) sNil)
    (sSeq (sExpr (pLm gAppend (pVar 8) [(pC (.int 0))]))
    (sSeq (sAsgT (.tp [10, 11]) (pRm f___call__ (pRm f___invert__ (pVar 7) []) [(p2 gIx (pVar 6) (pC (.int 3)))]))
    (sSeq (sIf (pOr (p2 (gEqD true true) (pVar 10) (p2 gIx (pVar 4) (pC (.int 3)))) (p2 (gEqD true true) (p2 gIx (pF (fzF (f_send)) [(pVar 3), (p2 gIx (pVar 4) (pC (.int 0))), (p2 gIx (pVar 4) (pC (.int 1))), (p2 gIx (pVar 4) (pC (.int 2)))]) (pC (.int 1))) (pRm f___invert__ (pVar 11) []))) (sRet (pC (.bl false))) sNil)
    (sSeq (sAsgT (.tp [10, 11]) (pRm f___call__ (pVar 3) [(p2 gIx (pVar 4) (pC (.int 0)))]))
    (sSeq (sAsgT (.tp [12, 13]) (pF gTup [(pFz (pListG f_path [(pVar 3), (p2 gIx (pVar 4) (pC (.int 0)))])), (pFz (pListG f_path [(pRm f___invert__ (pVar 11) []), (pVar 10)]))]))
    (sSeq (sIf (pOr (p2 (gEqD true true) (pVar 12) (pFz (p1 gRev (pVar 13)))) (pOr (p2 (gEqD true true) (pRm (fzF f_turning) (pVar 3) []) (pRm (fzF f_turning) (pVar 7) [])) (p2 (gEqD true true) (pRm (fzF f_turning) (p2 gIx (pRm f___call__ (pRm f___invert__ (pVar 3) []) [(p2 gIx (pVar 4) (pC (.int 1)))]) (pC (.int 1))) []) (pRm (fzF f_turning) (pVar 3) [])))) (sRet (pC (.bl false))) sNil)
    (sSeq (sSet 14 (pFz (pLc (iSeq (pRm (fzF f_turning) (pVar 3) [])) [15] (.nm 15) (pC (.bl true)) (p2 gMod (pLw gCount (pVar 12) [(pVar 15)]) (pC (.int 2))))))
    (sSeq (sIf (p2 (gEqD true true) (pFz (pLc (iSeq (pRm (fzF f_turning) (pVar 3) [])) [16, 17] (.tp [16, 17]) (pC (.bl true)) (pF gInt [(p2 (gEqD true true) (p2 (gGetR f___getitem__) (pVar 3) (pF gTup [(pVar 16), (pVar 17)])) (p2 (gGetR f___getitem__) (pVar 11) (pF gTup [(pVar 16), (pVar 17)])))]))) (pVar 14)) (sRet (pC (.bl false))) sNil)
    (sSeq (sAsgT (.tp [18, 19]) (pF gTup [(pF (fzF (f_unsent)) [(pVar 3)]), (p2 gIx (pFz (pF gList [(p2 gSub (pC (.int 0)) (pC (.int 1))), (pF (gLenU f___len__) [(pVar 3)]), (pC .non), (pC (.bl true)), (pC (.str "0"))])) (pF (f__law_below) [(pVar 1), (pC (.int 5))]))]))
    (sSeq (sIf (p1 gNot (pF (f__law_equal_4) [(pFz (pF gList [(p2 gIx (pVar 18) (pC (.int 0))), (p2 (gEqD true false) (p2 gIx (pVar 18) (pC (.int 1))) (pVar 3))])), (pFz (pF gList [(pFz (pF gList [])), (pC (.bl true))]))])) (sRet (pC (.bl false))) sNil)
    (sIf (p2 (gEqD true true) (pErr 5 1 pS__law_error_of okErr (pF (fX_unsent) [(pVar 3), (pC (.int 0)), (pVar 19)])) (pF gTup [(pC (.str "port")), (pC (.int 0))])) (sRet (pC (.bl false))) sNil)))))))))))))))))
    (sRet (pC (.bl true)))))
noncomputable def f_law (CR : Addr) : Fn := runD 1 20 (P_law CR)

end MT

/-! MT19: the plain laws of Room.__eq__ and Room.__init__'s check. -/
namespace MT
open PySem L2
/-! ### == -/
theorem eqD_str {rm : Bool} {m : Store} {n : Nat} {x y : Str} : eqD rm m (n + 1) (.str x) (.str y) = some (x == y) := by
  simp [eqD, scalD, eqS]
theorem eqL_strs {rm : Bool} {m : Store} {n : Nat} : ∀ {a b : List Str}, eqL (eqD rm m (n + 1)) (a.map .str) (b.map .str) = some (decide (a = b))
  | [], [] => rfl
  | [], _ :: _ => by simp [eqL]
  | _ :: _, [] => by simp [eqL]
  | x :: a, y :: b => by
    simp only [List.map_cons, eqL, eqD_str, eqL_strs (a := a) (b := b)]
    by_cases h1 : x = y
    · subst h1
      by_cases h2 : a = b <;> simp [h2]
    · simp [h1]
theorem eqD_tups {rm : Bool} {m : Store} {n : Nat} {a b : List Str} : eqD rm m (n + 2) (.tup (a.map .str)) (.tup (b.map .str)) = some (decide (a = b)) := by
  rw [← eqL_strs (rm := rm) (m := m) (n := n)]
  rfl
theorem eq_ok : ∀ a b m, f___eq__ [.room a, .room b] m = .ok (.bl (decide (a = b))) m := by
  intro a b m
  have h := eqD_tups (rm := false) (m := m) (n := 4) (a := a) (b := b)
  unfold f___eq__ runD
  simp [P___eq__, sRet, pAnd, p1, p2, pVar, gIsR, gLines, Res.bind, Res.toS, gEqD, h]

/-! ### loops over values that stay -/
theorem forE_inv {xs : List D} {t : Tgt} {pb : PgS} {m : Store} (I : Nat → EnvD → Prop) (step : ∀ i ε x, xs[i]? = some x → I i ε → ∃ ε1 ε2, bindT t (.tup [.int (i : Nat), x]) ε = some ε1 ∧ pb ε1 m = .nxt ε2 m ∧ I (i + 1) ε2) :
    ∀ (k i n : Nat) (ε : EnvD), xs.length - i = k → i ≤ xs.length → k < n → I i ε → ∃ ε', forN (nxE xs) t pb n i ε m = .nxt ε' m ∧ I xs.length ε'
  | 0, i, n + 1, ε, hk, hi, _, h => by
    have e : i = xs.length := by omega
    subst e
    refine ⟨ε, ?_, h⟩
    simp [forN, nxE]
  | k + 1, i, n + 1, ε, hk, hi, hn, h => by
    have hlt : i < xs.length := by omega
    have hx : xs[i]? = some xs[i] := List.getElem?_eq_getElem hlt
    obtain ⟨ε1, ε2, h1, h2, h3⟩ := step i ε _ hx h
    obtain ⟨ε', h4, h5⟩ := forE_inv I step k (i + 1) n ε2 (by omega) hlt (by omega) h3
    refine ⟨ε', ?_, h5⟩
    have e : nxE xs i m = some (some (.tup [.int (i : Nat), xs[i]])) := by
      unfold nxE
      rw [if_pos hi, hx]; rfl
    simp only [forN, e, h1, h2, ResS.bind]
    exact h4
theorem forF_inv {xs : List D} {t : Tgt} {pb : PgS} {m : Store} (I : Nat → EnvD → Prop) (step : ∀ i ε x, xs[i]? = some x → I i ε → ∃ ε1 ε2, bindT t x ε = some ε1 ∧ pb ε1 m = .nxt ε2 m ∧ I (i + 1) ε2) :
    ∀ (k i n : Nat) (ε : EnvD), xs.length - i = k → i ≤ xs.length → k < n → I i ε → ∃ ε', forN (nxF xs) t pb n i ε m = .nxt ε' m ∧ I xs.length ε'
  | 0, i, n + 1, ε, hk, hi, _, h => by
    have e : i = xs.length := by omega
    subst e
    refine ⟨ε, ?_, h⟩
    simp [forN, nxF]
  | k + 1, i, n + 1, ε, hk, hi, hn, h => by
    have hlt : i < xs.length := by omega
    have hx : xs[i]? = some xs[i] := List.getElem?_eq_getElem hlt
    obtain ⟨ε1, ε2, h1, h2, h3⟩ := step i ε _ hx h
    obtain ⟨ε', h4, h5⟩ := forF_inv I step k (i + 1) n ε2 (by omega) hlt (by omega) h3
    refine ⟨ε', ?_, h5⟩
    have e : nxF xs i m = some (some xs[i]) := by
      unfold nxF
      rw [hx]
    simp only [forN, e, h1, h2, ResS.bind]
    exact h4

/-! ### the check of rows -/
def cntT (cs : List Nat) : Nat := (cs.filter isTurnC).length
theorem cntT_app (a b : List Nat) : cntT (a ++ b) = cntT a + cntT b := by simp [cntT]
def tcN (ls : List Str) : Nat := (ls.map fun l => cntT l.cps.toList).sum
theorem tcN_eq (ls : List Str) : tcN ls = turnCount ls := rfl
theorem tcN_app (a b : List Str) : tcN (a ++ b) = tcN a + tcN b := by simp [tcN]
theorem isTurn_one (c : Nat) : isTurnS ⟨#[c]⟩ = isTurnC c := by
  have hr : kR = ⟨#[114]⟩ := by decide +kernel
  have hf : kF = ⟨#[102]⟩ := by decide +kernel
  unfold isTurnS isTurnC
  rw [hr, hf]
  by_cases h1 : c = 114
  · subst h1; decide
  · by_cases h2 : c = 102
    · subst h2; decide
    · simp [h1, h2]
theorem signs_mem {c : Nat} (h : isSignC c = true) : c ∈ (".rfRF" : Str).cps.toList := by
  have e : (".rfRF" : Str).cps.toList = [46, 114, 102, 82, 70] := by decide +kernel
  rw [e]
  unfold isSignC at h
  simp only [Bool.or_eq_true, beq_iff_eq] at h
  simp only [List.mem_cons, List.not_mem_nil, or_false]
  omega

def envI (a : Addr) (R : D) (t : Int) (r l c s : Option D) : EnvD := [some (.adr a), some R, some (.int t), r, l, c, s]
theorem atI_zero {x : D} {xs : List D} : atI (x :: xs) 0 = some x := by
  simp [atI, ixN]
theorem take_split {α : Type} {xs : List α} {i : Nat} {x : α} (h : xs[i]? = some x) : xs = xs.take i ++ x :: xs.drop (i + 1) := by
  obtain ⟨hi, e⟩ := List.getElem?_eq_some_iff.mp h
  conv => lhs; rw [← List.take_append_drop i xs]
  rw [List.drop_eq_getElem_cons hi, e]
theorem take_succ_of {α : Type} {xs : List α} {i : Nat} {x : α} (h : xs[i]? = some x) : xs.take (i + 1) = xs.take i ++ [x] := by
  obtain ⟨hi, e⟩ := List.getElem?_eq_some_iff.mp h
  rw [List.take_succ, h]; rfl
theorem cnt_le {ls : List Str} {i : Nat} {line : Str} (h : ls[i]? = some line) (j : Nat) : tcN (ls.take i) + cntT (line.cps.toList.take j) ≤ tcN ls := by
  have e := congrArg tcN (take_split h)
  rw [tcN_app] at e
  have e2 : tcN (line :: ls.drop (i + 1)) = cntT line.cps.toList + tcN (ls.drop (i + 1)) := by simp [tcN]
  have e3 : cntT (line.cps.toList.take j) + cntT (line.cps.toList.drop j) = cntT line.cps.toList := by
    rw [← cntT_app, List.take_append_drop]
  omega
theorem chk_ok : ChkOk N___init__.length P___init__ PN___init__ := by
  intro a ls m hv
  obtain ⟨h1, h2, h3, h4, h5, h6⟩ := hv
  obtain ⟨l0, lt, rfl⟩ : ∃ l0 lt, ls = l0 :: lt := by
    cases ls with
    | nil => simp at h1
    | cons x y => exact ⟨x, y, rfl⟩
  generalize hls : l0 :: lt = ls at *
  have hw : widthS ls = l0.length := by rw [← hls]; rfl
  have hw8 : l0.length ≤ 8 := by omega
  have hlim : l0.length ≤ lim := by unfold lim; omega
  have r0 : ∀ (t : Int) (r l c s : Option D) (m : Store), (p2 gIx (pVar 1) (pC (.int 0))) (envI a (.tup (ls.map .str)) t r l c s) m = .ok (.str l0) m := by
    intro t r l c s m
    simp [p2, pVar, pC, envI, Res.bind, gIx, ← hls, atI_zero, optR]
  have len0 : ∀ (t : Int) (r l c s : Option D) (m : Store), (pF gLen [p2 gIx (pVar 1) (pC (.int 0))]) (envI a (.tup (ls.map .str)) t r l c s) m = .ok (.int (l0.length : Nat)) m := by
    intro t r l c s m
    simp only [pF, evL, r0, Res.bind, gLen, if_pos hlim]
  -- the inner loop
  have inner : ∀ (i : Nat) (line : Str), ls[i]? = some line → ∀ (c s : Option D), ∃ ε', sFor (iEnS (pVar 4)) (.tp [5, 6]) (sSeq (sAug 2 (· + ·) (pF gInt [(p1 gInTurn (pVar 6))]))
      (sIf (pOr (p2 (gEqS false) (pVar 5) (pF gMin2 [(pC (.int 8)), (pF gLen [(p2 gIx (pVar 1) (pC (.int 0)))])])) (pOr (p2 (gInS true) (pVar 6) (pC (.str ".rfRF"))) (p2 gGt (pVar 2) (pC (.int 10))))) sBad sNil))
      (envI a (.tup (ls.map .str)) (tcN (ls.take i) : Nat) (some (.int (i : Nat))) (some (.str line)) c s) m = .nxt ε' m ∧ ∃ c s, ε' = envI a (.tup (ls.map .str)) (tcN (ls.take (i + 1)) : Nat) (some (.int (i : Nat))) (some (.str line)) c s := by
    intro i line hi c s
    have hmem : line ∈ ls := List.mem_of_getElem? hi
    obtain ⟨hl1, hl2⟩ := h5 line hmem
    have hlen : (chars line).length = line.length := by simp [chars, Str.length]
    have step : ∀ (j : Nat) (ε : EnvD) (x : D), (chars line)[j]? = some x → (∃ c s, ε = envI a (.tup (ls.map .str)) ((tcN (ls.take i) + cntT (line.cps.toList.take j) : Nat) : Int) (some (.int (i : Nat))) (some (.str line)) c s) →
        ∃ ε1 ε2, bindT (.tp [5, 6]) (.tup [.int (j : Nat), x]) ε = some ε1 ∧ (sSeq (sAug 2 (· + ·) (pF gInt [(p1 gInTurn (pVar 6))]))
      (sIf (pOr (p2 (gEqS false) (pVar 5) (pF gMin2 [(pC (.int 8)), (pF gLen [(p2 gIx (pVar 1) (pC (.int 0)))])])) (pOr (p2 (gInS true) (pVar 6) (pC (.str ".rfRF"))) (p2 gGt (pVar 2) (pC (.int 10))))) sBad sNil)) ε1 m = .nxt ε2 m ∧ ∃ c s, ε2 = envI a (.tup (ls.map .str)) ((tcN (ls.take i) + cntT (line.cps.toList.take (j + 1)) : Nat) : Int) (some (.int (i : Nat))) (some (.str line)) c s := by
      intro j ε x hx hI
      obtain ⟨c, s, rfl⟩ := hI
      obtain ⟨cc, hcc, rfl⟩ := chars_get hx
      have hcl : line.cps.toList[j]? = some cc := by rw [Array.getElem?_toList]; exact hcc
      have hj : j < line.length := by
        have := (Array.getElem?_eq_some_iff.mp hcc).1
        exact this
      have hsg : isSignC cc = true := hl2 cc (List.mem_of_getElem? hcl)
      have hcnt : cntT (line.cps.toList.take (j + 1)) = cntT (line.cps.toList.take j) + (if isTurnC cc = true then 1 else 0) := by
        rw [take_succ_of hcl, cntT_app]
        congr 1
        unfold cntT
        by_cases h : isTurnC cc = true
        · rw [if_pos h]; simp [h]
        · rw [if_neg h]; simp [h]
      refine ⟨envI a (.tup (ls.map .str)) ((tcN (ls.take i) + cntT (line.cps.toList.take j) : Nat) : Int) (some (.int (i : Nat))) (some (.str line)) (some (.int (j : Nat))) (some (.str ⟨#[cc]⟩)), envI a (.tup (ls.map .str)) ((tcN (ls.take i) + cntT (line.cps.toList.take (j + 1)) : Nat) : Int) (some (.int (i : Nat))) (some (.str line)) (some (.int (j : Nat))) (some (.str ⟨#[cc]⟩)), rfl, ?_, _, _, rfl⟩
      have step1 : sAug 2 (· + ·) (pF gInt [(p1 gInTurn (pVar 6))]) (envI a (.tup (ls.map .str)) ((tcN (ls.take i) + cntT (line.cps.toList.take j) : Nat) : Int) (some (.int (i : Nat))) (some (.str line)) (some (.int (j : Nat))) (some (.str ⟨#[cc]⟩))) m
          = .nxt (envI a (.tup (ls.map .str)) ((tcN (ls.take i) + cntT (line.cps.toList.take (j + 1)) : Nat) : Int) (some (.int (i : Nat))) (some (.str line)) (some (.int (j : Nat))) (some (.str ⟨#[cc]⟩))) m := by
        simp only [sAug, envI, pF, evL, p1, pVar, gInTurn, gInt, Res.bind, Res.toS, isTurn_one, List.getElem?_cons_succ, List.getElem?_cons_zero, List.set_cons_succ, List.set_cons_zero, hcnt]
        congr 6
        by_cases h : isTurnC cc = true <;> simp [h] <;> omega
      have hle := cnt_le hi (j + 1)
      have h10 : ¬ ((10 : Int) < ((tcN (ls.take i) + cntT (line.cps.toList.take (j + 1)) : Nat) : Int)) := by
        rw [tcN_eq ls] at hle
        omega
      have hjw : ((j : Nat) : Int) ≠ ((l0.length : Nat) : Int) := by omega
      have hmn : (if ((l0.length : Nat) : Int) < 8 then ((l0.length : Nat) : Int) else 8) = ((l0.length : Nat) : Int) := by split <;> omega
      have hin := signs_mem hsg
      have c1 : p2 (gEqS false) (pVar 5) (pF gMin2 [(pC (.int 8)), (pF gLen [(p2 gIx (pVar 1) (pC (.int 0)))])]) (envI a (.tup (ls.map .str)) ((tcN (ls.take i) + cntT (line.cps.toList.take (j + 1)) : Nat) : Int) (some (.int (i : Nat))) (some (.str line)) (some (.int (j : Nat))) (some (.str ⟨#[cc]⟩))) m = .ok (.bl false) m := by
        have e1 : pF gMin2 [(pC (.int 8)), (pF gLen [(p2 gIx (pVar 1) (pC (.int 0)))])] (envI a (.tup (ls.map .str)) ((tcN (ls.take i) + cntT (line.cps.toList.take (j + 1)) : Nat) : Int) (some (.int (i : Nat))) (some (.str line)) (some (.int (j : Nat))) (some (.str ⟨#[cc]⟩))) m = .ok (.int (l0.length : Nat)) m := by
          refine (pF2 rfl (len0 _ _ _ _ _ _)).trans ?_
          show Res.ok (D.int (if ((l0.length : Nat) : Int) < 8 then ((l0.length : Nat) : Int) else 8)) m = _
          rw [hmn]
        refine (p2_ok (v_ok rfl) e1).trans ?_
        show Res.ok (D.bl (((j : Nat) : Int) == ((l0.length : Nat) : Int))) m = _
        rw [show (((j : Nat) : Int) == ((l0.length : Nat) : Int)) = false from by simpa using hjw]
      have c2 : p2 (gInS true) (pVar 6) (pC (.str ".rfRF")) (envI a (.tup (ls.map .str)) ((tcN (ls.take i) + cntT (line.cps.toList.take (j + 1)) : Nat) : Int) (some (.int (i : Nat))) (some (.str line)) (some (.int (j : Nat))) (some (.str ⟨#[cc]⟩))) m = .ok (.bl false) m := by
        refine (p2_ok (v_ok rfl) rfl).trans ?_
        show Res.ok (D.bl (!decide (cc ∈ (".rfRF" : Str).cps.toList))) m = _
        rw [decide_eq_true hin]; rfl
      have c3 : p2 gGt (pVar 2) (pC (.int 10)) (envI a (.tup (ls.map .str)) ((tcN (ls.take i) + cntT (line.cps.toList.take (j + 1)) : Nat) : Int) (some (.int (i : Nat))) (some (.str line)) (some (.int (j : Nat))) (some (.str ⟨#[cc]⟩))) m = .ok (.bl false) m := by
        refine (p2_ok (v_ok rfl) rfl).trans ?_
        show Res.ok (D.bl (decide ((10 : Int) < ((tcN (ls.take i) + cntT (line.cps.toList.take (j + 1)) : Nat) : Int)))) m = _
        rw [decide_eq_false h10]
      exact (seq_nxt step1).trans ((sif_f ((or_f c1).trans ((or_f c2).trans c3))).trans rfl)
    obtain ⟨ε', e1, c', s', e2⟩ := forE_inv (xs := chars line) (t := .tp [5, 6]) (m := m) (fun j ε => ∃ c s, ε = envI a (.tup (ls.map .str)) ((tcN (ls.take i) + cntT (line.cps.toList.take j) : Nat) : Int) (some (.int (i : Nat))) (some (.str line)) c s) step _ 0 bigN
      (envI a (.tup (ls.map .str)) (tcN (ls.take i) : Nat) (some (.int (i : Nat))) (some (.str line)) c s) rfl (Nat.zero_le _) (by
        have : (chars line).length ≤ 8 := by omega
        unfold bigN
        omega) ⟨c, s, by simp [cntT]⟩
    refine ⟨ε', ?_, c', s', ?_⟩
    · simp only [sFor, iEnS, pVar, envI, Res.bind, Res.toS, List.getElem?_cons_succ, List.getElem?_cons_zero]
      exact e1
    · rw [e2, take_succ_of hi, tcN_app]
      have : (line.cps.toList.take (chars line).length) = line.cps.toList := List.take_of_length_le (by simp [chars])
      rw [this]
      congr 2
  have outer : ∀ (i : Nat) (ε : EnvD) (x : D), (ls.map D.str)[i]? = some x → (∃ r l c s, ε = envI a (.tup (ls.map .str)) (tcN (ls.take i) : Nat) r l c s) →
      ∃ ε1 ε2, bindT (.tp [3, 4]) (.tup [.int (i : Nat), x]) ε = some ε1 ∧ (sSeq (sIf (pOr (p2 (gEqS false) (pVar 3) (pC (.int 8))) (pOr (p1 gNot (p1 (gIsi "str") (pVar 4))) (p2 (gEqS false) (pVar 4) (pC (.str ""))))) sBad sNil)
    (sSeq (sFor (iEnS (pVar 4)) (.tp [5, 6]) (sSeq (sAug 2 (· + ·) (pF gInt [(p1 gInTurn (pVar 6))]))
    (sIf (pOr (p2 (gEqS false) (pVar 5) (pF gMin2 [(pC (.int 8)), (pF gLen [(p2 gIx (pVar 1) (pC (.int 0)))])])) (pOr (p2 (gInS true) (pVar 6) (pC (.str ".rfRF"))) (p2 gGt (pVar 2) (pC (.int 10))))) sBad sNil)))
    (sIf (p2 gLt (pF gLen [(pVar 4)]) (pF gLen [(p2 gIx (pVar 1) (pC (.int 0)))])) sBad sNil))) ε1 m = .nxt ε2 m ∧ ∃ r l c s, ε2 = envI a (.tup (ls.map .str)) (tcN (ls.take (i + 1)) : Nat) r l c s := by
    intro i ε x hx hI
    obtain ⟨r, l, c, s, rfl⟩ := hI
    rw [List.getElem?_map, Option.map_eq_some_iff] at hx
    obtain ⟨line, hi, rfl⟩ := hx
    have hmem : line ∈ ls := List.mem_of_getElem? hi
    obtain ⟨hl1, hl2⟩ := h5 line hmem
    have hil : i < ls.length := (List.getElem?_eq_some_iff.mp hi).1
    obtain ⟨ε', e1, c', s', e2⟩ := inner i line hi c s
    refine ⟨envI a (.tup (ls.map .str)) (tcN (ls.take i) : Nat) (some (.int (i : Nat))) (some (.str line)) c s, ε', rfl, ?_, _, _, _, _, e2⟩
    have hlen : line.length ≤ lim := by unfold lim; omega
    have c1 : p2 (gEqS false) (pVar 3) (pC (.int 8)) (envI a (.tup (ls.map .str)) (tcN (ls.take i) : Nat) (some (.int (i : Nat))) (some (.str line)) c s) m = .ok (.bl false) m := by
      refine (p2_ok (v_ok rfl) rfl).trans ?_
      show Res.ok (D.bl (((i : Nat) : Int) == 8)) m = _
      rw [show (((i : Nat) : Int) == 8) = false from by simp; omega]
    have c2 : p1 gNot (p1 (gIsi "str") (pVar 4)) (envI a (.tup (ls.map .str)) (tcN (ls.take i) : Nat) (some (.int (i : Nat))) (some (.str line)) c s) m = .ok (.bl false) m :=
      (p1_ok ((p1_ok (v_ok rfl)).trans (show gIsi "str" [.str line] m = .ok (.bl true) m by
        show Res.ok (D.bl (isSub "str" "str")) m = _
        rw [show isSub "str" "str" = true from by decide]))).trans rfl
    have c3 : p2 (gEqS false) (pVar 4) (pC (.str "")) (envI a (.tup (ls.map .str)) (tcN (ls.take i) : Nat) (some (.int (i : Nat))) (some (.str line)) c s) m = .ok (.bl false) m := by
      refine (p2_ok (v_ok rfl) rfl).trans ?_
      show Res.ok (D.bl (line == ("" : Str))) m = _
      rw [show (line == ("" : Str)) = false from by
        rw [beq_eq_false_iff_ne]
        rintro rfl
        have : ("" : Str).length = 0 := by decide +kernel
        omega]
    refine (seq_nxt ((sif_f ((or_f c1).trans ((or_f c2).trans c3))).trans rfl)).trans ?_
    refine (seq_nxt e1).trans ?_
    subst e2
    refine (sif_f ?_).trans rfl
    refine (p2_ok ((pF1 (v_ok rfl)).trans (if_pos hlen)) (len0 _ _ _ _ _ _)).trans ?_
    show Res.ok (D.bl (decide (((line.length : Nat) : Int) < ((l0.length : Nat) : Int)))) m = _
    rw [decide_eq_false (by omega)]
  obtain ⟨ε', e1, r', l', c', s', e2⟩ := forE_inv (xs := ls.map D.str) (t := .tp [3, 4]) (m := m) (fun i ε => ∃ r l c s, ε = envI a (.tup (ls.map .str)) (tcN (ls.take i) : Nat) r l c s) outer _ 0 bigN
    (envI a (.tup (ls.map .str)) 0 none none none none) rfl (Nat.zero_le _) (by
      have : (ls.map D.str).length ≤ 8 := by rw [List.length_map]; exact h2
      unfold bigN
      omega) ⟨none, none, none, none, by simp [tcN]⟩
  refine ⟨ε', ?_, by rw [e2]; rfl, by rw [e2]; rfl, fun m => ?_⟩
  · show P___init__ [some (.adr a), some (.tup (ls.map .str)), none, none, none, none, none] m = _
    have c0 : p2 (gEqD false false) (pVar 1) (pF gTup []) [some (.adr a), some (.tup (ls.map .str)), none, none, none, none, none] m = .ok (.bl false) m := by
      refine (p2_ok (v_ok rfl) (pF_ok ev_nil)).trans ?_
      have := eqD_tups (rm := false) (m := m) (n := 4) (a := ls) (b := [])
      simp only [gEqD]
      rw [show eqD false m 6 (.tup (ls.map .str)) (.tup []) = some (decide (ls = [])) from this]
      rw [decide_eq_false (by rw [← hls]; simp)]
      rfl
    refine (seq_nxt ((sif_f c0).trans rfl)).trans ?_
    refine (seq_nxt (set_ok rfl)).trans ?_
    show sFor _ _ _ (envI a (.tup (ls.map .str)) 0 none none none none) m = _
    exact e1
  · subst e2
    have a1 : pF gLen [pVar 1] (envI a (.tup (ls.map .str)) (tcN (ls.take (ls.map D.str).length) : Nat) r' l' c' s') m = .ok (.int (ls.length : Nat)) m := by
      refine (pF1 (v_ok rfl)).trans ?_
      show Res.ok (D.int ((ls.map D.str).length : Nat)) m = _
      rw [List.length_map]
    have a2 := p2_ok (f := gAdd) a1 (len0 (tcN (ls.take (ls.map D.str).length) : Nat) r' l' c' s' m)
    have a3 : p2 gAdd (pF gLen [pVar 1]) (pF gLen [p2 gIx (pVar 1) (pC (.int 0))]) (envI a (.tup (ls.map .str)) (tcN (ls.take (ls.map D.str).length) : Nat) r' l' c' s') m = .ok (.int ((ls.length : Nat) + (l0.length : Nat))) m := a2
    refine (p2_ok rfl a3).trans ?_
    have a4 : gMul [.int 2, .int (((ls.length : Nat) : Int) + ((l0.length : Nat) : Int))] m = .ok (.int (2 * (((ls.length : Nat) : Int) + ((l0.length : Nat) : Int)))) m := by
      simp only [gMul]
      rw [if_pos (Or.inl ⟨by decide, by decide⟩)]
    rw [a4]
    congr 2
    unfold nPorts heightS
    rw [hw]
    push_cast
    rfl
end MT

/-! The defs of the text as programs of the little language; their rules. -/
namespace MT
open PySem PySem.Spec PyProof.Rows L2 StX

/-- what the walk asks of the text behind the top -/
structure Tx (P : Program) (w : World) (mg : Str → Option Value) (base : Heap) (g : G) : Prop where
  R : RoomC g
  RI : RoomI g
  neq : PySem.W.findIn g.K (.ref g.CR) "__ne__" = some (some (.builtin "object.__ne__"))
  mRoom : mg "Room" = some (.ref g.CR)
  turned : ∃ d, mg "TURNED" = some (.ref d) ∧ TurnD g.K w d ∧ TurnK P w g.K d
  c_EMPTY : Kc mg g "EMPTY" (.str ".")
  c_SIGNS : Kc mg g "SIGNS" (.str ".rfRF")
  c_UP : Kc mg g "UP" (.tup [.int (-1), .int 0])
  c_DOWN : Kc mg g "DOWN" (.tup [.int 1, .int 0])
  c_LEFT : Kc mg g "LEFT" (.tup [.int 0, .int (-1)])
  c_RIGHT : Kc mg g "RIGHT" (.tup [.int 0, .int 1])
  v_MAX_SIZE : Cv mg g "MAX_SIZE" (.int 8)
  v_MAX_TURNING : Cv mg g "MAX_TURNING" (.int 10)
  n_len : mg "len" = none
  n_isinstance : mg "isinstance" = none
  n_int : mg "int" = none
  n_bool : mg "bool" = none
  n_str : mg "str" = none
  n_min : mg "min" = none
  n_any : mg "any" = none
  n_all : mg "all" = none
  n_list : mg "list" = none
  n_range : mg "range" = none
  n_enumerate : mg "enumerate" = none
  n_abs : mg "abs" = none
  n_tuple : mg "tuple" = none
  n_ValueError : mg "ValueError" = none
  m_MirrorError : mg "MirrorError" = some (.ref (g.cl "MirrorError"))
  m_InvalidRoom : mg "InvalidRoom" = some (.ref (g.cl "InvalidRoom"))
  m_UnknownPort : mg "UnknownPort" = some (.ref (g.cl "UnknownPort"))
  m_UnknownTile : mg "UnknownTile" = some (.ref (g.cl "UnknownTile"))
  m_InvalidNumber : mg "InvalidNumber" = some (.ref (g.cl "InvalidNumber"))
  m_OtherRoom : mg "OtherRoom" = some (.ref (g.cl "OtherRoom"))
  m_TooMany : mg "TooMany" = some (.ref (g.cl "TooMany"))
  m_Contradiction : mg "Contradiction" = some (.ref (g.cl "Contradiction"))
  m_NotTurning : mg "NotTurning" = some (.ref (g.cl "NotTurning"))
  m_InvalidName : mg "InvalidName" = some (.ref (g.cl "InvalidName"))
  m_UnknownName : mg "UnknownName" = some (.ref (g.cl "UnknownName"))
  m_InvalidOperation : mg "InvalidOperation" = some (.ref (g.cl "InvalidOperation"))
  err : ∀ c, okErr c = true → ErrF g.K g.cl c
  d_is_int_in : ∃ ad fd, Fun g.K "is_int_in" "is_int_in" s_is_int_in ad fd ∧ mg "is_int_in" = some (.ref ad)
  d_thrown : ∃ ad fd, Fun g.K "thrown" "thrown" s_thrown ad fd ∧ mg "thrown" = some (.ref ad)
  i___init__ : ∃ ad fd, Fun g.K "__init__" "Room.__init__" s___init__ ad fd ∧ Mk g.K g.CR ad
  d_parse : ∃ ad fd q mc, Fun g.K "parse" "Room.parse" s_parse ad fd ∧ ClX.CRead g.K g.CR mc ∧ ClX.CMet g.K g.CR mc "parse" q ad
  d_rows : ∃ p ad fd, Fun g.K "rows" "Room.rows" s_rows ad fd ∧ PropOf g.K g.CR "rows" p ad
  d_text : ∃ p ad fd, Fun g.K "text" "Room.text" s_text ad fd ∧ PropOf g.K g.CR "text" p ad
  d_size : ∃ p ad fd, Fun g.K "size" "Room.size" s_size ad fd ∧ PropOf g.K g.CR "size" p ad
  d_turning : ∃ p ad fd, Fun g.K "turning" "Room.turning" s_turning ad fd ∧ PropOf g.K g.CR "turning" p ad
  d_entry : ∃ ad fd, Fun g.K "entry" "Room.entry" s_entry ad fd ∧ Meth g.K g.CR "entry" ad
  d_exit_of : ∃ ad fd, Fun g.K "exit_of" "Room.exit_of" s_exit_of ad fd ∧ Meth g.K g.CR "exit_of" ad
  d___len__ : ∃ ad fd, Fun g.K "__len__" "Room.__len__" s___len__ ad fd ∧ PySem.W.findIn g.K (.ref g.CR) "__len__" = some (some (.ref ad)) ∧ PySem.W.isFn g.K (.ref ad) = true ∧ PySem.W.fnIn g.K ad = true
  d_has_port : ∃ ad fd, Fun g.K "has_port" "Room.has_port" s_has_port ad fd ∧ Meth g.K g.CR "has_port" ad
  d_beam : ∃ ad fd, Fun g.K "beam" "Room.beam" s_beam ad fd ∧ Meth g.K g.CR "beam" ad
  d___call__ : ∃ ad fd, Fun g.K "__call__" "Room.__call__" s___call__ ad fd ∧ CallO g.K g.CR ad
  d___eq__ : ∃ ad fd, Fun g.K "__eq__" "Room.__eq__" s___eq__ ad fd ∧ PySem.W.findIn g.K (.ref g.CR) "__eq__" = some (some (.ref ad)) ∧ PySem.W.isFn g.K (.ref ad) = true ∧ PySem.W.fnIn g.K ad = true
  d___bool__ : ∃ ad fd, Fun g.K "__bool__" "Room.__bool__" s___bool__ ad fd ∧ PySem.W.findIn g.K (.ref g.CR) "__bool__" = some (some (.ref ad)) ∧ PySem.W.isFn g.K (.ref ad) = true ∧ PySem.W.fnIn g.K ad = true
  d___getitem__ : ∃ ad fd, Fun g.K "__getitem__" "Room.__getitem__" s___getitem__ ad fd ∧ PySem.W.findIn g.K (.ref g.CR) "__getitem__" = some (some (.ref ad)) ∧ PySem.W.isFn g.K (.ref ad) = true ∧ PySem.W.fnIn g.K ad = true
  d___invert__ : ∃ ad fd, Fun g.K "__invert__" "Room.__invert__" s___invert__ ad fd ∧ Meth g.K g.CR "__invert__" ad
  d_check_port : ∃ ad fd, Fun g.K "check_port" "check_port" s_check_port ad fd ∧ mg "check_port" = some (.ref ad)
  d_path : ∃ ad fd, Fun g.K "path" "path" s_path ad fd ∧ mg "path" = some (.ref ad)
  d_send : ∃ ad fd, Fun g.K "send" "send" s_send ad fd ∧ mg "send" = some (.ref ad)
  d_unsent : ∃ ad fd, Fun g.K "unsent" "unsent" s_unsent ad fd ∧ mg "unsent" = some (.ref ad)
  d__law_random : ∃ ad fd, Fun g.K "_law_random" "_law_random" s__law_random ad fd ∧ mg "_law_random" = some (.ref ad)
  d__law_room : ∃ ad fd, Fun g.K "_law_room" "_law_room" s__law_room ad fd ∧ mg "_law_room" = some (.ref ad)
  d__law_below : ∃ ad fd, Fun g.K "_law_below" "_law_below" s__law_below ad fd ∧ mg "_law_below" = some (.ref ad)
  d__law_lines : ∃ ad fd, Fun g.K "_law_lines" "_law_lines" s__law_lines ad fd ∧ mg "_law_lines" = some (.ref ad)
  d__law_equal : ∃ ad fd, Fun g.K "_law_equal" "_law_equal" s__law_equal ad fd ∧ mg "_law_equal" = some (.ref ad)
  d__law_error_of : ∃ ad fd, Fun g.K "_law_error_of" "_law_error_of" s__law_error_of ad fd ∧ mg "_law_error_of" = some (.ref ad)

variable {P : Program} {w : World} {mg : Str → Option Value} {base : Heap} {g : G}
theorem Ts.ends {W : Wx} {p : PgS} {D1 D2 : Ends} {σ : L2.St} {H : Hp} (h : Ts g W p D1 σ H) (hn : ∀ σ H, D1.nx σ H → D2.nx σ H) (hr : ∀ v H, D1.rt v H → D2.rt v H) : Ts g W p D2 σ H := by
  obtain ⟨ε, ρ, m, e, s, h⟩ := h
  exact ⟨ε, ρ, m, e, s, FinS.ends h hn hr⟩
/-- Room.__init__: three statements, then the two stores -/
theorem chk3 {X : Cx} {s1 s2 s3 s4 s5 : Stmt} {p1 p2 p3 : PgS} {pN : Pg} (h1 : L2.PS X s1 (Ts g W0 p1)) (h2 : L2.PS X s2 (Ts g W0 p2)) (h3 : L2.PS X s3 (Ts g W0 p3)) (h4 : L2.PS X s4 (sFld g.K (tVar 0) (tVar 1) "lines")) (h5 : L2.PS X s5 (sFld g.K (tVar 0) (tFrz (tLstRg (tRg1 (T g W0 pN)))) "ports")) :
    L2.PSs X [s1, s2, s3, s4, s5] (tInit g (sSeq p1 (sSeq p2 p3)) pN) :=
  PSs.imp (pss_cons h1 (pss_cons h2 (pss_cons h3 (pss_cons h4 (pss_one h5))))) fun D σ H h =>
    Ts.ends (t_seq h) (fun σ1 H1 z1 => Ts.ends (t_seq z1) (fun σ2 H2 z2 => z2) fun v H q => q) fun v H q => q
theorem bv_init : BindV "__init__" "Room.__init__" s___init__ [("self" : Str)] "rows" := fun kV doc pm an cdv ct us rest hl => match us, rest, hl with
  | [a], [], _ => rfl
  | [a], r :: rs, _ => rfl
theorem bv_send : BindV "send" "send" s_send [("room" : Str)] "ports" := fun kV doc pm an cdv ct us rest hl => match us, rest, hl with
  | [a], [], _ => rfl
  | [a], r :: rs, _ => rfl
theorem bv_unsent : BindV "unsent" "unsent" s_unsent [("room" : Str)] "exits" := fun kV doc pm an cdv ct us rest hl => match us, rest, hl with
  | [a], [], _ => rfl
  | [a], r :: rs, _ => rfl
theorem d_is_int_in (T : Tx P w mg base g) : Cf P w mg base g 1 "is_int_in" (f_is_int_in) := by
  obtain ⟨ad, fd, F, hm⟩ := T.d_is_int_in
  have S : FnScope N_is_int_in ["value", "low", "high"] (defScope s_is_int_in) := ⟨rfl, rfl, rfl, by decide +kernel, rfl, by decide +kernel, by decide +kernel⟩
  exact ⟨ad, (fnr (fnok (p := P_is_int_in) F S fun cdv A outer s H E hr =>
    (ts_one (ts_ret (te_and (te_isi rfl T.n_isinstance T.n_int (by decide +kernel) (te_var 0) (by decide +kernel)) (te_and (te_not (te_isi rfl T.n_isinstance T.n_bool (by decide +kernel) (te_var 0) (by decide +kernel))) (te_one (te_chain op_le op_le (te_var 1) (te_var 0) (te_var 2)))))))) (F.binds fun _ _ _ _ _ _ us hl => match us, hl with | [_, _, _], _ => rfl)), hm, F.kp⟩
theorem d_thrown (T : Tx P w mg base g) : Cf P w mg base g 1 "thrown" (f_thrown) := by
  obtain ⟨ad, fd, F, hm⟩ := T.d_thrown
  have S : FnScope N_thrown ["sign", "way"] (defScope s_thrown) := ⟨rfl, rfl, rfl, by decide +kernel, rfl, by decide +kernel, by decide +kernel⟩
  exact ⟨ad, (fnr (fnok (p := P_thrown) F S fun cdv A outer s H E hr =>
    (ts_cons (ts_if (tt_eq (te_var 0) (te_k T.c_EMPTY)) (ts_one (ts_ret (te_var 1))) ts_nil)
    (ts_cons (ts_asg (te_var 1) (tg_tp rfl rfl (tgs_cons 2 S.nd (tgs_cons 3 S.nd tgs_nil))))
    (ts_one (ts_ret (te_if (tt_inS (te_var 0) te_str) (te_tup (ta_cons (te_sub te_int (te_var 3)) (ta_cons (te_sub te_int (te_var 2)) ta_nil))) (te_tup (ta_cons (te_var 3) (ta_cons (te_var 2) ta_nil))))))))) (F.binds fun _ _ _ _ _ _ us hl => match us, hl with | [_, _], _ => rfl)), hm, F.kp⟩
theorem d___init__ (T : Tx P w mg base g) : MkR P w mg base g 7 := by
  obtain ⟨ad, fd, F, hM⟩ := T.i___init__
  obtain ⟨dT, hT, tT, kT⟩ := T.turned
  have S : FnScope N___init__ ([("self" : Str)] ++ [("rows" : Str)]) (defScope s___init__) := ⟨rfl, rfl, rfl, by decide +kernel, rfl, by decide +kernel, by decide +kernel⟩
  exact ⟨ad, hM, room_init (pC := P___init__) (pN := PN___init__) T.R F S bv_init chk_ok fun cdv A outer s H E hr => (chk3 (ts_if (tt_eqD (kE := 0) rfl (fun z => absurd z (by decide)) hr (te_var 1) (te_tup ta_nil)) (ts_one ts_bad) ts_nil) (ts_set 2 S.nd te_int) (ts_for PassesOwn.never rfl (s_enT rfl rfl T.n_enumerate (te_var 1)) (tg_tp rfl rfl (tgs_cons 3 S.nd (tgs_cons 4 S.nd tgs_nil))) (ts_cons (ts_if ((tw_or (tt_eq (te_var 3) (te_cv rfl T.v_MAX_SIZE)) (tw_or (tt_not (tt_val (te_isi rfl T.n_isinstance T.n_str (by decide +kernel) (te_var 4) (by decide +kernel)))) (tw_or1 (tt_eq (te_var 4) te_str))))).pt (ts_one ts_bad) ts_nil)
    (ts_cons (ts_for PassesOwn.never rfl (s_enS rfl T.n_enumerate (te_var 4)) (tg_tp rfl rfl (tgs_cons 5 S.nd (tgs_cons 6 S.nd tgs_nil))) (ts_cons (ts_augAdd 2 S.nd (te_intOf T.n_int (ta_cons (te_inTurn rfl tT hT (te_var 6)) ta_nil)))
    (ts_one (ts_if ((tw_or (tt_eq (te_var 5) (te_min2 rfl T.n_min (ta_cons (te_cv rfl T.v_MAX_SIZE) (ta_cons (te_len rfl T.n_len (ta_cons (te_ix rfl (te_var 1) te_int) ta_nil)) ta_nil)))) (tw_or (tt_notInS (te_var 6) (te_k T.c_SIGNS)) (tw_or1 (tt_gt (te_var 2) (te_cv rfl T.v_MAX_TURNING)))))).pt (ts_one ts_bad) ts_nil))))
    (ts_one (ts_if (tt_lt (te_len rfl T.n_len (ta_cons (te_var 4) ta_nil)) (te_len rfl T.n_len (ta_cons (te_ix rfl (te_var 1) te_int) ta_nil))) (ts_one ts_bad) ts_nil))))) (ps_fld (pv 0) (pv 1) rfl) (ps_fld (pv 0) (pe_frz (pe_listRg rfl rfl T.n_list (prg_1 rfl T.n_range (te_mul te_int (te_add rfl (te_len rfl T.n_len (ta_cons (te_var 1) ta_nil)) (te_len rfl T.n_len (ta_cons (te_ix rfl (te_var 1) te_int) ta_nil))))))) rfl))⟩
theorem d_parse (T : Tx P w mg base g) (c___init__ : MkR P w mg base g 7) : Cm P w mg base g 9 "parse" (f_parse g.CR) := by
  obtain ⟨ad, fd, q, mc, F, r, cm⟩ := T.d_parse
  have S : FnScope N_parse ["cls", "text"] (defScope s_parse) := ⟨rfl, rfl, rfl, by decide +kernel, rfl, by decide +kernel, by decide +kernel⟩
  exact ⟨ad, q, mc, r, cm, (fnr (fnok (p := P_parse g.CR) F S fun cdv A outer s H E hr =>
    (ts_cons (ts_set 2 S.nd (te_fz (te_split (by decide) (te_var 1))))
    (ts_one (ts_ret (te_mkV 0 rfl c___init__ hr (te_var 2)))))) (F.binds fun _ _ _ _ _ _ us hl => match us, hl with | [_, _], _ => rfl))⟩
theorem d_rows (T : Tx P w mg base g) : Pf P w mg base g 1 "rows" f_rows := by
  obtain ⟨p, ad, fd, F, hm⟩ := T.d_rows
  have S : FnScope N_rows ["self"] (defScope s_rows) := ⟨rfl, rfl, rfl, by decide +kernel, rfl, by decide +kernel, by decide +kernel⟩
  exact ⟨p, ad, fd, _, hm, fnok (p := P_rows) F S fun cdv A outer s H E hr =>
    (ts_one (ts_ret (te_lines rfl T.R (te_var 0)))), F.binds fun _ _ _ _ _ _ us hl => match us, hl with | [_], _ => rfl⟩
theorem d_text (T : Tx P w mg base g) : Pf P w mg base g 1 "text" f_text := by
  obtain ⟨p, ad, fd, F, hm⟩ := T.d_text
  have S : FnScope N_text ["self"] (defScope s_text) := ⟨rfl, rfl, rfl, by decide +kernel, rfl, by decide +kernel, by decide +kernel⟩
  exact ⟨p, ad, fd, _, hm, fnok (p := P_text) F S fun cdv A outer s H E hr =>
    (ts_one (ts_ret (te_join rfl te_str (te_lines rfl T.R (te_var 0))))), F.binds fun _ _ _ _ _ _ us hl => match us, hl with | [_], _ => rfl⟩
theorem d_size (T : Tx P w mg base g) : Pf P w mg base g 1 "size" f_size := by
  obtain ⟨p, ad, fd, F, hm⟩ := T.d_size
  have S : FnScope N_size ["self"] (defScope s_size) := ⟨rfl, rfl, rfl, by decide +kernel, rfl, by decide +kernel, by decide +kernel⟩
  exact ⟨p, ad, fd, _, hm, fnok (p := P_size) F S fun cdv A outer s H E hr =>
    (ts_one (ts_ret (te_tup (ta_cons (te_len rfl T.n_len (ta_cons (te_lines rfl T.R (te_var 0)) ta_nil)) (ta_cons (te_len rfl T.n_len (ta_cons (te_ix rfl (te_lines rfl T.R (te_var 0)) te_int) ta_nil)) ta_nil))))), F.binds fun _ _ _ _ _ _ us hl => match us, hl with | [_], _ => rfl⟩
theorem d_turning (T : Tx P w mg base g) : Pf P w mg base g 1 "turning" f_turning := by
  obtain ⟨p, ad, fd, F, hm⟩ := T.d_turning
  obtain ⟨dT, hT, tT, kT⟩ := T.turned
  have S : FnScope N_turning ["self"] (defScope s_turning) := ⟨rfl, rfl, rfl, by decide +kernel, rfl, by decide +kernel, by decide +kernel⟩
  exact ⟨p, ad, fd, _, hm, fnok (p := P_turning) F S fun cdv A outer s H E hr =>
    (ts_cons (ts_set 1 S.nd (te_list ta_nil))
    (ts_cons (ts_for PassesOwn.never rfl (s_enT rfl rfl T.n_enumerate (te_lines rfl T.R (te_var 0))) (tg_tp rfl rfl (tgs_cons 2 S.nd (tgs_cons 3 S.nd tgs_nil))) (ts_one (ts_expr (te_extend rfl (te_var 1) (ta_cons (te_lc (own := [("column", 4), ("sign", 5)]) rfl S.nd (s_enS rfl T.n_enumerate (te_var 3)) (blkOk_by (by rfl)) (fun s H C cl fp => (tg_tp rfl rfl (tgs_cons 4 S.nd (tgs_cons 5 S.nd tgs_nil)))) (fun s H C cl fp => (tts1 (tt_inTurn rfl tT hT (te_var 5)))) (fun s H C cl fp => (te_tup (ta_cons (te_var 2) (ta_cons (te_var 4) ta_nil)))) (by decide)) ta_nil)))))
    (ts_one (ts_ret (te_var 1))))), F.binds fun _ _ _ _ _ _ us hl => match us, hl with | [_], _ => rfl⟩
theorem d_entry (T : Tx P w mg base g) (c_size : Pf P w mg base g 1 "size" f_size) : Mf P w mg base g 3 g.CR "entry" f_entry := by
  obtain ⟨ad, fd, F, hm⟩ := T.d_entry
  have S : FnScope N_entry ["self", "port"] (defScope s_entry) := ⟨rfl, rfl, rfl, by decide +kernel, rfl, by decide +kernel, by decide +kernel⟩
  exact ⟨ad, hm, (fnr (fnok (p := P_entry) F S fun cdv A outer s H E hr =>
    (ts_cons (ts_asg (te_prop rfl T.R c_size hr (te_var 0)) (tg_tp rfl rfl (tgs_cons 2 S.nd (tgs_cons 3 S.nd tgs_nil))))
    (ts_cons (ts_if (tt_lt (te_var 1) (te_var 3)) (ts_one (ts_ret (te_tup (ta_cons te_int (ta_cons (te_var 1) (ta_cons (te_k T.c_DOWN) ta_nil)))))) ts_nil)
    (ts_cons (ts_set 1 S.nd (te_sub (te_var 1) (te_var 3)))
    (ts_cons (ts_if (tt_lt (te_var 1) (te_var 2)) (ts_one (ts_ret (te_tup (ta_cons (te_var 1) (ta_cons (te_sub (te_var 3) te_int) (ta_cons (te_k T.c_LEFT) ta_nil)))))) ts_nil)
    (ts_cons (ts_set 1 S.nd (te_sub (te_var 1) (te_var 2)))
    (ts_cons (ts_if (tt_lt (te_var 1) (te_var 3)) (ts_one (ts_ret (te_tup (ta_cons (te_sub (te_var 2) te_int) (ta_cons (te_var 1) (ta_cons (te_k T.c_UP) ta_nil)))))) ts_nil)
    (ts_one (ts_ret (te_tup (ta_cons (te_sub (te_var 1) (te_var 3)) (ta_cons te_int (ta_cons (te_k T.c_RIGHT) ta_nil))))))))))))) (F.binds fun _ _ _ _ _ _ us hl => match us, hl with | [_, _], _ => rfl))⟩
theorem d_exit_of (T : Tx P w mg base g) (c_size : Pf P w mg base g 1 "size" f_size) : Mf P w mg base g 3 g.CR "exit_of" f_exit_of := by
  obtain ⟨ad, fd, F, hm⟩ := T.d_exit_of
  have S : FnScope N_exit_of ["self", "row", "column"] (defScope s_exit_of) := ⟨rfl, rfl, rfl, by decide +kernel, rfl, by decide +kernel, by decide +kernel⟩
  exact ⟨ad, hm, (fnr (fnok (p := P_exit_of) F S fun cdv A outer s H E hr =>
    (ts_cons (ts_asg (te_prop rfl T.R c_size hr (te_var 0)) (tg_tp rfl rfl (tgs_cons 3 S.nd (tgs_cons 4 S.nd tgs_nil))))
    (ts_cons (ts_if (tt_lt (te_var 1) te_int) (ts_one (ts_ret (te_var 2))) ts_nil)
    (ts_cons (ts_if (tt_eq (te_var 2) (te_var 4)) (ts_one (ts_ret (te_add rfl (te_var 4) (te_var 1)))) ts_nil)
    (ts_cons (ts_if (tt_eq (te_var 1) (te_var 3)) (ts_one (ts_ret (te_add rfl (te_add rfl (te_var 4) (te_var 3)) (te_var 2)))) ts_nil)
    (ts_one (ts_ret (te_add rfl (te_add rfl (te_mul te_int (te_var 4)) (te_var 3)) (te_var 1))))))))) (F.binds fun _ _ _ _ _ _ us hl => match us, hl with | [_, _, _], _ => rfl))⟩
theorem d___len__ (T : Tx P w mg base g) : Dn P w mg base g 1 "__len__" f___len__ := by
  obtain ⟨ad, fd, F, h1, h2, h3⟩ := T.d___len__
  have S : FnScope N___len__ ["self"] (defScope s___len__) := ⟨rfl, rfl, rfl, by decide +kernel, rfl, by decide +kernel, by decide +kernel⟩
  exact ⟨ad, h1, h2, h3, (fnr (fnok (p := P___len__) F S fun cdv A outer s H E hr =>
    (ts_one (ts_ret (te_ports rfl T.R T.n_len (te_var 0))))) (F.binds fun _ _ _ _ _ _ us hl => match us, hl with | [_], _ => rfl))⟩
theorem d_has_port (T : Tx P w mg base g) (c_is_int_in : Cf P w mg base g 1 "is_int_in" (f_is_int_in)) (c___len__ : Dn P w mg base g 1 "__len__" f___len__) : Mf P w mg base g 3 g.CR "has_port" f_has_port := by
  obtain ⟨ad, fd, F, hm⟩ := T.d_has_port
  have S : FnScope N_has_port ["self", "port"] (defScope s_has_port) := ⟨rfl, rfl, rfl, by decide +kernel, rfl, by decide +kernel, by decide +kernel⟩
  exact ⟨ad, hm, (fnr (fnok (p := P_has_port) F S fun cdv A outer s H E hr =>
    (ts_one (ts_ret (te_call rfl c_is_int_in hr (ta_cons (te_var 1) (ta_cons te_int (ta_cons (te_sub (te_lenU rfl c___len__ hr T.n_len (ta_cons (te_var 0) ta_nil)) te_int) ta_nil))))))) (F.binds fun _ _ _ _ _ _ us hl => match us, hl with | [_, _], _ => rfl))⟩
theorem d_beam (T : Tx P w mg base g) (c_thrown : Cf P w mg base g 1 "thrown" (f_thrown)) (c___init__ : MkR P w mg base g 7) (c_size : Pf P w mg base g 1 "size" f_size) (c_entry : Mf P w mg base g 3 g.CR "entry" f_entry) (c_exit_of : Mf P w mg base g 3 g.CR "exit_of" f_exit_of) : Mf P w mg base g 9 g.CR "beam" f_beam := by
  obtain ⟨ad, fd, F, hm⟩ := T.d_beam
  obtain ⟨dT, hT, tT, kT⟩ := T.turned
  have S : FnScope N_beam ["self", "port"] (defScope s_beam) := ⟨rfl, rfl, rfl, by decide +kernel, rfl, by decide +kernel, by decide +kernel⟩
  exact ⟨ad, hm, (fnr (fnok (p := P_beam) F S fun cdv A outer s H E hr =>
    (ts_cons (by first | exact ts_setLc 2 (own := [("line", 3)]) rfl S.nd (s_tup rfl (te_lines rfl T.R (te_var 0))) (blkOk_by (by rfl)) (fun s H C cl fp => (tg_nm 3 S.nd)) (fun s H C cl fp => ttsY) (fun s H C cl fp => (te_listS rfl T.n_list (ta_cons (te_var 3) ta_nil))) (by decide) (by rfl) | exact ts_set 2 S.nd (te_lc (own := [("line", 3)]) rfl S.nd (s_tup rfl (te_lines rfl T.R (te_var 0))) (blkOk_by (by rfl)) (fun s H C cl fp => (tg_nm 3 S.nd)) (fun s H C cl fp => ttsY) (fun s H C cl fp => (te_listS rfl T.n_list (ta_cons (te_var 3) ta_nil))) (by decide)))
    (ts_cons (ts_asg (te_prop rfl T.R c_size hr (te_var 0)) (tg_tp rfl rfl (tgs_cons 4 S.nd (tgs_cons 5 S.nd tgs_nil))))
    (ts_cons (ts_asg (te_rm rfl T.R c_entry hr (te_var 0) (ta_cons (te_var 1) ta_nil)) (tg_tp rfl rfl (tgs_cons 6 S.nd (tgs_cons 7 S.nd (tgs_cons 8 S.nd tgs_nil)))))
    (ts_cons (ts_set 9 S.nd (te_list ta_nil))
    (ts_cons (ts_while PassesOwn.never ((tw_and (tt_chain op_le op_lt te_int (te_var 6) (te_var 4)) (tw_and1 (tt_chain op_le op_lt te_int (te_var 7) (te_var 5))))).pt (ts_cons (ts_expr (te_append rfl (te_var 9) (ta_cons (te_tup (ta_cons (te_var 6) (ta_cons (te_var 7) ta_nil))) ta_nil)))
    (ts_cons (ts_set 10 S.nd (te_ix rfl (te_ix rfl (te_var 2) (te_var 6)) (te_var 7)))
    (ts_cons (ts_set 8 S.nd (te_call rfl c_thrown hr (ta_cons (te_var 10) (ta_cons (te_var 8) ta_nil))))
    (ts_cons (ts_sub (te_ix rfl (te_var 2) (te_var 6)) (te_var 7) (te_turnGet rfl tT hT (te_var 10) (te_var 10)))
    (ts_one (ts_par 6 7 rfl S.nd (ta_cons (te_add rfl (te_var 6) (te_ix rfl (te_var 8) te_int)) (ta_cons (te_add rfl (te_var 7) (te_ix rfl (te_var 8) te_int)) ta_nil)))))))))
    (ts_cons (by first | exact ts_setLcF 11 (own := [("line", 3)]) rfl S.nd (s_seq rfl (te_var 2)) (blkOk_by (by rfl)) (fun s H C cl fp => (tg_nm 3 S.nd)) (fun s H C cl fp => ttsY) (fun s H C cl fp => (te_join rfl te_str (te_var 3))) (by decide) (by rfl) | exact ts_set 11 S.nd (te_fz (te_lc (own := [("line", 3)]) rfl S.nd (s_seq rfl (te_var 2)) (blkOk_by (by rfl)) (fun s H C cl fp => (tg_nm 3 S.nd)) (fun s H C cl fp => ttsY) (fun s H C cl fp => (te_join rfl te_str (te_var 3))) (by decide))))
    (ts_one (ts_ret (te_tup (ta_cons (te_rm rfl T.R c_exit_of hr (te_var 0) (ta_cons (te_var 6) (ta_cons (te_var 7) ta_nil))) (ta_cons (te_var 9) (ta_cons (te_mk rfl c___init__ T.mRoom hr (te_var 11)) ta_nil))))))))))))) (F.binds fun _ _ _ _ _ _ us hl => match us, hl with | [_, _], _ => rfl))⟩
theorem d___call__ (T : Tx P w mg base g) (c_has_port : Mf P w mg base g 3 g.CR "has_port" f_has_port) (c_beam : Mf P w mg base g 9 g.CR "beam" f_beam) : Cl P w mg base g 10 f___call__ := by
  obtain ⟨ad, fd, F, hm⟩ := T.d___call__
  have S : FnScope N___call__ ["self", "port"] (defScope s___call__) := ⟨rfl, rfl, rfl, by decide +kernel, rfl, by decide +kernel, by decide +kernel⟩
  exact ⟨ad, hm, (fnr (fnok (p := P___call__) F S fun cdv A outer s H E hr =>
    (ts_cons (ts_if (tt_not (tt_val (te_rm rfl T.R c_has_port hr (te_var 0) (ta_cons (te_var 1) ta_nil)))) (ts_one ts_bad) ts_nil)
    (ts_cons (ts_asg (te_rm rfl T.R c_beam.fz hr (te_var 0) (ta_cons (te_var 1) ta_nil)) (tg_tp rfl rfl (tgs_cons 2 S.nd (tgs_cons 3 S.nd (tgs_cons 4 S.nd tgs_nil)))))
    (ts_one (ts_ret (te_tup (ta_cons (te_var 2) (ta_cons (te_var 4) ta_nil)))))))) (F.binds fun _ _ _ _ _ _ us hl => match us, hl with | [_, _], _ => rfl))⟩
theorem d___eq__ (T : Tx P w mg base g) : RoomEq P w mg base g 7 := by
  obtain ⟨ad, fd, F, h1, h2, h3⟩ := T.d___eq__
  have S : FnScope N___eq__ ["self", "other"] (defScope s___eq__) := ⟨rfl, rfl, rfl, by decide +kernel, rfl, by decide +kernel, by decide +kernel⟩
  exact ⟨⟨ad, f___eq__, h1, h2, (fnr (fnok (p := P___eq__) F S fun cdv A outer s H E hr =>
    (ts_one (ts_ret (te_and (te_isR rfl T.R T.RI T.n_isinstance T.mRoom (te_var 1)) (te_one (te_eqD (kE := 0) rfl (fun z => absurd z (by decide)) hr (te_lines rfl T.R (te_var 0)) (te_lines rfl T.R (te_var 1)))))))) (F.binds fun _ _ _ _ _ _ us hl => match us, hl with | [_, _], _ => rfl)), eq_ok⟩, T.neq, T.RI.hm⟩
theorem d___bool__ (T : Tx P w mg base g) : Dn P w mg base g 1 "__bool__" f___bool__ := by
  obtain ⟨ad, fd, F, h1, h2, h3⟩ := T.d___bool__
  obtain ⟨dT, hT, tT, kT⟩ := T.turned
  have S : FnScope N___bool__ ["self"] (defScope s___bool__) := ⟨rfl, rfl, rfl, by decide +kernel, rfl, by decide +kernel, by decide +kernel⟩
  exact ⟨ad, h1, h2, h3, (fnr (fnok (p := P___bool__) F S fun cdv A outer s H E hr =>
    (ts_one (ts_ret (te_any rfl rfl T.n_any (ta_cons (te_fz (te_lc2 (own := [("line", 1), ("sign", 2)]) (vs1 := [2]) rfl S.nd (s_tup rfl (te_lines rfl T.R (te_var 0))) (blkOk_by (by rfl)) (by decide) (fun s H C cl fp => (tg_nm 1 S.nd)) (fun s H C cl fp => ttsY) ⟨iKd [kR, kF], fun s H C cl fp => pi_kd kT hT, fun ρ m H σ ε R e s h => h ρ H _ .refl s (src_k (ks := [kR, kF]))⟩ (fun s H C cl fp => (tg_nm 2 S.nd)) (fun s H C cl fp => ttsY) (fun s H C cl fp => (te_inS (te_var 2) (te_var 1))) (by decide) (by decide))) ta_nil))))) (F.binds fun _ _ _ _ _ _ us hl => match us, hl with | [_], _ => rfl))⟩
theorem d___getitem__ (T : Tx P w mg base g) (c_is_int_in : Cf P w mg base g 1 "is_int_in" (f_is_int_in)) (c_size : Pf P w mg base g 1 "size" f_size) : Dn P w mg base g 3 "__getitem__" f___getitem__ := by
  obtain ⟨ad, fd, F, h1, h2, h3⟩ := T.d___getitem__
  have S : FnScope N___getitem__ ["self", "at"] (defScope s___getitem__) := ⟨rfl, rfl, rfl, by decide +kernel, rfl, by decide +kernel, by decide +kernel⟩
  exact ⟨ad, h1, h2, h3, (fnr (fnok (p := P___getitem__) F S fun cdv A outer s H E hr =>
    (ts_cons (ts_asg (te_prop rfl T.R c_size hr (te_var 0)) (tg_tp rfl rfl (tgs_cons 2 S.nd (tgs_cons 3 S.nd tgs_nil))))
    (ts_cons (ts_if ((tw_or (tt_not (tt_val (te_isi rfl T.n_isinstance T.n_tuple (by decide +kernel) (te_var 1) (by decide +kernel)))) (tw_or1 (tt_ne (te_len rfl T.n_len (ta_cons (te_var 1) ta_nil)) te_int)))).pt (ts_one ts_bad) ts_nil)
    (ts_cons (ts_if ((tw_or (tt_not (tt_val (te_call rfl c_is_int_in hr (ta_cons (te_ix rfl (te_var 1) te_int) (ta_cons te_int (ta_cons (te_sub (te_var 2) te_int) ta_nil)))))) (tw_or1 (tt_not (tt_val (te_call rfl c_is_int_in hr (ta_cons (te_ix rfl (te_var 1) te_int) (ta_cons te_int (ta_cons (te_sub (te_var 3) te_int) ta_nil))))))))).pt (ts_one ts_bad) ts_nil)
    (ts_one (ts_ret (te_ix rfl (te_ix rfl (te_lines rfl T.R (te_var 0)) (te_ix rfl (te_var 1) te_int)) (te_ix rfl (te_var 1) te_int)))))))) (F.binds fun _ _ _ _ _ _ us hl => match us, hl with | [_, _], _ => rfl))⟩
theorem d___invert__ (T : Tx P w mg base g) (c___init__ : MkR P w mg base g 7) : Mf P w mg base g 9 g.CR "__invert__" f___invert__ := by
  obtain ⟨ad, fd, F, hm⟩ := T.d___invert__
  obtain ⟨dT, hT, tT, kT⟩ := T.turned
  have S : FnScope N___invert__ ["self"] (defScope s___invert__) := ⟨rfl, rfl, rfl, by decide +kernel, rfl, by decide +kernel, by decide +kernel⟩
  exact ⟨ad, hm, (fnr (fnok (p := P___invert__) F S fun cdv A outer s H E hr =>
    (ts_cons (by first | exact ts_setLcF 1 (own := [("line", 3)]) rfl S.nd (s_tup rfl (te_lines rfl T.R (te_var 0))) (blkOk_by (by rfl)) (fun s H C cl fp => (tg_nm 3 S.nd)) (fun s H C cl fp => ttsY) (fun s H C cl fp => (te_join rfl te_str (te_fz (te_lc (own := [("sign", 2)]) rfl S.nd (s_str (te_var 3)) (blkOk_by (by rfl)) (fun s H C cl fp => (tg_nm 2 S.nd)) (fun s H C cl fp => ttsY) (fun s H C cl fp => (te_turnGet rfl tT hT (te_var 2) (te_var 2))) (by decide))))) (by decide) (by rfl) | exact ts_set 1 S.nd (te_fz (te_lc (own := [("line", 3)]) rfl S.nd (s_tup rfl (te_lines rfl T.R (te_var 0))) (blkOk_by (by rfl)) (fun s H C cl fp => (tg_nm 3 S.nd)) (fun s H C cl fp => ttsY) (fun s H C cl fp => (te_join rfl te_str (te_fz (te_lc (own := [("sign", 2)]) rfl S.nd (s_str (te_var 3)) (blkOk_by (by rfl)) (fun s H C cl fp => (tg_nm 2 S.nd)) (fun s H C cl fp => ttsY) (fun s H C cl fp => (te_turnGet rfl tT hT (te_var 2) (te_var 2))) (by decide))))) (by decide))))
    (ts_one (ts_ret (te_mk rfl c___init__ T.mRoom hr (te_var 1)))))) (F.binds fun _ _ _ _ _ _ us hl => match us, hl with | [_], _ => rfl))⟩
theorem d_check_port (T : Tx P w mg base g) (c_has_port : Mf P w mg base g 3 g.CR "has_port" f_has_port) : Cf P w mg base g 4 "check_port" (f_check_port) := by
  obtain ⟨ad, fd, F, hm⟩ := T.d_check_port
  have S : FnScope N_check_port ["room", "port"] (defScope s_check_port) := ⟨rfl, rfl, rfl, by decide +kernel, rfl, by decide +kernel, by decide +kernel⟩
  exact ⟨ad, (fnr (fnok (p := P_check_port) F S fun cdv A outer s H E hr =>
    (ts_one (ts_if (tt_not (tt_val (te_rm rfl T.R c_has_port hr (te_var 0) (ta_cons (te_var 1) ta_nil)))) (ts_one ts_bad) ts_nil))) (F.binds fun _ _ _ _ _ _ us hl => match us, hl with | [_, _], _ => rfl)), hm, F.kp⟩
theorem dX_check_port (T : Tx P w mg base g) (c_has_port : Mf P w mg base g 3 g.CR "has_port" f_has_port) : CfX P w mg base g 4 "check_port" fX_check_port := by
  obtain ⟨ad, fd, F, hm⟩ := T.d_check_port
  have S : FnScope N_check_port ["room", "port"] (defScope s_check_port) := ⟨rfl, rfl, rfl, by decide +kernel, rfl, by decide +kernel, by decide +kernel⟩
  exact ⟨ad, (fnrX (fnokX (p := PX_check_port) F S fun cdv A outer s H E hr tk =>
    (ts_one (ts_if (tt_not (tt_val (te_rmN rfl T.R c_has_port hr (te_var 0) (ta_cons (te_var 1) ta_nil)))) (ts_one (ts_raise tk rfl rfl (T.err "UnknownPort" (by decide +kernel)).raise T.m_UnknownPort)) ts_nil))) (F.binds fun _ _ _ _ _ _ us hl => match us, hl with | [_, _], _ => rfl)), hm, F.kp⟩
theorem d_path (T : Tx P w mg base g) (c_beam : Mf P w mg base g 9 g.CR "beam" f_beam) (c_check_port : Cf P w mg base g 4 "check_port" (f_check_port)) : Gf P w mg base g 10 "path" f_path := by
  obtain ⟨ad, fd, F, hm⟩ := T.d_path
  have S : GScope N_path ["room", "port"] (defScope s_path) := ⟨rfl, rfl, rfl, by decide +kernel, rfl, by decide +kernel, by decide +kernel⟩
  exact ⟨ad, fd, _, gfn (p := P_path) F S fun cdv A outer s H E pin hr =>
    (tg_cons (tg_plain (ts_expr (te_call rfl c_check_port hr (ta_cons (te_var 0) (ta_cons (te_var 1) ta_nil))))) (tg_cons (tg_for owns_gcx rfl (s_seq rfl (te_ix rfl (te_rm rfl T.R c_beam.fz hr (te_var 0) (ta_cons (te_var 1) ta_nil)) te_int)) (tg_nm 2 S.nd) (tg_cons (tg_yield (te_var 2)) tg_nil)) tg_nil)), hm, F.kp, F.binds fun _ _ _ _ _ _ us hl => match us, hl with | [_, _], _ => rfl⟩
theorem d_send (T : Tx P w mg base g) (c___call__ : Cl P w mg base g 10 f___call__) (c_check_port : Cf P w mg base g 4 "check_port" (f_check_port)) : Cf P w mg base g 11 "send" (f_send) := by
  obtain ⟨ad, fd, F, hm⟩ := T.d_send
  have S : FnScope N_send ([("room" : Str)] ++ [("ports" : Str)]) (defScope s_send) := ⟨rfl, rfl, rfl, by decide +kernel, rfl, by decide +kernel, by decide +kernel⟩
  exact ⟨ad, (fnstar (p := P_send) F S bv_send fun cdv A outer s H E hr =>
    (ts_cons (ts_for PassesOwn.never rfl (s_tup rfl (te_var 1)) (tg_nm 2 S.nd) (ts_one (ts_expr (te_call rfl c_check_port hr (ta_cons (te_var 0) (ta_cons (te_var 2) ta_nil))))))
    (ts_cons (ts_set 3 S.nd (te_list ta_nil))
    (ts_cons (ts_for PassesOwn.never rfl (s_tup rfl (te_var 1)) (tg_nm 2 S.nd) (ts_cons (ts_asg (te_rcall rfl c___call__ hr (te_var 0) (ta_cons (te_var 2) ta_nil)) (tg_tp rfl rfl (tgs_cons 4 S.nd (tgs_cons 0 S.nd tgs_nil))))
    (ts_one (ts_expr (te_append rfl (te_var 3) (ta_cons (te_var 4) ta_nil))))))
    (ts_one (ts_ret (te_tup (ta_cons (te_var 3) (ta_cons (te_var 0) ta_nil))))))))), hm, F.kp⟩
theorem dX_send (T : Tx P w mg base g) (c___call__ : Cl P w mg base g 10 f___call__) (cX_check_port : CfX P w mg base g 4 "check_port" fX_check_port) : CfX P w mg base g 11 "send" fX_send := by
  obtain ⟨ad, fd, F, hm⟩ := T.d_send
  have S : FnScope N_send ([("room" : Str)] ++ [("ports" : Str)]) (defScope s_send) := ⟨rfl, rfl, rfl, by decide +kernel, rfl, by decide +kernel, by decide +kernel⟩
  exact ⟨ad, (fnstarX (p := PX_send) F S bv_send fun cdv A outer s H E hr tk =>
    (ts_cons (ts_for (passes_of rfl) rfl (s_tup rfl (te_var 1)) (tg_nm 2 S.nd) (ts_one (ts_expr (te_callX tk rfl cX_check_port hr (ta_cons (te_var 0) (ta_cons (te_var 2) ta_nil))))))
    (ts_cons (ts_set 3 S.nd (te_list ta_nil))
    (ts_cons (ts_for (passes_of rfl) rfl (s_tup rfl (te_var 1)) (tg_nm 2 S.nd) (ts_cons (ts_asg (te_rcallN rfl c___call__ hr (te_var 0) (ta_cons (te_var 2) ta_nil)) (tg_tp rfl rfl (tgs_cons 4 S.nd (tgs_cons 0 S.nd tgs_nil))))
    (ts_one (ts_expr (te_append rfl (te_var 3) (ta_cons (te_var 4) ta_nil))))))
    (ts_one (ts_ret (te_tup (ta_cons (te_var 3) (ta_cons (te_var 0) ta_nil))))))))), hm, F.kp⟩
theorem d_unsent (T : Tx P w mg base g) (c___invert__ : Mf P w mg base g 9 g.CR "__invert__" f___invert__) (c_send : Cf P w mg base g 11 "send" (f_send)) : Cf P w mg base g 12 "unsent" (f_unsent) := by
  obtain ⟨ad, fd, F, hm⟩ := T.d_unsent
  have S : FnScope N_unsent ([("room" : Str)] ++ [("exits" : Str)]) (defScope s_unsent) := ⟨rfl, rfl, rfl, by decide +kernel, rfl, by decide +kernel, by decide +kernel⟩
  exact ⟨ad, (fnstar (p := P_unsent) F S bv_unsent fun cdv A outer s H E hr =>
    (ts_cons (ts_set 2 S.nd (te_revT rfl (te_var 1)))
    (ts_cons (ts_asg (te_callS rfl c_send.fz hr (tal_cons (te_inv rfl c___invert__ hr (te_var 0)) (tal_star rfl (te_var 2) tal_nil))) (tg_tp rfl rfl (tgs_cons 3 S.nd (tgs_cons 4 S.nd tgs_nil))))
    (ts_one (ts_ret (te_tup (ta_cons (te_fz (te_rev rfl (te_var 3))) (ta_cons (te_inv rfl c___invert__ hr (te_var 4)) ta_nil)))))))), hm, F.kp⟩
theorem dL_unsent (T : Tx P w mg base g) (c___invert__ : Mf P w mg base g 9 g.CR "__invert__" f___invert__) (c_send : Cf P w mg base g 11 "send" (f_send)) : Cf P w mg base g 12 "unsent" fL_unsent := by
  obtain ⟨ad, fd, F, hm⟩ := T.d_unsent
  have S : FnScope N_unsent ([("room" : Str)] ++ [("exits" : Str)]) (defScope s_unsent) := ⟨rfl, rfl, rfl, by decide +kernel, rfl, by decide +kernel, by decide +kernel⟩
  exact ⟨ad, (fnstar (p := PL_unsent) F S bv_unsent fun cdv A outer s H E hr =>
    (ts_cons (ts_set 2 S.nd (te_revT rfl (te_var 1)))
    (ts_cons (ts_asg (te_callS rfl c_send.fz hr (tal_cons (te_inv rfl c___invert__ hr (te_var 0)) (tal_star rfl (te_var 2) tal_nil))) (tg_tp rfl rfl (tgs_cons 3 S.nd (tgs_cons 4 S.nd tgs_nil))))
    (ts_one (ts_ret (te_tup (ta_cons (te_rev rfl (te_var 3)) (ta_cons (te_inv rfl c___invert__ hr (te_var 4)) ta_nil)))))))), hm, F.kp⟩
theorem dX_unsent (T : Tx P w mg base g) (c___invert__ : Mf P w mg base g 9 g.CR "__invert__" f___invert__) (cX_send : CfX P w mg base g 11 "send" fX_send) : CfX P w mg base g 12 "unsent" fX_unsent := by
  obtain ⟨ad, fd, F, hm⟩ := T.d_unsent
  have S : FnScope N_unsent ([("room" : Str)] ++ [("exits" : Str)]) (defScope s_unsent) := ⟨rfl, rfl, rfl, by decide +kernel, rfl, by decide +kernel, by decide +kernel⟩
  exact ⟨ad, (fnstarX (p := PX_unsent) F S bv_unsent fun cdv A outer s H E hr tk =>
    (ts_cons (ts_set 2 S.nd (te_revT rfl (te_var 1)))
    (ts_cons (ts_asg (te_callSX tk rfl cX_send hr (tal_cons (te_invN rfl c___invert__ hr (te_var 0)) (tal_star rfl (te_var 2) tal_nil))) (tg_tp rfl rfl (tgs_cons 3 S.nd (tgs_cons 4 S.nd tgs_nil))))
    (ts_one (ts_ret (te_tup (ta_cons (te_rev rfl (te_var 3)) (ta_cons (te_invN rfl c___invert__ hr (te_var 4)) ta_nil)))))))), hm, F.kp⟩
theorem d__law_random (T : Tx P w mg base g) : Cf P w mg base g 1 "_law_random" (f__law_random) := by
  obtain ⟨ad, fd, F, hm⟩ := T.d__law_random
  have S : FnScope N__law_random ["_law_script", "_law_salt"] (defScope s__law_random) := ⟨rfl, rfl, rfl, by decide +kernel, rfl, by decide +kernel, by decide +kernel⟩
  exact ⟨ad, (fnr (fnok (p := P__law_random) F S fun cdv A outer s H E hr =>
    (ts_cons (ts_set 2 S.nd (te_var 1))
    (ts_cons (ts_for PassesOwn.never rfl (s_seq rfl (te_var 0)) (tg_nm 3 S.nd) (ts_one (ts_set 2 S.nd (te_mod (te_add rfl (te_mul (te_var 2) te_int) (te_abs T.n_abs (ta_cons (te_var 3) ta_nil))) te_int))))
    (ts_one (ts_ret (te_add rfl (te_fz (te_list (ta_cons (te_var 2) (ta_cons te_int ta_nil)))) (te_fz (te_lc (own := [("_law_cell", 3)]) rfl S.nd (s_seq rfl (te_var 0)) (blkOk_by (by rfl)) (fun s H C cl fp => (tg_nm 3 S.nd)) (fun s H C cl fp => (tts1 (tt_ge (te_var 3) (te_pow te_int te_int)))) (fun s H C cl fp => (te_var 3)) (by decide))))))))) (F.binds fun _ _ _ _ _ _ us hl => match us, hl with | [_, _], _ => rfl)), hm, F.kp⟩
theorem d__law_room (T : Tx P w mg base g) (c_parse : Cm P w mg base g 9 "parse" (f_parse g.CR)) : Cf P w mg base g 10 "_law_room" (f__law_room g.CR) := by
  obtain ⟨ad, fd, F, hm⟩ := T.d__law_room
  have S : FnScope N__law_room ["_law_lines_here"] (defScope s__law_room) := ⟨rfl, rfl, rfl, by decide +kernel, rfl, by decide +kernel, by decide +kernel⟩
  exact ⟨ad, (fnr (fnok (p := P__law_room g.CR) F S fun cdv A outer s H E hr =>
    (ts_one (ts_ret (te_cm rfl c_parse T.mRoom hr (ta_cons (te_join rfl te_str (te_var 0)) ta_nil))))) (F.binds fun _ _ _ _ _ _ us hl => match us, hl with | [_], _ => rfl)), hm, F.kp⟩
theorem d__law_below (T : Tx P w mg base g) : Cf P w mg base g 1 "_law_below" (f__law_below) := by
  obtain ⟨ad, fd, F, hm⟩ := T.d__law_below
  have S : FnScope N__law_below ["_law_d", "_law_limit"] (defScope s__law_below) := ⟨rfl, rfl, rfl, by decide +kernel, rfl, by decide +kernel, by decide +kernel⟩
  exact ⟨ad, (fnr (fnok (p := P__law_below) F S fun cdv A outer s H E hr =>
    (ts_cons (ts_if ((tw_and (tt_eq (te_ix rfl (te_var 0) te_int) te_int) (tw_and1 (tt_gt (te_len rfl T.n_len (ta_cons (te_var 0) ta_nil)) te_int)))).pt (ts_one (ts_sub (te_var 0) te_int (te_popAt rfl (te_var 0) (ta_cons te_int ta_nil)))) ts_nil)
    (ts_cons (ts_if (tt_gt (te_ix rfl (te_var 0) te_int) te_int) (ts_cons (ts_set 2 S.nd (te_mod (te_ix rfl (te_var 0) te_int) (te_var 1)))
    (ts_cons (ts_sub (te_var 0) te_int (te_fdiv (te_ix rfl (te_var 0) te_int) (te_var 1)))
    (ts_one (ts_ret (te_var 2))))) ts_nil)
    (ts_cons (ts_sub (te_var 0) te_int (te_mod (te_add rfl (te_mul (te_ix rfl (te_var 0) te_int) te_int) te_int) te_int))
    (ts_one (ts_ret (te_mod (te_fdiv (te_ix rfl (te_var 0) te_int) te_int) (te_var 1)))))))) (F.binds fun _ _ _ _ _ _ us hl => match us, hl with | [_, _], _ => rfl)), hm, F.kp⟩
theorem d__law_lines (T : Tx P w mg base g) (c__law_below : Cf P w mg base g 1 "_law_below" (f__law_below)) : Cf P w mg base g 2 "_law_lines" (f__law_lines) := by
  obtain ⟨ad, fd, F, hm⟩ := T.d__law_lines
  have S : FnScope N__law_lines ["_law_d", "_law_most", "_law_turning"] (defScope s__law_lines) := ⟨rfl, rfl, rfl, by decide +kernel, rfl, by decide +kernel, by decide +kernel⟩
  exact ⟨ad, (fnr (fnok (p := P__law_lines) F S fun cdv A outer s H E hr =>
    (ts_cons (ts_asg (te_tup (ta_cons (te_add rfl te_int (te_call rfl c__law_below hr (ta_cons (te_var 0) (ta_cons (te_var 1) ta_nil)))) (ta_cons (te_add rfl te_int (te_call rfl c__law_below hr (ta_cons (te_var 0) (ta_cons (te_var 1) ta_nil)))) (ta_cons (te_list ta_nil) (ta_cons (te_var 2) ta_nil))))) (tg_tp rfl rfl (tgs_cons 3 S.nd (tgs_cons 4 S.nd (tgs_cons 5 S.nd (tgs_cons 6 S.nd tgs_nil))))))
    (ts_cons (ts_set 7 S.nd (te_add rfl te_int (te_call rfl c__law_below hr (ta_cons (te_var 0) (ta_cons te_int ta_nil)))))
    (ts_cons (ts_for PassesOwn.never rfl (s_r1 (by rfl) T.n_range (te_var 3)) (tg_nm 8 S.nd) (ts_cons (ts_set 9 S.nd te_str)
    (ts_cons (ts_for PassesOwn.never rfl (s_r1 (by rfl) T.n_range (te_var 4)) (tg_nm 10 S.nd) (ts_cons (ts_set 11 S.nd (te_if (tt_lt (te_call rfl c__law_below hr (ta_cons (te_var 0) (ta_cons te_int ta_nil))) (te_var 7)) te_str (te_ix rfl te_str (te_call rfl c__law_below hr (ta_cons (te_var 0) (ta_cons te_int ta_nil))))))
    (ts_cons (ts_if (tt_inS (te_var 11) te_str) (ts_one (ts_asg (te_if (tt_gt (te_var 6) te_int) (te_tup (ta_cons (te_var 11) (ta_cons (te_sub (te_var 6) te_int) ta_nil))) (te_tup (ta_cons (te_ix rfl te_str (te_call rfl c__law_below hr (ta_cons (te_var 0) (ta_cons te_int ta_nil)))) (ta_cons te_int ta_nil)))) (tg_tp rfl rfl (tgs_cons 11 S.nd (tgs_cons 6 S.nd tgs_nil))))) ts_nil)
    (ts_one (ts_set 9 S.nd (te_add rfl (te_var 9) (te_var 11)))))))
    (ts_one (ts_expr (te_append rfl (te_var 5) (ta_cons (te_var 9) ta_nil)))))))
    (ts_one (ts_ret (te_var 5))))))) (F.binds fun _ _ _ _ _ _ us hl => match us, hl with | [_, _, _], _ => rfl)), hm, F.kp⟩
theorem d__law_equal_0 (T : Tx P w mg base g) : Cf P w mg base g 1 "_law_equal" f__law_equal_0 := by
  obtain ⟨ad, fd, F, hm⟩ := T.d__law_equal
  have S : FnScope N__law_equal ["_law_actual", "_law_expected"] (defScope s__law_equal) := ⟨rfl, rfl, rfl, by decide +kernel, rfl, by decide +kernel, by decide +kernel⟩
  exact ⟨ad, (fnr (fnok (k := 0) (p := sBad) F S fun cdv A outer s H E hr => pss_bad) (F.binds fun _ _ _ _ _ _ us hl => match us, hl with | [_, _], _ => rfl)), hm, F.kp⟩
theorem d__law_equal_1 (T : Tx P w mg base g) (c__law_equal_0 : Cf P w mg base g 1 "_law_equal" f__law_equal_0) : Cf P w mg base g 2 "_law_equal" f__law_equal_1 := by
  obtain ⟨ad, fd, F, hm⟩ := T.d__law_equal
  have S : FnScope N__law_equal ["_law_actual", "_law_expected"] (defScope s__law_equal) := ⟨rfl, rfl, rfl, by decide +kernel, rfl, by decide +kernel, by decide +kernel⟩
  exact ⟨ad, (fnr (fnok (p := P__law_equal_1) F S fun cdv A outer s H E hr =>
    (ts_cons (ts_if (tt_isN (te_var 1) te_non) (ts_one (ts_ret (te_isN (te_var 0) te_non))) ts_nil)
    (ts_cons (ts_if (tt_val (te_isi rfl T.n_isinstance T.n_bool (by decide +kernel) (te_var 1) (by decide +kernel))) (ts_one (ts_ret (te_and (te_isi rfl T.n_isinstance T.n_bool (by decide +kernel) (te_var 0) (by decide +kernel)) (te_one (te_eq (te_var 0) (te_var 1)))))) ts_nil)
    (ts_cons (ts_if (tt_val (te_isi rfl T.n_isinstance T.n_int (by decide +kernel) (te_var 1) (by decide +kernel))) (ts_one (ts_ret (te_and (te_isi rfl T.n_isinstance T.n_int (by decide +kernel) (te_var 0) (by decide +kernel)) (te_and (te_not (te_isi rfl T.n_isinstance T.n_bool (by decide +kernel) (te_var 0) (by decide +kernel))) (te_one (te_eq (te_var 0) (te_var 1))))))) ts_nil)
    (ts_cons (ts_if (tt_val (te_isi rfl T.n_isinstance T.n_str (by decide +kernel) (te_var 1) (by decide +kernel))) (ts_one (ts_ret (te_and (te_isi rfl T.n_isinstance T.n_str (by decide +kernel) (te_var 0) (by decide +kernel)) (te_one (te_eq (te_var 0) (te_var 1)))))) ts_nil)
    (ts_cons (ts_if (tt_ne (te_isi rfl T.n_isinstance T.n_tuple (by decide +kernel) (te_var 1) (by decide +kernel)) (te_isi rfl T.n_isinstance T.n_tuple (by decide +kernel) (te_var 0) (by decide +kernel))) (ts_one (ts_ret te_bl)) ts_nil)
    (ts_cons (ts_if (tt_ne (te_isi rfl T.n_isinstance T.n_list (by decide +kernel) (te_var 1) (by decide +kernel)) (te_isi rfl T.n_isinstance T.n_list (by decide +kernel) (te_var 0) (by decide +kernel))) (ts_one (ts_ret te_bl)) ts_nil)
    (ts_cons (ts_if (tt_ne (te_len rfl T.n_len (ta_cons (te_var 0) ta_nil)) (te_len rfl T.n_len (ta_cons (te_var 1) ta_nil))) (ts_one (ts_ret te_bl)) ts_nil)
    (ts_one (ts_ret (te_all rfl rfl T.n_all (ta_cons (te_fz (te_lc (own := [("_law_k", 2)]) rfl S.nd (s_r1 (by rfl) T.n_range (te_len rfl T.n_len (ta_cons (te_var 1) ta_nil))) (blkOk_by (by rfl)) (fun s H C cl fp => (tg_nm 2 S.nd)) (fun s H C cl fp => ttsY) (fun s H C cl fp => (te_call rfl c__law_equal_0 hr (ta_cons (te_ix rfl (te_var 0) (te_var 2)) (ta_cons (te_ix rfl (te_var 1) (te_var 2)) ta_nil)))) (by decide))) ta_nil)))))))))))) (F.binds fun _ _ _ _ _ _ us hl => match us, hl with | [_, _], _ => rfl)), hm, F.kp⟩
theorem d__law_equal_2 (T : Tx P w mg base g) (c__law_equal_1 : Cf P w mg base g 2 "_law_equal" f__law_equal_1) : Cf P w mg base g 3 "_law_equal" f__law_equal_2 := by
  obtain ⟨ad, fd, F, hm⟩ := T.d__law_equal
  have S : FnScope N__law_equal ["_law_actual", "_law_expected"] (defScope s__law_equal) := ⟨rfl, rfl, rfl, by decide +kernel, rfl, by decide +kernel, by decide +kernel⟩
  exact ⟨ad, (fnr (fnok (p := P__law_equal_2) F S fun cdv A outer s H E hr =>
    (ts_cons (ts_if (tt_isN (te_var 1) te_non) (ts_one (ts_ret (te_isN (te_var 0) te_non))) ts_nil)
    (ts_cons (ts_if (tt_val (te_isi rfl T.n_isinstance T.n_bool (by decide +kernel) (te_var 1) (by decide +kernel))) (ts_one (ts_ret (te_and (te_isi rfl T.n_isinstance T.n_bool (by decide +kernel) (te_var 0) (by decide +kernel)) (te_one (te_eq (te_var 0) (te_var 1)))))) ts_nil)
    (ts_cons (ts_if (tt_val (te_isi rfl T.n_isinstance T.n_int (by decide +kernel) (te_var 1) (by decide +kernel))) (ts_one (ts_ret (te_and (te_isi rfl T.n_isinstance T.n_int (by decide +kernel) (te_var 0) (by decide +kernel)) (te_and (te_not (te_isi rfl T.n_isinstance T.n_bool (by decide +kernel) (te_var 0) (by decide +kernel))) (te_one (te_eq (te_var 0) (te_var 1))))))) ts_nil)
    (ts_cons (ts_if (tt_val (te_isi rfl T.n_isinstance T.n_str (by decide +kernel) (te_var 1) (by decide +kernel))) (ts_one (ts_ret (te_and (te_isi rfl T.n_isinstance T.n_str (by decide +kernel) (te_var 0) (by decide +kernel)) (te_one (te_eq (te_var 0) (te_var 1)))))) ts_nil)
    (ts_cons (ts_if (tt_ne (te_isi rfl T.n_isinstance T.n_tuple (by decide +kernel) (te_var 1) (by decide +kernel)) (te_isi rfl T.n_isinstance T.n_tuple (by decide +kernel) (te_var 0) (by decide +kernel))) (ts_one (ts_ret te_bl)) ts_nil)
    (ts_cons (ts_if (tt_ne (te_isi rfl T.n_isinstance T.n_list (by decide +kernel) (te_var 1) (by decide +kernel)) (te_isi rfl T.n_isinstance T.n_list (by decide +kernel) (te_var 0) (by decide +kernel))) (ts_one (ts_ret te_bl)) ts_nil)
    (ts_cons (ts_if (tt_ne (te_len rfl T.n_len (ta_cons (te_var 0) ta_nil)) (te_len rfl T.n_len (ta_cons (te_var 1) ta_nil))) (ts_one (ts_ret te_bl)) ts_nil)
    (ts_one (ts_ret (te_all rfl rfl T.n_all (ta_cons (te_fz (te_lc (own := [("_law_k", 2)]) rfl S.nd (s_r1 (by rfl) T.n_range (te_len rfl T.n_len (ta_cons (te_var 1) ta_nil))) (blkOk_by (by rfl)) (fun s H C cl fp => (tg_nm 2 S.nd)) (fun s H C cl fp => ttsY) (fun s H C cl fp => (te_call rfl c__law_equal_1 hr (ta_cons (te_ix rfl (te_var 0) (te_var 2)) (ta_cons (te_ix rfl (te_var 1) (te_var 2)) ta_nil)))) (by decide))) ta_nil)))))))))))) (F.binds fun _ _ _ _ _ _ us hl => match us, hl with | [_, _], _ => rfl)), hm, F.kp⟩
theorem d__law_equal_3 (T : Tx P w mg base g) (c__law_equal_2 : Cf P w mg base g 3 "_law_equal" f__law_equal_2) : Cf P w mg base g 4 "_law_equal" f__law_equal_3 := by
  obtain ⟨ad, fd, F, hm⟩ := T.d__law_equal
  have S : FnScope N__law_equal ["_law_actual", "_law_expected"] (defScope s__law_equal) := ⟨rfl, rfl, rfl, by decide +kernel, rfl, by decide +kernel, by decide +kernel⟩
  exact ⟨ad, (fnr (fnok (p := P__law_equal_3) F S fun cdv A outer s H E hr =>
    (ts_cons (ts_if (tt_isN (te_var 1) te_non) (ts_one (ts_ret (te_isN (te_var 0) te_non))) ts_nil)
    (ts_cons (ts_if (tt_val (te_isi rfl T.n_isinstance T.n_bool (by decide +kernel) (te_var 1) (by decide +kernel))) (ts_one (ts_ret (te_and (te_isi rfl T.n_isinstance T.n_bool (by decide +kernel) (te_var 0) (by decide +kernel)) (te_one (te_eq (te_var 0) (te_var 1)))))) ts_nil)
    (ts_cons (ts_if (tt_val (te_isi rfl T.n_isinstance T.n_int (by decide +kernel) (te_var 1) (by decide +kernel))) (ts_one (ts_ret (te_and (te_isi rfl T.n_isinstance T.n_int (by decide +kernel) (te_var 0) (by decide +kernel)) (te_and (te_not (te_isi rfl T.n_isinstance T.n_bool (by decide +kernel) (te_var 0) (by decide +kernel))) (te_one (te_eq (te_var 0) (te_var 1))))))) ts_nil)
    (ts_cons (ts_if (tt_val (te_isi rfl T.n_isinstance T.n_str (by decide +kernel) (te_var 1) (by decide +kernel))) (ts_one (ts_ret (te_and (te_isi rfl T.n_isinstance T.n_str (by decide +kernel) (te_var 0) (by decide +kernel)) (te_one (te_eq (te_var 0) (te_var 1)))))) ts_nil)
    (ts_cons (ts_if (tt_ne (te_isi rfl T.n_isinstance T.n_tuple (by decide +kernel) (te_var 1) (by decide +kernel)) (te_isi rfl T.n_isinstance T.n_tuple (by decide +kernel) (te_var 0) (by decide +kernel))) (ts_one (ts_ret te_bl)) ts_nil)
    (ts_cons (ts_if (tt_ne (te_isi rfl T.n_isinstance T.n_list (by decide +kernel) (te_var 1) (by decide +kernel)) (te_isi rfl T.n_isinstance T.n_list (by decide +kernel) (te_var 0) (by decide +kernel))) (ts_one (ts_ret te_bl)) ts_nil)
    (ts_cons (ts_if (tt_ne (te_len rfl T.n_len (ta_cons (te_var 0) ta_nil)) (te_len rfl T.n_len (ta_cons (te_var 1) ta_nil))) (ts_one (ts_ret te_bl)) ts_nil)
    (ts_one (ts_ret (te_all rfl rfl T.n_all (ta_cons (te_fz (te_lc (own := [("_law_k", 2)]) rfl S.nd (s_r1 (by rfl) T.n_range (te_len rfl T.n_len (ta_cons (te_var 1) ta_nil))) (blkOk_by (by rfl)) (fun s H C cl fp => (tg_nm 2 S.nd)) (fun s H C cl fp => ttsY) (fun s H C cl fp => (te_call rfl c__law_equal_2 hr (ta_cons (te_ix rfl (te_var 0) (te_var 2)) (ta_cons (te_ix rfl (te_var 1) (te_var 2)) ta_nil)))) (by decide))) ta_nil)))))))))))) (F.binds fun _ _ _ _ _ _ us hl => match us, hl with | [_, _], _ => rfl)), hm, F.kp⟩
theorem d__law_equal_4 (T : Tx P w mg base g) (c__law_equal_3 : Cf P w mg base g 4 "_law_equal" f__law_equal_3) : Cf P w mg base g 5 "_law_equal" f__law_equal_4 := by
  obtain ⟨ad, fd, F, hm⟩ := T.d__law_equal
  have S : FnScope N__law_equal ["_law_actual", "_law_expected"] (defScope s__law_equal) := ⟨rfl, rfl, rfl, by decide +kernel, rfl, by decide +kernel, by decide +kernel⟩
  exact ⟨ad, (fnr (fnok (p := P__law_equal_4) F S fun cdv A outer s H E hr =>
    (ts_cons (ts_if (tt_isN (te_var 1) te_non) (ts_one (ts_ret (te_isN (te_var 0) te_non))) ts_nil)
    (ts_cons (ts_if (tt_val (te_isi rfl T.n_isinstance T.n_bool (by decide +kernel) (te_var 1) (by decide +kernel))) (ts_one (ts_ret (te_and (te_isi rfl T.n_isinstance T.n_bool (by decide +kernel) (te_var 0) (by decide +kernel)) (te_one (te_eq (te_var 0) (te_var 1)))))) ts_nil)
    (ts_cons (ts_if (tt_val (te_isi rfl T.n_isinstance T.n_int (by decide +kernel) (te_var 1) (by decide +kernel))) (ts_one (ts_ret (te_and (te_isi rfl T.n_isinstance T.n_int (by decide +kernel) (te_var 0) (by decide +kernel)) (te_and (te_not (te_isi rfl T.n_isinstance T.n_bool (by decide +kernel) (te_var 0) (by decide +kernel))) (te_one (te_eq (te_var 0) (te_var 1))))))) ts_nil)
    (ts_cons (ts_if (tt_val (te_isi rfl T.n_isinstance T.n_str (by decide +kernel) (te_var 1) (by decide +kernel))) (ts_one (ts_ret (te_and (te_isi rfl T.n_isinstance T.n_str (by decide +kernel) (te_var 0) (by decide +kernel)) (te_one (te_eq (te_var 0) (te_var 1)))))) ts_nil)
    (ts_cons (ts_if (tt_ne (te_isi rfl T.n_isinstance T.n_tuple (by decide +kernel) (te_var 1) (by decide +kernel)) (te_isi rfl T.n_isinstance T.n_tuple (by decide +kernel) (te_var 0) (by decide +kernel))) (ts_one (ts_ret te_bl)) ts_nil)
    (ts_cons (ts_if (tt_ne (te_isi rfl T.n_isinstance T.n_list (by decide +kernel) (te_var 1) (by decide +kernel)) (te_isi rfl T.n_isinstance T.n_list (by decide +kernel) (te_var 0) (by decide +kernel))) (ts_one (ts_ret te_bl)) ts_nil)
    (ts_cons (ts_if (tt_ne (te_len rfl T.n_len (ta_cons (te_var 0) ta_nil)) (te_len rfl T.n_len (ta_cons (te_var 1) ta_nil))) (ts_one (ts_ret te_bl)) ts_nil)
    (ts_one (ts_ret (te_all rfl rfl T.n_all (ta_cons (te_fz (te_lc (own := [("_law_k", 2)]) rfl S.nd (s_r1 (by rfl) T.n_range (te_len rfl T.n_len (ta_cons (te_var 1) ta_nil))) (blkOk_by (by rfl)) (fun s H C cl fp => (tg_nm 2 S.nd)) (fun s H C cl fp => ttsY) (fun s H C cl fp => (te_call rfl c__law_equal_3 hr (ta_cons (te_ix rfl (te_var 0) (te_var 2)) (ta_cons (te_ix rfl (te_var 1) (te_var 2)) ta_nil)))) (by decide))) ta_nil)))))))))))) (F.binds fun _ _ _ _ _ _ us hl => match us, hl with | [_, _], _ => rfl)), hm, F.kp⟩
theorem te_errG {X : Cx} {W : Wx} {j : Nat} {qn : Str} {N : Nat} {x a : Str} {st : Stmt} {c0 P0 : Addr} {kk : Nat} {Ng : List Str} {i : Nat} {pS : Str → Addr → PgS} {ok : Str → Bool} {params : Arguments} {body : Expr} {scope : Scope} {pb : Pg} {p lpos pos : Pos} (hK : X.K = g.K)
    (hd : ∃ ad fd, Fun g.K x x st ad fd ∧ X.mg x = some (.ref ad))
    (hb : ∀ (kV doc pm : Value) (an : Option Addr) (cdv ct : Value) (us : List Value), us.length = [a].length → bindArgs (PySem.W.fnOf x x (defArgs st) (defBody st) (defScope st) .none kV doc pm an cdv ct) ⟨us, []⟩ = pure ([a].zip us))
    (Sg : FnScope Ng [a] (defScope st)) (hNg : Ng[0]? = some a) (hva : Vis (defScope st) a)
    (hT : g.T = [(P0, qn ++ "<lambda>")]) (hqn : X.env.qual = qn) (TB : LamX.TabB X.base X.mg c0 P0) (hcode : X.env.code = .ref c0) (hr : Room j X.A) (hj : kk + 2 ≤ j)
    (hG : ∀ ga cdv, LamX.GivesTo X Ng x (defScope st) ga cdv (defBody st) a (X.env.qual ++ "<lambda>") (TErr g Ng.length i pS fun c => ok c = true))
    (hbody : ∀ (A : Around) (outer : List Env) (s : Shared) (H : Hp) (E : XK) (f c' : Addr), Room kk (A.deeper (LamX.lamEnv X scope s.heap.objs.size f c')) → TakesE (LamX.lamCx X A outer s H E scope f c') E → PE (LamX.lamCx X A outer s H E scope f c') body (T g (WofE g E) pb))
    (L : LamX.LamS X.env.scope scope) (hg : Gl X x := by rfl) (hdef : defaultsOf params X.env = ([], []) := by rfl)
    (hbind : ∀ (q : Str) (cl : List (Str × Addr)) (pm cv ctv : Value), bindArgs (PySem.W.kla_fn "<lambda>" q params body scope cl pm cv ctv) ⟨[], []⟩ = pure [] := by intro _ _ _ _ _; rfl)
    (hlen : Ng.length = N := by rfl) (hdb : (x == ("__debug__" : Str)) = false := by decide) (hda : (a == ("__debug__" : Str)) = false := by decide) (hcd : (a == ("__classdict__" : Str)) = false := by decide) :
    PE X (.Call (.Name x p) [.Lambda params body scope lpos] [] pos) (T g W (pErr N i pS ok pb)) := by
  subst hlen
  exact te_errF hK hd hb Sg hNg hva (by rw [hqn]; exact hT) TB hcode hr hj hG hbody L hg hdef hbind hdb hda hcd
theorem SE__law_error_of : FnScope N__law_error_of ["_law_call"] (defScope s__law_error_of) := ⟨rfl, rfl, rfl, by decide +kernel, rfl, by decide +kernel, by decide +kernel⟩
theorem g__law_error_of {X : Cx} {j : Nat} {ga : Addr} {cdv : Value} {q : Str} (T : Tx X.prog X.w X.mg X.base g) (hK : X.K = g.K) (hr : Room (j + 1) X.A) : LamX.GivesTo X N__law_error_of "_law_error_of" (defScope s__law_error_of) ga cdv (defBody s__law_error_of) "_law_call" q (TErr g N__law_error_of.length 1 pS__law_error_of fun c => okErr c = true) :=
  err_gives rfl T.m_MirrorError (by decide) SE__law_error_of.nd rfl rfl (fun _ => rfl) (fun c hc => by rw [hK]; exact (T.err c hc).exm) fun s H c aE oe pn hc hz hf => by
    have IS : ExcC X.K (g.cl c) := by rw [hK]; exact (T.err c hc).is
    have KT : ∀ t ∈ errNames, PySem.W.kitOne X.K (.ref (g.cl c)) (.ref (g.cl t)) = some (decide (t = c)) := by rw [hK]; exact (T.err c hc).kit
    have KV : PySem.W.kitOne X.K (.ref (g.cl c)) (.type "ValueError") = some true := by rw [hK]; exact (T.err c hc).kitV
    have HU : ∀ env : Env, (X.A.deeper env).units + 65 < cLine := fun env => by have := (hr.deeper env).un; omega
    exact (ts_cons (ts_set 2 SE__law_error_of.nd (te_list (ta_cons (te_isE (by exact IS) hz hf (by exact T.n_isinstance) (by exact T.m_InvalidRoom) (by exact KT "InvalidRoom" (by decide +kernel)) (te_var 1)) (ta_cons (te_isE (by exact IS) hz hf (by exact T.n_isinstance) (by exact T.m_UnknownPort) (by exact KT "UnknownPort" (by decide +kernel)) (te_var 1)) (ta_cons (te_isE (by exact IS) hz hf (by exact T.n_isinstance) (by exact T.m_UnknownTile) (by exact KT "UnknownTile" (by decide +kernel)) (te_var 1)) ta_nil)))))
    (ts_cons (ts_set 2 SE__law_error_of.nd (te_add (by exact hK) (te_var 2) (te_list (ta_cons (te_isE (by exact IS) hz hf (by exact T.n_isinstance) (by exact T.m_InvalidNumber) (by exact KT "InvalidNumber" (by decide +kernel)) (te_var 1)) (ta_cons (te_isE (by exact IS) hz hf (by exact T.n_isinstance) (by exact T.m_OtherRoom) (by exact KT "OtherRoom" (by decide +kernel)) (te_var 1)) (ta_cons (te_isE (by exact IS) hz hf (by exact T.n_isinstance) (by exact T.m_TooMany) (by exact KT "TooMany" (by decide +kernel)) (te_var 1)) ta_nil))))))
    (ts_cons (ts_set 2 SE__law_error_of.nd (te_add (by exact hK) (te_var 2) (te_list (ta_cons (te_isE (by exact IS) hz hf (by exact T.n_isinstance) (by exact T.m_Contradiction) (by exact KT "Contradiction" (by decide +kernel)) (te_var 1)) (ta_cons (te_isE (by exact IS) hz hf (by exact T.n_isinstance) (by exact T.m_NotTurning) (by exact KT "NotTurning" (by decide +kernel)) (te_var 1)) (ta_cons (te_isE (by exact IS) hz hf (by exact T.n_isinstance) (by exact T.m_InvalidName) (by exact KT "InvalidName" (by decide +kernel)) (te_var 1)) ta_nil))))))
    (ts_cons (ts_set 2 SE__law_error_of.nd (te_add (by exact hK) (te_var 2) (te_list (ta_cons (te_isE (by exact IS) hz hf (by exact T.n_isinstance) (by exact T.m_UnknownName) (by exact KT "UnknownName" (by decide +kernel)) (te_var 1)) (ta_cons (te_isE (by exact IS) hz hf (by exact T.n_isinstance) (by exact T.m_InvalidOperation) (by exact KT "InvalidOperation" (by decide +kernel)) (te_var 1)) ta_nil)))))
    (ts_cons (ts_if (tw_or (tt_ne (te_countU (by exact hK) (by exact HU (envOfC "_law_error_of" (defScope s__law_error_of) s.heap.objs.size ga cdv)) (te_var 2) (ta_cons te_bl ta_nil)) te_int) (tw_or1 (tt_not (tt_val (te_isEB (ty := "ValueError") (by exact IS) hz hf (by exact T.n_isinstance) (by exact T.n_ValueError) (by decide +kernel) (by exact KV) (te_var 1)))))).pt (ts_one (ts_ret (te_tup (ta_cons te_str (ta_cons te_int ta_nil))))) ts_nil)
    (ts_cons (ts_set 3 SE__law_error_of.nd (te_list (ta_cons te_str (ta_cons te_str (ta_cons te_str (ta_cons te_str (ta_cons te_str (ta_cons te_str (ta_cons te_str (ta_cons te_str (ta_cons te_str (ta_cons te_str ta_nil))))))))))))
    (ts_cons (ts_set 4 SE__law_error_of.nd (te_ix (by exact hK) (te_add (by exact hK) (te_var 3) (te_list (ta_cons te_str ta_nil))) (te_indexU (by exact hK) (by exact HU (envOfC "_law_error_of" (defScope s__law_error_of) s.heap.objs.size ga cdv)) (te_var 2) (ta_cons te_bl ta_nil))))
    (ts_cons (ts_if (tt_eq (te_var 4) te_str) (ts_one ts_bad) ts_nil)
    (ts_one (ts_ret (te_tup (ta_cons (te_var 4) (ta_cons (te_if (tt_eq (te_var 4) te_str) te_bad te_int) ta_nil)))))))))))))
theorem d_law (T : Tx P w mg base g) (c_rows : Pf P w mg base g 1 "rows" f_rows) (c_turning : Pf P w mg base g 1 "turning" f_turning) (c___len__ : Dn P w mg base g 1 "__len__" f___len__) (c___call__ : Cl P w mg base g 10 f___call__) (c___getitem__ : Dn P w mg base g 3 "__getitem__" f___getitem__) (c___invert__ : Mf P w mg base g 9 g.CR "__invert__" f___invert__) (c_path : Gf P w mg base g 10 "path" f_path) (c_send : Cf P w mg base g 11 "send" (f_send)) (c_unsent : Cf P w mg base g 12 "unsent" (f_unsent)) (cL_unsent : Cf P w mg base g 12 "unsent" fL_unsent) (cX_unsent : CfX P w mg base g 12 "unsent" fX_unsent) (c__law_random : Cf P w mg base g 1 "_law_random" (f__law_random)) (c__law_room : Cf P w mg base g 10 "_law_room" (f__law_room g.CR)) (c__law_below : Cf P w mg base g 1 "_law_below" (f__law_below)) (c__law_lines : Cf P w mg base g 2 "_law_lines" (f__law_lines)) (c__law_equal_4 : Cf P w mg base g 5 "_law_equal" f__law_equal_4) (rE : RoomEq P w mg base g 7) {ad : Addr} {fd : FuncData} (F : Fun g.K "law" "law" s_law ad fd) {c0 P0 : Addr} (hTab : g.T = [(P0, (("law" : Str) ++ ".<locals>.") ++ "<lambda>")]) (TB : LamX.TabB base mg c0 P0) (hcd : fd.code = .ref c0) : FnOk P w g.K mg base CX0 15 ad fd ["_law_script"] (spOf g (f_law g.CR)) := by
  obtain ⟨dT, hT, tT, kT⟩ := T.turned
  have S : FnScope N_law ["_law_script"] (defScope s_law) := ⟨rfl, rfl, rfl, by decide +kernel, rfl, by decide +kernel, by decide +kernel⟩
  exact fnokC (p := P_law g.CR) F hcd S fun A outer s H E hr =>
    (ts_cons (ts_set 1 S.nd (te_call rfl c__law_random hr (ta_cons (te_var 0) (ta_cons te_int ta_nil))))
    (ts_cons (ts_for PassesOwn.never rfl (s_r1 (by rfl) T.n_range te_int) (tg_nm 2 S.nd) (ts_cons (ts_set 3 S.nd (te_call rfl c__law_room hr (ta_cons (te_call rfl c__law_lines.fz hr (ta_cons (te_var 1) (ta_cons te_int (ta_cons te_int ta_nil)))) ta_nil)))
    (ts_cons (by first | exact ts_setLcF 4 (own := [("_law_k", 5)]) rfl S.nd (s_r1 (by rfl) T.n_range te_int) (blkOk_by (by rfl)) (fun s H C cl fp => (tg_nm 5 S.nd)) (fun s H C cl fp => ttsY) (fun s H C cl fp => (te_call rfl c__law_below hr (ta_cons (te_var 1) (ta_cons (te_lenU rfl c___len__ hr T.n_len (ta_cons (te_var 3) ta_nil)) ta_nil)))) (by decide) (by rfl) | exact ts_set 4 S.nd (te_fz (te_lc (own := [("_law_k", 5)]) rfl S.nd (s_r1 (by rfl) T.n_range te_int) (blkOk_by (by rfl)) (fun s H C cl fp => (tg_nm 5 S.nd)) (fun s H C cl fp => ttsY) (fun s H C cl fp => (te_call rfl c__law_below hr (ta_cons (te_var 1) (ta_cons (te_lenU rfl c___len__ hr T.n_len (ta_cons (te_var 3) ta_nil)) ta_nil)))) (by decide))))
    (ts_cons (ts_asg (te_call rfl c_send.fz hr (ta_cons (te_var 3) (ta_cons (te_ix rfl (te_var 4) te_int) (ta_cons (te_ix rfl (te_var 4) te_int) (ta_cons (te_ix rfl (te_var 4) te_int) (ta_cons (te_ix rfl (te_var 4) te_int) ta_nil)))))) (tg_tp rfl rfl (tgs_cons 6 S.nd (tgs_cons 7 S.nd tgs_nil))))
    (ts_cons (ts_asg (te_call rfl cL_unsent hr (ta_cons (te_var 7) (ta_cons (te_ix rfl (te_var 6) te_int) (ta_cons (te_ix rfl (te_var 6) te_int) (ta_cons (te_ix rfl (te_var 6) te_int) (ta_cons (te_ix rfl (te_var 6) te_int) ta_nil)))))) (tg_tp rfl rfl (tgs_cons 8 S.nd (tgs_cons 9 S.nd tgs_nil))))
    (ts_cons (ts_if (tt_not (tt_val (te_call rfl c__law_equal_4 hr (ta_cons (te_fz (te_list (ta_cons (te_var 8) (ta_cons (te_prop rfl T.R c_rows hr (te_var 9)) ta_nil)))) (ta_cons (te_fz (te_list (ta_cons (te_var 4) (ta_cons (te_prop rfl T.R c_rows hr (te_var 3)) ta_nil)))) ta_nil))))) (ts_one (ts_ret te_bl)) ts_nil)
    (ts_cons (ts_expr (te_append rfl (te_var 8) (ta_cons te_int ta_nil)))
    (ts_cons (ts_asg (te_rcall rfl c___call__ hr (te_inv rfl c___invert__ hr (te_var 7)) (ta_cons (te_ix rfl (te_var 6) te_int) ta_nil)) (tg_tp rfl rfl (tgs_cons 10 S.nd (tgs_cons 11 S.nd tgs_nil))))
    (ts_cons (ts_if ((tw_or (tt_neD (kE := 7) rfl (fun _ => rE) hr (te_var 10) (te_ix rfl (te_var 4) te_int)) (tw_or1 (tt_neD (kE := 7) rfl (fun _ => rE) hr (te_ix rfl (te_call rfl c_send.fz hr (ta_cons (te_var 3) (ta_cons (te_ix rfl (te_var 4) te_int) (ta_cons (te_ix rfl (te_var 4) te_int) (ta_cons (te_ix rfl (te_var 4) te_int) ta_nil))))) te_int) (te_inv rfl c___invert__ hr (te_var 11)))))).pt (ts_one (ts_ret te_bl)) ts_nil)
    (ts_cons (ts_asg (te_rcall rfl c___call__ hr (te_var 3) (ta_cons (te_ix rfl (te_var 4) te_int) ta_nil)) (tg_tp rfl rfl (tgs_cons 10 S.nd (tgs_cons 11 S.nd tgs_nil))))
    (ts_cons (ts_asg (te_tup (ta_cons (te_fz (te_listG rfl c_path hr T.n_list (ta_cons (te_var 3) (ta_cons (te_ix rfl (te_var 4) te_int) ta_nil)))) (ta_cons (te_fz (te_listG rfl c_path hr T.n_list (ta_cons (te_inv rfl c___invert__ hr (te_var 11)) (ta_cons (te_var 10) ta_nil)))) ta_nil))) (tg_tp rfl rfl (tgs_cons 12 S.nd (tgs_cons 13 S.nd tgs_nil))))
    (ts_cons (ts_if ((tw_or (tt_neD (kE := 7) rfl (fun _ => rE) hr (te_var 12) (te_fz (te_rev rfl (te_var 13)))) (tw_or (tt_neD (kE := 7) rfl (fun _ => rE) hr (te_prop rfl T.R c_turning.fz hr (te_var 3)) (te_prop rfl T.R c_turning.fz hr (te_var 7))) (tw_or1 (tt_neD (kE := 7) rfl (fun _ => rE) hr (te_prop rfl T.R c_turning.fz hr (te_ix rfl (te_rcall rfl c___call__ hr (te_inv rfl c___invert__ hr (te_var 3)) (ta_cons (te_ix rfl (te_var 4) te_int) ta_nil)) te_int)) (te_prop rfl T.R c_turning.fz hr (te_var 3))))))).pt (ts_one (ts_ret te_bl)) ts_nil)
    (ts_cons (by first | exact ts_setLcF 14 (own := [("_law_at", 15)]) rfl S.nd (s_seq rfl (te_prop rfl T.R c_turning.fz hr (te_var 3))) (blkOk_by (by rfl)) (fun s H C cl fp => (tg_nm 15 S.nd)) (fun s H C cl fp => ttsY) (fun s H C cl fp => (te_mod (te_count rfl hr (te_var 12) (ta_cons (te_var 15) ta_nil)) te_int)) (by decide) (by rfl) | exact ts_set 14 S.nd (te_fz (te_lc (own := [("_law_at", 15)]) rfl S.nd (s_seq rfl (te_prop rfl T.R c_turning.fz hr (te_var 3))) (blkOk_by (by rfl)) (fun s H C cl fp => (tg_nm 15 S.nd)) (fun s H C cl fp => ttsY) (fun s H C cl fp => (te_mod (te_count rfl hr (te_var 12) (ta_cons (te_var 15) ta_nil)) te_int)) (by decide))))
    (ts_cons (ts_if (tt_neD (kE := 7) rfl (fun _ => rE) hr (te_fz (te_lc (own := [("_law_row", 16), ("_law_column", 17)]) rfl S.nd (s_seq rfl (te_prop rfl T.R c_turning.fz hr (te_var 3))) (blkOk_by (by rfl)) (fun s H C cl fp => (tg_tp rfl rfl (tgs_cons 16 S.nd (tgs_cons 17 S.nd tgs_nil)))) (fun s H C cl fp => ttsY) (fun s H C cl fp => (te_intOf T.n_int (ta_cons (te_neD (kE := 7) rfl (fun _ => rE) hr (te_getR rfl c___getitem__ hr (te_var 3) (te_tup (ta_cons (te_var 16) (ta_cons (te_var 17) ta_nil)))) (te_getR rfl c___getitem__ hr (te_var 11) (te_tup (ta_cons (te_var 16) (ta_cons (te_var 17) ta_nil))))) ta_nil))) (by decide))) (te_var 14)) (ts_one (ts_ret te_bl)) ts_nil)
    (ts_cons (ts_asg (te_tup (ta_cons (te_call rfl c_unsent.fz hr (ta_cons (te_var 3) ta_nil)) (ta_cons (te_ix rfl (te_fz (te_list (ta_cons (te_sub te_int te_int) (ta_cons (te_lenU rfl c___len__ hr T.n_len (ta_cons (te_var 3) ta_nil)) (ta_cons te_non (ta_cons te_bl (ta_cons te_str ta_nil))))))) (te_call rfl c__law_below hr (ta_cons (te_var 1) (ta_cons te_int ta_nil)))) ta_nil))) (tg_tp rfl rfl (tgs_cons 18 S.nd (tgs_cons 19 S.nd tgs_nil))))
    (ts_cons (ts_if (tt_not (tt_val (te_call rfl c__law_equal_4 hr (ta_cons (te_fz (te_list (ta_cons (te_ix rfl (te_var 18) te_int) (ta_cons (te_eqD (kE := 7) rfl (fun _ => rE) hr (te_ix rfl (te_var 18) te_int) (te_var 3)) ta_nil)))) (ta_cons (te_fz (te_list (ta_cons (te_fz (te_list ta_nil)) (ta_cons te_bl ta_nil)))) ta_nil))))) (ts_one (ts_ret te_bl)) ts_nil)
    (ts_one (ts_if (tt_neD (kE := 7) rfl (fun _ => rE) hr (te_errG (X := (cxOf CX0 P w g.K mg base N_law ("law" : Str) (defScope s_law) ad (.ref c0) A outer s H E).nox) (kk := 12) rfl T.d__law_error_of (fun _ _ _ _ _ _ us hl => match us, hl with | [_], _ => rfl) SE__law_error_of rfl (.inl rfl) hTab rfl TB rfl hr (by decide) (by exact fun ga cdv => g__law_error_of (j := 1) T rfl (hr.mono (by decide))) (by exact fun A outer s H E f c' hr tk => (te_callX tk rfl cX_unsent hr (ta_cons (te_var 3) (ta_cons te_int (ta_cons (te_var 19) ta_nil))))) (LamX.lamS_by (by rfl))) (te_tup (ta_cons te_str (ta_cons te_int ta_nil)))) (ts_one (ts_ret te_bl)) ts_nil))))))))))))))))))
    (ts_one (ts_ret te_bl))))

end MT

/-! MT20: plain specs of a room's small methods. -/
namespace MT
open PySem L2
theorem len_ok (ls : List Str) (m : Store) : f___len__ [.room ls] m = .ok (.int (nPorts ls : Nat)) m := rfl
theorem rows_ok (ls : List Str) (m : Store) : f_rows [.room ls] m = .ok (.tup (ls.map .str)) m := rfl
theorem Valid.np {ls : List Str} (h : Valid ls) : 1 ≤ heightS ls ∧ heightS ls ≤ 8 ∧ 1 ≤ widthS ls ∧ widthS ls ≤ 8 := ⟨h.1, h.2.1, h.2.2.1, h.2.2.2.1⟩
theorem lt62 : (32 : Int) < 2 ^ 62 := by decide +kernel
theorem lenU_gen {f : Fn} {ls : List Str} {m m' : Store} {n : Int} (h : f [.room ls] m = .ok (.int n) m') (h1 : 0 ≤ n) (h2 : n < 2 ^ 62) : gLenU f [.room ls] m = .ok (.int n) m' := by
  have e : gLenU f [.room ls] m = (f [.room ls] m).bind fun d m' => match d with
    | .int n => if 0 ≤ n ∧ n < 2 ^ 62 then .ok (.int n) m' else .bad
    | _ => .bad := by unfold gLenU; rfl
  rw [e, h]
  exact if_pos ⟨h1, h2⟩
theorem lenU_ok {ls : List Str} (h : Valid ls) (m : Store) : gLenU f___len__ [.room ls] m = .ok (.int (nPorts ls : Nat)) m := by
  obtain ⟨h1, h2, h3, h4⟩ := h.np
  have e1 : 0 ≤ ((nPorts ls : Nat) : Int) := Int.natCast_nonneg _
  have e2 : ((nPorts ls : Nat) : Int) ≤ 32 := by unfold nPorts; omega
  have e3 : (32 : Int) < 2 ^ 62 := lt62
  have e4 := Int.lt_of_le_of_lt e2 e3
  exact lenU_gen (len_ok ls m) e1 e4
theorem size_ok {ls : List Str} (h : Valid ls) (m : Store) : f_size [.room ls] m = .ok (.tup [.int (heightS ls : Nat), .int (widthS ls : Nat)]) m := by
  obtain ⟨h1, h2, h3, h4⟩ := h.np
  obtain ⟨l0, lt, rfl⟩ : ∃ l0 lt, ls = l0 :: lt := by
    cases ls with
    | nil => simp [heightS] at h1
    | cons x y => exact ⟨x, y, rfl⟩
  have hw : l0.length ≤ lim := by have : l0.length ≤ 8 := h4; unfold lim; omega
  refine run_ret rfl (ret_ok ?_)
  have a1 : p1 gLines (pVar 0) [some (.room (l0 :: lt))] m = .ok (.tup ((l0 :: lt).map .str)) m := (p1_ok (v_ok rfl)).trans rfl
  have a2 : pF gLen [p1 gLines (pVar 0)] [some (.room (l0 :: lt))] m = .ok (.int (heightS (l0 :: lt) : Nat)) m := by
    refine (pF1 a1).trans ?_
    show Res.ok (D.int (((l0 :: lt).map D.str).length : Nat)) m = _
    rw [List.length_map]; rfl
  have a3 : pF gLen [p2 gIx (p1 gLines (pVar 0)) (pC (.int 0))] [some (.room (l0 :: lt))] m = .ok (.int (widthS (l0 :: lt) : Nat)) m := by
    have : p2 gIx (p1 gLines (pVar 0)) (pC (.int 0)) [some (.room (l0 :: lt))] m = .ok (.str l0) m := by
      refine (p2_ok a1 rfl).trans ?_
      show optR (atI (D.str l0 :: lt.map .str) 0) m = _
      rw [atI_zero]; rfl
    refine (pF1 this).trans ?_
    show (if l0.length ≤ lim then _ else _) = _
    rw [if_pos hw]; rfl
  exact pF2 a2 a3
theorem isint_ok (v lo hi : Int) (m : Store) : f_is_int_in [.int v, .int lo, .int hi] m = .ok (.bl (decide (lo ≤ v) && decide (v ≤ hi))) m := by
  refine run_ret rfl (ret_ok ?_)
  refine (and_t ((p1_ok (v_ok rfl)).trans (show Res.ok (D.bl (isSub "int" "int")) m = .ok (.bl true) m by rw [show isSub "int" "int" = true from by decide]))).trans ?_
  refine (and_t ((p1_ok ((p1_ok (v_ok rfl)).trans (show gIsi "bool" [.int v] m = .ok (.bl false) m by
    show Res.ok (D.bl (isSub "int" "bool")) m = _
    rw [show isSub "int" "bool" = false from by decide]))).trans rfl)).trans ?_
  by_cases c : lo ≤ v
  · refine (chain_t (x := .int lo) (y := .int v) (z := .int hi) (m1 := m) (m2 := m) (v_ok rfl) (v_ok rfl) ?_ (v_ok rfl)).trans ?_
    · show Res.ok (D.bl (decide (lo ≤ v))) m = _
      rw [decide_eq_true c]
    · show Res.ok (D.bl (decide (v ≤ hi))) m = _
      rw [decide_eq_true c, Bool.true_and]
  · refine (chain_f (x := .int lo) (y := .int v) (m1 := m) (m2 := m) (v_ok rfl) (v_ok rfl) ?_).trans ?_
    · show Res.ok (D.bl (decide (lo ≤ v))) m = _
      rw [decide_eq_false c]
    · rw [decide_eq_false c, Bool.false_and]
def PortOk (ls : List Str) (p : Int) : Prop := 0 ≤ p ∧ p < nPorts ls
theorem hasport_ok {ls : List Str} (h : Valid ls) {p : Int} (hp : PortOk ls p) (m : Store) : f_has_port [.room ls, .int p] m = .ok (.bl true) m := by
  refine run_ret rfl (ret_ok ?_)
  have a : p2 gSub (pF (gLenU f___len__) [pVar 0]) (pC (.int 1)) [some (.room ls), some (.int p)] m = .ok (.int ((nPorts ls : Nat) - 1)) m :=
    (p2_ok ((pF1 (v_ok rfl)).trans (lenU_ok h m)) rfl).trans rfl
  refine (pF3 (v_ok rfl) rfl a).trans ?_
  rw [isint_ok]
  obtain ⟨h1, h2⟩ := hp
  rw [decide_eq_true h1, decide_eq_true (by omega)]; rfl
theorem checkport_ok {ls : List Str} (h : Valid ls) {p : Int} (hp : PortOk ls p) (m : Store) : f_check_port [.room ls, .int p] m = .ok .non m := by
  have a : pRm f_has_port (pVar 0) [pVar 1] [some (.room ls), some (.int p)] m = .ok (.bl true) m :=
    (rm_ok (v_ok rfl) (ev_cons (v_ok rfl) ev_nil)).trans (hasport_ok h hp m)
  have b : p1 gNot (pRm f_has_port (pVar 0) [pVar 1]) [some (.room ls), some (.int p)] m = .ok (.bl false) m := (p1_ok a).trans rfl
  exact run_nxt (ε := [some (.room ls), some (.int p)]) rfl ((sif_f b).trans rfl)
end MT

/-! MT21: plain specs: thrown, entry, exit_of. -/
namespace MT
open PySem L2
def isRC (c : Nat) : Bool := c == 114 || c == 82
/-- the way after a tile -/
def throwW (c : Nat) (w : Int × Int) : Int × Int := if c = 46 then w else if isRC c = true then (0 - w.2, 0 - w.1) else (w.2, w.1)
def wayD (w : Int × Int) : D := .tup [.int w.1, .int w.2]
theorem thrown_ok (c : Nat) (w : Int × Int) (m : Store) : f_thrown [.str ⟨#[c]⟩, wayD w] m = .ok (wayD (throwW c w)) m := by
  obtain ⟨a, b⟩ := w
  refine run_ret rfl ?_
  have kE : (⟨#[c]⟩ : Str) = "." ↔ c = 46 := by
    have e : ("." : Str) = ⟨#[46]⟩ := by decide +kernel
    rw [e]; simp
  have kM : decide (c ∈ ("rR" : Str).cps.toList) = isRC c := by
    have e : ("rR" : Str).cps.toList = [114, 82] := by decide +kernel
    rw [e]; unfold isRC
    by_cases h1 : c = 114
    · simp [h1]
    · by_cases h2 : c = 82 <;> simp [h1, h2]
  have c1 : p2 (gEqS false) (pVar 0) (pC (.str ".")) [some (.str ⟨#[c]⟩), some (wayD (a, b)), none, none] m = .ok (.bl (decide (c = 46))) m := by
    refine (p2_ok (v_ok rfl) rfl).trans ?_
    show Res.ok (D.bl ((⟨#[c]⟩ : Str) == ".")) m = _
    congr 2
    rw [Bool.beq_eq_decide_eq]
    exact decide_eq_decide.mpr kE
  by_cases h : c = 46
  · rw [decide_eq_true h] at c1
    refine (seq_ret ((sif_t c1).trans (ret_ok (v_ok rfl)))).trans ?_
    rw [throwW, if_pos h]
  · rw [decide_eq_false h] at c1
    refine (seq_nxt ((sif_f c1).trans rfl)).trans ?_
    refine (seq_nxt (asg_ok (ε1 := [some (.str ⟨#[c]⟩), some (wayD (a, b)), some (.int a), some (.int b)]) (v_ok rfl) rfl)).trans ?_
    refine ret_ok ?_
    have c2 : p2 (gInS false) (pVar 0) (pC (.str "rR")) [some (.str ⟨#[c]⟩), some (wayD (a, b)), some (.int a), some (.int b)] m = .ok (.bl (isRC c)) m := by
      refine (p2_ok (v_ok rfl) rfl).trans ?_
      show Res.ok (D.bl (decide (c ∈ ("rR" : Str).cps.toList))) m = _
      rw [kM]
    cases h2 : isRC c with
    | true =>
      rw [h2] at c2
      refine (if_t c2).trans ((pF2 ((p2_ok rfl (v_ok rfl)).trans rfl) ((p2_ok rfl (v_ok rfl)).trans rfl)).trans ?_)
      rw [throwW, if_neg h, if_pos h2]; rfl
    | false =>
      rw [h2] at c2
      refine (if_f c2).trans ((pF2 (v_ok rfl) (v_ok rfl)).trans ?_)
      rw [throwW, if_neg h, if_neg (by rw [h2]; exact Bool.false_ne_true)]; rfl
/-- where a beam enters: row, column, way -/
def entryW (h w p : Int) : Int × Int × Int × Int :=
  if p < w then (0, p, 1, 0) else if p - w < h then (p - w, w - 1, 0, -1) else if p - w - h < w then (h - 1, p - w - h, -1, 0) else (p - w - h - w, 0, 0, 1)
def exitW (h w r c : Int) : Int := if r < 0 then c else if c = w then w + r else if r = h then w + h + c else 2 * w + h + r
def envE (ls : List Str) (p h w : Int) : EnvD := [some (.room ls), some (.int p), some (.int h), some (.int w)]
theorem lt_ok {ε : EnvD} {pa pb : Pg} {m m1 m2 : Store} {x y : Int} (ha : pa ε m = .ok (.int x) m1) (hb : pb ε m1 = .ok (.int y) m2) : p2 gLt pa pb ε m = .ok (.bl (decide (x < y))) m2 := (p2_ok ha hb).trans rfl
theorem eqS_ok {ε : EnvD} {pa pb : Pg} {m m1 m2 : Store} {x y : Int} (ha : pa ε m = .ok (.int x) m1) (hb : pb ε m1 = .ok (.int y) m2) : p2 (gEqS false) pa pb ε m = .ok (.bl (decide (x = y))) m2 := by
  refine (p2_ok ha hb).trans ?_
  show Res.ok (D.bl (x == y)) m2 = _
  rw [show (x == y) = decide (x = y) from rfl]
theorem subI_ok {ε : EnvD} {pa pb : Pg} {m m1 m2 : Store} {x y : Int} (ha : pa ε m = .ok (.int x) m1) (hb : pb ε m1 = .ok (.int y) m2) : p2 gSub pa pb ε m = .ok (.int (x - y)) m2 := (p2_ok ha hb).trans rfl
theorem addI_ok {ε : EnvD} {pa pb : Pg} {m m1 m2 : Store} {x y : Int} (ha : pa ε m = .ok (.int x) m1) (hb : pb ε m1 = .ok (.int y) m2) : p2 gAdd pa pb ε m = .ok (.int (x + y)) m2 := (p2_ok ha hb).trans rfl
theorem ifret {ε : EnvD} {pc pe : Pg} {q : PgS} {m m1 m2 : Store} {b : Bool} {d : D} {R : ResS} (hc : pc ε m = .ok (.bl b) m1) (ht : b = true → pe ε m1 = .ok d m2 ∧ R = .ret d m2) (hf : b = false → q ε m1 = R) : sSeq (sIf pc (sRet pe) sNil) q ε m = R := by
  cases b with
  | true => exact (seq_ret ((sif_t hc).trans (ret_ok (ht rfl).1))).trans (ht rfl).2.symm
  | false => exact (seq_nxt ((sif_f hc).trans rfl)).trans (hf rfl)
theorem entry_ok {ls : List Str} (hv : Valid ls) (p : Int) (m : Store) : f_entry [.room ls, .int p] m =
    .ok (.tup [.int (entryW (heightS ls) (widthS ls) p).1, .int (entryW (heightS ls) (widthS ls) p).2.1, wayD (entryW (heightS ls) (widthS ls) p).2.2]) m := by
  refine run_ret rfl ?_
  generalize eh : ((heightS ls : Nat) : Int) = h
  generalize ew : ((widthS ls : Nat) : Int) = w
  have a0 : pRm f_size (pVar 0) [] [some (.room ls), some (.int p), none, none] m = .ok (.tup [.int h, .int w]) m := by
    rw [← eh, ← ew]
    exact (rm_ok (v_ok rfl) ev_nil).trans (size_ok hv m)
  refine (seq_nxt (asg_ok (ε1 := envE ls p h w) a0 rfl)).trans ?_
  unfold entryW
  refine ifret (d := .tup [.int 0, .int p, wayD (1, 0)]) (m2 := m) (lt_ok (v_ok rfl) (v_ok rfl)) (fun c => ⟨(pF3 rfl (v_ok rfl) rfl).trans rfl, ?_⟩) (fun c => ?_)
  · rw [if_pos (of_decide_eq_true c)]
  rw [if_neg (of_decide_eq_false c)]
  refine (seq_nxt (set_ok (subI_ok (v_ok rfl) (v_ok rfl)))).trans ?_
  refine ifret (d := .tup [.int (p - w), .int (w - 1), wayD (0, -1)]) (m2 := m) (lt_ok (v_ok rfl) (v_ok rfl)) (fun c => ⟨(pF3 (v_ok rfl) (subI_ok (v_ok rfl) rfl) rfl).trans rfl, ?_⟩) (fun c => ?_)
  · rw [if_pos (of_decide_eq_true c)]
  rw [if_neg (of_decide_eq_false c)]
  refine (seq_nxt (set_ok (subI_ok (v_ok rfl) (v_ok rfl)))).trans ?_
  refine ifret (d := .tup [.int (h - 1), .int (p - w - h), wayD (-1, 0)]) (m2 := m) (lt_ok (v_ok rfl) (v_ok rfl)) (fun c => ⟨(pF3 (subI_ok (v_ok rfl) rfl) (v_ok rfl) rfl).trans rfl, ?_⟩) (fun c => ?_)
  · rw [if_pos (of_decide_eq_true c)]
  rw [if_neg (of_decide_eq_false c)]
  exact ret_ok ((pF3 (subI_ok (v_ok rfl) (v_ok rfl)) rfl rfl).trans rfl)
theorem exit_ok {ls : List Str} (hv : Valid ls) (r c : Int) (m : Store) : f_exit_of [.room ls, .int r, .int c] m = .ok (.int (exitW (heightS ls) (widthS ls) r c)) m := by
  refine run_ret rfl ?_
  have hn := hv.np
  generalize eh : ((heightS ls : Nat) : Int) = h
  generalize ew : ((widthS ls : Nat) : Int) = w
  have hw8 : w ≤ 8 ∧ 0 ≤ w := by omega
  have a0 : pRm f_size (pVar 0) [] [some (.room ls), some (.int r), some (.int c), none, none] m = .ok (.tup [.int h, .int w]) m := by
    rw [← eh, ← ew]
    exact (rm_ok (v_ok rfl) ev_nil).trans (size_ok hv m)
  refine (seq_nxt (asg_ok (ε1 := [some (.room ls), some (.int r), some (.int c), some (.int h), some (.int w)]) a0 rfl)).trans ?_
  unfold exitW
  refine ifret (d := .int c) (m2 := m) (lt_ok (v_ok rfl) rfl) (fun q => ⟨v_ok rfl, ?_⟩) (fun q => ?_)
  · rw [if_pos (of_decide_eq_true q)]
  rw [if_neg (of_decide_eq_false q)]
  refine ifret (m2 := m) (eqS_ok (v_ok rfl) (v_ok rfl)) (fun q => ⟨addI_ok (v_ok rfl) (v_ok rfl), ?_⟩) (fun q => ?_)
  · rw [if_pos (of_decide_eq_true q)]
  rw [if_neg (of_decide_eq_false q)]
  refine ifret (m2 := m) (eqS_ok (v_ok rfl) (v_ok rfl)) (fun q => ⟨addI_ok (addI_ok (v_ok rfl) (v_ok rfl)) (v_ok rfl), ?_⟩) (fun q => ?_)
  · rw [if_pos (of_decide_eq_true q)]
  rw [if_neg (of_decide_eq_false q)]
  have a1 : p2 gMul (pC (.int 2)) (pVar 4) [some (.room ls), some (.int r), some (.int c), some (.int h), some (.int w)] m = .ok (.int (2 * w)) m := by
    refine (p2_ok rfl (v_ok rfl)).trans ?_
    simp only [gMul]
    rw [if_pos (Or.inl ⟨by decide, by decide⟩)]
  exact ret_ok (addI_ok (addI_ok a1 (v_ok rfl)) (v_ok rfl))
end MT

/-! MT22: beams on grids, in plain Lean: a step, its way back, pigeons. -/
namespace MT
open PySem L2
theorem pigeon : ∀ (n : Nat) (f : Nat → Nat), (∀ i, i ≤ n → f i < n) → ∃ i j, i < j ∧ j ≤ n ∧ f i = f j
  | 0, f, h => absurd (h 0 (Nat.le_refl 0)) (Nat.not_lt_zero _)
  | n + 1, f, h => by
    by_cases c : ∃ i, i ≤ n ∧ f i = f (n + 1)
    · obtain ⟨i, h1, h2⟩ := c
      exact ⟨i, n + 1, by omega, Nat.le_refl _, h2⟩
    · have c' : ∀ i, i ≤ n → f i ≠ f (n + 1) := fun i hi e => c ⟨i, hi, e⟩
      have hn := h (n + 1) (Nat.le_refl _)
      obtain ⟨i, j, h1, h2, h3⟩ := pigeon n (fun i => if f i = n then f (n + 1) else f i) (fun i hi => by
        have a := h i (by omega)
        have b := c' i hi
        show (if f i = n then f (n + 1) else f i) < n
        split <;> omega)
      have h3' : (if f i = n then f (n + 1) else f i) = (if f j = n then f (n + 1) else f j) := h3
      refine ⟨i, j, h1, by omega, ?_⟩
      have b1 := c' i (by omega)
      have b2 := c' j h2
      split at h3' <;> split at h3' <;> omega
/-- a turning mirror turned -/
def flipC (c : Nat) : Nat := if c = 114 then 102 else if c = 102 then 114 else c
theorem flip_flip (c : Nat) : flipC (flipC c) = c := by unfold flipC; split <;> (try split) <;> simp_all
theorem throw_throw (c : Nat) (w : Int × Int) : throwW c (throwW c w) = w := by
  obtain ⟨a, b⟩ := w
  unfold throwW
  by_cases h : c = 46
  · simp [h]
  · by_cases h2 : isRC c = true <;> simp [h, h2]
def negW (w : Int × Int) : Int × Int := (0 - w.1, 0 - w.2)
theorem throw_neg (c : Nat) (w : Int × Int) : throwW c (negW w) = negW (throwW c w) := by
  obtain ⟨a, b⟩ := w
  unfold throwW negW
  by_cases h : c = 46
  · simp [h]
  · by_cases h2 : isRC c = true <;> simp [h, h2]
/-- a beam on its way: a grid, a tile, a way -/
structure Bm where
  g : Int → Int → Nat
  r : Int
  c : Int
  w : Int × Int
def Bm.step (s : Bm) : Bm :=
  let w' := throwW (s.g s.r s.c) s.w
  ⟨fun i j => if i = s.r ∧ j = s.c then flipC (s.g i j) else s.g i j, s.r + w'.1, s.c + w'.2, w'⟩
def Bm.rev (s : Bm) : Bm := ⟨fun i j => flipC (s.g i j), s.r - s.w.1, s.c - s.w.2, negW s.w⟩
theorem Bm.rev_rev (s : Bm) : s.rev.rev = s := by
  obtain ⟨g, r, c, w1, w2⟩ := s
  simp only [Bm.rev, flip_flip, negW]
  congr 1 <;> first | omega | (congr 1 <;> omega)
/-- back over the tile that a step has passed -/
theorem Bm.step_rev (s : Bm) : s.step.rev.step = s.rev := by
  obtain ⟨g, r, c, w⟩ := s
  have e1 : r + (throwW (g r c) w).1 - (throwW (g r c) w).1 = r := by omega
  have e2 : c + (throwW (g r c) w).2 - (throwW (g r c) w).2 = c := by omega
  simp only [Bm.step, Bm.rev, e1, e2, and_self, if_true, flip_flip, throw_neg, throw_throw]
  congr 1
  · funext i j
    by_cases h : i = r ∧ j = c
    · simp [h, flip_flip]
    · simp [h]
  · simp only [negW]; omega
  · simp only [negW]; omega
theorem Bm.step_inj {s t : Bm} (h : s.step = t.step) : s = t := by
  have e := congrArg (fun x => x.rev.step.rev) h
  simpa only [Bm.step_rev, Bm.rev_rev] using e
end MT

/-! MT23: a beam leaves: at most 2^18 states, no state twice. -/
namespace MT
open PySem L2
def Bm.it : Nat → Bm → Bm
  | 0, s => s
  | n + 1, s => (Bm.it n s).step
theorem Bm.it_inj : ∀ {n : Nat} {s t : Bm}, Bm.it n s = Bm.it n t → s = t
  | 0, _, _, h => h
  | n + 1, _, _, h => Bm.it_inj (n := n) (Bm.step_inj h)
theorem Bm.it_add (a : Nat) : ∀ (b : Nat) (s : Bm), Bm.it (a + b) s = Bm.it a (Bm.it b s)
  | b, s => by
    induction a with
    | zero => rw [Nat.zero_add]; rfl
    | succ a ih => rw [Nat.succ_add]; show (Bm.it (a + b) s).step = (Bm.it a (Bm.it b s)).step; rw [ih]
def Bm.Ins (h w : Nat) (s : Bm) : Prop := 0 ≤ s.r ∧ s.r < h ∧ 0 ≤ s.c ∧ s.c < w
def Way (w : Int × Int) : Prop := w = (1, 0) ∨ w = (-1, 0) ∨ w = (0, 1) ∨ w = (0, -1)
theorem Way.throw {w : Int × Int} (h : Way w) (c : Nat) : Way (throwW c w) := by
  unfold throwW
  split
  · exact h
  · split <;> rcases h with rfl | rfl | rfl | rfl <;> simp [Way]
/-- only the mirrors of L turn -/
def GInv (g0 : Int → Int → Nat) (L : List (Int × Int)) (g : Int → Int → Nat) : Prop := (∀ i j, (i, j) ∉ L → g i j = g0 i j) ∧ ∀ i j, (i, j) ∈ L → g i j = 114 ∨ g i j = 102
def codeG (g : Int → Int → Nat) : List (Int × Int) → Nat
  | [] => 0
  | x :: L => 2 * codeG g L + if g x.1 x.2 = 114 then 1 else 0
theorem codeG_lt (g : Int → Int → Nat) : ∀ L, codeG g L < 2 ^ L.length
  | [] => by simp [codeG]
  | x :: L => by
    have := codeG_lt g L
    simp only [codeG, List.length_cons, Nat.pow_succ]
    split <;> omega
theorem codeG_eq {g g' : Int → Int → Nat} : ∀ {L : List (Int × Int)}, codeG g L = codeG g' L → ∀ x ∈ L, (g x.1 x.2 = 114 ↔ g' x.1 x.2 = 114)
  | [], _, _, hx => by cases hx
  | y :: L, h, x, hx => by
    simp only [codeG] at h
    have h1 : codeG g L = codeG g' L := by split at h <;> split at h <;> omega
    rcases List.mem_cons.mp hx with rfl | hx
    · split at h <;> split at h <;> simp_all <;> omega
    · exact codeG_eq h1 x hx
theorem GInv.ext {g0 g g' : Int → Int → Nat} {L : List (Int × Int)} (a : GInv g0 L g) (b : GInv g0 L g') (h : codeG g L = codeG g' L) : g = g' := by
  funext i j
  by_cases m : (i, j) ∈ L
  · have e := codeG_eq h (i, j) m
    rcases a.2 i j m with x | x <;> rcases b.2 i j m with y | y
    · rw [x, y]
    · exact absurd (e.mp x) (by rw [y]; decide)
    · exact absurd (e.mpr y) (by rw [x]; decide)
    · rw [x, y]
  · rw [a.1 i j m, b.1 i j m]
def codeW (w : Int × Int) : Nat := if w = (1, 0) then 0 else if w = (-1, 0) then 1 else if w = (0, 1) then 2 else 3
theorem codeW_eq {w w' : Int × Int} (a : Way w) (b : Way w') (h : codeW w = codeW w') : w = w' := by
  rcases a with rfl | rfl | rfl | rfl <;> rcases b with rfl | rfl | rfl | rfl <;> first | rfl | (exact absurd h (by decide))
theorem codeW_lt (w : Int × Int) : codeW w < 4 := by unfold codeW; split <;> (try split) <;> (try split) <;> omega
def Bm.code (L : List (Int × Int)) (s : Bm) : Nat := ((codeG s.g L * 8 + s.r.toNat) * 8 + s.c.toNat) * 4 + codeW s.w
structure Bm.Ok (g0 : Int → Int → Nat) (L : List (Int × Int)) (s : Bm) : Prop where
  g : GInv g0 L s.g
  w : Way s.w
theorem Bm.code_eq {g0 : Int → Int → Nat} {L : List (Int × Int)} {h w : Nat} (h8 : h ≤ 8) (w8 : w ≤ 8) {s t : Bm} (a : s.Ok g0 L) (b : t.Ok g0 L) (is : s.Ins h w) (it : t.Ins h w) (e : s.code L = t.code L) : s = t := by
  obtain ⟨a1, a2, a3, a4⟩ := is
  obtain ⟨b1, b2, b3, b4⟩ := it
  have k1 := codeW_lt s.w
  have k2 := codeW_lt t.w
  unfold Bm.code at e
  have e1 : codeW s.w = codeW t.w := by omega
  have e2 : s.c = t.c := by omega
  have e3 : s.r = t.r := by omega
  have e4 : codeG s.g L = codeG t.g L := by omega
  have x1 := GInv.ext a.g b.g e4
  have x2 := codeW_eq a.w b.w e1
  obtain ⟨⟩ := s
  obtain ⟨⟩ := t
  simp only at e2 e3 x1 x2
  subst e2 e3 x1 x2
  rfl
theorem Bm.Ok.step {g0 : Int → Int → Nat} {L : List (Int × Int)} {h w : Nat} {s : Bm} (a : s.Ok g0 L) (is : s.Ins h w) (hL : ∀ i j : Int, 0 ≤ i → i < h → 0 ≤ j → j < w → (i, j) ∉ L → isTurnC (g0 i j) = false) : s.step.Ok g0 L := by
  refine ⟨⟨fun i j m => ?_, fun i j m => ?_⟩, a.w.throw _⟩
  · show (if i = s.r ∧ j = s.c then flipC (s.g i j) else s.g i j) = _
    split
    · rename_i c
      obtain ⟨rfl, rfl⟩ := c
      have t := hL _ _ is.1 is.2.1 is.2.2.1 is.2.2.2 m
      rw [a.g.1 _ _ m]
      unfold isTurnC at t
      unfold flipC
      simp only [Bool.or_eq_false_iff, beq_eq_false_iff_ne] at t
      rw [if_neg t.1, if_neg t.2]
    · exact a.g.1 _ _ m
  · show (if i = s.r ∧ j = s.c then flipC (s.g i j) else s.g i j) = 114 ∨ (if i = s.r ∧ j = s.c then flipC (s.g i j) else s.g i j) = 102
    rcases a.g.2 i j m with e | e <;> rw [e] <;> split <;> simp [flipC]
/-- a beam that came from outside leaves -/
theorem Bm.leaves {g0 : Int → Int → Nat} {L : List (Int × Int)} {h w : Nat} (h8 : h ≤ 8) (w8 : w ≤ 8) (l10 : L.length ≤ 10) {s : Bm} (a : s.Ok g0 L) (hL : ∀ i j : Int, 0 ≤ i → i < h → 0 ≤ j → j < w → (i, j) ∉ L → isTurnC (g0 i j) = false)
    (hout : ¬ (0 ≤ s.r - s.w.1 ∧ s.r - s.w.1 < h ∧ 0 ≤ s.c - s.w.2 ∧ s.c - s.w.2 < w)) : ∃ n, n ≤ 2 ^ 18 ∧ ¬ (Bm.it n s).Ins h w := by
  apply Classical.byContradiction
  intro hc
  have hi : ∀ n, n ≤ 2 ^ 18 → (Bm.it n s).Ins h w := fun n hn => Classical.byContradiction fun x => hc ⟨n, hn, x⟩
  have hk : ∀ n, n ≤ 2 ^ 18 → (Bm.it n s).Ok g0 L := by
    intro n
    induction n with
    | zero => exact fun _ => a
    | succ n ih => exact fun hn => (ih (by omega)).step (hi n (by omega)) hL
  obtain ⟨i, j, h1, h2, h3⟩ := pigeon (2 ^ 18) (fun n => (Bm.it n s).code L) (fun n hn => by
    obtain ⟨b1, b2, b3, b4⟩ := hi n hn
    have k1 := codeW_lt (Bm.it n s).w
    have k2 : codeG (Bm.it n s).g L < 2 ^ 10 := Nat.lt_of_lt_of_le (codeG_lt _ L) (Nat.pow_le_pow_right (by decide) l10)
    show ((codeG (Bm.it n s).g L * 8 + (Bm.it n s).r.toNat) * 8 + (Bm.it n s).c.toNat) * 4 + codeW (Bm.it n s).w < 2 ^ 18
    have e1 : (2 : Nat) ^ 10 = 1024 := by decide
    have e2 : (2 : Nat) ^ 18 = 262144 := by decide
    omega)
  have e := Bm.code_eq h8 w8 (hk i (by omega)) (hk j h2) (hi i (by omega)) (hi j h2) h3
  obtain ⟨d, rfl⟩ : ∃ d, j = i + (d + 1) := ⟨j - i - 1, by omega⟩
  rw [Bm.it_add] at e
  have e' : s = (Bm.it d s).step := Bm.it_inj e
  have q := hi d (by omega)
  apply hout
  have k : ∀ z : Bm, z.step.r - z.step.w.1 = z.r ∧ z.step.c - z.step.w.2 = z.c := fun z => by
    constructor
    · show z.r + (throwW (z.g z.r z.c) z.w).1 - (throwW (z.g z.r z.c) z.w).1 = z.r
      omega
    · show z.c + (throwW (z.g z.r z.c) z.w).2 - (throwW (z.g z.r z.c) z.w).2 = z.c
      omega
  have r1 : s.r - s.w.1 = (Bm.it d s).r := (congrArg (fun x : Bm => x.r - x.w.1) e').trans (k _).1
  have r2 : s.c - s.w.2 = (Bm.it d s).c := (congrArg (fun x : Bm => x.c - x.w.2) e').trans (k _).2
  rw [r1, r2]
  exact q
end MT

/-! MT24: ports, entries and exits: each is the other's way back. -/
namespace MT
open PySem L2
theorem entry_in {h w p : Int} (hh : 1 ≤ h) (hw : 1 ≤ w) (p0 : 0 ≤ p) (p1 : p < 2 * (h + w)) : 0 ≤ (entryW h w p).1 ∧ (entryW h w p).1 < h ∧ 0 ≤ (entryW h w p).2.1 ∧ (entryW h w p).2.1 < w := by
  unfold entryW
  split
  · refine ⟨?_, ?_, ?_, ?_⟩ <;> simp only <;> omega
  · split
    · refine ⟨?_, ?_, ?_, ?_⟩ <;> simp only <;> omega
    · split <;> (refine ⟨?_, ?_, ?_, ?_⟩ <;> simp only <;> omega)
theorem entry_way (h w p : Int) : Way (entryW h w p).2.2 := by
  unfold entryW
  split
  · exact .inl rfl
  · split
    · exact .inr (.inr (.inr rfl))
    · split
      · exact .inr (.inl rfl)
      · exact .inr (.inr (.inl rfl))
theorem entry_out {h w p : Int} (hh : 1 ≤ h) (hw : 1 ≤ w) (p0 : 0 ≤ p) (p1 : p < 2 * (h + w)) :
    ¬ (0 ≤ (entryW h w p).1 - (entryW h w p).2.2.1 ∧ (entryW h w p).1 - (entryW h w p).2.2.1 < h ∧ 0 ≤ (entryW h w p).2.1 - (entryW h w p).2.2.2 ∧ (entryW h w p).2.1 - (entryW h w p).2.2.2 < w) := by
  unfold entryW
  split
  · simp only; omega
  · split
    · simp only; omega
    · split <;> simp only <;> omega
theorem exit_entry {h w p : Int} (hh : 1 ≤ h) (hw : 1 ≤ w) (p0 : 0 ≤ p) (p1 : p < 2 * (h + w)) : exitW h w ((entryW h w p).1 - (entryW h w p).2.2.1) ((entryW h w p).2.1 - (entryW h w p).2.2.2) = p := by
  by_cases a : p < w
  · rw [entryW, if_pos a]; simp only [exitW]; split <;> omega
  · by_cases b : p - w < h
    · rw [entryW, if_neg a, if_pos b]; simp only [exitW]; (repeat' split) <;> omega
    · by_cases d : p - w - h < w
      · rw [entryW, if_neg a, if_neg b, if_pos d]; simp only [exitW]; (repeat' split) <;> omega
      · rw [entryW, if_neg a, if_neg b, if_neg d]; simp only [exitW]; (repeat' split) <;> omega
theorem exit_port {h w r c : Int} {v : Int × Int} (hv : Way v) (r0 : 0 ≤ r) (r1 : r < h) (c0 : 0 ≤ c) (c1 : c < w) (ho : ¬ (0 ≤ r + v.1 ∧ r + v.1 < h ∧ 0 ≤ c + v.2 ∧ c + v.2 < w)) :
    0 ≤ exitW h w (r + v.1) (c + v.2) ∧ exitW h w (r + v.1) (c + v.2) < 2 * (h + w) := by
  rcases hv with rfl | rfl | rfl | rfl <;> simp only [exitW] at ho ⊢ <;> (repeat' split) <;> omega
theorem entry_exit {h w r c : Int} {v : Int × Int} (hv : Way v) (r0 : 0 ≤ r) (r1 : r < h) (c0 : 0 ≤ c) (c1 : c < w) (ho : ¬ (0 ≤ r + v.1 ∧ r + v.1 < h ∧ 0 ≤ c + v.2 ∧ c + v.2 < w)) :
    entryW h w (exitW h w (r + v.1) (c + v.2)) = (r, c, negW v) := by
  rcases hv with rfl | rfl | rfl | rfl <;> simp only at ho
  · have e : exitW h w (r + 1) (c + 0) = w + h + c := by unfold exitW; rw [if_neg (by omega), if_neg (by omega), if_pos (by omega)]; omega
    show entryW h w (exitW h w (r + 1) (c + 0)) = _
    rw [e, entryW, if_neg (by omega), if_neg (by omega), if_pos (by omega)]
    simp only [negW, Prod.mk.injEq]; omega
  · have e : exitW h w (r + -1) (c + 0) = c := by unfold exitW; rw [if_pos (by omega)]; omega
    show entryW h w (exitW h w (r + -1) (c + 0)) = _
    rw [e, entryW, if_pos c1]
    have r00 : r = 0 := by omega
    subst r00
    rfl
  · have e : exitW h w (r + 0) (c + 1) = w + r := by unfold exitW; rw [if_neg (by omega), if_pos (by omega)]; omega
    show entryW h w (exitW h w (r + 0) (c + 1)) = _
    rw [e, entryW, if_neg (by omega), if_pos (by omega)]
    simp only [negW, Prod.mk.injEq]; omega
  · have e : exitW h w (r + 0) (c + -1) = 2 * w + h + r := by unfold exitW; rw [if_neg (by omega), if_neg (by omega), if_neg (by omega)]; omega
    show entryW h w (exitW h w (r + 0) (c + -1)) = _
    rw [e, entryW, if_neg (by omega), if_neg (by omega), if_neg (by omega)]
    simp only [negW, Prod.mk.injEq]; omega
end MT

/-! MT25: one sign turned; the grid of rows. -/
namespace MT
open PySem L2
theorem turn_one (c : Nat) : turnS ⟨#[c]⟩ = ⟨#[flipC c]⟩ := by
  have hr : kR = ⟨#[114]⟩ := by decide +kernel
  have hf : kF = ⟨#[102]⟩ := by decide +kernel
  unfold turnS flipC
  rw [hr, hf]
  by_cases h1 : c = 114
  · subst h1; decide
  · by_cases h2 : c = 102
    · subst h2; decide
    · simp [h1, h2]
theorem flip_no {c : Nat} (h : isTurnC c = false) : flipC c = c := by
  unfold isTurnC at h
  simp only [Bool.or_eq_false_iff, beq_eq_false_iff_ne] at h
  unfold flipC
  rw [if_neg h.1, if_neg h.2]
theorem turnGet_ok (c : Nat) (m : Store) : gTurnGet [.str ⟨#[c]⟩, .str ⟨#[c]⟩] m = .ok (.str ⟨#[flipC c]⟩) m := by
  show Res.ok (D.str (if isTurnS ⟨#[c]⟩ = true then turnS ⟨#[c]⟩ else ⟨#[c]⟩)) m = _
  rw [isTurn_one, turn_one]
  cases h : isTurnC c with
  | true => rfl
  | false => rw [flip_no h]; rfl
theorem flip_sign {c : Nat} (h : isSignC c = true) : isSignC (flipC c) = true := by
  unfold flipC
  split
  · rfl
  · split
    · rfl
    · exact h
theorem flip_turn (c : Nat) : isTurnC (flipC c) = isTurnC c := by
  by_cases h1 : c = 114
  · subst h1; rfl
  · by_cases h2 : c = 102
    · subst h2; rfl
    · have : isTurnC c = false := by simp [isTurnC, h1, h2]
      rw [flip_no this]
/-- a row as numbers; a grid of rows -/
def cellAt (G : List (List Nat)) (i j : Int) : Nat := ((G[i.toNat]?).bind fun l => l[j.toNat]?).getD 46
def gridL (ls : List Str) : List (List Nat) := ls.map fun l => l.cps.toList
def flipL (G : List (List Nat)) : List (List Nat) := G.map fun l => l.map flipC
def setL (G : List (List Nat)) (i j c : Nat) : List (List Nat) := match G[i]? with
  | some l => G.set i (l.set j c)
  | none => G
def strOf (l : List Nat) : Str := ⟨l.toArray⟩
theorem strOf_cps (z : Str) : strOf z.cps.toList = z := by cases z; simp [strOf]
theorem cell_flip (G : List (List Nat)) (i j : Int) : cellAt (flipL G) i j = flipC (cellAt G i j) := by
  unfold cellAt flipL
  rw [List.getElem?_map]
  cases G[i.toNat]? with
  | none => rfl
  | some l =>
    show ((l.map flipC)[j.toNat]?).getD 46 = flipC ((l[j.toNat]?).getD 46)
    rw [List.getElem?_map]
    cases l[j.toNat]? with
    | none => rfl
    | some c => rfl
end MT

/-! MT26: a beam's cells in the store: the list of rows, the rows, the tiles passed. -/
namespace MT
open PySem L2
def rowC (l : List Nat) : Cell := .lst (l.map fun c => D.str ⟨#[c]⟩)
def locsC (b n : Nat) : Cell := .lst ((List.range n).map fun i => D.loc (b + 1 + i))
def beamM (m : Store) (G : List (List Nat)) (P : List D) : Store := m ++ (locsC m.length G.length :: (G.map rowC ++ [.lst P]))
theorem beamM_loc (m : Store) (G : List (List Nat)) (P : List D) : (beamM m G P)[m.length]? = some (locsC m.length G.length) := by
  unfold beamM
  rw [List.getElem?_append_right (Nat.le_refl _), Nat.sub_self]; rfl
theorem beamM_row (m : Store) (G : List (List Nat)) (P : List D) {i : Nat} {l : List Nat} (h : G[i]? = some l) : (beamM m G P)[m.length + 1 + i]? = some (rowC l) := by
  have hi := (List.getElem?_eq_some_iff.mp h).1
  unfold beamM
  rw [List.getElem?_append_right (by omega), show m.length + 1 + i - m.length = i + 1 by omega, List.getElem?_cons_succ, List.getElem?_append_left (by simpa using hi), List.getElem?_map, h]; rfl
theorem beamM_pass (m : Store) (G : List (List Nat)) (P : List D) : (beamM m G P)[m.length + 1 + G.length]? = some (.lst P) := by
  unfold beamM
  rw [List.getElem?_append_right (by omega), show m.length + 1 + G.length - m.length = G.length + 1 by omega, List.getElem?_cons_succ, List.getElem?_append_right (by simp), List.length_map, Nat.sub_self]; rfl
theorem beamM_setP (m : Store) (G : List (List Nat)) (P Q : List D) : (beamM m G P).set (m.length + 1 + G.length) (.lst Q) = beamM m G Q := by
  unfold beamM
  rw [List.set_append_right _ _ (by omega), show m.length + 1 + G.length - m.length = G.length + 1 by omega, List.set_cons_succ, List.set_append_right _ _ (by simp), List.length_map, Nat.sub_self]; rfl
theorem beamM_setR (m : Store) (G : List (List Nat)) (P : List D) {i : Nat} (hi : i < G.length) (l : List Nat) : (beamM m G P).set (m.length + 1 + i) (rowC l) = beamM m (G.set i l) P := by
  unfold beamM
  rw [List.set_append_right _ _ (by omega), show m.length + 1 + i - m.length = i + 1 by omega, List.set_cons_succ, List.set_append_left _ _ (by simpa using hi), List.length_set, List.map_set]
end MT

/-! MT27: one round of a beam's loop. -/
namespace MT
open PySem L2
def envB (ls : List Str) (p h w r c : Int) (b n : Nat) (v : Int × Int) (sg : Option D) : EnvD :=
  [some (.room ls), some (.int p), some (.loc b), none, some (.int h), some (.int w), some (.int r), some (.int c), some (wayD v), some (.loc n), sg, none]
theorem atI_get {xs : List D} {i : Int} {d : D} (h0 : 0 ≤ i) (h : xs[i.toNat]? = some d) : atI xs i = some d := by
  have hi := (List.getElem?_eq_some_iff.mp h).1
  unfold atI ixN
  rw [if_pos h0, if_pos (by omega)]
  exact h
noncomputable def bodyB : PgS := sSeq (sExpr (pLm gAppend (pVar 9) [(pF gTup [(pVar 6), (pVar 7)])]))
    (sSeq (sSet 10 (p2 gIx (p2 gIx (pVar 2) (pVar 6)) (pVar 7)))
    (sSeq (sSet 8 (pF (f_thrown) [(pVar 10), (pVar 8)]))
    (sSeq (sSub (p2 gIx (pVar 2) (pVar 6)) (pVar 7) (p2 gTurnGet (pVar 10) (pVar 10)))
    (sPar 6 7 [(p2 gAdd (pVar 6) (p2 gIx (pVar 8) (pC (.int 0)))), (p2 gAdd (pVar 7) (p2 gIx (pVar 8) (pC (.int 1))))]))))
theorem row_ok {ls : List Str} {p h w r c : Int} {v : Int × Int} {sg : Option D} (m : Store) {G : List (List Nat)} {P : List D} {l : List Nat} {n : Nat} (r0 : 0 ≤ r) (hl : G[r.toNat]? = some l) :
    p2 gIx (pVar 2) (pVar 6) (envB ls p h w r c m.length n v sg) (beamM m G P) = .ok (.loc (m.length + 1 + r.toNat)) (beamM m G P) := by
  have hi := (List.getElem?_eq_some_iff.mp hl).1
  refine (p2_ok (v_ok rfl) (v_ok rfl)).trans ?_
  have e : gIx [.loc m.length, .int r] (beamM m G P) = match (beamM m G P)[m.length]? with
    | some (.lst xs) => optR (atI xs r) (beamM m G P)
    | _ => .bad := rfl
  rw [e, beamM_loc]
  show optR (atI ((List.range G.length).map fun i => D.loc (m.length + 1 + i)) r) _ = _
  rw [atI_get (d := .loc (m.length + 1 + r.toNat)) r0 (by rw [List.getElem?_map, List.getElem?_range hi]; rfl)]
  rfl
theorem tile_ok {ls : List Str} {p h w r c : Int} {v : Int × Int} {sg : Option D} (m : Store) {G : List (List Nat)} {P : List D} {l : List Nat} {ch n : Nat} (r0 : 0 ≤ r) (c0 : 0 ≤ c) (hl : G[r.toNat]? = some l) (hc : l[c.toNat]? = some ch) :
    p2 gIx (p2 gIx (pVar 2) (pVar 6)) (pVar 7) (envB ls p h w r c m.length n v sg) (beamM m G P) = .ok (.str ⟨#[ch]⟩) (beamM m G P) := by
  refine (p2_ok (row_ok m r0 hl) (v_ok rfl)).trans ?_
  have e : gIx [.loc (m.length + 1 + r.toNat), .int c] (beamM m G P) = match (beamM m G P)[m.length + 1 + r.toNat]? with
    | some (.lst xs) => optR (atI xs c) (beamM m G P)
    | _ => .bad := rfl
  rw [e, beamM_row m G P hl]
  show optR (atI (l.map fun c => D.str ⟨#[c]⟩) c) _ = _
  rw [atI_get (d := .str ⟨#[ch]⟩) c0 (by rw [List.getElem?_map, hc]; rfl)]
  rfl
theorem body_ok {ls : List Str} {p h w r c : Int} {v : Int × Int} {sg : Option D} (m : Store) {G : List (List Nat)} {P : List D} {l : List Nat} {ch : Nat} (r0 : 0 ≤ r) (c0 : 0 ≤ c) (hl : G[r.toNat]? = some l) (hc : l[c.toNat]? = some ch) (hP : P.length ≤ lim) :
    bodyB (envB ls p h w r c m.length (m.length + 1 + G.length) v sg) (beamM m G P) =
      .nxt (envB ls p h w (r + (throwW ch v).1) (c + (throwW ch v).2) m.length (m.length + 1 + G.length) (throwW ch v) (some (.str ⟨#[ch]⟩))) (beamM m (G.set r.toNat (l.set c.toNat (flipC ch))) (P ++ [.tup [.int r, .int c]])) := by
  have hi := (List.getElem?_eq_some_iff.mp hl).1
  have hj := (List.getElem?_eq_some_iff.mp hc).1
  have a1 : pLm gAppend (pVar 9) [(pF gTup [(pVar 6), (pVar 7)])] (envB ls p h w r c m.length (m.length + 1 + G.length) v sg) (beamM m G P) = .ok .non (beamM m G (P ++ [.tup [.int r, .int c]])) := by
    refine (lm_ok (v_ok rfl) (beamM_pass m G P) (ev_cons ((pF2 (v_ok rfl) (v_ok rfl)).trans rfl) ev_nil)).trans ?_
    have e : gAppend [.loc (m.length + 1 + G.length), .tup [.int r, .int c]] (beamM m G P) = match (beamM m G P)[m.length + 1 + G.length]? with
      | some (.lst xs) => if xs.length ≤ lim then .ok .non ((beamM m G P).set (m.length + 1 + G.length) (.lst (xs ++ [.tup [.int r, .int c]]))) else .bad
      | _ => .bad := rfl
    rw [e, beamM_pass]
    show (if P.length ≤ lim then _ else _) = _
    rw [if_pos hP, beamM_setP]
  refine (seq_nxt (expr_ok a1)).trans ?_
  refine (seq_nxt (set_ok (tile_ok m r0 c0 hl hc))).trans ?_
  refine (seq_nxt (set_ok ((pF2 (v_ok rfl) (v_ok rfl)).trans (thrown_ok ch v _)))).trans ?_
  have a2 := row_ok (ls := ls) (p := p) (h := h) (w := w) (c := c) (v := throwW ch v) (sg := some (.str ⟨#[ch]⟩)) (n := m.length + 1 + G.length) m (P := P ++ [.tup [.int r, .int c]]) r0 hl
  have a3 : gSetL (.loc (m.length + 1 + r.toNat)) (.int c) (.str ⟨#[flipC ch]⟩) (beamM m G (P ++ [.tup [.int r, .int c]])) = some (beamM m (G.set r.toNat (l.set c.toNat (flipC ch))) (P ++ [.tup [.int r, .int c]])) := by
    have e : gSetL (.loc (m.length + 1 + r.toNat)) (.int c) (.str ⟨#[flipC ch]⟩) (beamM m G (P ++ [.tup [.int r, .int c]])) = match (beamM m G (P ++ [.tup [.int r, .int c]]))[m.length + 1 + r.toNat]? with
      | some (.lst xs) => (ixN xs.length c).map fun j => (beamM m G (P ++ [.tup [.int r, .int c]])).set (m.length + 1 + r.toNat) (.lst (xs.set j (.str ⟨#[flipC ch]⟩)))
      | _ => none := rfl
    rw [e, beamM_row m G _ hl]
    show (ixN (l.map fun c => D.str ⟨#[c]⟩).length c).map _ = _
    rw [List.length_map, show ixN l.length c = some c.toNat by unfold ixN; rw [if_pos c0, if_pos (by omega)]]
    show some _ = _
    rw [← beamM_setR m G _ hi, rowC, List.map_set]
  refine (seq_nxt (sub_ok (ε := envB ls p h w r c m.length (m.length + 1 + G.length) (throwW ch v) (some (.str ⟨#[ch]⟩))) ((p2_ok (v_ok rfl) (v_ok rfl)).trans (turnGet_ok ch _)) a2 (v_ok rfl) a3)).trans ?_
  exact par_ok (ev_cons (addI_ok (v_ok rfl) ((p2_ok (v_ok rfl) rfl).trans rfl)) (ev_cons (addI_ok (v_ok rfl) ((p2_ok (v_ok rfl) rfl).trans rfl)) ev_nil))
end MT

/-! MT28: the loop of a beam, on grids as lists. -/
namespace MT
open PySem L2
/-- a beam on a grid of rows -/
structure Bl where
  G : List (List Nat)
  r : Int
  c : Int
  v : Int × Int
def Bl.bm (s : Bl) : Bm := ⟨cellAt s.G, s.r, s.c, s.v⟩
def Bl.step (s : Bl) : Bl :=
  let v' := throwW (cellAt s.G s.r s.c) s.v
  ⟨setL s.G s.r.toNat s.c.toNat (flipC (cellAt s.G s.r s.c)), s.r + v'.1, s.c + v'.2, v'⟩
def condB : Pg := pAnd (pChain gLe gLt (pC (.int 0)) (pVar 6) (pVar 4)) (pChain gLe gLt (pC (.int 0)) (pVar 7) (pVar 5))
theorem cond_ok {ls : List Str} {p h w r c : Int} {v : Int × Int} {sg : Option D} {b n : Nat} {m : Store} :
    condB (envB ls p h w r c b n v sg) m = .ok (.bl (decide (0 ≤ r ∧ r < h ∧ 0 ≤ c ∧ c < w))) m := by
  have k : ∀ (i j : Nat) (x y : Int), (envB ls p h w r c b n v sg)[i]? = some (some (.int x)) → (envB ls p h w r c b n v sg)[j]? = some (some (.int y)) → pChain gLe gLt (pC (.int 0)) (pVar i) (pVar j) (envB ls p h w r c b n v sg) m = .ok (.bl (decide (0 ≤ x ∧ x < y))) m := by
    intro i j x y hi hj
    by_cases q : 0 ≤ x
    · refine (chain_t (x := .int 0) (m1 := m) (m2 := m) rfl (v_ok hi) ?_ (v_ok hj)).trans ?_
      · show Res.ok (D.bl (decide (0 ≤ x))) m = _
        rw [decide_eq_true q]
      · show Res.ok (D.bl (decide (x < y))) m = _
        simp only [q, true_and]
    · refine (chain_f (x := .int 0) (m1 := m) (m2 := m) rfl (v_ok hi) ?_).trans ?_
      · show Res.ok (D.bl (decide (0 ≤ x))) m = _
        rw [decide_eq_false q]
      · rw [decide_eq_false (fun z => q z.1)]
  have k1 := k 6 4 r h rfl rfl
  have k2 := k 7 5 c w rfl rfl
  by_cases q : 0 ≤ r ∧ r < h
  · rw [decide_eq_true q] at k1
    refine (and_t k1).trans (k2.trans ?_)
    congr 2
    exact decide_eq_decide.mpr ⟨fun z => ⟨q.1, q.2, z.1, z.2⟩, fun z => ⟨z.2.2.1, z.2.2.2⟩⟩
  · rw [decide_eq_false q] at k1
    refine (and_f k1).trans ?_
    rw [decide_eq_false (fun z => q ⟨z.1, z.2.1⟩)]
def Bl.it : Nat → Bl → Bl
  | 0, s => s
  | n + 1, s => Bl.it n s.step
def Bl.tiles : Nat → Bl → List (Int × Int)
  | 0, _ => []
  | n + 1, s => (s.r, s.c) :: Bl.tiles n s.step
def Bl.Ins (h w : Nat) (s : Bl) : Prop := 0 ≤ s.r ∧ s.r < h ∧ 0 ≤ s.c ∧ s.c < w
instance (h w : Nat) (s : Bl) : Decidable (s.Ins h w) := inferInstanceAs (Decidable (0 ≤ s.r ∧ s.r < h ∧ 0 ≤ s.c ∧ s.c < w))
def Rect (G : List (List Nat)) (h w : Nat) : Prop := G.length = h ∧ ∀ l ∈ G, l.length = w
theorem Rect.get {G : List (List Nat)} {h w : Nat} (R : Rect G h w) {i j : Int} (h0 : 0 ≤ i) (h1 : i < h) (h2 : 0 ≤ j) (h3 : j < w) : ∃ l, G[i.toNat]? = some l ∧ l[j.toNat]? = some (cellAt G i j) := by
  have hi : i.toNat < G.length := by rw [R.1]; omega
  have e1 : G[i.toNat]? = some G[i.toNat] := List.getElem?_eq_getElem hi
  have hl : G[i.toNat].length = w := R.2 _ (List.getElem_mem hi)
  have hj : j.toNat < G[i.toNat].length := by omega
  refine ⟨_, e1, ?_⟩
  unfold cellAt
  rw [e1]
  show _ = some (((G[i.toNat])[j.toNat]?).getD 46)
  rw [List.getElem?_eq_getElem hj]; rfl
theorem Rect.set {G : List (List Nat)} {h w : Nat} (R : Rect G h w) (i j c : Nat) : Rect (setL G i j c) h w := by
  unfold setL
  cases e : G[i]? with
  | none => exact R
  | some l =>
    refine ⟨by rw [List.length_set]; exact R.1, fun k hk => ?_⟩
    rcases List.mem_or_eq_of_mem_set hk with hk | rfl
    · exact R.2 k hk
    · rw [List.length_set]; exact R.2 l (List.mem_of_getElem? e)
def tileD (x : Int × Int) : D := .tup [.int x.1, .int x.2]
theorem loop_ok {ls : List Str} {p : Int} {h w : Nat} (m : Store) : ∀ (k n : Nat) (s : Bl) (sg : Option D) (P : List D), Rect s.G h w → (∀ i, i < k → (Bl.it i s).Ins h w) → ¬ (Bl.it k s).Ins h w → k < n → P.length + k ≤ lim →
    ∃ sg', whileN condB bodyB n (envB ls p h w s.r s.c m.length (m.length + 1 + h) s.v sg) (beamM m s.G P) =
      .nxt (envB ls p h w (Bl.it k s).r (Bl.it k s).c m.length (m.length + 1 + h) (Bl.it k s).v sg') (beamM m (Bl.it k s).G (P ++ (Bl.tiles k s).map tileD))
  | 0, n + 1, s, sg, P, R, hi, ho, _, _ => by
    refine ⟨sg, (while_f (m1 := beamM m s.G P) (cond_ok.trans ?_)).trans ?_⟩
    · exact congrArg (fun b => Res.ok (D.bl b) (beamM m s.G P)) (decide_eq_false (p := s.Ins h w) ho)
    · simp [Bl.it, Bl.tiles]
  | k + 1, n + 1, s, sg, P, R, hi, ho, hn, hP => by
    have h0 : s.Ins h w := hi 0 (by omega)
    obtain ⟨l, e1, e2⟩ := R.get h0.1 h0.2.1 h0.2.2.1 h0.2.2.2
    have es : s.step.G = s.G.set s.r.toNat (l.set s.c.toNat (flipC (cellAt s.G s.r s.c))) := by
      show setL _ _ _ _ = _
      unfold setL; rw [e1]
    have b := body_ok (ls := ls) (p := p) (h := h) (w := w) (v := s.v) (sg := sg) (P := P) m h0.1 h0.2.2.1 e1 e2 (by omega)
    rw [R.1, ← es] at b
    obtain ⟨sg', z⟩ := loop_ok (ls := ls) (p := p) m k n s.step (some (.str ⟨#[cellAt s.G s.r s.c]⟩)) (P ++ [.tup [.int s.r, .int s.c]]) (R.set _ _ _) (fun i q => hi (i + 1) (by omega)) ho (by omega) (by simp only [List.length_append, List.length_singleton]; omega)
    refine ⟨sg', (while_t (m1 := beamM m s.G P) (cond_ok.trans ?_) b).trans (z.trans ?_)⟩
    · exact congrArg (fun b => Res.ok (D.bl b) (beamM m s.G P)) (decide_eq_true (p := s.Ins h w) h0)
    · simp [Bl.it, Bl.tiles, tileD]
end MT

/-! MT29: beams on rows and beams on grids. -/
namespace MT
open PySem L2
theorem cell_set {G : List (List Nat)} {h w : Nat} (R : Rect G h w) {r c : Int} (h0 : 0 ≤ r) (h1 : r < h) (h2 : 0 ≤ c) (h3 : c < w) (x : Nat) {i j : Int} (i0 : 0 ≤ i) (j0 : 0 ≤ j) :
    cellAt (setL G r.toNat c.toNat x) i j = if i = r ∧ j = c then x else cellAt G i j := by
  obtain ⟨l, e1, e2⟩ := R.get h0 h1 h2 h3
  have hi := (List.getElem?_eq_some_iff.mp e1).1
  have hj := (List.getElem?_eq_some_iff.mp e2).1
  unfold setL
  rw [e1]
  unfold cellAt
  by_cases ei : i = r
  · subst ei
    rw [List.getElem?_set_self hi, e1]
    show ((l.set c.toNat x)[j.toNat]?).getD 46 = if i = i ∧ j = c then x else ((l[j.toNat]?).getD 46)
    by_cases ej : j = c
    · subst ej
      rw [List.getElem?_set_self hj, if_pos ⟨rfl, rfl⟩]; rfl
    · rw [List.getElem?_set_ne (by omega), if_neg (fun z => ej z.2)]
  · rw [List.getElem?_set_ne (by omega), if_neg (fun z => ei z.1)]
/-- the grid as a function: nothing before the first row or column -/
def gridF (G : List (List Nat)) (i j : Int) : Nat := if 0 ≤ i ∧ 0 ≤ j then cellAt G i j else 46
def Bl.bf (s : Bl) : Bm := ⟨gridF s.G, s.r, s.c, s.v⟩
theorem Bl.bf_ins {h w : Nat} {s : Bl} : s.bf.Ins h w ↔ s.Ins h w := Iff.rfl
theorem Bl.bf_step {h w : Nat} {s : Bl} (R : Rect s.G h w) (hi : s.Ins h w) : s.step.bf = s.bf.step := by
  obtain ⟨h0, h1, h2, h3⟩ := hi
  have e : gridF s.G s.r s.c = cellAt s.G s.r s.c := if_pos ⟨h0, h2⟩
  simp only [Bl.bf, Bl.step, Bm.step, e]
  congr 1
  funext i j
  show gridF (setL s.G s.r.toNat s.c.toNat (flipC (cellAt s.G s.r s.c))) i j = if i = s.r ∧ j = s.c then flipC (gridF s.G i j) else gridF s.G i j
  by_cases q : 0 ≤ i ∧ 0 ≤ j
  · rw [gridF, if_pos q, cell_set R h0 h1 h2 h3 _ q.1 q.2, gridF, if_pos q]
    by_cases z : i = s.r ∧ j = s.c
    · rw [if_pos z, if_pos z, z.1, z.2]
    · rw [if_neg z, if_neg z]
  · rw [gridF, if_neg q, gridF, if_neg q, if_neg (fun z => q ⟨by omega, by omega⟩)]
theorem Bm.it_front (n : Nat) (s : Bm) : Bm.it (n + 1) s = Bm.it n s.step := Bm.it_add n 1 s
theorem Bl.bf_it {h w : Nat} : ∀ (k : Nat) (s : Bl), Rect s.G h w → (∀ i, i < k → (Bl.it i s).Ins h w) → (Bl.it k s).bf = Bm.it k s.bf ∧ Rect (Bl.it k s).G h w
  | 0, s, R, _ => ⟨rfl, R⟩
  | k + 1, s, R, hi => by
    have e := Bl.bf_step R (hi 0 (by omega))
    obtain ⟨a, b⟩ := Bl.bf_it k s.step (R.set _ _ _) (fun i q => hi (i + 1) (by omega))
    refine ⟨?_, b⟩
    show (Bl.it k s.step).bf = _
    rw [a, e, Bm.it_front]
/-- the first step outside -/
theorem leave_ok {h w : Nat} {s : Bl} (R : Rect s.G h w) {N : Nat} (hl : ∃ n, n ≤ N ∧ ¬ (Bm.it n s.bf).Ins h w) : ∃ k, k ≤ N ∧ (∀ i, i < k → (Bl.it i s).Ins h w) ∧ ¬ (Bl.it k s).Ins h w := by
  apply Classical.byContradiction
  intro hc
  have hi : ∀ k, k ≤ N + 1 → ∀ i, i < k → (Bl.it i s).Ins h w := by
    intro k
    induction k with
    | zero => intro _ i q; omega
    | succ k ih =>
      intro hk i q
      rcases Nat.lt_or_ge i k with z | z
      · exact ih (by omega) i z
      · have : i = k := by omega
        subst this
        exact Classical.byContradiction fun y => hc ⟨i, by omega, ih (by omega), y⟩
  obtain ⟨n, h1, h2⟩ := hl
  have hn := hi (N + 1) (Nat.le_refl _)
  apply h2
  rw [← (Bl.bf_it n s R (fun i q => hn i (by omega))).1]
  exact hn n (by omega)
end MT

/-! MT30: the mirrors that turn, as a list of at most ten tiles. -/
namespace MT
open PySem L2
def rowT (i : Int) : Nat → List Nat → List (Int × Int)
  | _, [] => []
  | j, c :: l => if isTurnC c = true then (i, (j : Int)) :: rowT i (j + 1) l else rowT i (j + 1) l
def gridT : Nat → List (List Nat) → List (Int × Int)
  | _, [] => []
  | i, l :: G => rowT (i : Int) 0 l ++ gridT (i + 1) G
theorem rowT_len (i : Int) : ∀ (j : Nat) (l : List Nat), (rowT i j l).length = (l.filter isTurnC).length
  | _, [] => rfl
  | j, c :: l => by
    unfold rowT
    by_cases h : isTurnC c = true
    · rw [if_pos h, List.filter_cons_of_pos h, List.length_cons, List.length_cons, rowT_len i (j + 1) l]
    · rw [if_neg h, List.filter_cons_of_neg h, rowT_len i (j + 1) l]
theorem gridT_len : ∀ (i : Nat) (G : List (List Nat)), (gridT i G).length = (G.map fun l => (l.filter isTurnC).length).sum
  | _, [] => rfl
  | i, l :: G => by simp [gridT, rowT_len, gridT_len (i + 1) G]
theorem gridT_room (ls : List Str) : (gridT 0 (gridL ls)).length = turnCount ls := by
  rw [gridT_len]; simp [gridL, turnCount, Function.comp_def]
theorem rowT_mem {i : Int} {x : Int × Int} : ∀ {j : Nat} {l : List Nat}, x ∈ rowT i j l ↔ ∃ k c, l[k]? = some c ∧ isTurnC c = true ∧ x = (i, ((j + k : Nat) : Int))
  | j, [] => by simp [rowT]
  | j, c :: l => by
    have ih := rowT_mem (i := i) (x := x) (j := j + 1) (l := l)
    constructor
    · intro h
      unfold rowT at h
      by_cases q : isTurnC c = true
      · rw [if_pos q] at h
        rcases List.mem_cons.mp h with e | h
        · exact ⟨0, c, rfl, q, e⟩
        · obtain ⟨k, d, a, b, e⟩ := ih.mp h
          exact ⟨k + 1, d, a, b, by rw [e]; congr 2; omega⟩
      · rw [if_neg q] at h
        obtain ⟨k, d, a, b, e⟩ := ih.mp h
        exact ⟨k + 1, d, a, b, by rw [e]; congr 2; omega⟩
    · rintro ⟨k, d, a, b, e⟩
      unfold rowT
      cases k with
      | zero =>
        cases a
        rw [if_pos b]
        exact List.mem_cons.mpr (.inl e)
      | succ k =>
        have z := ih.mpr ⟨k, d, a, b, by rw [e]; congr 2; omega⟩
        split
        · exact List.mem_cons_of_mem _ z
        · exact z
theorem gridT_mem {x : Int × Int} : ∀ {i : Nat} {G : List (List Nat)}, x ∈ gridT i G ↔ ∃ (n k : Nat) (l : List Nat) (c : Nat), G[n]? = some l ∧ l[k]? = some c ∧ isTurnC c = true ∧ x = (((i + n : Nat) : Int), (k : Int))
  | i, [] => by simp [gridT]
  | i, l :: G => by
    have ih := gridT_mem (x := x) (i := i + 1) (G := G)
    unfold gridT
    rw [List.mem_append, rowT_mem, ih]
    constructor
    · rintro (⟨k, c, a, b, e⟩ | ⟨n, k, l', c, z, a, b, e⟩)
      · exact ⟨0, k, l, c, rfl, a, b, by rw [e, Nat.zero_add]; rfl⟩
      · exact ⟨n + 1, k, l', c, z, a, b, by rw [e]; congr 2; omega⟩
    · rintro ⟨n, k, l', c, z, a, b, e⟩
      cases n with
      | zero =>
        cases z
        exact .inl ⟨k, c, a, b, by rw [e, Nat.zero_add]; rfl⟩
      | succ n => exact .inr ⟨n, k, l', c, z, a, b, by rw [e]; congr 2; omega⟩
end MT

/-! MT31: every beam of a valid room leaves. -/
namespace MT
open PySem L2
theorem gridF_get {G : List (List Nat)} {n k : Nat} {l : List Nat} {c : Nat} (h1 : G[n]? = some l) (h2 : l[k]? = some c) : gridF G (n : Int) (k : Int) = c := by
  unfold gridF cellAt
  rw [if_pos ⟨Int.natCast_nonneg _, Int.natCast_nonneg _⟩, Int.toNat_natCast, Int.toNat_natCast, h1]
  show (l[k]?).getD 46 = c
  rw [h2]; rfl
theorem ginv_self (G : List (List Nat)) : GInv (gridF G) (gridT 0 G) (gridF G) := by
  refine ⟨fun _ _ _ => rfl, fun i j h => ?_⟩
  obtain ⟨n, k, l, c, a, b, t, e⟩ := gridT_mem.mp h
  rw [Nat.zero_add] at e
  cases e
  rw [gridF_get a b]
  unfold isTurnC at t
  simpa using t
theorem gridT_out {G : List (List Nat)} {h w : Nat} (R : Rect G h w) (i j : Int) (h0 : 0 ≤ i) (h1 : i < h) (h2 : 0 ≤ j) (h3 : j < w) (hn : (i, j) ∉ gridT 0 G) : isTurnC (gridF G i j) = false := by
  apply Bool.eq_false_iff.mpr
  intro t
  apply hn
  obtain ⟨l, e1, e2⟩ := R.get h0 h1 h2 h3
  have e : gridF G i j = cellAt G i j := if_pos ⟨h0, h2⟩
  rw [e] at t
  refine gridT_mem.mpr ⟨i.toNat, j.toNat, l, _, e1, e2, t, ?_⟩
  rw [Nat.zero_add, Int.toNat_of_nonneg h0, Int.toNat_of_nonneg h2]
theorem rect_room {ls : List Str} (hv : Valid ls) : Rect (gridL ls) (heightS ls) (widthS ls) := by
  refine ⟨by simp [gridL, heightS], fun l hl => ?_⟩
  obtain ⟨z, hz, rfl⟩ := List.mem_map.mp hl
  exact (hv.2.2.2.2.1 z hz).1
/-- the beam that enters at a port -/
def startB (ls : List Str) (p : Int) : Bl := ⟨gridL ls, (entryW (heightS ls) (widthS ls) p).1, (entryW (heightS ls) (widthS ls) p).2.1, (entryW (heightS ls) (widthS ls) p).2.2⟩
theorem start_leaves {ls : List Str} (hv : Valid ls) {p : Int} (hp : PortOk ls p) : ∃ k, k ≤ 2 ^ 18 ∧ (∀ i, i < k → (Bl.it i (startB ls p)).Ins (heightS ls) (widthS ls)) ∧ ¬ (Bl.it k (startB ls p)).Ins (heightS ls) (widthS ls) := by
  have hn := hv.np
  have hp' : p < 2 * (((heightS ls : Nat) : Int) + ((widthS ls : Nat) : Int)) := by have := hp.2; unfold nPorts at this; omega
  have R := rect_room hv
  refine leave_ok (s := startB ls p) R (Bm.leaves (g0 := gridF (gridL ls)) (L := gridT 0 (gridL ls)) hn.2.1 hn.2.2.2 ?_ ⟨ginv_self _, entry_way _ _ _⟩ (gridT_out R) (entry_out (by omega) (by omega) hp.1 hp'))
  rw [gridT_room]
  exact hv.2.2.2.2.2
end MT

/-! MT32: comprehensions, run forwards. -/
namespace MT
open PySem L2
theorem lcF_run {xs : List D} {t : Tgt} {pt pe : Pg} {ε : EnvD} {n0 : Nat} (M : Nat → Store)
    (step : ∀ i x, xs[i]? = some x → ∃ ε1 y m2 acc, bindT t x ε = some ε1 ∧ pt ε1 (M i) = .ok (.bl true) (M i) ∧ pe ε1 (M i) = .ok y m2 ∧ m2[n0]? = some (.lst acc) ∧ acc.length ≤ lim ∧ m2.set n0 (.lst (acc ++ [y])) = M (i + 1)) :
    ∀ (k i n : Nat), xs.length - i = k → i ≤ xs.length → k < n → lcN (nxF xs) t pt pe ε n0 n i (M i) = .ok (.loc n0) (M xs.length)
  | 0, i, n + 1, hk, hi, _ => by
    have e : i = xs.length := by omega
    subst e
    simp [lcN, nxF]
  | k + 1, i, n + 1, hk, hi, hn => by
    have hlt : i < xs.length := by omega
    have hx : xs[i]? = some xs[i] := List.getElem?_eq_getElem hlt
    obtain ⟨ε1, y, m2, acc, h1, h2, h3, h4, h5, h6⟩ := step i _ hx
    have ih := lcF_run M step k (i + 1) n (by omega) hlt (by omega)
    have e : nxF xs i (M i) = some (some xs[i]) := by unfold nxF; rw [hx]
    simp only [lcN, e, h1, h2, h3, h4, if_pos h5, h6]
    exact ih
theorem pLc_F {pi : PgI} {own : List Nat} {t : Tgt} {pt pe : Pg} {ε : EnvD} {m m' : Store} {xs : List D} (M : Nat → Store) (hp : pi ε m = .ok (nxF xs) m') (h0 : M 0 = m' ++ [.lst []]) (hl : xs.length < bigN)
    (step : ∀ i x, xs[i]? = some x → ∃ ε1 y m2 acc, bindT t x (wipeD ε own) = some ε1 ∧ pt ε1 (M i) = .ok (.bl true) (M i) ∧ pe ε1 (M i) = .ok y m2 ∧ m2[m'.length]? = some (.lst acc) ∧ acc.length ≤ lim ∧ m2.set m'.length (.lst (acc ++ [y])) = M (i + 1)) :
    pLc pi own t pt pe ε m = .ok (.loc m'.length) (M xs.length) := by
  unfold pLc
  rw [hp]
  show lcN _ _ _ _ _ _ _ _ (m' ++ [.lst []]) = _
  rw [← h0]
  exact lcF_run M step _ 0 bigN rfl (Nat.zero_le _) (by omega)
end MT

/-! MT33: [list(line) for line in self.rows]. -/
namespace MT
open PySem L2
def gridM (m : Store) (G : List (List Nat)) : Store := m ++ (locsC m.length G.length :: G.map rowC)
theorem gridM_pass (m : Store) (G : List (List Nat)) : gridM m G ++ [.lst []] = beamM m G [] := by
  simp [gridM, beamM, List.append_assoc]
theorem gridM_len (m : Store) (G : List (List Nat)) : (gridM m G).length = m.length + 1 + G.length := by
  simp [gridM]; omega
theorem rowC_chars (z : Str) : Cell.lst (chars z) = rowC z.cps.toList := rfl
theorem grid_ok {ls : List Str} (hv : Valid ls) {ε : EnvD} (m : Store) (he : ε[0]? = some (some (.room ls))) (h3 : 3 < ε.length) :
    pLc (iTp (p1 gLines (pVar 0))) [3] (.nm 3) (pC (.bl true)) (pF gListS [(pVar 3)]) ε m = .ok (.loc m.length) (gridM m (gridL ls)) := by
  have hn := hv.np
  have hs : iTp (p1 gLines (pVar 0)) ε m = .ok (nxF (ls.map .str)) m := by
    have : p1 gLines (pVar 0) ε m = .ok (.tup (ls.map .str)) m := (p1_ok (v_ok he)).trans rfl
    unfold iTp; rw [this]; rfl
  have := pLc_F (own := [3]) (t := .nm 3) (pt := pC (.bl true)) (pe := pF gListS [(pVar 3)]) (fun i => gridM m ((gridL ls).take i)) hs (by simp [gridM, locsC]) (by
    rw [List.length_map]
    have : ls.length ≤ 8 := hn.2.1
    unfold bigN; omega) (fun i x hx => by
    rw [List.getElem?_map, Option.map_eq_some_iff] at hx
    obtain ⟨z, hz, rfl⟩ := hx
    have hi := (List.getElem?_eq_some_iff.mp hz).1
    have hg : (gridL ls)[i]? = some z.cps.toList := by unfold gridL; rw [List.getElem?_map, hz]; rfl
    have hlen : z.length ≤ lim := by
      have := (hv.2.2.2.2.1 z (List.mem_of_getElem? hz)).1
      have h8 : widthS ls ≤ 8 := hn.2.2.2
      unfold lim; omega
    have htk : ((gridL ls).take i).length = i := by
      rw [List.length_take]; unfold gridL; rw [List.length_map]; omega
    refine ⟨(wipeD ε [3]).set 3 (some (.str z)), .loc (gridM m ((gridL ls).take i)).length, gridM m ((gridL ls).take i) ++ [.lst (chars z)], (List.range i).map fun j => D.loc (m.length + 1 + j), rfl, rfl, ?_, ?_, ?_, ?_⟩
    · refine (pF1 (v_ok (d := .str z) ?_)).trans ?_
      · rw [List.getElem?_set_self (by simp [wipeD]; exact h3)]
      · show (if z.length ≤ lim then _ else _) = _
        rw [if_pos hlen]
    · unfold gridM
      rw [List.append_assoc, List.getElem?_append_right (Nat.le_refl _), Nat.sub_self, htk]; rfl
    · rw [List.length_map, List.length_range]; have := hn.2.1; unfold heightS at this; unfold lim; omega
    · have e1 : (gridL ls).take (i + 1) = (gridL ls).take i ++ [z.cps.toList] := take_succ_of hg
      rw [gridM_len, htk, rowC_chars]
      unfold gridM
      rw [List.append_assoc, List.set_append_right _ _ (Nat.le_refl _), Nat.sub_self, e1, List.length_append, htk]
      simp [locsC, List.range_succ])
  refine this.trans ?_
  show Res.ok _ (gridM m ((gridL ls).take (ls.map D.str).length)) = _
  rw [List.length_map, List.take_of_length_le (by simp [gridL])]
end MT

/-! MT34: f_beam up to the end of its loop. -/
namespace MT
open PySem L2
noncomputable def headB : PgS → PgS := fun q => sSeq (sSet 2 (pLc (iTp (p1 gLines (pVar 0))) [3] (.nm 3) (pC (.bl true)) (pF gListS [(pVar 3)])))
    (sSeq (sAsgT (.tp [4, 5]) (pRm f_size (pVar 0) []))
    (sSeq (sAsgT (.tp [6, 7, 8]) (pRm f_entry (pVar 0) [(pVar 1)]))
    (sSeq (sSet 9 (pF gList []))
    (sSeq (sWhile condB bodyB) q))))
theorem headB_ok {ls : List Str} (hv : Valid ls) {p : Int} (hp : PortOk ls p) (m : Store) (q : PgS) : ∃ k sg, (∀ i, i < k → (Bl.it i (startB ls p)).Ins (heightS ls) (widthS ls)) ∧ ¬ (Bl.it k (startB ls p)).Ins (heightS ls) (widthS ls) ∧ k ≤ 2 ^ 18 ∧
    headB q [some (.room ls), some (.int p), none, none, none, none, none, none, none, none, none, none] m =
      q (envB ls p (heightS ls : Nat) (widthS ls : Nat) (Bl.it k (startB ls p)).r (Bl.it k (startB ls p)).c m.length (m.length + 1 + heightS ls) (Bl.it k (startB ls p)).v sg) (beamM m (Bl.it k (startB ls p)).G ((Bl.tiles k (startB ls p)).map tileD)) := by
  obtain ⟨k, k1, k2, k3⟩ := start_leaves hv hp
  have R := rect_room hv
  have k1' : k ≤ 262144 := k1
  obtain ⟨sg, e⟩ := loop_ok (ls := ls) (p := p) m k bigN (startB ls p) none [] R k2 k3 (by unfold bigN; omega) (by show 0 + k ≤ lim; unfold lim; omega)
  refine ⟨k, sg, k2, k3, k1, ?_⟩
  unfold headB
  refine (seq_nxt (set_ok (grid_ok hv m rfl (by simp)))).trans ?_
  refine (seq_nxt (asg_ok ((rm_ok (v_ok rfl) ev_nil).trans (size_ok hv _)) rfl)).trans ?_
  refine (seq_nxt (asg_ok ((rm_ok (v_ok rfl) (ev_cons (v_ok rfl) ev_nil)).trans (entry_ok hv p _)) rfl)).trans ?_
  have a : pF gList [] [some (.room ls), some (.int p), some (.loc m.length), none, some (.int (heightS ls : Nat)), some (.int (widthS ls : Nat)), some (.int (startB ls p).r), some (.int (startB ls p).c), some (wayD (startB ls p).v), none, none, none] (gridM m (gridL ls)) = .ok (.loc (gridM m (gridL ls)).length) (gridM m (gridL ls) ++ [.lst []]) := rfl
  refine (seq_nxt (set_ok a)).trans ?_
  rw [gridM_pass, gridM_len, R.1]
  exact seq_nxt e
end MT

/-! MT35: a row's signs joined again. -/
namespace MT
open PySem PyProof PyProof.Rows L2
theorem str_ext' {a b : Str} (h : a.cps.toList = b.cps.toList) : a = b := by
  obtain ⟨a⟩ := a
  obtain ⟨b⟩ := b
  congr 1
  exact Array.toList_inj.mp h
theorem app_cps (a b : Str) : (a ++ b).cps.toList = a.cps.toList ++ b.cps.toList := by
  show (a.cps ++ b.cps).toList = _
  simp
theorem empty_cps : ("" : Str).cps.toList = [] := by decide +kernel
theorem join_cps : ∀ (zs : List Str), (Str.join "" zs).cps.toList = (zs.map fun z => z.cps.toList).flatten
  | [] => rfl
  | [z] => by simp [Str.join]
  | z :: y :: zs => by
    have ih := join_cps (y :: zs)
    show (z ++ ("" : Str) ++ Str.join "" (y :: zs)).cps.toList = _
    rw [app_cps, app_cps, empty_cps, ih]
    simp
theorem join_ones' (l : List Nat) : Txt.join "" (l.map fun c => (⟨#[c]⟩ : Str)) = strOf l := by
  have e : Txt.join "" (l.map fun c => (⟨#[c]⟩ : Str)) = Str.join "" (l.map fun c => (⟨#[c]⟩ : Str)) := StrLaws.glued_eq_join _ _
  rw [e]
  clear e
  apply str_ext'
  rw [join_cps, List.map_map]
  show (l.map ((fun z : Str => z.cps.toList) ∘ fun c => (⟨#[c]⟩ : Str))).flatten = l.toArray.toList
  induction l with
  | nil => rfl
  | cons c l ih =>
    have := ih
    simp [Function.comp_def] at this ⊢
    exact this
theorem strsOf_map : ∀ (zs : List Str), strsOf (zs.map D.str) = some zs
  | [] => rfl
  | z :: zs => by simp [strsOf, strsOf_map zs]
theorem lcN_run {nx : Nx} {xs : List D} {t : Tgt} {pt pe : Pg} {ε : EnvD} {n0 : Nat} (M : Nat → Store) (hnx : ∀ i, nx i (M i) = some xs[i]?)
    (step : ∀ i x, xs[i]? = some x → ∃ ε1 y m2 acc, bindT t x ε = some ε1 ∧ pt ε1 (M i) = .ok (.bl true) (M i) ∧ pe ε1 (M i) = .ok y m2 ∧ m2[n0]? = some (.lst acc) ∧ acc.length ≤ lim ∧ m2.set n0 (.lst (acc ++ [y])) = M (i + 1)) :
    ∀ (k i n : Nat), xs.length - i = k → i ≤ xs.length → k < n → lcN nx t pt pe ε n0 n i (M i) = .ok (.loc n0) (M xs.length)
  | 0, i, n + 1, hk, hi, _ => by
    have e : i = xs.length := by omega
    subst e
    simp [lcN, hnx]
  | k + 1, i, n + 1, hk, hi, hn => by
    have hlt : i < xs.length := by omega
    have hx : xs[i]? = some xs[i] := List.getElem?_eq_getElem hlt
    obtain ⟨ε1, y, m2, acc, h1, h2, h3, h4, h5, h6⟩ := step i _ hx
    have ih := lcN_run M hnx step k (i + 1) n (by omega) hlt (by omega)
    have e : nx i (M i) = some (some xs[i]) := by rw [hnx, hx]
    simp only [lcN, e, h1, h2, h3, h4, if_pos h5, h6]
    exact ih
theorem pLc_run {nx : Nx} {pi : PgI} {own : List Nat} {t : Tgt} {pt pe : Pg} {ε : EnvD} {m m' : Store} {xs : List D} (M : Nat → Store) (hp : pi ε m = .ok nx m') (h0 : M 0 = m' ++ [.lst []]) (hl : xs.length < bigN) (hnx : ∀ i, nx i (M i) = some xs[i]?)
    (step : ∀ i x, xs[i]? = some x → ∃ ε1 y m2 acc, bindT t x (wipeD ε own) = some ε1 ∧ pt ε1 (M i) = .ok (.bl true) (M i) ∧ pe ε1 (M i) = .ok y m2 ∧ m2[m'.length]? = some (.lst acc) ∧ acc.length ≤ lim ∧ m2.set m'.length (.lst (acc ++ [y])) = M (i + 1)) :
    pLc pi own t pt pe ε m = .ok (.loc m'.length) (M xs.length) := by
  unfold pLc
  rw [hp]
  show lcN _ _ _ _ _ _ _ _ (m' ++ [.lst []]) = _
  rw [← h0]
  exact lcN_run M hnx step _ 0 bigN rfl (Nat.zero_le _) (by omega)
end MT

/-! MT36: the rows joined again. -/
namespace MT
open PySem L2
theorem beamM_len (m : Store) (G : List (List Nat)) (P : List D) : (beamM m G P).length = m.length + 1 + G.length + 1 := by
  simp [beamM]; omega
theorem get_app {m X : Store} {n : Nat} {c : Cell} (h : m[n]? = some c) : (m ++ X)[n]? = some c := by
  rw [List.getElem?_append_left (List.getElem?_eq_some_iff.mp h).1, h]
noncomputable def rowsC (G : List (List Nat)) : Cell := .lst (G.map fun l => D.str (strOf l))
theorem joinRow_ok {m : Store} {n : Nat} {l : List Nat} (h : m[n]? = some (rowC l)) (hl : l.length ≤ lim) : gJoin [.str "", .loc n] m = .ok (.str (strOf l)) m := by
  have e : gJoin [.str "", .loc n] m = match lsD m (.loc n) with
    | some xs => joinR "" xs m
    | none => .bad := rfl
  have e2 : lsD m (.loc n) = some (l.map fun c => D.str ⟨#[c]⟩) := by
    show (match m[n]? with | some (.lst xs) => some xs | _ => none) = _
    rw [h]; rfl
  rw [e, e2]
  have q : strsOf (l.map fun c => D.str ⟨#[c]⟩) = some (l.map fun c => (⟨#[c]⟩ : Str)) := by
    have := strsOf_map (l.map fun c => (⟨#[c]⟩ : Str))
    rw [List.map_map] at this
    exact this
  show (match strsOf (l.map fun c => D.str ⟨#[c]⟩) with
      | some (zs : List Str) => if (zs.map (Str.length ·)).sum + zs.length * ("" : Str).length ≤ lim then Res.ok (D.str (Txt.join "" zs)) m else Res.bad
      | none => Res.bad) = _
  rw [q]
  have z : ("" : Str).length = 0 := by decide +kernel
  have z2 : ((l.map fun c => (⟨#[c]⟩ : Str)).map (Str.length ·)).sum = l.length := by
    clear e e2 h q hl
    induction l with
    | nil => rfl
    | cons c l ih =>
      rw [List.map_cons, List.map_cons, List.sum_cons, ih, List.length_cons]
      show (1 : Nat) + l.length = _
      omega
  show (if _ then _ else _) = _
  rw [z, z2, if_pos (by omega), join_ones']
theorem lines_ok {ε : EnvD} {m : Store} {G : List (List Nat)} {P : List D} {h w : Nat} (R : Rect G h w) (h8 : h ≤ 8) (w8 : w ≤ 8) (he : ε[2]? = some (some (.loc m.length))) (h3 : 3 < ε.length) :
    pLc (iSeq (pVar 2)) [3] (.nm 3) (pC (.bl true)) (pSm gJoin (pC (.str "")) [(pVar 3)]) ε (beamM m G P) = .ok (.loc (beamM m G P).length) (beamM m G P ++ [rowsC G]) := by
  have hs : iSeq (pVar 2) ε (beamM m G P) = .ok (nxL m.length) (beamM m G P) := by
    unfold iSeq; rw [v_ok he]
    show (match (beamM m G P)[m.length]? with
      | some (.lst _) => Res.ok (nxL m.length) (beamM m G P)
      | _ => .bad) = _
    rw [beamM_loc]; rfl
  have := pLc_run (own := [3]) (t := .nm 3) (pt := pC (.bl true)) (pe := pSm gJoin (pC (.str "")) [(pVar 3)]) (xs := (List.range G.length).map fun i => D.loc (m.length + 1 + i)) (fun i => beamM m G P ++ [rowsC (G.take i)]) hs (by simp [rowsC]) (by
    rw [List.length_map, List.length_range, R.1]
    unfold bigN; omega) (fun i => by
      unfold nxL
      rw [get_app (beamM_loc m G P)]; rfl) (fun i x hx => by
    rw [List.getElem?_map, Option.map_eq_some_iff] at hx
    obtain ⟨z, hz, rfl⟩ := hx
    have hi : i < G.length := by
      have := (List.getElem?_eq_some_iff.mp hz).1
      rwa [List.length_range] at this
    rw [List.getElem?_range hi] at hz
    cases hz
    have hg : G[i]? = some G[i] := List.getElem?_eq_getElem hi
    have hl : (G[i]).length = w := R.2 _ (List.getElem_mem hi)
    refine ⟨(wipeD ε [3]).set 3 (some (.loc (m.length + 1 + i))), .str (strOf G[i]), beamM m G P ++ [rowsC (G.take i)], (G.take i).map fun l => D.str (strOf l), rfl, rfl, ?_, ?_, ?_, ?_⟩
    · refine (sm_ok (s := "") rfl (ev_cons (v_ok (d := .loc (m.length + 1 + i)) ?_) ev_nil)).trans (joinRow_ok (get_app (beamM_row m G P hg)) (by rw [hl]; unfold lim; omega))
      rw [List.getElem?_set_self (by simp [wipeD]; exact h3)]
    · rw [List.getElem?_append_right (Nat.le_refl _), Nat.sub_self]; rfl
    · rw [List.length_map, List.length_take]; have := R.1; unfold lim; omega
    · rw [List.set_append_right _ _ (Nat.le_refl _), Nat.sub_self, take_succ_of hg]
      show beamM m G P ++ [Cell.lst ((G.take i).map (fun l => D.str (strOf l)) ++ [D.str (strOf G[i])])] = beamM m G P ++ [Cell.lst ((G.take i ++ [G[i]]).map fun l => D.str (strOf l))]
      rw [List.map_append]; rfl)
  refine this.trans ?_
  show Res.ok _ (beamM m G P ++ [rowsC (G.take ((List.range G.length).map fun i => D.loc (m.length + 1 + i)).length)]) = _
  rw [List.length_map, List.length_range, List.take_length]
end MT

/-! MT37: turned grids stay valid. -/
namespace MT
open PySem L2
/-- a valid grid -/
structure VG (G : List (List Nat)) (h w : Nat) : Prop where
  R : Rect G h w
  sg : ∀ l ∈ G, ∀ c ∈ l, isSignC c = true
  ct : (G.map cntT).sum ≤ 10
theorem cnt_set : ∀ {l : List Nat} {j c : Nat}, l[j]? = some c → cntT (l.set j (flipC c)) = cntT l
  | c :: l, 0, _, rfl => by
    show cntT (flipC c :: l) = cntT (c :: l)
    unfold cntT
    by_cases h : isTurnC c = true
    · rw [List.filter_cons_of_pos h, List.filter_cons_of_pos ((flip_turn c).trans h)]; rfl
    · rw [List.filter_cons_of_neg h, List.filter_cons_of_neg (fun z => h ((flip_turn c).symm.trans z))]
  | d :: l, j + 1, c, h => by
    have ih := cnt_set (l := l) (j := j) (c := c) h
    show cntT (d :: l.set j (flipC c)) = cntT (d :: l)
    have e : ∀ x : List Nat, cntT (d :: x) = cntT [d] + cntT x := fun x => cntT_app [d] x
    exact (e _).trans ((congrArg (cntT [d] + ·) ih).trans (e l).symm)
theorem map_set_same {α β : Type} {f : α → β} : ∀ {G : List α} {i : Nat} {l l' : α}, G[i]? = some l → f l' = f l → (G.set i l').map f = G.map f
  | _ :: _, 0, _, _, rfl, e => by simp [e]
  | x :: G, i + 1, l, l', h, e => by
    show f x :: (G.set i l').map f = f x :: G.map f
    rw [map_set_same (G := G) h e]
theorem VG.step {s : Bl} {h w : Nat} (v : VG s.G h w) (hi : s.Ins h w) : VG s.step.G h w := by
  obtain ⟨l, e1, e2⟩ := v.R.get hi.1 hi.2.1 hi.2.2.1 hi.2.2.2
  refine ⟨v.R.set _ _ _, ?_, ?_⟩
  · show ∀ k ∈ setL s.G s.r.toNat s.c.toNat (flipC (cellAt s.G s.r s.c)), _
    unfold setL; rw [e1]
    intro k hk c hc
    rcases List.mem_or_eq_of_mem_set hk with hk | rfl
    · exact v.sg k hk c hc
    · rcases List.mem_or_eq_of_mem_set hc with hc | rfl
      · exact v.sg l (List.mem_of_getElem? e1) c hc
      · exact flip_sign (v.sg l (List.mem_of_getElem? e1) _ (List.mem_of_getElem? e2))
  · show ((setL s.G s.r.toNat s.c.toNat (flipC (cellAt s.G s.r s.c))).map cntT).sum ≤ 10
    unfold setL; rw [e1]
    show ((s.G.set s.r.toNat (l.set s.c.toNat (flipC (cellAt s.G s.r s.c)))).map cntT).sum ≤ 10
    rw [map_set_same e1 (cnt_set e2)]
    exact v.ct
theorem VG.it {h w : Nat} : ∀ (k : Nat) {s : Bl}, VG s.G h w → (∀ i, i < k → (Bl.it i s).Ins h w) → VG (Bl.it k s).G h w
  | 0, _, v, _ => v
  | k + 1, s, v, hi => VG.it k (v.step (hi 0 (by omega))) (fun i q => hi (i + 1) (by omega))
theorem VG.room {ls : List Str} (hv : Valid ls) : VG (gridL ls) (heightS ls) (widthS ls) := by
  refine ⟨rect_room hv, fun l hl c hc => ?_, ?_⟩
  · obtain ⟨z, hz, rfl⟩ := List.mem_map.mp hl
    exact (hv.2.2.2.2.1 z hz).2 c hc
  · have := hv.2.2.2.2.2
    unfold turnCount at this
    unfold gridL
    rw [List.map_map]
    exact this
def roomOf (G : List (List Nat)) : List Str := G.map strOf
theorem room_grid (ls : List Str) : roomOf (gridL ls) = ls := by
  unfold roomOf gridL
  rw [List.map_map]
  conv => rhs; rw [← List.map_id ls]
  exact List.map_congr_left fun z _ => strOf_cps z
theorem grid_room (G : List (List Nat)) : gridL (roomOf G) = G := by
  unfold roomOf gridL
  rw [List.map_map]
  conv => rhs; rw [← List.map_id G]
  exact List.map_congr_left fun z _ => by simp [strOf]
theorem VG.valid {G : List (List Nat)} {h w : Nat} (v : VG G h w) (h1 : 1 ≤ h) (h8 : h ≤ 8) (w1 : 1 ≤ w) (w8 : w ≤ 8) : Valid (roomOf G) ∧ heightS (roomOf G) = h ∧ widthS (roomOf G) = w := by
  have e1 : (roomOf G).length = h := by unfold roomOf; rw [List.length_map]; exact v.R.1
  have e2 : widthS (roomOf G) = w := by
    cases G with
    | nil => have := v.R.1; simp at this; omega
    | cons l G => exact v.R.2 l List.mem_cons_self
  refine ⟨⟨by omega, by omega, by omega, by omega, fun l hl => ?_, ?_⟩, e1, e2⟩
  · obtain ⟨z, hz, rfl⟩ := List.mem_map.mp hl
    rw [e2]
    exact ⟨v.R.2 z hz, fun c hc => v.sg z hz c (by simpa [strOf] using hc)⟩
  · have := v.ct
    unfold turnCount roomOf
    rw [List.map_map]
    have e : (G.map ((fun l : Str => (l.cps.toList.filter isTurnC).length) ∘ strOf)) = G.map cntT := List.map_congr_left fun z _ => by simp [strOf, cntT]
    rw [e]
    exact this
end MT

/-! EV: the little language reckoned by simp: one equation a combinator. -/
namespace MT
open PySem L2
section
variable {α β : Type} {a : α} {m m1 : Store} {ε : EnvD} {d x y z u : D} {p q : Pg} {f : Fn} {n i j k : Nat} {c c1 c2 : Cell}
/-! ### results -/
theorem Res.bind_ok {f : α → Store → Res β} : (Res.ok a m).bind f = f a m := rfl
theorem Res.bind_bad {f : α → Store → Res β} : (Res.bad : Res α).bind f = .bad := rfl
theorem Res.bind_exc {f : α → Store → Res β} {e : Exn} : (Res.exc e m : Res α).bind f = .exc e m := rfl
theorem Res.toS_ok {f : α → Store → ResS} : (Res.ok a m).toS ε f = f a m := rfl
theorem Res.toS_bad {f : α → Store → ResS} : (Res.bad : Res α).toS ε f = .bad := rfl
theorem Res.toS_exc {f : α → Store → ResS} {e : Exn} : (Res.exc e m : Res α).toS ε f = .exc e ε m := rfl
theorem ResS.bind_nxt {f : EnvD → Store → ResS} : (ResS.nxt ε m).bind f = f ε m := rfl
theorem ResS.bind_ret {f : EnvD → Store → ResS} : (ResS.ret d m).bind f = .ret d m := rfl
theorem ResS.bind_bad {f : EnvD → Store → ResS} : (ResS.bad).bind f = .bad := rfl
theorem ResS.bind_exc {f : EnvD → Store → ResS} {e : Exn} : (ResS.exc e ε m).bind f = .exc e ε m := rfl
theorem bind_ite {c : Prop} [Decidable c] {f : α → Store → Res β} {x y : Res α} : (if c then x else y).bind f = if c then x.bind f else y.bind f := by split <;> rfl
theorem toS_ite {c : Prop} [Decidable c] {f : α → Store → ResS} {x y : Res α} : (if c then x else y).toS ε f = if c then x.toS ε f else y.toS ε f := by split <;> rfl
theorem bindS_ite {c : Prop} [Decidable c] {f : EnvD → Store → ResS} {x y : ResS} : (if c then x else y).bind f = if c then x.bind f else y.bind f := by split <;> rfl
def selB {γ : Type} (d : D) (x y z : γ) : γ := match d with | .bl true => x | .bl false => y | _ => z
theorem selB_bl {γ : Type} {b : Bool} {x y z : γ} : selB (.bl b) x y z = if b = true then x else y := by cases b <;> rfl
def runK (r : ResS) : Res D := match r with
  | .nxt _ m => .ok .non m
  | .ret d m => .ok d m
  | .exc x _ m => .exc x m
  | .bad => .bad
theorem runK_ite {c : Prop} [Decidable c] {x y : ResS} : runK (if c then x else y) = if c then runK x else runK y := by split <;> rfl
theorem runK_nxt : runK (.nxt ε m) = .ok .non m := rfl
theorem runK_ret : runK (.ret d m) = .ok d m := rfl
theorem runK_bad : runK .bad = .bad := rfl
theorem runK_exc {e : Exn} : runK (.exc e ε m) = .exc e m := rfl
theorem runD_e {n N : Nat} {p : PgS} {ds : List D} (h : ds.length = n) : runD n N p ds m = runK (p (ds.map some ++ List.replicate (N - n) none) m) := by unfold runD runK; rw [if_pos h]; first | done | (cases p (ds.map some ++ List.replicate (N - n) none) m <;> rfl)
variable {N : Nat} {ps : PgS} {a1 a2 a3 a4 : D}
theorem runD_0 : runD 0 N ps [] m = runK (ps ([] ++ List.replicate (N - 0) none) m) := runD_e rfl
theorem runD_1 : runD 1 N ps [a1] m = runK (ps ([some a1] ++ List.replicate (N - 1) none) m) := runD_e rfl
theorem runD_2 : runD 2 N ps [a1, a2] m = runK (ps ([some a1, some a2] ++ List.replicate (N - 2) none) m) := runD_e rfl
theorem runD_3 : runD 3 N ps [a1, a2, a3] m = runK (ps ([some a1, some a2, some a3] ++ List.replicate (N - 3) none) m) := runD_e rfl
theorem runD_4 : runD 4 N ps [a1, a2, a3, a4] m = runK (ps ([some a1, some a2, some a3, some a4] ++ List.replicate (N - 4) none) m) := runD_e rfl
theorem runV_0 {ds : List D} (h : ds.length ≤ lim) : runV 0 N ps ds m = runD 1 N ps [.tup ds] m := by
  unfold runV; rw [if_pos ⟨Nat.zero_le _, by omega⟩]; rfl
theorem runV_1 {ds : List D} (h : ds.length ≤ lim) : runV 1 N ps (a1 :: ds) m = runD 2 N ps [a1, .tup ds] m := by
  unfold runV; rw [if_pos ⟨by simp, by simp; omega⟩]; rfl
/-! ### names, calls -/
def varK (o : Option (Option D)) (m : Store) : Res D := match o with | some (some d) => .ok d m | _ => .bad
theorem varK_s : varK (some (some d)) m = .ok d m := rfl
theorem pVar_v {i : Nat} : pVar i ε m = varK (ε[i]?) m := rfl
theorem pC_e : pC d ε m = .ok d m := rfl
theorem p1_e {f : Fn} {pa : Pg} : p1 f pa ε m = (pa ε m).bind fun x m1 => f [x] m1 := rfl
theorem p2_e {f : Fn} {pa pb : Pg} : p2 f pa pb ε m = (pa ε m).bind fun x m1 => (pb ε m1).bind fun y m2 => f [x, y] m2 := rfl
theorem pF_e {f : Fn} {ps : List Pg} : pF f ps ε m = (evL ps ε m).bind f := rfl
theorem evL_nil : evL [] ε m = .ok [] m := rfl
theorem evL_cons {p : Pg} {ps : List Pg} : evL (p :: ps) ε m = (p ε m).bind fun d m1 => (evL ps ε m1).bind fun ds m2 => .ok (d :: ds) m2 := rfl
theorem pIf_e {pc pa pb : Pg} : pIf pc pa pb ε m = (pc ε m).bind fun x m1 => selB x (pa ε m1) (pb ε m1) .bad := by unfold pIf; rfl
theorem pAnd_e {pa pb : Pg} : pAnd pa pb ε m = (pa ε m).bind fun x m1 => selB x (pb ε m1) (.ok (.bl false) m1) .bad := by unfold pAnd; rfl
theorem pOr_e {pa pb : Pg} : pOr pa pb ε m = (pa ε m).bind fun x m1 => selB x (.ok (.bl true) m1) (pb ε m1) .bad := by unfold pOr; rfl
theorem pChain_e {f f' : Fn} {pa pb pc : Pg} : pChain f f' pa pb pc ε m = (pa ε m).bind fun x m1 => (pb ε m1).bind fun y m2 => (f [x, y] m2).bind fun z m3 => selB z ((pc ε m3).bind fun u m4 => f' [y, u] m4) (.ok (.bl false) m3) .bad := by unfold pChain; rfl
def rmK (f : List D → Store → Res D) (d : D) (r : Res (List D)) : Res D := match d with
  | .room ls => r.bind fun ds m2 => f (.room ls :: ds) m2
  | _ => .bad
theorem pRm_e {f : Fn} {po : Pg} {ps : List Pg} : pRm f po ps ε m = (po ε m).bind fun d m1 => rmK f d (evL ps ε m1) := by unfold pRm; rfl
theorem rmK_room {f : List D → Store → Res D} {ls : List Str} {r : Res (List D)} : rmK f (.room ls) r = r.bind fun ds m2 => f (.room ls :: ds) m2 := rfl
def smK (f : List D → Store → Res D) (d : D) (r : Res (List D)) : Res D := match d with
  | .str z => r.bind fun ds m2 => f (.str z :: ds) m2
  | _ => .bad
theorem pSm_e {po : Pg} {ps : List Pg} : pSm f po ps ε m = (po ε m).bind fun d m1 => smK f d (evL ps ε m1) := by unfold pSm; rfl
theorem smK_s {s : Str} {r : Res (List D)} : smK f (.str s) r = r.bind fun ds m2 => f (.str s :: ds) m2 := rfl
def lmK2 (f : List D → Store → Res D) (n : Nat) (o : Option Cell) (r : Res (List D)) : Res D := match o with
  | some (.lst _) => r.bind fun ds m2 => f (.loc n :: ds) m2
  | _ => .bad
def lmK (f : List D → Store → Res D) (d : D) (m : Store) (r : Res (List D)) : Res D := match d with
  | .loc n => lmK2 f n m[n]? r
  | _ => .bad
theorem pLm_e {po : Pg} {ps : List Pg} : pLm f po ps ε m = (po ε m).bind fun d m1 => lmK f d m1 (evL ps ε m1) := by unfold pLm; rfl
theorem lmK_e {r : Res (List D)} : lmK f (.loc n) m r = lmK2 f n m[n]? r := rfl
theorem lmK2_e {r : Res (List D)} {xs : List D} : lmK2 f n (some (.lst xs)) r = r.bind fun ds m2 => f (.loc n :: ds) m2 := rfl
theorem pFL_e {pl : PgL} : pFL f pl ε m = (pl ε m).bind f := rfl
theorem plNil_e : plNil ε m = .ok [] m := rfl
theorem plCons_e {pl : PgL} : plCons p pl ε m = (p ε m).bind fun d m1 => (pl ε m1).bind fun ds m2 => .ok (d :: ds) m2 := rfl
def plK (d : D) (m : Store) (r : Res (List D)) : Res (List D) := match itsD m d with
  | some xs => r.bind fun ds m2 => .ok (xs ++ ds) m2
  | none => .bad
theorem plStar_e {pl : PgL} : plStar p pl ε m = (p ε m).bind fun d m1 => plK d m1 (pl ε m1) := by
  unfold plStar; congr 1; funext d m1
  cases d with
  | loc n =>
    unfold plK itsD lsD
    dsimp only
    generalize m1[n]? = o
    cases o with
    | none => rfl
    | some c => cases c <;> rfl
  | _ => rfl
theorem plK_tup {xs : List D} {r : Res (List D)} : plK (.tup xs) m r = r.bind fun ds m2 => .ok (xs ++ ds) m2 := rfl
theorem plK_fl {xs : List D} {r : Res (List D)} : plK (.fl xs) m r = r.bind fun ds m2 => .ok (xs ++ ds) m2 := rfl
theorem pMk_e : pMk p ε m = (p ε m).bind (pItems mkRoom) := rfl
theorem pItems_tup {k : List D → Store → Res D} {xs : List D} : pItems k (.tup xs) m = k xs m := rfl
theorem pItems_fl {k : List D → Store → Res D} {xs : List D} : pItems k (.fl xs) m = k xs m := rfl
theorem strsOf_map' : ∀ (zs : List Str), strsOf (zs.map D.str) = some zs
  | [] => rfl
  | z :: zs => by simp [strsOf, strsOf_map' zs]
theorem mkRoom_v {ls : List Str} (h : Valid ls) : mkRoom (ls.map .str) m = .ok (.room ls) m := by
  unfold mkRoom; rw [strsOf_map']; exact if_pos h
def mkVK (o : Option (Option D)) (CR : Addr) (r : Res D) : Res D := match o with
  | some (some (.adr a)) => if a = CR then r else .bad
  | _ => .bad
theorem pMkV_e {CR : Addr} : pMkV i CR p ε m = mkVK ε[i]? CR (pMk p ε m) := by unfold pMkV mkVK; rfl
theorem mkVK_e {CR : Addr} {r : Res D} : mkVK (some (some (.adr CR))) CR r = r := if_pos rfl
theorem pCm_e {CR : Addr} {ps : List Pg} : pCm f CR ps ε m = (evL ps ε m).bind fun ds m' => f (.adr CR :: ds) m' := rfl
/-! ### statements -/
theorem sSeq_e {p q : PgS} : sSeq p q ε m = (p ε m).bind q := rfl
theorem sSet_e {i : Nat} {p : Pg} : sSet i p ε m = (p ε m).toS ε fun d m' => .nxt (ε.set i (some d)) m' := rfl
theorem sRet_e {p : Pg} : sRet p ε m = (p ε m).toS ε fun d m' => .ret d m' := rfl
theorem sExpr_e {p : Pg} : sExpr p ε m = (p ε m).toS ε fun _ m' => .nxt ε m' := rfl
theorem sNil_e : sNil ε m = .nxt ε m := rfl
theorem sBad_e : sBad ε m = .bad := rfl
theorem sIf_e {pc : Pg} {p q : PgS} : sIf pc p q ε m = (pc ε m).toS ε fun x m1 => selB x (p ε m1) (q ε m1) .bad := by unfold sIf; rfl
def optN (o : Option EnvD) (m : Store) : ResS := match o with | some ε => .nxt ε m | none => .bad
theorem optN_some : optN (some ε) m = .nxt ε m := rfl
theorem sAsgT_e {t : Tgt} {p : Pg} : sAsgT t p ε m = (p ε m).toS ε fun d m' => optN (bindT t d ε) m' := rfl
theorem bindT_nm {i : Nat} : bindT (.nm i) d ε = some (ε.set i (some d)) := rfl
theorem bindT_2 {i j : Nat} {x y : D} : bindT (.tp [i, j]) (.tup [x, y]) ε = some ((ε.set i (some x)).set j (some y)) := rfl
theorem bindT_3 {i j k : Nat} {x y z : D} : bindT (.tp [i, j, k]) (.tup [x, y, z]) ε = some (((ε.set i (some x)).set j (some y)).set k (some z)) := rfl
theorem bindT_4 {i j k l : Nat} {x y z u : D} : bindT (.tp [i, j, k, l]) (.tup [x, y, z, u]) ε = some ((((ε.set i (some x)).set j (some y)).set k (some z)).set l (some u)) := rfl
def parK2 (i j : Nat) (ε : EnvD) (ds : List D) (m : Store) : ResS := match ds with
  | [d, e] => .nxt ((ε.set i (some d)).set j (some e)) m
  | _ => .bad
theorem sPar_e {ps : List Pg} : sPar i j ps ε m = (evL ps ε m).toS ε (parK2 i j ε) := by unfold sPar parK2; rfl
theorem parK2_e : parK2 i j ε [x, y] m = .nxt ((ε.set i (some x)).set j (some y)) m := rfl
def parK3 (i j k : Nat) (ε : EnvD) (ds : List D) (m : Store) : ResS := match ds with
  | [d, e, f] => .nxt (((ε.set i (some d)).set j (some e)).set k (some f)) m
  | _ => .bad
theorem sPar3_e {ps : List Pg} : sPar3 i j k ps ε m = (evL ps ε m).toS ε (parK3 i j k ε) := by unfold sPar3 parK3; rfl
theorem parK3_e : parK3 i j k ε [x, y, z] m = .nxt (((ε.set i (some x)).set j (some y)).set k (some z)) m := rfl
def optM (o : Option Store) (ε : EnvD) : ResS := match o with | some m => .nxt ε m | none => .bad
theorem optM_some : optM (some m) ε = .nxt ε m := rfl
theorem sSub_e {po pi pe : Pg} : sSub po pi pe ε m = (pe ε m).toS ε fun d m1 => (po ε m1).toS ε fun o m2 => (pi ε m2).toS ε fun i m3 => optM (gSetL o i d m3) ε := by unfold sSub optM; rfl
def setLK (o : Option Cell) (m : Store) (n : Nat) (i : Int) (d : D) : Option Store := match o with
  | some (.lst xs) => (ixN xs.length i).map fun j => m.set n (.lst (xs.set j d))
  | _ => none
theorem gSetL_e {i : Int} : gSetL (.loc n) (.int i) d m = setLK m[n]? m n i d := by unfold gSetL setLK; rfl
theorem setLK_e {i : Int} {xs : List D} : setLK (some (.lst xs)) m n i d = (ixN xs.length i).map fun j => m.set n (.lst (xs.set j d)) := rfl
def augK (o : Option (Option D)) (i : Nat) (f : Int → Int → Int) (ε : EnvD) (r : Res D) : ResS := match o with
  | some (some (.int a)) => r.toS ε fun d m' => match d with
    | .int b => .nxt (ε.set i (some (.int (f a b)))) m'
    | _ => .bad
  | _ => .bad
theorem sAug_e {g : Int → Int → Int} : sAug i g p ε m = augK ε[i]? i g ε (p ε m) := by unfold sAug augK; rfl
theorem augK_e {g : Int → Int → Int} {s t : Int} : augK (some (some (.int s))) i g ε (.ok (.int t) m) = .nxt (ε.set i (some (.int (g s t)))) m := rfl
/-! ### operators -/
theorem gSub_e {i j : Int} : gSub [.int i, .int j] m = .ok (.int (i - j)) m := rfl
theorem gAdd_i {i j : Int} : gAdd [.int i, .int j] m = .ok (.int (i + j)) m := rfl
theorem gAdd_s {i j : Str} (h : i.length + j.length ≤ lim) : gAdd [.str i, .str j] m = .ok (.str (i ++ j)) m := if_pos h
theorem gAdd_t {i j : List D} (h : i.length + j.length ≤ lim) : gAdd [.tup i, .tup j] m = .ok (.tup (i ++ j)) m := if_pos h
theorem gAdd_ff {i j : List D} (h : i.length + j.length ≤ lim) : gAdd [.fl i, .fl j] m = .ok (.loc m.length) (m ++ [.lst (i ++ j)]) := by
  show (if i.length + j.length ≤ lim then _ else _) = _
  exact if_pos h
theorem gMul_l {i j : Int} (h : -(2 ^ 64) < i ∧ i < 2 ^ 64) : gMul [.int i, .int j] m = .ok (.int (i * j)) m := if_pos (.inl h)
theorem gMul_r {i j : Int} (h : -(2 ^ 64) < j ∧ j < 2 ^ 64) : gMul [.int i, .int j] m = .ok (.int (i * j)) m := if_pos (.inr h)
theorem gMod_e {i j : Int} (h : 0 < j) : gMod [.int i, .int j] m = .ok (.int (i % j)) m := if_pos h
theorem gFdiv_e {i j : Int} (h : 0 < j) (h' : j < 1073741824) : gFdiv [.int i, .int j] m = .ok (.int (i / j)) m := if_pos ⟨h, h'⟩
theorem gCmp_e {i j : Int} {p : Int → Int → Bool} : gCmp p [.int i, .int j] m = .ok (.bl (p i j)) m := rfl
theorem gTup_0 : gTup [] m = .ok (.tup []) m := rfl
theorem gTup_1 : gTup [x] m = .ok (.tup [x]) m := rfl
theorem gTup_2 : gTup [x, y] m = .ok (.tup [x, y]) m := rfl
theorem gTup_3 : gTup [x, y, z] m = .ok (.tup [x, y, z]) m := rfl
theorem gTup_4 : gTup [x, y, z, u] m = .ok (.tup [x, y, z, u]) m := rfl
theorem gList_e {ds : List D} (h : ds.length ≤ lim) : gList ds m = .ok (.loc m.length) (m ++ [.lst ds]) := if_pos h
theorem gList_0 : gList [] m = .ok (.loc m.length) (m ++ [.lst []]) := rfl
theorem gList_1 : gList [x] m = .ok (.loc m.length) (m ++ [.lst [x]]) := rfl
theorem gList_2 : gList [x, y] m = .ok (.loc m.length) (m ++ [.lst [x, y]]) := rfl
theorem gList_3 : gList [x, y, z] m = .ok (.loc m.length) (m ++ [.lst [x, y, z]]) := rfl
theorem gNot_e {b : Bool} : gNot [.bl b] m = .ok (.bl !b) m := rfl
theorem gLines_e {ls : List Str} : gLines [.room ls] m = .ok (.tup (ls.map .str)) m := rfl
theorem gPorts_e {ls : List Str} : gPorts [.room ls] m = .ok (.int (nPorts ls)) m := rfl
theorem gEqS_i {b : Bool} {i j : Int} : gEqS b [.int i, .int j] m = .ok (.bl (if b = true then !decide (i = j) else decide (i = j))) m := by
  cases b <;> rfl
def ixK (o : Option Cell) (i : Int) (m : Store) : Res D := match o with
  | some (.lst xs) => optR (atI xs i) m
  | _ => .bad
theorem gIx_l {i : Int} : gIx [.loc n, .int i] m = ixK m[n]? i m := by unfold gIx ixK; rfl
theorem ixK_e {i : Int} {xs : List D} : ixK (some (.lst xs)) i m = optR (atI xs i) m := rfl
theorem gIx_t {i : Int} {xs : List D} : gIx [.tup xs, .int i] m = optR (atI xs i) m := rfl
theorem gIx_f {i : Int} {xs : List D} : gIx [.fl xs, .int i] m = optR (atI xs i) m := rfl
theorem optR_s : optR (some d) m = .ok d m := rfl
theorem atI_0 {xs : List D} : atI (x :: xs) 0 = some x := by simp [atI, ixN]
theorem atI_n {xs : List D} {n : Nat} : atI xs (n : Int) = xs[n]? := by
  unfold atI ixN
  by_cases h : n < xs.length
  · rw [if_pos (by omega), if_pos (by omega)]; simp
  · rw [if_pos (by omega), if_neg (by omega)]
    exact (List.getElem?_eq_none (by omega)).symm
def lenK (o : Option Cell) (m : Store) : Res D := match o with
  | some (.lst xs) => .ok (.int (xs.length : Nat)) m
  | _ => .bad
theorem gLen_l : gLen [.loc n] m = lenK m[n]? m := by unfold gLen lenK; rfl
theorem lenK_e {xs : List D} : lenK (some (.lst xs)) m = .ok (.int (xs.length : Nat)) m := rfl
theorem gLen_t {xs : List D} : gLen [.tup xs] m = .ok (.int (xs.length : Nat)) m := rfl
theorem gLen_f {xs : List D} : gLen [.fl xs] m = .ok (.int (xs.length : Nat)) m := rfl
def apK (o : Option Cell) (n : Nat) (d : D) (m : Store) : Res D := match o with
  | some (.lst xs) => if xs.length ≤ lim then .ok .non (m.set n (.lst (xs ++ [d]))) else .bad
  | _ => .bad
theorem gAppend_e : gAppend [.loc n, d] m = apK m[n]? n d m := by unfold gAppend apK; rfl
theorem apK_e {xs : List D} (h : xs.length ≤ lim) : apK (some (.lst xs)) n d m = .ok .non (m.set n (.lst (xs ++ [d]))) := if_pos h
theorem gRev_f {xs : List D} : gRev [.fl xs] m = .ok (.loc m.length) (m ++ [.lst xs.reverse]) := rfl
theorem gRevT_e {xs : List D} : gRevT [.tup xs] m = .ok (.tup xs.reverse) m := rfl
theorem gRgL_e {n : Int} (h : -(2 ^ 62) ≤ n ∧ n < 2 ^ 62 ∧ n.toNat ≤ lim) : gRgL [.int n] m = .ok (.loc m.length) (m ++ [.lst (rngD 0 n.toNat)]) := if_pos h
theorem gTupOf_f {xs : List D} : gTupOf [.fl xs] m = .ok (.tup xs) m := rfl
theorem gTupOf_t {xs : List D} : gTupOf [.tup xs] m = .ok (.tup xs) m := rfl
theorem gListOf_f {xs : List D} : gListOf [.fl xs] m = .ok (.loc m.length) (m ++ [.lst xs]) := rfl
theorem gListOf_t {xs : List D} : gListOf [.tup xs] m = .ok (.loc m.length) (m ++ [.lst xs]) := rfl
/-! ### the store -/
theorem get_last : (m ++ [c])[m.length]? = some c := by simp
theorem set_last : (m ++ [c]).set m.length c1 = m ++ [c1] := by simp
theorem get_2a : (m ++ [c, c1])[m.length]? = some c := by simp
theorem get_2b : (m ++ [c, c1])[m.length + 1]? = some c1 := by simp
theorem set_2a : (m ++ [c, c1]).set m.length c2 = m ++ [c2, c1] := by simp
theorem set_2b : (m ++ [c, c1]).set (m.length + 1) c2 = m ++ [c, c2] := by
  rw [List.set_append_right _ _ (by omega), Nat.add_sub_cancel_left]; rfl
theorem len_1 : (m ++ [c]).length = m.length + 1 := by simp
theorem len_2 : (m ++ [c, c1]).length = m.length + 2 := by simp
theorem app_1 : (m ++ [c]) ++ [c1] = m ++ [c, c1] := by simp
/-! ### places -/
theorem ltDs_all {n : Nat} : ∀ {xs : List D}, ltDs n xs = xs.all (ltD n)
  | [] => rfl
  | d :: ds => by rw [ltDs, List.all_cons, ltDs_all]
mutual
theorem ltD_0 : ∀ (n : Nat) (d : D), ltD 0 d = true → ltD n d = true
  | n, .loc k, h => by simp [ltD] at h
  | n, .tup xs, h => ltDs_0 n xs h
  | n, .fl xs, h => ltDs_0 n xs h
  | n, .kl xs, h => ltDs_0 n xs h
  | _, .non, _ => rfl
  | _, .bl _, _ => rfl
  | _, .int _, _ => rfl
  | _, .str _, _ => rfl
  | _, .room _, _ => rfl
  | _, .adr _, _ => rfl
theorem ltDs_0 : ∀ (n : Nat) (ds : List D), ltDs 0 ds = true → ltDs n ds = true
  | _, [], _ => rfl
  | n, d :: ds, h => Bool.and_eq_true_iff.mpr ⟨ltD_0 n d (Bool.and_eq_true_iff.mp h).1, ltDs_0 n ds (Bool.and_eq_true_iff.mp h).2⟩
end
theorem ltDs_map {γ : Type} {g : γ → D} {xs : List γ} (h : ∀ x ∈ xs, ltD n (g x) = true) : ltDs n (xs.map g) = true := by
  rw [ltDs_all, List.all_eq_true]
  intro d hd
  obtain ⟨x, hx, rfl⟩ := List.mem_map.mp hd
  exact h x hx
theorem ltDs_int {xs : List Int} : ltDs n (xs.map D.int) = true := ltDs_map fun _ _ => rfl
theorem ltDs_str {xs : List Str} : ltDs n (xs.map D.str) = true := ltDs_map fun _ _ => rfl
theorem ltDs_app {xs ys : List D} : ltDs n (xs ++ ys) = (ltDs n xs && ltDs n ys) := by rw [ltDs_all, ltDs_all, ltDs_all, List.all_append]
theorem ltDs_rev {xs : List D} : ltDs n xs.reverse = ltDs n xs := by rw [ltDs_all, ltDs_all, List.all_reverse]
/-! ### frozen -/
theorem pFz_e : pFz p ε m = fzK m (p ε m) := rfl
theorem fzF_e {ds : List D} : fzF f ds m = fzK m (f ds m) := rfl
theorem fzK_exc {e : Exn} : fzK m (.exc e m1) = .exc e m1 := rfl
theorem fzK_bad : fzK m .bad = .bad := rfl
theorem fzK_ite {c : Prop} [Decidable c] {x y : Res D} : fzK m (if c then x else y) = if c then fzK m x else fzK m y := by split <;> rfl
theorem old_app {l : Store} : OldOk m (m ++ l) := ⟨by simp, fun i c hi h => .inl (by rw [List.getElem?_append_left hi] at h; exact h)⟩
theorem fzK_app {l : Store} {d' : D} (h : frzD (m ++ l) m.length 6 d = some d') : fzK m (.ok d (m ++ l)) = .ok d' m := by
  unfold fzK
  simp only [h]
  rw [if_pos old_app, List.take_append_of_le_length (Nat.le_refl _), List.take_length]
theorem fzK_loc {xs : List D} (h : ltDs m.length xs = true) : fzK m (.ok (.loc m.length) (m ++ [.lst xs])) = .ok (.fl xs) m := by
  refine fzK_app ?_
  have h1 : ltD m.length (.loc m.length) = false := by simp [ltD]
  have h2 : ∀ ys : List D, ltDs m.length ys = true → frzL (frzD (m ++ [.lst xs]) m.length 5) ys = some ys := by
    intro ys
    induction ys with
    | nil => intro _; rfl
    | cons y ys ih =>
      intro hy
      obtain ⟨a, b⟩ := Bool.and_eq_true_iff.mp hy
      unfold frzL
      rw [show frzD (m ++ [.lst xs]) m.length 5 y = some y by unfold frzD; rw [if_pos a], ih b]
  unfold frzD
  simp only [h1, get_last, h2 xs h]
  rfl
theorem fzK_pure (h : ltD m.length d = true) : fzK m (.ok d m) = .ok d m := by
  have := fzK_app (m := m) (l := []) (d := d) (d' := d) (by unfold frzD; rw [if_pos h])
  rw [List.append_nil] at this; exact this
/-- the places of one more round -/
theorem frz_step {k : Nat} (h : ltD n d = true) : frzD m n k d = some d := by
  cases k <;> (unfold frzD; rw [if_pos h])
theorem frzL_pure {k : Nat} : ∀ {xs : List D}, ltDs n xs = true → frzL (frzD m n k) xs = some xs
  | [], _ => rfl
  | x :: xs, h => by
    obtain ⟨a, b⟩ := Bool.and_eq_true_iff.mp h
    unfold frzL
    rw [frz_step a, frzL_pure b]
theorem frz_loc {k l : Nat} {xs : List D} (hl : n ≤ l) (hc : m[l]? = some (.lst xs)) (h : ltDs n xs = true) : frzD m n (k + 1) (.loc l) = some (.fl xs) := by
  unfold frzD
  rw [if_neg (by simp [ltD]; omega)]
  simp only [hc, frzL_pure h]; rfl
theorem frz_tup {k : Nat} {xs ys : List D} (h : ltDs n xs = false) (hx : frzL (frzD m n k) xs = some ys) : frzD m n (k + 1) (.tup xs) = some (.tup ys) := by
  unfold frzD
  rw [if_neg (by show ¬ ltDs n xs = true; rw [h]; simp)]
  simp only [hx]; rfl
theorem frzL_nil {g : D → Option D} : frzL g [] = some [] := rfl
theorem frzL_cons {g : D → Option D} {xs ys : List D} (h1 : g x = some y) (h2 : frzL g xs = some ys) : frzL g (x :: xs) = some (y :: ys) := by
  unfold frzL; rw [h1, h2]
/-! ### tests -/
theorem dec_t {p : Prop} [Decidable p] : (decide p = true) = p := by simp
theorem selB_t {γ : Type} {x y z : γ} : selB (.bl true) x y z = x := rfl
theorem selB_f {γ : Type} {x y z : γ} : selB (.bl false) x y z = y := rfl
/-! ### loops over what stays -/
theorem iSeq_f {xs : List D} (h : p ε m = .ok (.fl xs) m1) : iSeq p ε m = .ok (nxF xs) m1 := by unfold iSeq; rw [h]; rfl
theorem iSeq_k {xs : List D} (h : p ε m = .ok (.kl xs) m1) : iSeq p ε m = .ok (nxF xs) m1 := by unfold iSeq; rw [h]; rfl
theorem iTp_t {xs : List D} (h : p ε m = .ok (.tup xs) m1) : iTp p ε m = .ok (nxF xs) m1 := by unfold iTp; rw [h]; rfl
theorem iSt_s {s : Str} (h : p ε m = .ok (.str s) m1) : iSt p ε m = .ok (nxF (chars s)) m1 := by unfold iSt; rw [h]; rfl
theorem lim62 : ((lim : Nat) : Int) < 2 ^ 62 := by decide +kernel
theorem neg62 : (-(2 ^ 62) : Int) ≤ 0 := by decide +kernel
theorem iR1_g {j : Int} (h : p ε m = .ok (.int j) m1) (h1 : -(2 ^ 62) ≤ j) (h2 : j < 2 ^ 62) : iR1 p ε m = .ok (nxF (rngD 0 j.toNat)) m1 := by unfold iR1; rw [h]; exact if_pos ⟨h1, h2⟩
theorem iR1_n {n : Nat} (h : p ε m = .ok (.int n) m1) (hn : n ≤ lim) : iR1 p ε m = .ok (nxF (rngD 0 n)) m1 := by
  have h3 : (n : Int) ≤ (lim : Nat) := Int.ofNat_le.mpr hn
  have := iR1_g h (Int.le_trans neg62 (Int.natCast_nonneg n)) (Int.lt_of_le_of_lt h3 lim62)
  rwa [Int.toNat_natCast] at this
/-- a loop as a fold: St i, the state ahead of turn i -/
theorem forF_run {xs : List D} {t : Tgt} {pb : PgS} (St : Nat → EnvD × Store) (step : ∀ i x, xs[i]? = some x → ∃ ε1, bindT t x (St i).1 = some ε1 ∧ pb ε1 (St i).2 = .nxt (St (i + 1)).1 (St (i + 1)).2) :
    ∀ (k i n : Nat), xs.length - i = k → i ≤ xs.length → k < n → forN (nxF xs) t pb n i (St i).1 (St i).2 = .nxt (St xs.length).1 (St xs.length).2
  | 0, i, n + 1, hk, hi, _ => by
    have e : i = xs.length := by omega
    subst e
    simp [forN, nxF]
  | k + 1, i, n + 1, hk, hi, hn => by
    have hlt : i < xs.length := by omega
    have hx : xs[i]? = some xs[i] := List.getElem?_eq_getElem hlt
    obtain ⟨ε1, h1, h2⟩ := step i _ hx
    have e : nxF xs i (St i).2 = some (some xs[i]) := by unfold nxF; rw [hx]
    simp only [forN, e, h1, h2, ResS.bind]
    exact forF_run St step k (i + 1) n (by omega) hlt (by omega)
theorem sFor_run {pi : PgI} {xs : List D} {t : Tgt} {pb : PgS} (St : Nat → EnvD × Store) (hp : pi ε m = .ok (nxF xs) m1) (h0 : St 0 = (ε, m1)) (hl : xs.length ≤ lim) (step : ∀ i x, xs[i]? = some x → ∃ ε1, bindT t x (St i).1 = some ε1 ∧ pb ε1 (St i).2 = .nxt (St (i + 1)).1 (St (i + 1)).2) :
    sFor pi t pb ε m = .nxt (St xs.length).1 (St xs.length).2 := by
  unfold sFor
  rw [hp]
  have := forF_run St step xs.length 0 bigN rfl (Nat.zero_le _) (by unfold bigN; unfold lim at hl; omega)
  rw [h0] at this
  exact this
/-- .. where the state is told by a relation -/
theorem forF_rel {xs : List D} {t : Tgt} {pb : PgS} (R : Nat → EnvD → Store → Prop) (step : ∀ i x ε m, xs[i]? = some x → R i ε m → ∃ ε1 ε2 m2, bindT t x ε = some ε1 ∧ pb ε1 m = .nxt ε2 m2 ∧ R (i + 1) ε2 m2) :
    ∀ (k i n : Nat) (ε : EnvD) (m : Store), xs.length - i = k → i ≤ xs.length → k < n → R i ε m → ∃ ε2 m2, forN (nxF xs) t pb n i ε m = .nxt ε2 m2 ∧ R xs.length ε2 m2
  | 0, i, n + 1, ε, m, hk, hi, _, r => by
    have e : i = xs.length := by omega
    subst e
    exact ⟨ε, m, by simp [forN, nxF], r⟩
  | k + 1, i, n + 1, ε, m, hk, hi, hn, r => by
    have hlt : i < xs.length := by omega
    have hx : xs[i]? = some xs[i] := List.getElem?_eq_getElem hlt
    obtain ⟨ε1, ε2, m2, h1, h2, r2⟩ := step i _ ε m hx r
    have e : nxF xs i m = some (some xs[i]) := by unfold nxF; rw [hx]
    obtain ⟨ε3, m3, h3, r3⟩ := forF_rel R step k (i + 1) n ε2 m2 (by omega) hlt (by omega) r2
    refine ⟨ε3, m3, ?_, r3⟩
    simp only [forN, e, h1, h2, ResS.bind]
    exact h3
theorem sFor_rel {pi : PgI} {xs : List D} {t : Tgt} {pb : PgS} (R : Nat → EnvD → Store → Prop) (hp : pi ε m = .ok (nxF xs) m1) (h0 : R 0 ε m1) (hl : xs.length ≤ lim) (step : ∀ i x ε m, xs[i]? = some x → R i ε m → ∃ ε1 ε2 m2, bindT t x ε = some ε1 ∧ pb ε1 m = .nxt ε2 m2 ∧ R (i + 1) ε2 m2) :
    ∃ ε2 m2, sFor pi t pb ε m = .nxt ε2 m2 ∧ R xs.length ε2 m2 := by
  unfold sFor
  rw [hp]
  exact forF_rel R step xs.length 0 bigN ε m1 rfl (Nat.zero_le _) (by unfold bigN; unfold lim at hl; omega) h0
/-! ### comprehensions over what stays -/
theorem lc_go {γ : Type} {xs : List γ} {en : γ → D} {t : Tgt} {pt pe : Pg} {ε : EnvD} {m : Store} {c : γ → Bool} {g : γ → D}
    (step : ∀ (i : Nat) (x : γ), xs[i]? = some x → ∃ ε1, bindT t (en x) ε = some ε1 ∧ ∀ l, pt ε1 (m ++ l) = .ok (.bl (c x)) (m ++ l) ∧ (c x = true → pe ε1 (m ++ l) = .ok (g x) (m ++ l))) (hl : xs.length ≤ lim) :
    ∀ (k i n : Nat), xs.length - i = k → i ≤ xs.length → k < n → lcN (nxF (xs.map en)) t pt pe ε m.length n i (m ++ [.lst (((xs.take i).filter c).map g)]) = .ok (.loc m.length) (m ++ [.lst ((xs.filter c).map g)])
  | 0, i, n + 1, hk, hi, _ => by
    have e : i = xs.length := by omega
    subst e
    simp [lcN, nxF]
  | k + 1, i, n + 1, hk, hi, hn => by
    have hlt : i < xs.length := by omega
    have hx : xs[i]? = some xs[i] := List.getElem?_eq_getElem hlt
    obtain ⟨ε1, h1, h2⟩ := step i xs[i] hx
    obtain ⟨h3, h4⟩ := h2 [.lst (((xs.take i).filter c).map g)]
    have ih := lc_go step hl k (i + 1) n (by omega) hlt (by omega)
    have e : nxF (xs.map en) i (m ++ [.lst (((xs.take i).filter c).map g)]) = some (some (en xs[i])) := by unfold nxF; rw [List.getElem?_map, hx]; rfl
    have et : xs.take (i + 1) = xs.take i ++ [xs[i]] := by rw [List.take_succ, hx]; rfl
    rw [et, List.filter_append, List.map_append] at ih
    cases hc : c xs[i] with
    | false =>
      rw [hc] at h3
      have : [xs[i]].filter c = [] := by simp [hc]
      rw [this, List.map_nil, List.append_nil] at ih
      simp only [lcN, e, h1, h3]
      exact ih
    | true =>
      rw [hc] at h3
      have : [xs[i]].filter c = [xs[i]] := by simp [hc]
      rw [this, List.map_cons, List.map_nil] at ih
      have hle : (((xs.take i).filter c).map g).length ≤ lim := by
        rw [List.length_map]
        refine Nat.le_trans (List.length_filter_le _ _) ?_
        rw [List.length_take]; omega
      simp only [lcN, e, h1, h3, h4 hc, get_last, if_pos hle, set_last]
      exact ih
theorem lc_filter {γ : Type} {pi : PgI} {own : List Nat} (xs : List γ) (en : γ → D) {t : Tgt} {pt pe : Pg} (c : γ → Bool) (g : γ → D) (hp : pi ε m = .ok (nxF (xs.map en)) m1) (hl : xs.length ≤ lim)
    (step : ∀ (i : Nat) (x : γ), xs[i]? = some x → ∃ ε1, bindT t (en x) (wipeD ε own) = some ε1 ∧ ∀ l, pt ε1 (m1 ++ l) = .ok (.bl (c x)) (m1 ++ l) ∧ (c x = true → pe ε1 (m1 ++ l) = .ok (g x) (m1 ++ l))) :
    pLc pi own t pt pe ε m = .ok (.loc m1.length) (m1 ++ [.lst ((xs.filter c).map g)]) := by
  unfold pLc
  rw [hp]
  exact lc_go step hl xs.length 0 bigN rfl (Nat.zero_le _) (by unfold bigN; unfold lim at hl; omega)
theorem lc_map {γ : Type} {pi : PgI} {own : List Nat} (xs : List γ) (en : γ → D) {t : Tgt} {pe : Pg} (g : γ → D) (hp : pi ε m = .ok (nxF (xs.map en)) m1) (hl : xs.length ≤ lim)
    (step : ∀ (i : Nat) (x : γ), xs[i]? = some x → ∃ ε1, bindT t (en x) (wipeD ε own) = some ε1 ∧ ∀ l, pe ε1 (m1 ++ l) = .ok (g x) (m1 ++ l)) :
    pLc pi own t (pC (.bl true)) pe ε m = .ok (.loc m1.length) (m1 ++ [.lst (xs.map g)]) := by
  have := lc_filter (pi := pi) (own := own) xs en (t := t) (pt := pC (.bl true)) (pe := pe) (fun _ => true) g hp hl fun i x hx => let ⟨ε1, h1, h2⟩ := step i x hx; ⟨ε1, h1, fun l => ⟨rfl, fun _ => h2 l⟩⟩
  rw [List.filter_eq_self.mpr (fun _ _ => rfl)] at this
  exact this
/-- .. frozen -/
theorem lcz_map {γ : Type} {pi : PgI} {own : List Nat} (xs : List γ) (en : γ → D) {t : Tgt} {pe : Pg} (g : γ → D) (hp : pi ε m = .ok (nxF (xs.map en)) m) (hl : xs.length ≤ lim) (hz : ∀ x ∈ xs, ltD m.length (g x) = true)
    (step : ∀ (i : Nat) (x : γ), xs[i]? = some x → ∃ ε1, bindT t (en x) (wipeD ε own) = some ε1 ∧ ∀ l, pe ε1 (m ++ l) = .ok (g x) (m ++ l)) :
    pFz (pLc pi own t (pC (.bl true)) pe) ε m = .ok (.fl (xs.map g)) m := by
  rw [pFz_e, lc_map xs en g hp hl step]
  exact fzK_loc (ltDs_map hz)
theorem lcz_filter {γ : Type} {pi : PgI} {own : List Nat} (xs : List γ) (en : γ → D) {t : Tgt} {pt pe : Pg} (c : γ → Bool) (g : γ → D) (hp : pi ε m = .ok (nxF (xs.map en)) m) (hl : xs.length ≤ lim) (hz : ∀ x ∈ xs, ltD m.length (g x) = true)
    (step : ∀ (i : Nat) (x : γ), xs[i]? = some x → ∃ ε1, bindT t (en x) (wipeD ε own) = some ε1 ∧ ∀ l, pt ε1 (m ++ l) = .ok (.bl (c x)) (m ++ l) ∧ (c x = true → pe ε1 (m ++ l) = .ok (g x) (m ++ l))) :
    pFz (pLc pi own t pt pe) ε m = .ok (.fl ((xs.filter c).map g)) m := by
  rw [pFz_e, lc_filter xs en c g hp hl step]
  exact fzK_loc (ltDs_map fun x hx => hz x (List.mem_filter.mp hx).1)
end
end MT

/-! EVO: objects, evaluated; comprehensions over a changing store. -/
namespace MT
open PySem L2
local macro_rules | `(tactic| os_names $xs:ident*) => `(tactic| simp -implicitDefEqProofs only [Bool.not_true, Bool.not_false, decide_true, decide_false, Res.bind_ok, Res.bind_bad, Res.bind_exc, Res.toS_ok, Res.toS_bad, Res.toS_exc, ResS.bind_nxt, ResS.bind_ret, ResS.bind_bad, ResS.bind_exc, bind_ite, toS_ite, bindS_ite, selB_bl, selB_t, selB_f, runK_ite, runK_nxt, runK_ret, runK_bad, runK_exc, runD_0, runD_1, runD_2, runD_3, runD_4, pVar_v, varK_s, pC_e, p1_e, p2_e, pF_e, evL_nil, evL_cons, pIf_e, pAnd_e, pOr_e, pChain_e, pRm_e, rmK_room, pSm_e, smK_s, pLm_e, lmK_e, lmK2_e, pFL_e, plNil_e, plCons_e, plStar_e, plK_tup, plK_fl, pMk_e, pItems_tup, pItems_fl, pMkV_e, mkVK_e, pCm_e, sSeq_e, sSet_e, sRet_e, sExpr_e, sNil_e, sBad_e, sIf_e, optN_some, sAsgT_e, bindT_nm, bindT_2, bindT_3, bindT_4, sPar_e, parK2_e, sPar3_e, parK3_e, optM_some, sSub_e, gSetL_e, setLK_e, sAug_e, augK_e, gSub_e, gAdd_i, gCmp_e, gTup_0, gTup_1, gTup_2, gTup_3, gTup_4, gList_0, gList_1, gList_2, gList_3, gNot_e, gLines_e, gPorts_e, gEqS_i, gIx_l, ixK_e, gIx_t, gIx_f, optR_s, atI_0, gLen_l, lenK_e, gLen_t, gLen_f, gAppend_e, gRev_f, gRevT_e, gTupOf_f, gTupOf_t, gListOf_f, gListOf_t, get_last, set_last, get_2a, get_2b, set_2a, set_2b, len_1, len_2, app_1, pFz_e, fzK_ite, fzK_exc, fzK_bad, dec_t, if_true, if_false, reduceIte, Bool.false_eq_true, wipeD, List.map_cons, List.map_nil, List.cons_append, List.nil_append, List.append_nil, List.replicate_succ, List.replicate_zero, List.set_cons_zero, List.set_cons_succ, Nat.reduceSub, Nat.reduceAdd, List.length_cons, List.length_nil, List.length_set, List.getElem?_cons_zero, List.getElem?_cons_succ, Option.map_some, $[$xs:ident],*])
variable {m m1 m2 : Store} {ε : EnvD} {n : Nat} {c x mm : Str} {d : D} {fs : List (Str × D)} {f : Fn} {po pe pa pb : Pg} {ps : List Pg} {ls : List Str}
theorem getO_of (h : m[n]? = some (.ins c fs)) : getO m n c = some fs := by unfold getO; rw [h]; exact if_pos rfl
theorem gFld_of (h : m[n]? = some (.ins c fs)) (hx : fs.lookup x = some d) : gFld c x [.loc n] m = .ok d m := by
  unfold gFld; simp only [getO_of h, hx]
theorem setO_of (h : m[n]? = some (.ins c fs)) (hl : fs.length < 1000) : setO c x (.loc n) d m = some (m.set n (.ins c (putD x d fs))) := by
  unfold setO; simp only [getO_of h]; exact if_pos hl
theorem sFldC_e : sFldC c x po pe ε m = (pe ε m).toS ε fun d m1 => (po ε m1).toS ε fun o m2 => optM (setO c x o d m2) ε := by unfold sFldC optM; rfl
def omK2 (f : Fn) (mm : Str) (n : Nat) (o : Option (List (Str × D))) (r : Res (List D)) : Res D := match o with
  | some fs => if fs.lookup mm = none then r.bind fun ds m2 => f (.loc n :: ds) m2 else .bad
  | none => .bad
def omK (c mm : Str) (f : Fn) (d : D) (m : Store) (r : Res (List D)) : Res D := match d with
  | .loc n => omK2 f mm n (getO m n c) r
  | _ => .bad
theorem pOm_e : pOm c mm f po ps ε m = (po ε m).bind fun d m1 => omK c mm f d m1 (evL ps ε m1) := by unfold pOm; rfl
theorem omK_of {r : Res (List D)} (h : m[n]? = some (.ins c fs)) (hm : fs.lookup mm = none) : omK c mm f (.loc n) m r = r.bind fun ds m2 => f (.loc n :: ds) m2 := by
  show omK2 f mm n (getO m n c) r = _
  rw [getO_of h]; exact if_pos hm
def newK (n : Nat) (d : D) (m : Store) : Res D := match d with
  | .non => .ok (.loc n) m
  | _ => .bad
theorem pNew_e : pNew c f ps ε m = (evL ps ε m).bind fun ds m1 => (f (.loc m1.length :: ds) (m1 ++ [.ins c []])).bind fun d m2 => newK m1.length d m2 := by unfold pNew newK; rfl
theorem newK_e : newK n .non m = .ok (.loc n) m := rfl
theorem gGetR_e : gGetR f [.room ls, d] m = f [.room ls, d] m := rfl
theorem gDict0_e : gDict0 [] m = .ok (.loc m.length) (m ++ [.dK []]) := rfl
theorem gPop_e {xs : List D} (h : m[n]? = some (.lst (xs ++ [d]))) : gPop [.loc n] m = .ok d (m.set n (.lst xs)) := by
  unfold gPop
  simp only [h]
  rw [show (xs ++ [d])[(xs ++ [d]).length - 1]? = some d by simp]
  simp
theorem gRep_e {k : Nat} {xs : List D} (h : m[n]? = some (.lst xs)) (hl : xs.length * k ≤ lim) (hk : k ≤ lim) : gRep [.loc n, .int k] m = .ok (.loc m.length) (m ++ [.lst (List.replicate k xs).flatten]) := by
  unfold gRep
  simp only [h, Int.toNat_natCast]
  have h3 : (k : Int) ≤ (lim : Nat) := Int.ofNat_le.mpr hk
  have h4 : ((lim : Nat) : Int) = 1000000 := rfl
  exact if_pos ⟨by omega, by omega, hl⟩
/-- a comprehension over a changing store -/
theorem lc_rel {pi : PgI} {own : List Nat} {t : Tgt} {nx : Nx} (xs gs : List D) (R : Nat → Store → Prop) (hp : pi ε m = .ok nx m1) (h0 : R 0 (m1 ++ [.lst []])) (len : gs.length = xs.length) (hl : xs.length ≤ lim)
    (hnx : ∀ i m', R i m' → nx i m' = some (xs[i]?))
    (step : ∀ i x y m', xs[i]? = some x → gs[i]? = some y → R i m' → m'[m1.length]? = some (.lst (gs.take i)) →
      ∃ ε1 m2, bindT t x (wipeD ε own) = some ε1 ∧ pe ε1 m' = .ok y m2 ∧ m2[m1.length]? = some (.lst (gs.take i)) ∧ R (i + 1) (m2.set m1.length (.lst (gs.take (i + 1))))) :
    ∃ m2, pLc pi own t (pC (.bl true)) pe ε m = .ok (.loc m1.length) m2 ∧ R xs.length m2 ∧ m2[m1.length]? = some (.lst gs) := by
  have go : ∀ (k i n : Nat) (m' : Store), xs.length - i = k → i ≤ xs.length → k < n → R i m' → m'[m1.length]? = some (.lst (gs.take i)) →
      ∃ m2, lcN nx t (pC (.bl true)) pe (wipeD ε own) m1.length n i m' = .ok (.loc m1.length) m2 ∧ R xs.length m2 ∧ m2[m1.length]? = some (.lst gs) := by
    intro k
    induction k with
    | zero =>
      intro i n m' hk hi hn hR hg
      have e : i = xs.length := by omega
      subst e
      cases n with
      | zero => omega
      | succ n =>
        refine ⟨m', ?_, hR, ?_⟩
        · simp only [lcN, hnx _ _ hR]
          rw [List.getElem?_eq_none (Nat.le_refl _)]
        · rw [← len, List.take_length] at hg; exact hg
    | succ k ih =>
      intro i n m' hk hi hn hR hg
      have hlt : i < xs.length := by omega
      have hx : xs[i]? = some xs[i] := List.getElem?_eq_getElem hlt
      have hy : gs[i]? = some gs[i] := List.getElem?_eq_getElem (by omega)
      obtain ⟨ε1, m2, h1, h2, h3, h4⟩ := step i _ _ m' hx hy hR hg
      cases n with
      | zero => omega
      | succ n =>
        have et : gs.take (i + 1) = gs.take i ++ [gs[i]] := by rw [List.take_succ, hy]; rfl
        have hle : (gs.take i).length ≤ lim := by rw [List.length_take]; omega
        have hlen : m1.length < m2.length := (List.getElem?_eq_some_iff.mp h3).1
        obtain ⟨m3, e3, r3, g3⟩ := ih (i + 1) n (m2.set m1.length (.lst (gs.take (i + 1)))) (by omega) hlt (by omega) h4 (by simp [hlen])
        refine ⟨m3, ?_, r3, g3⟩
        simp only [lcN, hnx _ _ hR, hx, h1, pC_e, h2, h3, if_pos hle]
        rw [← et]; exact e3
  unfold pLc
  rw [hp]
  exact go xs.length 0 bigN _ rfl (Nat.zero_le _) (by unfold bigN; unfold lim at hl; omega) h0 (by simp)
end MT

/-! SP1: a beam, plainly; f_beam hands it back. -/
namespace MT
open PySem L2
local macro_rules | `(tactic| os_names $xs:ident*) => `(tactic| simp -implicitDefEqProofs only [Bool.not_true, Bool.not_false, decide_true, decide_false, Res.bind_ok, Res.bind_bad, Res.bind_exc, Res.toS_ok, Res.toS_bad, Res.toS_exc, ResS.bind_nxt, ResS.bind_ret, ResS.bind_bad, ResS.bind_exc, bind_ite, toS_ite, bindS_ite, selB_bl, selB_t, selB_f, runK_ite, runK_nxt, runK_ret, runK_bad, runK_exc, runD_0, runD_1, runD_2, runD_3, runD_4, pVar_v, varK_s, pC_e, p1_e, p2_e, pF_e, evL_nil, evL_cons, pIf_e, pAnd_e, pOr_e, pChain_e, pRm_e, rmK_room, pSm_e, smK_s, pLm_e, lmK_e, lmK2_e, pFL_e, plNil_e, plCons_e, plStar_e, plK_tup, plK_fl, pMk_e, pItems_tup, pItems_fl, pMkV_e, mkVK_e, pCm_e, sSeq_e, sSet_e, sRet_e, sExpr_e, sNil_e, sBad_e, sIf_e, optN_some, sAsgT_e, bindT_nm, bindT_2, bindT_3, bindT_4, sPar_e, parK2_e, sPar3_e, parK3_e, optM_some, sSub_e, gSetL_e, setLK_e, sAug_e, augK_e, gSub_e, gAdd_i, gCmp_e, gTup_0, gTup_1, gTup_2, gTup_3, gTup_4, gList_0, gList_1, gList_2, gList_3, gNot_e, gLines_e, gPorts_e, gEqS_i, gIx_l, ixK_e, gIx_t, gIx_f, optR_s, atI_0, gLen_l, lenK_e, gLen_t, gLen_f, gAppend_e, gRev_f, gRevT_e, gTupOf_f, gTupOf_t, gListOf_f, gListOf_t, get_last, set_last, get_2a, get_2b, set_2a, set_2b, len_1, len_2, app_1, pFz_e, fzK_ite, fzK_exc, fzK_bad, dec_t, if_true, if_false, reduceIte, Bool.false_eq_true, wipeD, List.map_cons, List.map_nil, List.cons_append, List.nil_append, List.append_nil, List.replicate_succ, List.replicate_zero, List.set_cons_zero, List.set_cons_succ, Nat.reduceSub, Nat.reduceAdd, List.length_cons, List.length_nil, List.length_set, List.getElem?_cons_zero, List.getElem?_cons_succ, Option.map_some, $[$xs:ident],*])
open Classical in
/-- steps until a beam is outside -/
noncomputable def stepsB (h w : Nat) (s : Bl) : Nat := if e : ∃ k, (∀ i, i < k → (Bl.it i s).Ins h w) ∧ ¬ (Bl.it k s).Ins h w then Classical.choose e else 0
theorem stepsB_eq {h w k : Nat} {s : Bl} (h1 : ∀ i, i < k → (Bl.it i s).Ins h w) (h2 : ¬ (Bl.it k s).Ins h w) : stepsB h w s = k := by
  have e : ∃ k, (∀ i, i < k → (Bl.it i s).Ins h w) ∧ ¬ (Bl.it k s).Ins h w := ⟨k, h1, h2⟩
  unfold stepsB
  rw [dif_pos e]
  obtain ⟨a, b⟩ := Classical.choose_spec e
  rcases Nat.lt_trichotomy (Classical.choose e) k with lt | eq | gt
  · exact absurd (h1 _ lt) b
  · exact eq
  · exact absurd (a _ gt) h2
noncomputable def stepsP (ls : List Str) (p : Int) : Nat := stepsB (heightS ls) (widthS ls) (startB ls p)
noncomputable def endP (ls : List Str) (p : Int) : Bl := Bl.it (stepsP ls p) (startB ls p)
noncomputable def exitP (ls : List Str) (p : Int) : Int := exitW (heightS ls) (widthS ls) (endP ls p).r (endP ls p).c
noncomputable def tilesP (ls : List Str) (p : Int) : List (Int × Int) := Bl.tiles (stepsP ls p) (startB ls p)
noncomputable def afterP (ls : List Str) (p : Int) : List Str := roomOf (endP ls p).G
structure StepsOk (ls : List Str) (p : Int) : Prop where
  ins : ∀ i, i < stepsP ls p → (Bl.it i (startB ls p)).Ins (heightS ls) (widthS ls)
  out : ¬ (endP ls p).Ins (heightS ls) (widthS ls)
  le : stepsP ls p ≤ 262144
  vg : VG (endP ls p).G (heightS ls) (widthS ls)
theorem steps_ok {ls : List Str} (hv : Valid ls) {p : Int} (hp : PortOk ls p) : StepsOk ls p := by
  obtain ⟨k, k1, k2, k3⟩ := start_leaves hv hp
  have e : stepsP ls p = k := stepsB_eq k2 k3
  refine ⟨by rw [e]; exact k2, by unfold endP; rw [e]; exact k3, by rw [e]; exact k1, ?_⟩
  unfold endP
  rw [e]
  exact VG.it k (VG.room hv) k2
theorem after_valid {ls : List Str} (hv : Valid ls) {p : Int} (hp : PortOk ls p) : Valid (afterP ls p) ∧ heightS (afterP ls p) = heightS ls ∧ widthS (afterP ls p) = widthS ls := by
  have hn := hv.np
  exact (steps_ok hv hp).vg.valid hn.1 hn.2.1 hn.2.2.1 hn.2.2.2
theorem lt_tile {n : Nat} (x : Int × Int) : ltD n (tileD x) = true := rfl
theorem ltDs_tiles {n : Nat} {xs : List (Int × Int)} : ltDs n (xs.map tileD) = true := ltDs_map fun x _ => rfl
theorem tiles_len : ∀ (k : Nat) (s : Bl), (Bl.tiles k s).length = k
  | 0, _ => rfl
  | k + 1, s => by show (Bl.tiles k s.step).length + 1 = _; rw [tiles_len]
theorem tilesP_len (ls : List Str) (p : Int) : (tilesP ls p).length = stepsP ls p := tiles_len _ _
theorem beam_ok {ls : List Str} (hv : Valid ls) {p : Int} (hp : PortOk ls p) (m : Store) : fzF f_beam [.room ls, .int p] m = .ok (.tup [.int (exitP ls p), .fl ((tilesP ls p).map tileD), .room (afterP ls p)]) m := by
  have hn := hv.np
  have S := steps_ok hv hp
  obtain ⟨k, sg, h1, h2, h3, h4⟩ := headB_ok hv hp m (sSeq (sSet 11 (pFz (pLc (iSeq (pVar 2)) [3] (.nm 3) (pC (.bl true)) (pSm gJoin (pC (.str "")) [(pVar 3)]))))
    (sRet (pF gTup [(pRm f_exit_of (pVar 0) [(pVar 6), (pVar 7)]), (pVar 9), (pMk (pVar 11))])))
  have ek : k = stepsP ls p := (stepsB_eq h1 h2).symm
  subst ek
  change _ = _ at h4
  have e : f_beam [.room ls, .int p] m = .ok (.tup [.int (exitP ls p), .loc (m.length + 1 + (endP ls p).G.length), .room (afterP ls p)]) (beamM m (endP ls p).G ((tilesP ls p).map tileD)) := by
    refine (runD_e (p := P_beam) rfl).trans ?_
    show runK (headB _ [some (.room ls), some (.int p), none, none, none, none, none, none, none, none, none, none] m) = _
    rw [h4]
    have hl := lines_ok (ε := envB ls p (heightS ls : Nat) (widthS ls : Nat) (endP ls p).r (endP ls p).c m.length (m.length + 1 + heightS ls) (endP ls p).v sg) (m := m) (P := (tilesP ls p).map tileD) S.vg.R (by omega) (by omega) rfl (by show 3 < 12; omega)
    have hz : ltDs (beamM m (endP ls p).G ((tilesP ls p).map tileD)).length ((endP ls p).G.map fun l => D.str (strOf l)) = true := ltDs_map fun _ _ => rfl
    have hfz := fzK_loc hz
    have hx := fun m => exit_ok hv (endP ls p).r (endP ls p).c m
    have hm := fun m => mkRoom_v (m := m) (after_valid hv hp).1
    have hmap : ((endP ls p).G.map fun l => D.str (strOf l)) = (afterP ls p).map D.str := by
      unfold afterP roomOf; rw [List.map_map]; rfl
    unfold rowsC at hl
    rw [hmap] at hl hfz
    change pLc (iSeq (pVar 2)) [3] (.nm 3) (pC (.bl true)) (pSm gJoin (pC (.str "")) [(pVar 3)]) [some (.room ls), some (.int p), some (.loc m.length), none, some (.int (heightS ls : Nat)), some (.int (widthS ls : Nat)), some (.int (endP ls p).r), some (.int (endP ls p).c), some (wayD (endP ls p).v), some (.loc (m.length + 1 + heightS ls)), sg, none] _ = _ at hl
    show runK ((sSeq _ _) [some (.room ls), some (.int p), some (.loc m.length), none, some (.int (heightS ls : Nat)), some (.int (widthS ls : Nat)), some (.int (endP ls p).r), some (.int (endP ls p).c), some (wayD (endP ls p).v), some (.loc (m.length + 1 + heightS ls)), sg, none] (beamM m (endP ls p).G ((tilesP ls p).map tileD))) = _
    have hG : (endP ls p).G.length = heightS ls := S.vg.R.1
    rw [hG]
    os_names hl hfz hx hm
    rfl
  rw [fzF_e, e]
  refine fzK_app (l := _ :: _) ?_
  refine frz_tup (by simp [ltDs, ltD]; omega) (frzL_cons (frz_step rfl) (frzL_cons (frz_loc (by omega) (beamM_pass _ _ _) ltDs_tiles) (frzL_cons (frz_step rfl) rfl)))
end MT

/-! SP2: room(port), ~room, path, send, unsent. -/
namespace MT
open PySem L2
local macro_rules | `(tactic| os_names $xs:ident*) => `(tactic| simp -implicitDefEqProofs only [Bool.not_true, Bool.not_false, decide_true, decide_false, Res.bind_ok, Res.bind_bad, Res.bind_exc, Res.toS_ok, Res.toS_bad, Res.toS_exc, ResS.bind_nxt, ResS.bind_ret, ResS.bind_bad, ResS.bind_exc, bind_ite, toS_ite, bindS_ite, selB_bl, selB_t, selB_f, runK_ite, runK_nxt, runK_ret, runK_bad, runK_exc, runD_0, runD_1, runD_2, runD_3, runD_4, pVar_v, varK_s, pC_e, p1_e, p2_e, pF_e, evL_nil, evL_cons, pIf_e, pAnd_e, pOr_e, pChain_e, pRm_e, rmK_room, pSm_e, smK_s, pLm_e, lmK_e, lmK2_e, pFL_e, plNil_e, plCons_e, plStar_e, plK_tup, plK_fl, pMk_e, pItems_tup, pItems_fl, pMkV_e, mkVK_e, pCm_e, sSeq_e, sSet_e, sRet_e, sExpr_e, sNil_e, sBad_e, sIf_e, optN_some, sAsgT_e, bindT_nm, bindT_2, bindT_3, bindT_4, sPar_e, parK2_e, sPar3_e, parK3_e, optM_some, sSub_e, gSetL_e, setLK_e, sAug_e, augK_e, gSub_e, gAdd_i, gCmp_e, gTup_0, gTup_1, gTup_2, gTup_3, gTup_4, gList_0, gList_1, gList_2, gList_3, gNot_e, gLines_e, gPorts_e, gEqS_i, gIx_l, ixK_e, gIx_t, gIx_f, optR_s, atI_0, gLen_l, lenK_e, gLen_t, gLen_f, gAppend_e, gRev_f, gRevT_e, gTupOf_f, gTupOf_t, gListOf_f, gListOf_t, get_last, set_last, get_2a, get_2b, set_2a, set_2b, len_1, len_2, app_1, pFz_e, fzK_ite, fzK_exc, fzK_bad, dec_t, if_true, if_false, reduceIte, Bool.false_eq_true, wipeD, List.map_cons, List.map_nil, List.cons_append, List.nil_append, List.append_nil, List.replicate_succ, List.replicate_zero, List.set_cons_zero, List.set_cons_succ, Nat.reduceSub, Nat.reduceAdd, List.length_cons, List.length_nil, List.length_set, List.getElem?_cons_zero, List.getElem?_cons_succ, Option.map_some, $[$xs:ident],*])
theorem call_ok {ls : List Str} (hv : Valid ls) {p : Int} (hp : PortOk ls p) (m : Store) : f___call__ [.room ls, .int p] m = .ok (.tup [.int (exitP ls p), .room (afterP ls p)]) m := by
  have h1 := fun m => hasport_ok hv hp m
  have h2 := fun m => beam_ok hv hp m
  unfold f___call__ P___call__
  os_names h1 h2
/-! ### ~room -/
noncomputable def flipR (ls : List Str) : List Str := roomOf (flipL (gridL ls))
theorem chr_map (z : Str) : chars z = z.cps.toList.map fun c => D.str ⟨#[c]⟩ := rfl
theorem strsOf_chr : ∀ (l : List Nat), strsOf (l.map fun c => D.str ⟨#[c]⟩) = some (l.map fun c => (⟨#[c]⟩ : Str))
  | [] => rfl
  | c :: l => by simp [strsOf, strsOf_chr l]
theorem len_chr (l : List Nat) : ((l.map fun c => (⟨#[c]⟩ : Str)).map fun z : Str => z.length).sum = l.length := by
  induction l with
  | nil => rfl
  | cons c l ih =>
    rw [List.map_cons, List.map_cons, List.sum_cons, ih, List.length_cons]
    show (1 : Nat) + l.length = _
    omega
theorem joinF_ok (l : List Nat) (m : Store) (hl : l.length ≤ lim) : gJoin [.str "", .fl (l.map fun c => D.str ⟨#[c]⟩)] m = .ok (.str (strOf l)) m := by
  show joinR "" (l.map fun c => D.str ⟨#[c]⟩) m = _
  unfold joinR
  rw [strsOf_chr]
  show (if ((l.map fun c => (⟨#[c]⟩ : Str)).map fun z : Str => z.length).sum + _ * ("" : Str).length ≤ lim then _ else _) = _
  rw [len_chr, show ("" : Str).length = 0 by decide +kernel, if_pos (by omega), join_ones']
theorem flip_cnt (l : List Nat) : cntT (l.map flipC) = cntT l := by
  unfold cntT
  induction l with
  | nil => rfl
  | cons c l ih =>
    by_cases h : isTurnC c = true
    · rw [List.map_cons, List.filter_cons_of_pos ((flip_turn c).trans h), List.filter_cons_of_pos h, List.length_cons, ih, List.length_cons]
    · rw [List.map_cons, List.filter_cons_of_neg (fun z => h ((flip_turn c).symm.trans z)), List.filter_cons_of_neg h, ih]
theorem VG.flip {G : List (List Nat)} {h w : Nat} (v : VG G h w) : VG (flipL G) h w := by
  refine ⟨⟨by unfold flipL; rw [List.length_map]; exact v.R.1, fun l hl => ?_⟩, fun l hl c hc => ?_, ?_⟩
  · obtain ⟨k, hk, rfl⟩ := List.mem_map.mp hl
    rw [List.length_map]; exact v.R.2 k hk
  · obtain ⟨k, hk, rfl⟩ := List.mem_map.mp hl
    obtain ⟨d, hd, rfl⟩ := List.mem_map.mp hc
    exact flip_sign (v.sg k hk d hd)
  · unfold flipL
    rw [List.map_map, show (cntT ∘ fun l => l.map flipC) = cntT from funext fun l => flip_cnt l]
    exact v.ct
theorem flip_valid {ls : List Str} (hv : Valid ls) : Valid (flipR ls) ∧ heightS (flipR ls) = heightS ls ∧ widthS (flipR ls) = widthS ls := by
  have hn := hv.np
  exact (VG.room hv).flip.valid hn.1 hn.2.1 hn.2.2.1 hn.2.2.2
theorem flip_map (ls : List Str) : flipR ls = ls.map fun z => strOf (z.cps.toList.map flipC) := by
  unfold flipR roomOf flipL gridL
  rw [List.map_map, List.map_map]; rfl
theorem Valid.len8 {ls : List Str} (hv : Valid ls) {z : Str} (hz : z ∈ ls) : z.cps.toList.length ≤ 8 := by
  have h1 := (hv.2.2.2.2.1 z hz).1
  have h2 := hv.2.2.2.1
  have : z.cps.toList.length = z.length := by simp [Str.length]
  omega
theorem invert_ok {ls : List Str} (hv : Valid ls) (m : Store) : f___invert__ [.room ls] m = .ok (.room (flipR ls)) m := by
  have e : pFz (pLc (iTp (p1 gLines (pVar 0))) [3] (.nm 3) (pC (.bl true)) (pSm gJoin (pC (.str "")) [(pFz (pLc (iSt (pVar 3)) [2] (.nm 2) (pC (.bl true)) (p2 gTurnGet (pVar 2) (pVar 2))))])) [some (.room ls), none, none, none] m = .ok (.fl ((flipR ls).map .str)) m := by
    rw [flip_map, List.map_map]
    refine lcz_map ls D.str _ (iTp_t rfl) (by have := hv.np; have : ls.length ≤ 8 := hv.2.1; unfold lim; omega) (fun _ _ => rfl) fun i z hz => ⟨_, rfl, fun l => ?_⟩
    have h8 := hv.len8 (List.mem_of_getElem? hz)
    have inner : pFz (pLc (iSt (pVar 3)) [2] (.nm 2) (pC (.bl true)) (p2 gTurnGet (pVar 2) (pVar 2))) [some (.room ls), none, none, some (.str z)] (m ++ l) = .ok (.fl ((z.cps.toList.map flipC).map fun c => D.str ⟨#[c]⟩)) (m ++ l) := by
      rw [List.map_map]
      refine lcz_map z.cps.toList (fun c => D.str ⟨#[c]⟩) _ (iSt_s rfl) (by unfold lim; omega) (fun _ _ => rfl) fun j c hc => ⟨_, rfl, fun l2 => ?_⟩
      have ht := fun m => turnGet_ok c m
      os_names ht
      rfl
    have hj := fun m => joinF_ok (z.cps.toList.map flipC) m (by rw [List.length_map]; unfold lim; omega)
    show pSm gJoin (pC (.str "")) _ [some (.room ls), none, none, some (.str z)] (m ++ l) = _
    unfold pFz at inner
    os_names inner hj
    rfl
  have hm := fun m => mkRoom_v (m := m) (flip_valid hv).1
  unfold f___invert__ P___invert__
  unfold pFz at e
  rw [runD_1, sSeq_e, sSet_e]
  show runK (((pFz _ [some (.room ls), none, none, none] m).toS _ _).bind _) = _
  unfold pFz
  rw [e]
  os_names hm
end MT

/-! SP2: room(port), ~room, path, send, unsent. -/
namespace MT
open PySem L2
local macro_rules | `(tactic| os_names $xs:ident*) => `(tactic| simp -implicitDefEqProofs only [Bool.not_true, Bool.not_false, decide_true, decide_false, Res.bind_ok, Res.bind_bad, Res.bind_exc, Res.toS_ok, Res.toS_bad, Res.toS_exc, ResS.bind_nxt, ResS.bind_ret, ResS.bind_bad, ResS.bind_exc, bind_ite, toS_ite, bindS_ite, selB_bl, selB_t, selB_f, runK_ite, runK_nxt, runK_ret, runK_bad, runK_exc, runD_0, runD_1, runD_2, runD_3, runD_4, pVar_v, varK_s, pC_e, p1_e, p2_e, pF_e, evL_nil, evL_cons, pIf_e, pAnd_e, pOr_e, pChain_e, pRm_e, rmK_room, pSm_e, smK_s, pLm_e, lmK_e, lmK2_e, pFL_e, plNil_e, plCons_e, plStar_e, plK_tup, plK_fl, pMk_e, pItems_tup, pItems_fl, pMkV_e, mkVK_e, pCm_e, sSeq_e, sSet_e, sRet_e, sExpr_e, sNil_e, sBad_e, sIf_e, optN_some, sAsgT_e, bindT_nm, bindT_2, bindT_3, bindT_4, sPar_e, parK2_e, sPar3_e, parK3_e, optM_some, sSub_e, gSetL_e, setLK_e, sAug_e, augK_e, gSub_e, gAdd_i, gCmp_e, gTup_0, gTup_1, gTup_2, gTup_3, gTup_4, gList_0, gList_1, gList_2, gList_3, gNot_e, gLines_e, gPorts_e, gEqS_i, gIx_l, ixK_e, gIx_t, gIx_f, optR_s, atI_0, gLen_l, lenK_e, gLen_t, gLen_f, gAppend_e, gRev_f, gRevT_e, gTupOf_f, gTupOf_t, gListOf_f, gListOf_t, get_last, set_last, get_2a, get_2b, set_2a, set_2b, len_1, len_2, app_1, pFz_e, fzK_ite, fzK_exc, fzK_bad, dec_t, if_true, if_false, reduceIte, Bool.false_eq_true, wipeD, List.map_cons, List.map_nil, List.cons_append, List.nil_append, List.append_nil, List.replicate_succ, List.replicate_zero, List.set_cons_zero, List.set_cons_succ, Nat.reduceSub, Nat.reduceAdd, List.length_cons, List.length_nil, List.length_set, List.getElem?_cons_zero, List.getElem?_cons_succ, Option.map_some, $[$xs:ident],*])
/-! ### path -/
section
variable {ε ε' : EnvD} {ys : List D} {m m' : Store} {p q : PgG} {ps : PgS} {pe : Pg} {d : D} {N n i : Nat} {a1 a2 : D} {t : Tgt} {nx : Nx} {pi : PgI}
def runGK (r : ResG) : Res (List D) := match r with
  | .nxt _ ys m => .ok ys m
  | .ret ys m => .ok ys m
  | .bad => .bad
theorem runG_2 : runG 2 N p [a1, a2] m = runGK (p ([some a1, some a2] ++ List.replicate (N - 2) none) [] m) := by
  have e : [a1, a2].length = 2 := rfl
  unfold runG runGK; rw [if_pos e]; rfl
theorem runGK_n : runGK (.nxt ε ys m) = .ok ys m := rfl
theorem ygSeq_e : ygSeq p q ε ys m = (p ε ys m).bind q := rfl
theorem ygNil_e : ygNil ε ys m = .nxt ε ys m := rfl
theorem gbind_n {f : EnvD → List D → Store → ResG} : (ResG.nxt ε ys m).bind f = f ε ys m := rfl
theorem ygPlain_n (h : ps ε m = .nxt ε' m') : ygPlain ps ε ys m = .nxt ε' ys m' := by unfold ygPlain; rw [h]
theorem ygYield_n (h : pe ε m = .ok d m') (hl : ys.length ≤ lim) : ygYield pe ε ys m = .nxt ε (ys ++ [d]) m' := by unfold ygYield; rw [h]; exact if_pos hl
theorem ygFor_n (h : pi ε m = .ok nx m') : ygFor pi t p ε ys m = ygForN nx t p bigN 0 ε ys m' := by unfold ygFor; rw [h]
theorem ygForN_z (h : nx i m = some none) : ygForN nx t p (n + 1) i ε ys m = .nxt ε ys m := by rw [ygForN, h]
theorem ygForN_s (h : nx i m = some (some d)) (hb : bindT t d ε = some ε') : ygForN nx t p (n + 1) i ε ys m = (p ε' ys m).bind (ygForN nx t p n (i + 1)) := by rw [ygForN, h]; simp only [hb]
theorem ygForF_run {xs : List D} (R : EnvD → Prop) (hl : xs.length ≤ lim) (step : ∀ x ε ys, R ε → ys.length ≤ lim → ∃ ε1 ε2, bindT t x ε = some ε1 ∧ p ε1 ys m = .nxt ε2 (ys ++ [x]) m ∧ R ε2) :
    ∀ (k i n : Nat) (ε : EnvD), xs.length - i = k → i ≤ xs.length → k < n → R ε → ∃ ε2, ygForN (nxF xs) t p n i ε (xs.take i) m = .nxt ε2 xs m
  | 0, i, n + 1, ε, hk, hi, _, r => by
    have e : i = xs.length := by omega
    subst e
    refine ⟨ε, ?_⟩
    rw [ygForN_z (by unfold nxF; rw [List.getElem?_eq_none (Nat.le_refl _)]), List.take_length]
  | k + 1, i, n + 1, ε, hk, hi, hn, r => by
    have hlt : i < xs.length := by omega
    have hx : xs[i]? = some xs[i] := List.getElem?_eq_getElem hlt
    obtain ⟨ε1, ε2, h1, h2, r2⟩ := step xs[i] ε (xs.take i) r (by rw [List.length_take]; omega)
    obtain ⟨ε3, h3⟩ := ygForF_run R hl step k (i + 1) n ε2 (by omega) hlt (by omega) r2
    refine ⟨ε3, ?_⟩
    have e : nxF xs i m = some (some xs[i]) := by unfold nxF; rw [hx]
    have et : xs.take (i + 1) = xs.take i ++ [xs[i]] := by rw [List.take_succ, hx]; rfl
    rw [ygForN_s e h1, h2, gbind_n, ← et, h3]
end
theorem path_ok {ls : List Str} (hv : Valid ls) {p : Int} (hp : PortOk ls p) (m : Store) : f_path [.room ls, .int p] m = .ok ((tilesP ls p).map tileD) m := by
  have h1 := checkport_ok hv hp m
  have h2 := fun m => beam_ok hv hp m
  have S := steps_ok hv hp
  have e1 : sExpr (pF (f_check_port) [(pVar 0), (pVar 1)]) [some (.room ls), some (.int p), none] m = .nxt [some (.room ls), some (.int p), none] m := expr_ok ((pF2 (v_ok rfl) (v_ok rfl)).trans h1)
  have e0 : p2 gIx (pRm (fzF f_beam) (pVar 0) [(pVar 1)]) (pC (.int 1)) [some (.room ls), some (.int p), none] m = .ok (.fl ((tilesP ls p).map tileD)) m := by
    have ha : atI [D.int (exitP ls p), .fl ((tilesP ls p).map tileD), .room (afterP ls p)] 1 = some (.fl ((tilesP ls p).map tileD)) := rfl
    os_names h2 ha
  have e2 := iSeq_f e0
  have hl : ((tilesP ls p).map tileD).length ≤ lim := by
    have := S.le; have := tilesP_len ls p
    rw [List.length_map]; unfold lim; omega
  obtain ⟨ε', h⟩ := ygForF_run (m := m) (t := .nm 2) (p := ygSeq (ygYield (pVar 2)) ygNil) (xs := (tilesP ls p).map tileD) (fun ε => ∃ o, ε = [some (.room ls), some (.int p), o]) hl (fun x ε ys hr hy => by
    obtain ⟨o, rfl⟩ := hr
    refine ⟨_, [some (.room ls), some (.int p), some x], rfl, ?_, some x, rfl⟩
    rw [ygSeq_e, ygYield_n (v_ok (d := x) rfl) hy, gbind_n, ygNil_e]; rfl) _ 0 bigN [some (.room ls), some (.int p), none] rfl (Nat.zero_le _) (by unfold bigN; unfold lim at hl; omega) ⟨none, rfl⟩
  rw [List.take_zero] at h
  unfold f_path
  rw [runG_2]
  have eN : [some (D.room ls), some (D.int p)] ++ List.replicate (N_path.length - 2) none = [some (.room ls), some (.int p), none] := rfl
  have eP : P_path [some (.room ls), some (.int p), none] [] m = .nxt ε' ((tilesP ls p).map tileD) m := by
    unfold P_path
    rw [ygSeq_e, ygPlain_n e1, gbind_n, ygSeq_e, ygFor_n e2, h, gbind_n, ygNil_e]
  exact (congrArg runGK eP).trans runGK_n
/-- list(path(..)), frozen -/
theorem listpath_ok {ls : List Str} (hv : Valid ls) {p : Int} (hp : PortOk ls p) {ε : EnvD} {m : Store} {pa pb : Pg} (ha : pa ε m = .ok (.room ls) m) (hb : pb ε m = .ok (.int p) m) : pFz (pListG f_path [pa, pb]) ε m = .ok (.fl ((tilesP ls p).map tileD)) m := by
  have h := path_ok hv hp m
  have : pListG f_path [pa, pb] ε m = .ok (.loc m.length) (m ++ [.lst ((tilesP ls p).map tileD)]) := by
    unfold pListG
    rw [ev_cons ha (ev_cons hb ev_nil), Res.bind_ok, h, Res.bind_ok]
  rw [pFz_e, this]
  exact fzK_loc ltDs_tiles
end MT

/-! SP2: room(port), ~room, path, send, unsent. -/
namespace MT
open PySem L2
local macro_rules | `(tactic| os_names $xs:ident*) => `(tactic| simp -implicitDefEqProofs only [Bool.not_true, Bool.not_false, decide_true, decide_false, Res.bind_ok, Res.bind_bad, Res.bind_exc, Res.toS_ok, Res.toS_bad, Res.toS_exc, ResS.bind_nxt, ResS.bind_ret, ResS.bind_bad, ResS.bind_exc, bind_ite, toS_ite, bindS_ite, selB_bl, selB_t, selB_f, runK_ite, runK_nxt, runK_ret, runK_bad, runK_exc, runD_0, runD_1, runD_2, runD_3, runD_4, pVar_v, varK_s, pC_e, p1_e, p2_e, pF_e, evL_nil, evL_cons, pIf_e, pAnd_e, pOr_e, pChain_e, pRm_e, rmK_room, pSm_e, smK_s, pLm_e, lmK_e, lmK2_e, pFL_e, plNil_e, plCons_e, plStar_e, plK_tup, plK_fl, pMk_e, pItems_tup, pItems_fl, pMkV_e, mkVK_e, pCm_e, sSeq_e, sSet_e, sRet_e, sExpr_e, sNil_e, sBad_e, sIf_e, optN_some, sAsgT_e, bindT_nm, bindT_2, bindT_3, bindT_4, sPar_e, parK2_e, sPar3_e, parK3_e, optM_some, sSub_e, gSetL_e, setLK_e, sAug_e, augK_e, gSub_e, gAdd_i, gCmp_e, gTup_0, gTup_1, gTup_2, gTup_3, gTup_4, gList_0, gList_1, gList_2, gList_3, gNot_e, gLines_e, gPorts_e, gEqS_i, gIx_l, ixK_e, gIx_t, gIx_f, optR_s, atI_0, gLen_l, lenK_e, gLen_t, gLen_f, gAppend_e, gRev_f, gRevT_e, gTupOf_f, gTupOf_t, gListOf_f, gListOf_t, get_last, set_last, get_2a, get_2b, set_2a, set_2b, len_1, len_2, app_1, pFz_e, fzK_ite, fzK_exc, fzK_bad, dec_t, if_true, if_false, reduceIte, Bool.false_eq_true, wipeD, List.map_cons, List.map_nil, List.cons_append, List.nil_append, List.append_nil, List.replicate_succ, List.replicate_zero, List.set_cons_zero, List.set_cons_succ, Nat.reduceSub, Nat.reduceAdd, List.length_cons, List.length_nil, List.length_set, List.getElem?_cons_zero, List.getElem?_cons_succ, Option.map_some, $[$xs:ident],*])
/-! ### send, unsent -/
noncomputable def sendN : List Str → List Int → List Int × List Str
  | ls, [] => ([], ls)
  | ls, p :: ps => (exitP ls p :: (sendN (afterP ls p) ps).1, (sendN (afterP ls p) ps).2)
theorem send_app : ∀ (ps qs : List Int) (ls : List Str), sendN ls (ps ++ qs) = ((sendN ls ps).1 ++ (sendN (sendN ls ps).2 qs).1, (sendN (sendN ls ps).2 qs).2)
  | [], qs, ls => rfl
  | p :: ps, qs, ls => by
    show (exitP ls p :: (sendN (afterP ls p) (ps ++ qs)).1, (sendN (afterP ls p) (ps ++ qs)).2) = _
    rw [send_app ps qs]; rfl
theorem send_len : ∀ (ps : List Int) (ls : List Str), (sendN ls ps).1.length = ps.length
  | [], _ => rfl
  | p :: ps, ls => by show (sendN (afterP ls p) ps).1.length + 1 = _; rw [send_len]; rfl
theorem ports_same {ls ls' : List Str} (h : heightS ls' = heightS ls) (w : widthS ls' = widthS ls) : nPorts ls' = nPorts ls := by unfold nPorts; rw [h, w]
theorem send_valid : ∀ (ps : List Int) {ls : List Str}, Valid ls → (∀ p ∈ ps, PortOk ls p) → Valid (sendN ls ps).2 ∧ heightS (sendN ls ps).2 = heightS ls ∧ widthS (sendN ls ps).2 = widthS ls
  | [], _, hv, _ => ⟨hv, rfl, rfl⟩
  | p :: ps, ls, hv, hp => by
    obtain ⟨h1, h2, h3⟩ := after_valid hv (hp p List.mem_cons_self)
    have np := ports_same h2 h3
    obtain ⟨k1, k2, k3⟩ := send_valid ps h1 fun q hq => by unfold PortOk; rw [np]; exact hp q (List.mem_cons_of_mem _ hq)
    exact ⟨k1, k2.trans h2, k3.trans h3⟩
theorem send_ok {ls : List Str} (hv : Valid ls) {ps : List Int} (hp : ∀ p ∈ ps, PortOk ls p) (hl : ps.length ≤ 1000) (m : Store) : fzF f_send (.room ls :: ps.map .int) m = .ok (.tup [.fl ((sendN ls ps).1.map .int), .room (sendN ls ps).2]) m := by
  have hlim : (ps.map D.int).length ≤ lim := by rw [List.length_map]; unfold lim; omega
  have l1 : ∃ ε2 m2, sFor (iTp (pVar 1)) (.nm 2) (sExpr (pF (f_check_port) [(pVar 0), (pVar 2)])) [some (.room ls), some (.tup (ps.map .int)), none, none, none] m = .nxt ε2 m2 ∧ (m2 = m ∧ ∃ o, ε2 = [some (.room ls), some (.tup (ps.map .int)), o, none, none]) := by
    refine sFor_rel (fun i ε m' => m' = m ∧ ∃ o, ε = [some (.room ls), some (.tup (ps.map .int)), o, none, none]) (iTp_t rfl) ⟨rfl, none, rfl⟩ hlim fun i x ε m' hx hr => ?_
    obtain ⟨rfl, o, rfl⟩ := hr
    rw [List.getElem?_map, Option.map_eq_some_iff] at hx
    obtain ⟨p, hpx, rfl⟩ := hx
    exact ⟨_, _, _, rfl, expr_ok ((pF2 (v_ok rfl) (v_ok rfl)).trans (checkport_ok hv (hp p (List.mem_of_getElem? hpx)) m')), rfl, _, rfl⟩
  have l2 : ∀ o, ∃ ε2 m2, sFor (iTp (pVar 1)) (.nm 2) (sSeq (sAsgT (.tp [4, 0]) (pRm f___call__ (pVar 0) [(pVar 2)])) (sExpr (pLm gAppend (pVar 3) [(pVar 4)]))) [some (.room ls), some (.tup (ps.map .int)), o, some (.loc m.length), none] (m ++ [.lst []]) = .nxt ε2 m2 ∧
      (m2 = m ++ [.lst ((sendN ls (ps.take ps.length)).1.map .int)] ∧ ∃ o o2, ε2 = [some (.room (sendN ls (ps.take ps.length)).2), some (.tup (ps.map .int)), o, some (.loc m.length), o2]) := by
    intro o
    have := sFor_rel (xs := ps.map .int) (t := .nm 2) (pb := sSeq (sAsgT (.tp [4, 0]) (pRm f___call__ (pVar 0) [(pVar 2)])) (sExpr (pLm gAppend (pVar 3) [(pVar 4)]))) (ε := [some (.room ls), some (.tup (ps.map .int)), o, some (.loc m.length), none]) (m := m ++ [.lst []]) (fun i ε m' => m' = m ++ [.lst ((sendN ls (ps.take i)).1.map .int)] ∧ ∃ o o2, ε = [some (.room (sendN ls (ps.take i)).2), some (.tup (ps.map .int)), o, some (.loc m.length), o2]) (iTp_t (p := pVar 1) (m1 := m ++ [.lst []]) (v_ok (i := 1) rfl)) ⟨rfl, o, none, rfl⟩ hlim fun i x ε m' hx hr => ?_
    · rw [List.length_map] at this; exact this
    obtain ⟨rfl, o, o2, rfl⟩ := hr
    rw [List.getElem?_map, Option.map_eq_some_iff] at hx
    obtain ⟨p, hpx, rfl⟩ := hx
    obtain ⟨v1, v2, v3⟩ := send_valid (ps.take i) hv fun q hq => hp q (List.mem_of_mem_take hq)
    have hp' : PortOk (sendN ls (ps.take i)).2 p := by unfold PortOk; rw [ports_same v2 v3]; exact hp p (List.mem_of_getElem? hpx)
    have hc := fun m => call_ok v1 hp' m
    have ha : ((sendN ls (ps.take i)).1.map D.int).length ≤ lim := by
      rw [List.length_map, send_len, List.length_take]; unfold lim; omega
    have hap := fun n d m => apK_e (n := n) (d := d) (m := m) ha
    have hs : sendN ls (ps.take (i + 1)) = ((sendN ls (ps.take i)).1 ++ [exitP (sendN ls (ps.take i)).2 p], afterP (sendN ls (ps.take i)).2 p) := by
      rw [List.take_succ, hpx, send_app]; rfl
    refine ⟨_, [some (.room (afterP (sendN ls (ps.take i)).2 p)), some (.tup (ps.map .int)), some (.int p), some (.loc m.length), some (.int (exitP (sendN ls (ps.take i)).2 p))], m ++ [.lst (((sendN ls (ps.take i)).1 ++ [exitP (sendN ls (ps.take i)).2 p]).map .int)], rfl, ?_, ?_⟩
    · have hb : ([some (D.room (sendN ls (ps.take i)).2), some (.tup (ps.map .int)), o, some (.loc m.length), o2]).set 2 (some (D.int p)) = [some (D.room (sendN ls (ps.take i)).2), some (.tup (ps.map .int)), some (.int p), some (.loc m.length), o2] := rfl
      rw [hb]
      os_names hc hap
      rw [List.map_append]; rfl
    · rw [hs]
      exact ⟨rfl, _, _, rfl⟩
  obtain ⟨ε2, m2, e1, rfl, o, rfl⟩ := l1
  obtain ⟨ε3, m3, e2, rfl, o3, o4, rfl⟩ := l2 o
  rw [List.take_length] at e2
  have e : f_send (.room ls :: ps.map .int) m2 = .ok (.tup [.loc m2.length, .room (sendN ls ps).2]) (m2 ++ [.lst ((sendN ls ps).1.map .int)]) := by
    unfold f_send P_send
    rw [runV_1 hlim, runD_2]
    show runK (sSeq _ _ [some (.room ls), some (.tup (ps.map .int)), none, none, none] m2) = _
    os_names e1 e2
  rw [fzF_e, e]
  refine fzK_app (frz_tup (by simp [ltDs, ltD]) (frzL_cons (frz_loc (Nat.le_refl _) get_last ltDs_int) (frzL_cons (frz_step rfl) rfl)))
noncomputable def unsentN (ls : List Str) (es : List Int) : List Int × List Str := ((sendN (flipR ls) es.reverse).1.reverse, flipR (sendN (flipR ls) es.reverse).2)
theorem unsent_ok {ls : List Str} (hv : Valid ls) {es : List Int} (hp : ∀ p ∈ es, PortOk ls p) (hl : es.length ≤ 1000) (m : Store) : fzF f_unsent (.room ls :: es.map .int) m = .ok (.tup [.fl ((unsentN ls es).1.map .int), .room (unsentN ls es).2]) m := by
  have hlim : (es.map D.int).length ≤ lim := by rw [List.length_map]; unfold lim; omega
  obtain ⟨f1, f2, f3⟩ := flip_valid hv
  have np := ports_same f2 f3
  have hp' : ∀ p ∈ es.reverse, PortOk (flipR ls) p := fun p h => by unfold PortOk; rw [np]; exact hp p (List.mem_reverse.mp h)
  have hs := fun m => send_ok f1 hp' (by rw [List.length_reverse]; exact hl) m
  have hi := fun m => invert_ok hv m
  have hi2 := fun m => invert_ok (send_valid _ f1 hp').1 m
  have hz : ∀ m : Store, ltDs m.length ((sendN (flipR ls) es.reverse).1.map D.int).reverse = true := fun m => by rw [ltDs_rev]; exact ltDs_int
  have hfz := fun m => fzK_loc (hz m)
  rw [fzF_e]
  have e : f_unsent (.room ls :: es.map .int) m = .ok (.tup [.fl ((unsentN ls es).1.map .int), .room (unsentN ls es).2]) m := by
    unfold f_unsent P_unsent
    rw [runV_1 hlim, runD_2]
    rw [List.map_reverse] at hs
    os_names hs hi hi2 hfz
    unfold unsentN
    rw [List.map_reverse]
  rw [e]
  exact fzK_pure (by simp [ltD, ltDs, ltDs_int])
end MT

/-! SP3: the law's own helpers: random numbers, random rows. -/
namespace MT
open PySem L2
local macro_rules | `(tactic| os_names $xs:ident*) => `(tactic| simp -implicitDefEqProofs only [Bool.not_true, Bool.not_false, decide_true, decide_false, Res.bind_ok, Res.bind_bad, Res.bind_exc, Res.toS_ok, Res.toS_bad, Res.toS_exc, ResS.bind_nxt, ResS.bind_ret, ResS.bind_bad, ResS.bind_exc, bind_ite, toS_ite, bindS_ite, selB_bl, selB_t, selB_f, runK_ite, runK_nxt, runK_ret, runK_bad, runK_exc, runD_0, runD_1, runD_2, runD_3, runD_4, pVar_v, varK_s, pC_e, p1_e, p2_e, pF_e, evL_nil, evL_cons, pIf_e, pAnd_e, pOr_e, pChain_e, pRm_e, rmK_room, pSm_e, smK_s, pLm_e, lmK_e, lmK2_e, pFL_e, plNil_e, plCons_e, plStar_e, plK_tup, plK_fl, pMk_e, pItems_tup, pItems_fl, pMkV_e, mkVK_e, pCm_e, sSeq_e, sSet_e, sRet_e, sExpr_e, sNil_e, sBad_e, sIf_e, optN_some, sAsgT_e, bindT_nm, bindT_2, bindT_3, bindT_4, sPar_e, parK2_e, sPar3_e, parK3_e, optM_some, sSub_e, gSetL_e, setLK_e, sAug_e, augK_e, gSub_e, gAdd_i, gCmp_e, gTup_0, gTup_1, gTup_2, gTup_3, gTup_4, gList_0, gList_1, gList_2, gList_3, gNot_e, gLines_e, gPorts_e, gEqS_i, gIx_l, ixK_e, gIx_t, gIx_f, optR_s, atI_0, gLen_l, lenK_e, gLen_t, gLen_f, gAppend_e, gRev_f, gRevT_e, gTupOf_f, gTupOf_t, gListOf_f, gListOf_t, get_last, set_last, get_2a, get_2b, set_2a, set_2b, len_1, len_2, app_1, pFz_e, fzK_ite, fzK_exc, fzK_bad, dec_t, if_true, if_false, reduceIte, Bool.false_eq_true, wipeD, List.map_cons, List.map_nil, List.cons_append, List.nil_append, List.append_nil, List.replicate_succ, List.replicate_zero, List.set_cons_zero, List.set_cons_succ, Nat.reduceSub, Nat.reduceAdd, List.length_cons, List.length_nil, List.length_set, List.getElem?_cons_zero, List.getElem?_cons_succ, Option.map_some, $[$xs:ident],*])
/-! ### the source of numbers -/
structure RD where
  a : Int
  b : Int
  r : List Int
def RD.l (d : RD) : List D := .int d.a :: .int d.b :: d.r.map .int
structure RD.Ok (d : RD) : Prop where
  a : 0 ≤ d.a
  b : 0 ≤ d.b
  r : ∀ x ∈ d.r, 0 ≤ x
  n : d.r.length ≤ 63
def RD.norm (d : RD) : RD := if d.b = 0 then (match d.r with | [] => d | x :: r => ⟨d.a, x, r⟩) else d
def RD.next (d : RD) (k : Int) : RD := if 0 < d.norm.b then ⟨d.norm.a, d.norm.b / k, d.norm.r⟩ else ⟨(d.norm.a * 48271 + 11) % 2147483647, d.norm.b, d.norm.r⟩
def RD.draw (d : RD) (k : Int) : Int := if 0 < d.norm.b then d.norm.b % k else ((d.norm.a * 48271 + 11) % 2147483647) / 64 % k
theorem RD.Ok.norm {d : RD} (h : d.Ok) : d.norm.Ok := by
  unfold RD.norm
  split
  · cases e : d.r with
    | nil => simp only; exact h
    | cons x r =>
      simp only
      have hr := h.r
      have hn := h.n
      rw [e] at hr hn
      exact ⟨h.a, hr x List.mem_cons_self, fun y hy => hr y (List.mem_cons_of_mem _ hy), by simp at hn ⊢; omega⟩
  · exact h
theorem RD.Ok.next {d : RD} (h : d.Ok) {k : Int} (hk : 0 < k) : (d.next k).Ok := by
  have h' := h.norm
  unfold RD.next
  split
  · exact ⟨h'.a, Int.ediv_nonneg h'.b (by omega), h'.r, h'.n⟩
  · exact ⟨Int.emod_nonneg _ (by decide), h'.b, h'.r, h'.n⟩
theorem RD.draw_in (d : RD) {k : Int} (hk : 0 < k) : 0 ≤ d.draw k ∧ d.draw k < k := by
  unfold RD.draw
  split
  · exact ⟨Int.emod_nonneg _ (by omega), Int.emod_lt_of_pos _ hk⟩
  · exact ⟨Int.emod_nonneg _ (by omega), Int.emod_lt_of_pos _ hk⟩
section
variable {m : Store} {n : Nat} {x y z : D} {l : List D} {c c' : Cell} {i : Int}
theorem atI_1 : atI (x :: y :: l) 1 = some y := by
  unfold atI ixN
  rw [if_pos (by omega), if_pos (by simp; omega)]; rfl
theorem ixN_0 {k : Nat} : ixN (k + 1) 0 = some 0 := by
  unfold ixN
  rw [if_pos (by omega), if_pos (by omega)]; rfl
theorem ixN_1 {k : Nat} : ixN (k + 1 + 1) 1 = some 1 := by
  unfold ixN
  rw [if_pos (by omega), if_pos (by omega)]; rfl
theorem in63 : -(2 ^ 63) ≤ (2 : Int) ∧ (2 : Int) < 2 ^ 63 := by decide +kernel
theorem pop_2 (h : m[n]? = some (.lst (x :: y :: z :: l))) : gPopAt [.loc n, .int 2] m = .ok z (m.set n (.lst (x :: y :: l))) := by
  have e : seqIndex? 2 (x :: y :: z :: l).length = some 2 := by
    unfold seqIndex?
    simp
    omega
  unfold gPopAt
  simp only [h]
  rw [if_pos in63]
  simp only [e, List.getElem?_cons_succ, List.getElem?_cons_zero]
  rfl
theorem set_set' : (m.set n c).set n c' = m.set n c' := by simp
theorem get_set' (h : n < m.length) : (m.set n c)[n]? = some c := by simp [h]
end
theorem below_ok {m : Store} {n : Nat} {d : RD} (h : m[n]? = some (.lst d.l)) (hd : d.Ok) {k : Int} (k0 : 0 < k) (k1 : k < 1073741824) : f__law_below [.loc n, .int k] m = .ok (.int (d.draw k)) (m.set n (.lst (d.next k).l)) := by
  have hn : n < m.length := (List.getElem?_eq_some_iff.mp h).1
  have gs := fun c => get_set' (c := c) hn
  have hm := fun (i : Int) (m : Store) => gMod_e (i := i) (m := m) k0
  have hf := fun (i : Int) (m : Store) => gFdiv_e (i := i) (m := m) k0 k1
  have hm2 := fun (i : Int) (m : Store) => gMod_e (i := i) (j := 2147483647) (m := m) (by decide)
  have hf2 := fun (i : Int) (m : Store) => gFdiv_e (i := i) (j := 64) (m := m) (by decide) (by decide)
  have hu := fun (i : Int) (m : Store) => gMul_r (i := i) (j := 48271) (m := m) (by decide)
  obtain ⟨a, b, r⟩ := d
  have hb := hd.b
  simp only at hb
  -- the part behind the first test
  have main : ∀ (a b : Int) (r : List Int) (m' : Store), m'[n]? = some (.lst (RD.mk a b r).l) → n < m'.length → (∀ c, m'.set n c = m.set n c) → runK (sSeq (sIf (p2 gGt (p2 gIx (pVar 0) (pC (.int 1))) (pC (.int 0))) (sSeq (sSet 2 (p2 gMod (p2 gIx (pVar 0) (pC (.int 1))) (pVar 1)))
    (sSeq (sSub (pVar 0) (pC (.int 1)) (p2 gFdiv (p2 gIx (pVar 0) (pC (.int 1))) (pVar 1)))
    (sRet (pVar 2)))) sNil)
    (sSeq (sSub (pVar 0) (pC (.int 0)) (p2 gMod (p2 gAdd (p2 gMul (p2 gIx (pVar 0) (pC (.int 0))) (pC (.int 48271))) (pC (.int 11))) (pC (.int 2147483647))))
    (sRet (p2 gMod (p2 gFdiv (p2 gIx (pVar 0) (pC (.int 0))) (pC (.int 64))) (pVar 1)))) [some (.loc n), some (.int k), none] m') =
      .ok (.int (if 0 < b then b % k else ((a * 48271 + 11) % 2147483647) / 64 % k)) (m.set n (.lst (if 0 < b then RD.mk a (b / k) r else RD.mk ((a * 48271 + 11) % 2147483647) b r).l)) := by
    intro a b r m' h' hn' hs
    have h2 : m'[n]? = some (.lst (.int a :: .int b :: r.map .int)) := h'
    by_cases c : 0 < b
    · have hc : decide (0 < b) = true := decide_eq_true c
      os_names h2 hc atI_1 hm hf ixN_1 hs
      rw [if_pos c, if_pos c]; rfl
    · have hc : decide (0 < b) = false := decide_eq_false c
      os_names h2 hc atI_1 hm2 hf2 hu ixN_0 hs gs hm
      rw [if_neg c, if_neg c]; rfl
  unfold f__law_below P__law_below
  rw [runD_2]
  show runK (sSeq _ _ [some (.loc n), some (.int k), none] m) = _
  have h2 : m[n]? = some (.lst (.int a :: .int b :: r.map .int)) := h
  by_cases c : b = 0
  · cases r with
    | nil =>
      have hc : decide (b = 0) = true := decide_eq_true c
      have hl : decide ((2 : Int) < ((0 + 1 + 1 : Nat) : Int)) = false := by decide
      have e := main a b [] m h hn fun _ => rfl
      rw [sSeq_e]
      have e1 : ∀ q p, sIf (pAnd (p2 (gEqS false) (p2 gIx (pVar 0) (pC (.int 1))) (pC (.int 0))) (p2 gGt (pF gLen [(pVar 0)]) (pC (.int 2)))) q p [some (.loc n), some (.int k), none] m = p [some (.loc n), some (.int k), none] m := by
        intro q p
        have hl : decide ((2 : Int) < ((1 + 1 : Nat) : Int)) = false := by decide
        os_names h2 hc atI_1 hl
      rw [e1, sNil_e, ResS.bind_nxt, e]
      unfold RD.draw RD.next RD.norm
      simp only [c, if_true]
    | cons x r =>
      have hc : decide (b = 0) = true := decide_eq_true c
      have hp := pop_2 (l := r.map D.int) h2
      have e := main a x r (m.set n (.lst (.int a :: .int x :: r.map .int))) (gs _) (by rw [List.length_set]; exact hn) fun c => set_set'
      have e1 : sIf (pAnd (p2 (gEqS false) (p2 gIx (pVar 0) (pC (.int 1))) (pC (.int 0))) (p2 gGt (pF gLen [(pVar 0)]) (pC (.int 2)))) (sSub (pVar 0) (pC (.int 1)) (pLm gPopAt (pVar 0) [(pC (.int 2))])) sNil [some (.loc n), some (.int k), none] m = .nxt [some (.loc n), some (.int k), none] (m.set n (.lst (.int a :: .int x :: r.map .int))) := by
        have hl : decide ((2 : Int) < (((r.map D.int).length + 1 + 1 + 1 : Nat) : Int)) = true := decide_eq_true (by omega)
        os_names h2 hc atI_1 hl hp gs ixN_1 set_set'
      rw [sSeq_e, e1, ResS.bind_nxt, e]
      unfold RD.draw RD.next RD.norm
      simp only [c, if_true]
  · have hc : decide (b = 0) = false := decide_eq_false c
    have e := main a b r m h hn fun _ => rfl
    have e1 : ∀ q p, sIf (pAnd (p2 (gEqS false) (p2 gIx (pVar 0) (pC (.int 1))) (pC (.int 0))) (p2 gGt (pF gLen [(pVar 0)]) (pC (.int 2)))) q p [some (.loc n), some (.int k), none] m = p [some (.loc n), some (.int k), none] m := by
      intro q p
      os_names h2 hc atI_1
    rw [sSeq_e, e1, sNil_e, ResS.bind_nxt, e]
    unfold RD.draw RD.next RD.norm
    simp only [if_neg c]
end MT

/-! SP3b: random rows; rooms of texts. -/
namespace MT
open PySem L2
local macro_rules | `(tactic| os_names $xs:ident*) => `(tactic| simp -implicitDefEqProofs only [Bool.not_true, Bool.not_false, decide_true, decide_false, Res.bind_ok, Res.bind_bad, Res.bind_exc, Res.toS_ok, Res.toS_bad, Res.toS_exc, ResS.bind_nxt, ResS.bind_ret, ResS.bind_bad, ResS.bind_exc, bind_ite, toS_ite, bindS_ite, selB_bl, selB_t, selB_f, runK_ite, runK_nxt, runK_ret, runK_bad, runK_exc, runD_0, runD_1, runD_2, runD_3, runD_4, pVar_v, varK_s, pC_e, p1_e, p2_e, pF_e, evL_nil, evL_cons, pIf_e, pAnd_e, pOr_e, pChain_e, pRm_e, rmK_room, pSm_e, smK_s, pLm_e, lmK_e, lmK2_e, pFL_e, plNil_e, plCons_e, plStar_e, plK_tup, plK_fl, pMk_e, pItems_tup, pItems_fl, pMkV_e, mkVK_e, pCm_e, sSeq_e, sSet_e, sRet_e, sExpr_e, sNil_e, sBad_e, sIf_e, optN_some, sAsgT_e, bindT_nm, bindT_2, bindT_3, bindT_4, sPar_e, parK2_e, sPar3_e, parK3_e, optM_some, sSub_e, gSetL_e, setLK_e, sAug_e, augK_e, gSub_e, gAdd_i, gCmp_e, gTup_0, gTup_1, gTup_2, gTup_3, gTup_4, gList_0, gList_1, gList_2, gList_3, gNot_e, gLines_e, gPorts_e, gEqS_i, gIx_l, ixK_e, gIx_t, gIx_f, optR_s, atI_0, gLen_l, lenK_e, gLen_t, gLen_f, gAppend_e, gRev_f, gRevT_e, gTupOf_f, gTupOf_t, gListOf_f, gListOf_t, get_last, set_last, get_2a, get_2b, set_2a, set_2b, len_1, len_2, app_1, pFz_e, fzK_ite, fzK_exc, fzK_bad, dec_t, if_true, if_false, reduceIte, Bool.false_eq_true, wipeD, List.map_cons, List.map_nil, List.cons_append, List.nil_append, List.append_nil, List.replicate_succ, List.replicate_zero, List.set_cons_zero, List.set_cons_succ, Nat.reduceSub, Nat.reduceAdd, List.length_cons, List.length_nil, List.length_set, List.getElem?_cons_zero, List.getElem?_cons_succ, Option.map_some, $[$xs:ident],*])
section
variable {m m1 : Store} {n : Nat} {d d' : D} {l : Store} {c : Cell} {xs : List D}
theorem fzK_old (hl : m1.length = m.length) (ho : OldOk m (m1 ++ l)) (h : frzD (m1 ++ l) m.length 6 d = some d') : fzK m (.ok d (m1 ++ l)) = .ok d' m1 := by
  unfold fzK
  simp only [h]
  rw [if_pos ho, ← hl, List.take_append_of_le_length (Nat.le_refl _), List.take_length]
theorem old_set (hc : ltC m.length c = true) : OldOk m (m.set n c ++ l) := by
  refine ⟨by simp, fun i e hi h => ?_⟩
  rw [List.getElem?_append_left (by simpa using hi)] at h
  by_cases hin : n = i
  · subst hin
    rw [List.getElem?_set_self hi] at h
    cases h
    exact .inr hc
  · rw [List.getElem?_set_ne hin] at h
    exact .inl h
theorem fzK_set (hc : ltC m.length c = true) (hx : ltDs m.length xs = true) : fzK m (.ok (.loc m.length) (m.set n c ++ [.lst xs])) = .ok (.fl xs) (m.set n c) := by
  refine fzK_old (by simp) (old_set hc) (frz_loc (k := 5) (Nat.le_refl _) ?_ hx)
  rw [List.getElem?_append_right (by simp), List.length_set, Nat.sub_self]; rfl
end
theorem RD.lt (d : RD) (n : Nat) : ltC n (.lst d.l) = true := by
  show (true && (true && ltDs n (d.r.map D.int))) = true
  rw [ltDs_int]; rfl
theorem gAbs_e {i : Int} {m : Store} : gAbs [.int i] m = .ok (.int (if i < 0 then -i else i)) m := rfl
def bigI : Int := 1000000000000000000
theorem gPow_18 {m : Store} : gPow [.int 10, .int 18] m = .ok (.int bigI) m := by
  have h : 0 ≤ (18 : Int) ∧ (18 : Int) ≤ 1000000 ∧ (10 : Int).natAbs < 2 ^ 64 := by decide +kernel
  have e : gPow [.int 10, .int 18] m = if 0 ≤ (18 : Int) ∧ (18 : Int) ≤ 1000000 ∧ (10 : Int).natAbs < 2 ^ 64 then .ok (.int ((10 : Int) ^ (18 : Int).toNat)) m else .bad := by unfold gPow; rfl
  rw [e, if_pos h]
  have : ((10 : Int) ^ (18 : Int).toNat) = bigI := by decide +kernel
  rw [this]
theorem random_ok {s : List Int} (hs : s.length ≤ 63) (salt : Int) (m : Store) : ∃ d : RD, d.Ok ∧ f__law_random [.kl (s.map .int), .int salt] m = .ok (.loc m.length) (m ++ [.lst d.l]) ∨ salt < 0 := by
  by_cases h0 : salt < 0
  · exact ⟨⟨0, 0, []⟩, .inr h0⟩
  have hm := fun (i : Int) (m : Store) => gMod_e (i := i) (j := 2147483647) (m := m) (by decide)
  have hu := fun (i : Int) (m : Store) => gMul_r (i := i) (j := 31) (m := m) (by decide)
  have hl : (s.map D.int).length ≤ lim := by rw [List.length_map]; unfold lim; omega
  obtain ⟨ε2, m2, e1, rfl, seed, o, rfl, hseed⟩ := sFor_rel (xs := s.map D.int) (t := .nm 3) (pi := iSeq (pVar 0)) (pb := sSet 2 (p2 gMod (p2 gAdd (p2 gMul (pVar 2) (pC (.int 31))) (pF gAbs [(pVar 3)])) (pC (.int 2147483647)))) (ε := [some (.kl (s.map .int)), some (.int salt), some (.int salt), none]) (m := m) (m1 := m)
    (fun i ε m' => m' = m ∧ ∃ (seed : Int) (o : Option D), ε = [some (.kl (s.map .int)), some (.int salt), some (.int seed), o] ∧ 0 ≤ seed) (iSeq_k (v_ok (i := 0) rfl)) ⟨rfl, salt, none, rfl, by omega⟩ hl fun i x ε m' hx hr => by
      obtain ⟨rfl, seed, o, rfl, hs0⟩ := hr
      rw [List.getElem?_map, Option.map_eq_some_iff] at hx
      obtain ⟨v, hv, rfl⟩ := hx
      refine ⟨_, [some (.kl (s.map .int)), some (.int salt), some (.int ((seed * 31 + (if v < 0 then -v else v)) % 2147483647)), some (.int v)], m', rfl, ?_, rfl, _, _, rfl, Int.emod_nonneg _ (by decide)⟩
      have hb : ([some (D.kl (s.map .int)), some (.int salt), some (.int seed), o]).set 3 (some (D.int v)) = [some (D.kl (s.map .int)), some (.int salt), some (.int seed), some (.int v)] := rfl
      rw [hb]
      os_names hm hu gAbs_e
  have hf : (s.filter fun x => decide (bigI ≤ x)).length ≤ 63 := Nat.le_trans (List.length_filter_le _ _) hs
  refine ⟨⟨seed, 0, s.filter fun x => decide (bigI ≤ x)⟩, .inl ⟨⟨hseed, Int.le_refl _, fun x hx => ?_, hf⟩, ?_⟩⟩
  · have := of_decide_eq_true (List.mem_filter.mp hx).2
    unfold bigI at this; omega
  have e2 : pFz (pLc (iSeq (pVar 0)) [3] (.nm 3) (p2 gGe (pVar 3) (p2 gPow (pC (.int 10)) (pC (.int 18)))) (pVar 3)) [some (.kl (s.map .int)), some (.int salt), some (.int seed), o] m2 = .ok (.fl ((s.filter fun x => decide (bigI ≤ x)).map D.int)) m2 := by
    refine lcz_filter s D.int _ _ (iSeq_k (v_ok (i := 0) rfl)) (by unfold lim; omega) (fun _ _ => rfl) fun i x hx => ⟨[some (.kl (s.map .int)), some (.int salt), some (.int seed), some (.int x)], rfl, fun l => ⟨?_, fun _ => rfl⟩⟩
    have hp := fun m => gPow_18 (m := m)
    os_names hp
  have e3 : pFz (pF gList [(pVar 2), (pC (.int 0))]) [some (.kl (s.map .int)), some (.int salt), some (.int seed), o] m2 = .ok (.fl [.int seed, .int 0]) m2 := by
    have hz := fzK_loc (m := m2) (xs := [.int seed, .int 0]) rfl
    os_names hz
  have hadd := fun m => gAdd_ff (i := [.int seed, .int 0]) (j := (s.filter fun x => decide (bigI ≤ x)).map D.int) (m := m) (by rw [List.length_map]; simp only [List.length_cons, List.length_nil]; unfold lim; omega)
  unfold f__law_random P__law_random
  rw [runD_2]
  show runK (sSeq _ _ [some (.kl (s.map .int)), some (.int salt), none, none] m2) = _
  rw [sSeq_e, sSet_e, pVar_v]
  have hv : varK ([some (D.kl (s.map .int)), some (.int salt), none, none][1]?) m2 = .ok (.int salt) m2 := rfl
  rw [hv, Res.toS_ok, ResS.bind_nxt]
  show runK (sSeq _ _ [some (.kl (s.map .int)), some (.int salt), some (.int salt), none] m2) = _
  rw [sSeq_e, e1, ResS.bind_nxt, sRet_e, p2_e, e3, Res.bind_ok, e2, Res.bind_ok, hadd, Res.toS_ok, runK_ret]
  rfl
/-! ### signs -/
theorem str_dot : ("." : Str) = ⟨#[46]⟩ := by decide +kernel
theorem gInS_rf {c : Nat} {m : Store} : gInS false [.str ⟨#[c]⟩, .str "rf"] m = .ok (.bl (isTurnC c)) m := by
  have e : ("rf" : Str).cps.toList = [114, 102] := by decide +kernel
  have e2 : gInS false [.str ⟨#[c]⟩, .str "rf"] m = .ok (.bl (decide (c ∈ ("rf" : Str).cps.toList))) m := rfl
  rw [e2, e]
  unfold isTurnC
  by_cases h1 : c = 114
  · simp [h1]
  · by_cases h2 : c = 102 <;> simp [h1, h2]
theorem gIx_s {z : Str} {i : Int} {m : Store} (h : z.length ≤ lim) : gIx [.str z, .int i] m = optR ((atI z.cps.toList i).map fun c => D.str ⟨#[c]⟩) m := if_pos h
theorem sign6 {v : Int} (h0 : 0 ≤ v) (h1 : v < 6) : ∃ c, (c = 114 ∨ c = 102 ∨ c = 82 ∨ c = 70) ∧ ∀ m, gIx [.str "rfrfRF", .int v] m = .ok (.str ⟨#[c]⟩) m := by
  have e : ("rfrfRF" : Str).cps.toList = [114, 102, 114, 102, 82, 70] := by decide +kernel
  have hl : ("rfrfRF" : Str).length ≤ lim := by decide +kernel
  have hv : v = 0 ∨ v = 1 ∨ v = 2 ∨ v = 3 ∨ v = 4 ∨ v = 5 := by omega
  rcases hv with rfl | rfl | rfl | rfl | rfl | rfl
  · exact ⟨114, by decide, fun m => by rw [gIx_s hl, e]; rfl⟩
  · exact ⟨102, by decide, fun m => by rw [gIx_s hl, e]; rfl⟩
  · exact ⟨114, by decide, fun m => by rw [gIx_s hl, e]; rfl⟩
  · exact ⟨102, by decide, fun m => by rw [gIx_s hl, e]; rfl⟩
  · exact ⟨82, by decide, fun m => by rw [gIx_s hl, e]; rfl⟩
  · exact ⟨70, by decide, fun m => by rw [gIx_s hl, e]; rfl⟩
theorem sign2 {v : Int} (h0 : 0 ≤ v) (h1 : v < 2) : ∃ c, (c = 82 ∨ c = 70) ∧ ∀ m, gIx [.str "RF", .int v] m = .ok (.str ⟨#[c]⟩) m := by
  have e : ("RF" : Str).cps.toList = [82, 70] := by decide +kernel
  have hl : ("RF" : Str).length ≤ lim := by decide +kernel
  have hv : v = 0 ∨ v = 1 := by omega
  rcases hv with rfl | rfl
  · exact ⟨82, by decide, fun m => by rw [gIx_s hl, e]; rfl⟩
  · exact ⟨70, by decide, fun m => by rw [gIx_s hl, e]; rfl⟩
theorem strOf_app (l : List Nat) (c : Nat) : strOf l ++ ⟨#[c]⟩ = strOf (l ++ [c]) := by
  apply str_ext'
  rw [app_cps]
  simp [strOf]
theorem strOf_nil : strOf [] = "" := by decide +kernel
/-! ### random rows -/
noncomputable def bodyL : PgS := sSeq (sSet 11 (pIf (p2 gLt (pF (f__law_below) [(pVar 0), (pC (.int 5))]) (pVar 7)) (pC (.str ".")) (p2 gIx (pC (.str "rfrfRF")) (pF (f__law_below) [(pVar 0), (pC (.int 6))]))))
    (sSeq (sIf (p2 (gInS false) (pVar 11) (pC (.str "rf"))) (sAsgT (.tp [11, 6]) (pIf (p2 gGt (pVar 6) (pC (.int 0))) (pF gTup [(pVar 11), (p2 gSub (pVar 6) (pC (.int 1)))]) (pF gTup [(p2 gIx (pC (.str "RF")) (pF (f__law_below) [(pVar 0), (pC (.int 2))])), (pC (.int 0))]))) sNil)
    (sSet 9 (p2 gAdd (pVar 9) (pVar 11))))
def envL (n : Nat) (most turn h w : Int) (k : Nat) (left dense : Int) (o8 : Option D) (line : List Nat) (o10 o11 : Option D) : EnvD :=
  [some (.loc n), some (.int most), some (.int turn), some (.int h), some (.int w), some (.loc k), some (.int left), some (.int dense), o8, some (.str (strOf line)), o10, o11]
theorem tile_step {m : Store} {n : Nat} {d : RD} (h : m[n]? = some (.lst d.l)) (hd : d.Ok) {most turn hh ww dense left : Int} {k : Nat} {o8 o10 o11 : Option D} {line : List Nat} (hl : line.length ≤ 100) (h0 : 0 ≤ left) :
    ∃ (c : Nat) (d' : RD) (left' : Int) (o : Option D), d'.Ok ∧ isSignC c = true ∧ 0 ≤ left' ∧ (cntT [c] : Nat) + left' ≤ left ∧
      bodyL (envL n most turn hh ww k left dense o8 line o10 o11) m = .nxt (envL n most turn hh ww k left' dense o8 (line ++ [c]) o10 o) (m.set n (.lst d'.l)) := by
  have hn : n < m.length := (List.getElem?_eq_some_iff.mp h).1
  have gs := fun c => get_set' (c := c) hn
  have hadd : ∀ c m, gAdd [.str (strOf line), .str ⟨#[c]⟩] m = .ok (.str (strOf (line ++ [c]))) m := fun c m => by
    rw [gAdd_s, strOf_app]
    have : (strOf line).length = line.length := by simp [strOf, Str.length]
    rw [this]
    show line.length + 1 ≤ lim
    unfold lim; omega
  have b5 := below_ok h hd (k := 5) (by decide) (by decide)
  have d1 := hd.next (k := 5) (by decide)
  have hrf := fun c m => gInS_rf (c := c) (m := m)
  unfold bodyL envL
  by_cases c1 : d.draw 5 < dense
  · have hc : decide (d.draw 5 < dense) = true := decide_eq_true c1
    refine ⟨46, d.next 5, left, some (.str ⟨#[46]⟩), d1, rfl, h0, by show ((0 : Nat) : Int) + left ≤ left; omega, ?_⟩
    have ht : isTurnC 46 = false := rfl
    os_names b5 hc str_dot hrf ht hadd
  · have hc : decide (d.draw 5 < dense) = false := decide_eq_false c1
    have b6 := below_ok (gs _) d1 (k := 6) (by decide) (by decide)
    have i6 := (d.next 5).draw_in (k := 6) (by decide)
    have d2 := d1.next (k := 6) (by decide)
    obtain ⟨c, hcs, hg⟩ := sign6 i6.1 i6.2
    have hs : isSignC c = true := by rcases hcs with rfl | rfl | rfl | rfl <;> rfl
    cases ht : isTurnC c with
    | false =>
      refine ⟨c, (d.next 5).next 6, left, some (.str ⟨#[c]⟩), d2, hs, h0, ?_, ?_⟩
      · have : cntT [c] = 0 := by unfold cntT; rw [List.filter_cons_of_neg (by rw [ht]; simp)]; rfl
        rw [this]; omega
      · os_names b5 hc b6 set_set' hg hrf ht hadd
    | true =>
      have hct : cntT [c] = 1 := by unfold cntT; rw [List.filter_cons_of_pos ht]; rfl
      by_cases c2 : 0 < left
      · have hc2 : decide (0 < left) = true := decide_eq_true c2
        refine ⟨c, (d.next 5).next 6, left - 1, some (.str ⟨#[c]⟩), d2, hs, by omega, by rw [hct]; omega, ?_⟩
        os_names b5 hc b6 set_set' hg hrf ht hadd hc2
      · have hc2 : decide (0 < left) = false := decide_eq_false c2
        have b2 := below_ok (gs _) d2 (k := 2) (by decide) (by decide)
        have i2 := ((d.next 5).next 6).draw_in (k := 2) (by decide)
        have d3 := d2.next (k := 2) (by decide)
        obtain ⟨e, hes, hge⟩ := sign2 i2.1 i2.2
        refine ⟨e, ((d.next 5).next 6).next 2, 0, some (.str ⟨#[e]⟩), d3, by rcases hes with rfl | rfl <;> rfl, by omega, ?_, ?_⟩
        · have : cntT [e] = 0 := by rcases hes with rfl | rfl <;> rfl
          rw [this]; omega
        · os_names b5 hc b6 set_set' hg hrf ht hadd hc2 b2 hge
/-- random rows: G of h rows and w columns, at most t mirrors that turn -/
structure RowsOk (G : List (List Nat)) (h w : Nat) (t : Int) : Prop where
  R : Rect G h w
  sg : ∀ l ∈ G, ∀ c ∈ l, isSignC c = true
  ct : (((G.map cntT).sum : Nat) : Int) ≤ t
theorem iR1_v {ε : EnvD} {m : Store} {i n : Nat} (h : ε[i]? = some (some (.int n))) (hn : n ≤ lim) : iR1 (pVar i) ε m = .ok (nxF (rngD 0 n)) m := iR1_n (v_ok h) hn
theorem rng_get {n i : Nat} {x : D} (h : (rngD 0 n)[i]? = some x) : i < n ∧ x = .int i := by
  unfold rngD at h
  rw [List.getElem?_map, Option.map_eq_some_iff] at h
  obtain ⟨j, hj, rfl⟩ := h
  have hi := (List.getElem?_eq_some_iff.mp hj).1
  rw [List.length_range] at hi
  rw [List.getElem?_range hi] at hj
  cases hj
  exact ⟨hi, by rw [Int.zero_add]⟩
theorem rng_len {n : Nat} : (rngD 0 n).length = n := by simp [rngD]
theorem set_same {m : Store} {n : Nat} {c : Cell} (h : m[n]? = some c) : m.set n c = m := by
  apply List.ext_getElem?
  intro j
  by_cases hj : n = j
  · subst hj; rw [List.getElem?_set_self (List.getElem?_eq_some_iff.mp h).1, h]
  · rw [List.getElem?_set_ne hj]
theorem row_loop {m : Store} {n : Nat} {d : RD} (h : m[n]? = some (.lst d.l)) (hd : d.Ok) {most turn hh dense left : Int} {ww k : Nat} {o8 o10 o11 : Option D} (hw : ww ≤ 8) (h0 : 0 ≤ left) :
    ∃ (l : List Nat) (d' : RD) (left' : Int) (p10 p11 : Option D), d'.Ok ∧ l.length = ww ∧ (∀ c ∈ l, isSignC c = true) ∧ 0 ≤ left' ∧ (cntT l : Nat) + left' ≤ left ∧
      sFor (iR1 (pVar 4)) (.nm 10) bodyL (envL n most turn hh ww k left dense o8 [] o10 o11) m = .nxt (envL n most turn hh ww k left' dense o8 l p10 p11) (m.set n (.lst d'.l)) := by
  have hn : n < m.length := (List.getElem?_eq_some_iff.mp h).1
  obtain ⟨ε2, m2, e, l, d', left', a, b, h1, h2, h3, h4, h5, rfl, rfl⟩ := sFor_rel (xs := rngD 0 ww) (t := .nm 10) (pi := iR1 (pVar 4)) (pb := bodyL) (ε := envL n most turn hh ww k left dense o8 [] o10 o11) (m := m) (m1 := m)
    (fun i ε m' => ∃ (l : List Nat) (d' : RD) (left' : Int) (o10 o11 : Option D), d'.Ok ∧ l.length = i ∧ (∀ c ∈ l, isSignC c = true) ∧ 0 ≤ left' ∧ (cntT l : Nat) + left' ≤ left ∧ ε = envL n most turn hh ww k left' dense o8 l o10 o11 ∧ m' = m.set n (.lst d'.l))
    (iR1_v (n := ww) rfl (by unfold lim; omega)) ⟨[], d, left, o10, o11, hd, rfl, List.forall_mem_nil _, h0, (by show ((0 : Nat) : Int) + left ≤ left; omega), rfl, (set_same h).symm⟩ (by rw [rng_len]; unfold lim; omega) fun i x ε m' hx hr => by
      obtain ⟨l, d', left', a, b, h1, h2, h3, h4, h5, rfl, rfl⟩ := hr
      obtain ⟨hi, rfl⟩ := rng_get hx
      obtain ⟨c, d2, left2, o, k1, k2, k3, k4, k5⟩ := tile_step (m := m.set n (.lst d'.l)) (n := n) (get_set' hn) h1 (most := most) (turn := turn) (hh := hh) (ww := ww) (dense := dense) (left := left') (k := k) (o8 := o8) (o10 := some (.int i)) (o11 := b) (line := l) (by omega) h4
      refine ⟨envL n most turn hh ww k left' dense o8 l (some (.int i)) b, _, _, rfl, k5, l ++ [c], d2, left2, some (.int i), o, k1, by simp [h2], fun e he => ?_, k3, ?_, rfl, set_set'⟩
      · rcases List.mem_append.mp he with he | he
        · exact h3 e he
        · rw [List.mem_singleton.mp he]; exact k2
      · rw [cntT_app]; omega
  exact ⟨l, d', left', a, b, h1, by rw [h2, rng_len], h3, h4, h5, e⟩
noncomputable def bodyR : PgS := sSeq (sSet 9 (pC (.str ""))) (sSeq (sFor (iR1 (pVar 4)) (.nm 10) bodyL) (sExpr (pLm gAppend (pVar 5) [(pVar 9)])))
theorem lines_law {m : Store} {n : Nat} {d : RD} (h : m[n]? = some (.lst d.l)) (hd : d.Ok) {most : Nat} (m1 : 1 ≤ most) (m8 : most ≤ 8) {turn : Int} (t0 : 0 ≤ turn) :
    ∃ (d' : RD) (G : List (List Nat)) (hh ww : Nat), d'.Ok ∧ RowsOk G hh ww turn ∧ 1 ≤ hh ∧ hh ≤ most ∧ 1 ≤ ww ∧ ww ≤ most ∧
      fzF f__law_lines [.loc n, .int most, .int turn] m = .ok (.fl ((roomOf G).map .str)) (m.set n (.lst d'.l)) := by
  have hn : n < m.length := (List.getElem?_eq_some_iff.mp h).1
  have gs := fun c => get_set' (c := c) hn
  have ba := below_ok h hd (k := most) (by omega) (by omega)
  have ia := d.draw_in (k := most) (by omega)
  have da := hd.next (k := most) (by omega)
  have bb := below_ok (gs _) da (k := most) (by omega) (by omega)
  have ib := (d.next most).draw_in (k := most) (by omega)
  have db := da.next (k := most) (by omega)
  have bc := below_ok (m := m.set n (.lst ((d.next most).next most).l) ++ [.lst []]) (n := n) (d := (d.next most).next most) (by rw [List.getElem?_append_left (by simpa using hn)]; exact gs _) db (k := 4) (by decide) (by decide)
  have dc := db.next (k := 4) (by decide)
  obtain ⟨hh, ehh⟩ : ∃ hh : Nat, 1 + d.draw most = hh := ⟨(1 + d.draw most).toNat, by omega⟩
  obtain ⟨ww, eww⟩ : ∃ ww : Nat, 1 + (d.next most).draw most = ww := ⟨(1 + (d.next most).draw most).toNat, by omega⟩
  have set_app : ∀ (c : Cell) (d : RD) (l : Store), (m.set n (.lst d.l) ++ l).set n c = m.set n c ++ l := fun c d l => by
    rw [List.set_append_left _ _ (by simpa using hn), set_set']
  -- the loop over the rows
  obtain ⟨ε2, m2, e2, G, d', left', a, b, o9, c, k1, k2, k3, k4, k5, rfl, rfl⟩ := sFor_rel (xs := rngD 0 hh) (t := .nm 8) (pi := iR1 (pVar 3)) (pb := bodyR) (ε := [some (.loc n), some (.int most), some (.int turn), some (.int hh), some (.int ww), some (.loc m.length), some (.int turn), some (.int (1 + ((d.next most).next most).draw 4)), none, none, none, none]) (m := m.set n (.lst (((d.next most).next most).next 4).l) ++ [.lst []]) (m1 := m.set n (.lst (((d.next most).next most).next 4).l) ++ [.lst []])
    (fun i ε m' => ∃ (G : List (List Nat)) (d' : RD) (left' : Int) (o8 o9 o10 o11 : Option D), d'.Ok ∧ Rect G i ww ∧ (∀ l ∈ G, ∀ c ∈ l, isSignC c = true) ∧ 0 ≤ left' ∧ (((G.map cntT).sum : Nat) : Int) + left' ≤ turn ∧
      ε = [some (.loc n), some (.int most), some (.int turn), some (.int hh), some (.int ww), some (.loc m.length), some (.int left'), some (.int (1 + ((d.next most).next most).draw 4)), o8, o9, o10, o11] ∧ m' = m.set n (.lst d'.l) ++ [.lst ((roomOf G).map .str)])
    (iR1_v (n := hh) rfl (by unfold lim; omega)) ⟨[], _, turn, none, none, none, none, dc, ⟨rfl, List.forall_mem_nil _⟩, List.forall_mem_nil _, t0, (by show ((0 : Nat) : Int) + turn ≤ turn; omega), rfl, rfl⟩ (by rw [rng_len]; unfold lim; omega) fun i x ε m' hx hr => by
      obtain ⟨G, d', left', o8, o9, o10, o11, k1, k2, k3, k4, k5, rfl, rfl⟩ := hr
      obtain ⟨hi, rfl⟩ := rng_get hx
      obtain ⟨l, d2, left2, a10, a11, q1, q2, q3, q4, q5, q6⟩ := row_loop (m := m.set n (.lst d'.l) ++ [.lst ((roomOf G).map .str)]) (n := n) (by rw [List.getElem?_append_left (by simpa using hn)]; exact gs _) k1 (most := most) (turn := turn) (hh := hh) (dense := 1 + ((d.next most).next most).draw 4) (left := left') (ww := ww) (k := m.length) (o8 := some (.int i)) (o10 := o10) (o11 := o11) (by omega) k4
      rw [set_app] at q6
      have hap := fun n d m => apK_e (n := n) (d := d) (m := m) (xs := (roomOf G).map D.str) (by
        rw [List.length_map]; unfold roomOf; rw [List.length_map, k2.1]; unfold lim; omega)
      have gl : (m.set n (.lst d2.l) ++ [Cell.lst ((roomOf G).map D.str)])[m.length]? = some (.lst ((roomOf G).map D.str)) := by
        rw [List.getElem?_append_right (by simp), List.length_set, Nat.sub_self]; rfl
      have sl : ∀ c, (m.set n (.lst d2.l) ++ [Cell.lst ((roomOf G).map D.str)]).set m.length c = m.set n (.lst d2.l) ++ [c] := fun c => by
        rw [List.set_append_right _ _ (by simp), List.length_set, Nat.sub_self]; rfl
      refine ⟨_, envL n most turn hh ww m.length left2 (1 + ((d.next most).next most).draw 4) (some (.int i)) l a10 a11, m.set n (.lst d2.l) ++ [.lst ((roomOf (G ++ [l])).map .str)], rfl, ?_, G ++ [l], d2, left2, _, _, _, _, q1, ⟨by simp [k2.1], fun z hz => ?_⟩, fun z hz => ?_, q4, ?_, rfl, rfl⟩
      · unfold bodyR
        rw [sSeq_e, sSet_e, pC_e, Res.toS_ok, ResS.bind_nxt, sSeq_e]
        have hE : ([some (D.loc n), some (.int most), some (.int turn), some (.int hh), some (.int ww), some (.loc m.length), some (.int left'), some (.int (1 + ((d.next most).next most).draw 4)), o8, o9, o10, o11].set 8 (some (.int i))).set 9 (some (.str "")) = envL n most turn hh ww m.length left' (1 + ((d.next most).next most).draw 4) (some (.int i)) [] o10 o11 := by
          unfold envL; rw [strOf_nil]; rfl
        rw [hE, q6, ResS.bind_nxt]
        unfold envL
        os_names gl hap sl
        unfold roomOf
        rw [List.map_append, List.map_append]; rfl
      · rcases List.mem_append.mp hz with hz | hz
        · exact k2.2 z hz
        · rw [List.mem_singleton.mp hz]; exact q2
      · rcases List.mem_append.mp hz with hz | hz
        · exact k3 z hz
        · rw [List.mem_singleton.mp hz]; exact q3
      · rw [List.map_append, List.sum_append]
        show (((_ + (cntT l + 0) : Nat)) : Int) + left2 ≤ turn
        omega
  rw [rng_len] at k2
  refine ⟨d', G, hh, ww, k1, ⟨k2, k3, by omega⟩, by omega, by omega, by omega, by omega, ?_⟩
  have e : f__law_lines [.loc n, .int most, .int turn] m = .ok (.loc m.length) (m.set n (.lst d'.l) ++ [.lst ((roomOf G).map .str)]) := by
    unfold f__law_lines P__law_lines
    rw [runD_3]
    show runK (sSeq _ (sSeq _ (sSeq (sFor (iR1 (pVar 3)) (.nm 8) bodyR) (sRet (pVar 5)))) [some (.loc n), some (.int most), some (.int turn), none, none, none, none, none, none, none, none, none] m) = _
    have ll : (m.set n (.lst ((d.next most).next most).l)).length = m.length := List.length_set ..
    have sa := fun c => set_app c ((d.next most).next most) [.lst []]
    os_names ba bb set_set' ehh eww ll bc sa e2
  rw [fzF_e, e]
  exact fzK_set (d'.lt _) ltDs_str
end MT

/-! SP4: ways back. -/
namespace MT
open PySem L2
theorem Bm.rev_it {x : Bm} {k : Nat} : ∀ {j : Nat}, j ≤ k → Bm.it j (Bm.it k x).rev = (Bm.it (k - j) x).rev
  | 0, _ => by rw [Nat.sub_zero]; rfl
  | j + 1, h => by
    show (Bm.it j (Bm.it k x).rev).step = _
    rw [Bm.rev_it (j := j) (by omega)]
    obtain ⟨i, hi⟩ : ∃ i, k - j = i + 1 := ⟨k - j - 1, by omega⟩
    rw [hi, show k - (j + 1) = i by omega]
    show (Bm.it i x).step.rev.step = _
    rw [Bm.step_rev]
theorem gridF_flip (G : List (List Nat)) (i j : Int) : gridF (flipL G) i j = flipC (gridF G i j) := by
  unfold gridF
  split
  · exact cell_flip G i j
  · rfl
theorem grid_ext {G G' : List (List Nat)} {h w : Nat} (R : Rect G h w) (R' : Rect G' h w) (e : ∀ i j : Int, gridF G i j = gridF G' i j) : G = G' := by
  apply List.ext_getElem
  · rw [R.1, R'.1]
  · intro i h1 h2
    have l1 := R.2 _ (List.getElem_mem h1)
    have l2 := R'.2 _ (List.getElem_mem h2)
    apply List.ext_getElem
    · rw [l1, l2]
    · intro j k1 k2
      have := e i j
      rw [gridF_get (List.getElem?_eq_getElem h1) (List.getElem?_eq_getElem k1), gridF_get (List.getElem?_eq_getElem h2) (List.getElem?_eq_getElem k2)] at this
      exact this
theorem tiles_map : ∀ (k : Nat) (s : Bl), Bl.tiles k s = (List.range k).map fun j => ((Bl.it j s).r, (Bl.it j s).c)
  | 0, _ => rfl
  | k + 1, s => by
    rw [List.range_succ_eq_map, List.map_cons, List.map_map]
    show (s.r, s.c) :: Bl.tiles k s.step = _
    rw [tiles_map k s.step]
    rfl
theorem it_succ : ∀ (k : Nat) (s : Bl), Bl.it (k + 1) s = (Bl.it k s).step
  | 0, _ => rfl
  | k + 1, s => it_succ k s.step
theorem way_it : ∀ (k : Nat) (s : Bl), Way s.v → Way (Bl.it k s).v
  | 0, _, a => a
  | k + 1, s, a => way_it k s.step (a.throw _)
theorem flip_flipL (G : List (List Nat)) : flipL (flipL G) = G := by
  unfold flipL
  rw [List.map_map]
  conv => rhs; rw [← List.map_id G]
  refine List.map_congr_left fun l _ => ?_
  show (l.map flipC).map flipC = l
  rw [List.map_map]
  conv => rhs; rw [← List.map_id l]
  exact List.map_congr_left fun c _ => flip_flip c
theorem flip_flipR (ls : List Str) : flipR (flipR ls) = ls := by
  unfold flipR
  rw [grid_room, flip_flipL, room_grid]
theorem start_way (ls : List Str) (p : Int) : Way (startB ls p).v := entry_way _ _ _
theorem start_in {ls : List Str} (hv : Valid ls) {p : Int} (hp : PortOk ls p) : (startB ls p).Ins (heightS ls) (widthS ls) := by
  have hn := hv.np
  have hp' : p < 2 * (((heightS ls : Nat) : Int) + ((widthS ls : Nat) : Int)) := by have := hp.2; unfold nPorts at this; omega
  exact entry_in (by omega) (by omega) hp.1 hp'
structure Back (ls : List Str) (p : Int) : Prop where
  port : PortOk ls (exitP ls p)
  exit : exitP (flipR (afterP ls p)) (exitP ls p) = p
  after : afterP (flipR (afterP ls p)) (exitP ls p) = flipR ls
  tiles : tilesP (flipR (afterP ls p)) (exitP ls p) = (tilesP ls p).reverse
theorem back_ok {ls : List Str} (hv : Valid ls) {p : Int} (hp : PortOk ls p) : Back ls p := by
  have hn := hv.np
  have S := steps_ok hv hp
  have hp' : p < 2 * (((heightS ls : Nat) : Int) + ((widthS ls : Nat) : Int)) := by have := hp.2; unfold nPorts at this; omega
  obtain ⟨v1, v2, v3⟩ := after_valid hv hp
  obtain ⟨f1, f2, f3⟩ := flip_valid v1
  have R0 := rect_room hv
  obtain ⟨k, hk⟩ : ∃ k, stepsP ls p = k := ⟨_, rfl⟩
  have ins := S.ins
  have out := S.out
  unfold endP at out
  rw [hk] at ins out
  have k1 : 1 ≤ k := by
    rcases Nat.eq_zero_or_pos k with z | z
    · subst z
      exact absurd (start_in hv hp) out
    · exact z
  obtain ⟨k', rfl⟩ : ∃ k', k = k' + 1 := ⟨k - 1, by omega⟩
  have eb : ∀ i, i ≤ k' + 1 → (Bl.it i (startB ls p)).bf = Bm.it i (startB ls p).bf ∧ Rect (Bl.it i (startB ls p)).G (heightS ls) (widthS ls) := fun i hi => Bl.bf_it i _ R0 fun j hj => ins j (by omega)
  have last := ins k' (by omega)
  obtain ⟨l0, l1, l2, l3⟩ := last
  have eU : Bl.it (k' + 1) (startB ls p) = (Bl.it k' (startB ls p)).step := it_succ _ _
  have wayv : Way (Bl.it (k' + 1) (startB ls p)).v := way_it _ _ (start_way ls p)
  have er : (Bl.it (k' + 1) (startB ls p)).r = (Bl.it k' (startB ls p)).r + (Bl.it (k' + 1) (startB ls p)).v.1 := by rw [eU]; rfl
  have ec : (Bl.it (k' + 1) (startB ls p)).c = (Bl.it k' (startB ls p)).c + (Bl.it (k' + 1) (startB ls p)).v.2 := by rw [eU]; rfl
  have out' : ¬ (0 ≤ (Bl.it k' (startB ls p)).r + (Bl.it (k' + 1) (startB ls p)).v.1 ∧ (Bl.it k' (startB ls p)).r + (Bl.it (k' + 1) (startB ls p)).v.1 < (heightS ls : Nat) ∧ 0 ≤ (Bl.it k' (startB ls p)).c + (Bl.it (k' + 1) (startB ls p)).v.2 ∧ (Bl.it k' (startB ls p)).c + (Bl.it (k' + 1) (startB ls p)).v.2 < (widthS ls : Nat)) := by
    rw [← er, ← ec]; exact out
  have eE : exitP ls p = exitW (heightS ls) (widthS ls) ((Bl.it k' (startB ls p)).r + (Bl.it (k' + 1) (startB ls p)).v.1) ((Bl.it k' (startB ls p)).c + (Bl.it (k' + 1) (startB ls p)).v.2) := by
    unfold exitP endP
    rw [hk, ← er, ← ec]
  have xp := exit_port wayv l0 l1 l2 l3 out'
  have xe := entry_exit wayv l0 l1 l2 l3 out'
  rw [← eE] at xp xe
  have hport : PortOk ls (exitP ls p) := ⟨xp.1, by unfold nPorts; have := xp.2; omega⟩
  have hh : heightS (flipR (afterP ls p)) = heightS ls := f2.trans v2
  have hw : widthS (flipR (afterP ls p)) = widthS ls := f3.trans v3
  -- the way back starts where the beam left
  have eG : gridL (flipR (afterP ls p)) = flipL (Bl.it (k' + 1) (startB ls p)).G := by
    unfold flipR
    rw [grid_room]
    unfold afterP endP
    rw [hk, grid_room]
  have ez : startB (flipR (afterP ls p)) (exitP ls p) = ⟨flipL (Bl.it (k' + 1) (startB ls p)).G, (Bl.it k' (startB ls p)).r, (Bl.it k' (startB ls p)).c, negW (Bl.it (k' + 1) (startB ls p)).v⟩ := by
    unfold startB
    rw [hh, hw, xe, eG]; rfl
  obtain ⟨z, hz⟩ : ∃ z, startB (flipR (afterP ls p)) (exitP ls p) = z := ⟨_, rfl⟩
  have ezb : z.bf = (Bm.it (k' + 1) (startB ls p).bf).rev := by
    rw [← (eb (k' + 1) (Nat.le_refl _)).1, ← hz, ez]
    unfold Bl.bf Bm.rev
    congr 1
    · funext i j; exact gridF_flip _ i j
    · show (Bl.it k' (startB ls p)).r = (Bl.it (k' + 1) (startB ls p)).r - (Bl.it (k' + 1) (startB ls p)).v.1
      rw [er]; omega
    · show (Bl.it k' (startB ls p)).c = (Bl.it (k' + 1) (startB ls p)).c - (Bl.it (k' + 1) (startB ls p)).v.2
      rw [ec]; omega
  have Rz : Rect z.G (heightS ls) (widthS ls) := by
    rw [← hz, ez]
    have R1 := (eb (k' + 1) (Nat.le_refl _)).2
    exact ⟨by unfold flipL; rw [List.length_map]; exact R1.1, fun l hl => by
      obtain ⟨q, hq, rfl⟩ := List.mem_map.mp hl
      rw [List.length_map]; exact R1.2 q hq⟩
  -- its places
  have pos : ∀ i, i < k' + 1 → ((Bm.it (i + 1) (startB ls p).bf).rev.r, (Bm.it (i + 1) (startB ls p).bf).rev.c) = ((Bl.it i (startB ls p)).r, (Bl.it i (startB ls p)).c) := by
    intro i hi
    have e1 := (eb i (by omega)).1
    have e2 : Bm.it (i + 1) (startB ls p).bf = (Bm.it i (startB ls p).bf).step := rfl
    rw [e2, ← e1]
    unfold Bm.rev Bm.step Bl.bf
    simp only [Prod.mk.injEq]
    constructor <;> omega
  have insz : ∀ j, j < k' + 1 → (∀ i, i < j → (Bl.it i z).Ins (heightS ls) (widthS ls)) ∧ (Bl.it j z).Ins (heightS ls) (widthS ls) ∧ ((Bl.it j z).r, (Bl.it j z).c) = ((Bl.it (k' - j) (startB ls p)).r, (Bl.it (k' - j) (startB ls p)).c) := by
    intro j
    induction j with
    | zero =>
      intro hj
      have hp0 := pos k' (by omega)
      have e0 : (z.r, z.c) = ((Bl.it k' (startB ls p)).r, (Bl.it k' (startB ls p)).c) := by rw [← hz, ez]
      refine ⟨fun i hi => absurd hi (Nat.not_lt_zero _), ?_, e0⟩
      have e1 : z.r = (Bl.it k' (startB ls p)).r := congrArg Prod.fst e0
      have e2 : z.c = (Bl.it k' (startB ls p)).c := congrArg Prod.snd e0
      show 0 ≤ z.r ∧ z.r < _ ∧ 0 ≤ z.c ∧ z.c < _
      rw [e1, e2]
      exact ins k' (by omega)
    | succ j ih =>
      intro hj
      obtain ⟨a, b, _⟩ := ih (by omega)
      have all : ∀ i, i < j + 1 → (Bl.it i z).Ins (heightS ls) (widthS ls) := fun i hi => by
        rcases Nat.lt_succ_iff_lt_or_eq.mp hi with q | q
        · exact a i q
        · rw [q]; exact b
      have e := (Bl.bf_it (j + 1) z Rz all).1
      rw [ezb, Bm.rev_it (by omega), show k' + 1 - (j + 1) = (k' - (j + 1)) + 1 by omega] at e
      have e0 : ((Bl.it (j + 1) z).r, (Bl.it (j + 1) z).c) = ((Bl.it (k' - (j + 1)) (startB ls p)).r, (Bl.it (k' - (j + 1)) (startB ls p)).c) := by
        rw [← pos (k' - (j + 1)) (by omega), ← e]; rfl
      refine ⟨all, ?_, e0⟩
      have e1 : (Bl.it (j + 1) z).r = (Bl.it (k' - (j + 1)) (startB ls p)).r := congrArg Prod.fst e0
      have e2 : (Bl.it (j + 1) z).c = (Bl.it (k' - (j + 1)) (startB ls p)).c := congrArg Prod.snd e0
      show 0 ≤ (Bl.it (j + 1) z).r ∧ (Bl.it (j + 1) z).r < _ ∧ 0 ≤ (Bl.it (j + 1) z).c ∧ (Bl.it (j + 1) z).c < _
      rw [e1, e2]
      exact ins _ (by omega)
  have allz : ∀ i, i < k' + 1 → (Bl.it i z).Ins (heightS ls) (widthS ls) := fun i hi => (insz i hi).2.1
  have endz := Bl.bf_it (k' + 1) z Rz allz
  have endb : (Bl.it (k' + 1) z).bf = (startB ls p).bf.rev := by rw [endz.1, ezb, Bm.rev_it (Nat.le_refl _), Nat.sub_self]; rfl
  have er2 : (Bl.it (k' + 1) z).r = (startB ls p).r - (startB ls p).v.1 := congrArg Bm.r endb
  have ec2 : (Bl.it (k' + 1) z).c = (startB ls p).c - (startB ls p).v.2 := congrArg Bm.c endb
  have outz : ¬ (Bl.it (k' + 1) z).Ins (heightS ls) (widthS ls) := by
    show ¬ (0 ≤ (Bl.it (k' + 1) z).r ∧ (Bl.it (k' + 1) z).r < _ ∧ 0 ≤ (Bl.it (k' + 1) z).c ∧ (Bl.it (k' + 1) z).c < _)
    rw [er2, ec2]
    exact entry_out (by omega) (by omega) hp.1 hp'
  have ek : stepsP (flipR (afterP ls p)) (exitP ls p) = k' + 1 := by
    unfold stepsP
    rw [hz, hh, hw]
    exact stepsB_eq allz outz
  have eend : endP (flipR (afterP ls p)) (exitP ls p) = Bl.it (k' + 1) z := by
    unfold endP
    rw [ek, hz]
  refine ⟨hport, ?_, ?_, ?_⟩
  · show exitW (heightS (flipR (afterP ls p))) (widthS (flipR (afterP ls p))) (endP (flipR (afterP ls p)) (exitP ls p)).r (endP (flipR (afterP ls p)) (exitP ls p)).c = p
    rw [eend, hh, hw, er2, ec2]
    exact exit_entry (by omega) (by omega) hp.1 hp'
  · show roomOf (endP (flipR (afterP ls p)) (exitP ls p)).G = _
    rw [eend]
    have : (Bl.it (k' + 1) z).G = flipL (gridL ls) := by
      refine grid_ext endz.2 (VG.room hv).flip.R fun i j => ?_
      have e := congrArg (fun b => Bm.g b i j) endb
      rw [gridF_flip]
      exact e
    rw [this]; rfl
  · unfold tilesP
    rw [ek, hz, hk, tiles_map, tiles_map]
    apply List.ext_getElem
    · simp
    · intro i h1 h2
      have hi : i < k' + 1 := by simpa using h1
      rw [List.getElem_reverse, List.getElem_map, List.getElem_map, List.getElem_range, List.getElem_range]
      have := (insz i hi).2.2
      rw [this]
      congr 2 <;> (congr 1; simp)
theorem ports_flip {ls : List Str} (hv : Valid ls) : nPorts (flipR ls) = nPorts ls := let ⟨_, a, b⟩ := flip_valid hv; ports_same a b
theorem ports_after {ls : List Str} (hv : Valid ls) {p : Int} (hp : PortOk ls p) : nPorts (afterP ls p) = nPorts ls := let ⟨_, a, b⟩ := after_valid hv hp; ports_same a b
theorem send_exits : ∀ (ps : List Int) {ls : List Str}, Valid ls → (∀ p ∈ ps, PortOk ls p) → ∀ e ∈ (sendN ls ps).1, PortOk ls e
  | [], _, _, _, e, he => by cases he
  | p :: ps, ls, hv, hp, e, he => by
    have hp0 := hp p List.mem_cons_self
    have np := ports_after hv hp0
    rcases List.mem_cons.mp he with rfl | he
    · exact (back_ok hv hp0).port
    · have := send_exits ps (after_valid hv hp0).1 (fun q hq => by unfold PortOk; rw [np]; exact hp q (List.mem_cons_of_mem _ hq)) e he
      unfold PortOk at this ⊢
      rw [np] at this; exact this
theorem send_back : ∀ (ps : List Int) {ls : List Str}, Valid ls → (∀ p ∈ ps, PortOk ls p) → sendN (flipR (sendN ls ps).2) (sendN ls ps).1.reverse = (ps.reverse, flipR ls)
  | [], ls, _, _ => rfl
  | p :: ps, ls, hv, hp => by
    have hp0 := hp p List.mem_cons_self
    have np := ports_after hv hp0
    have ih := send_back ps (after_valid hv hp0).1 fun q hq => by unfold PortOk; rw [np]; exact hp q (List.mem_cons_of_mem _ hq)
    have B := back_ok hv hp0
    show sendN (flipR (sendN (afterP ls p) ps).2) (exitP ls p :: (sendN (afterP ls p) ps).1).reverse = _
    rw [List.reverse_cons, send_app, ih]
    show (ps.reverse ++ [exitP (flipR (afterP ls p)) (exitP ls p)], afterP (flipR (afterP ls p)) (exitP ls p)) = _
    rw [B.exit, B.after, List.reverse_cons]
theorem unsent_send {ls : List Str} (hv : Valid ls) {ps : List Int} (hp : ∀ p ∈ ps, PortOk ls p) : unsentN (sendN ls ps).2 (sendN ls ps).1 = (ps, ls) := by
  unfold unsentN
  rw [send_back ps hv hp]
  show (ps.reverse.reverse, flipR (flipR ls)) = _
  rw [List.reverse_reverse, flip_flipR]
theorem send_unsent {ls : List Str} (hv : Valid ls) {es : List Int} (hp : ∀ p ∈ es, PortOk ls p) : sendN (unsentN ls es).2 (unsentN ls es).1 = (es, ls) := by
  have h := send_back es.reverse (flip_valid hv).1 fun p h => by unfold PortOk; rw [ports_flip hv]; exact hp p (List.mem_reverse.mp h)
  unfold unsentN
  rw [flip_flipR, List.reverse_reverse] at h
  exact h
theorem unsent_valid {ls : List Str} (hv : Valid ls) {es : List Int} (hp : ∀ p ∈ es, PortOk ls p) : Valid (unsentN ls es).2 ∧ nPorts (unsentN ls es).2 = nPorts ls ∧ (unsentN ls es).1.length = es.length ∧ ∀ p ∈ (unsentN ls es).1, PortOk ls p := by
  obtain ⟨f1, f2, f3⟩ := flip_valid hv
  have hp' : ∀ p ∈ es.reverse, PortOk (flipR ls) p := fun p h => by unfold PortOk; rw [ports_flip hv]; exact hp p (List.mem_reverse.mp h)
  obtain ⟨s1, s2, s3⟩ := send_valid es.reverse f1 hp'
  have q := (flip_valid s1).1
  refine ⟨q, ?_, ?_, fun p h => ?_⟩
  · show nPorts (flipR _) = _
    rw [ports_flip s1, ports_same s2 s3, ports_flip hv]
  · show (List.reverse _).length = _
    rw [List.length_reverse, send_len, List.length_reverse]
  · have := send_exits es.reverse f1 hp' p (List.mem_reverse.mp h)
    unfold PortOk at this ⊢
    rw [ports_flip hv] at this; exact this
/-! ### mirrors that never turn -/
def NoT (G : List (List Nat)) : Prop := ∀ l ∈ G, ∀ c ∈ l, isTurnC c = false
theorem NoT.flip {G : List (List Nat)} (h : NoT G) : flipL G = G := by
  unfold flipL
  conv => rhs; rw [← List.map_id G]
  refine List.map_congr_left fun l hl => ?_
  show l.map flipC = l
  conv => rhs; rw [← List.map_id l]
  exact List.map_congr_left fun c hc => flip_no (h l hl c hc)
theorem flip_iff {G : List (List Nat)} : flipL G = G ↔ NoT G := by
  refine ⟨fun e l hl c hc => ?_, NoT.flip⟩
  obtain ⟨i, hi⟩ := List.mem_iff_getElem?.mp hl
  obtain ⟨j, hj⟩ := List.mem_iff_getElem?.mp hc
  have e1 : (flipL G)[i]? = some (l.map flipC) := by unfold flipL; rw [List.getElem?_map, hi]; rfl
  rw [e, hi] at e1
  have e2 := Option.some.inj e1
  have e3 : (l.map flipC)[j]? = some (flipC c) := by rw [List.getElem?_map, hj]; rfl
  rw [← e2, hj] at e3
  have e4 := Option.some.inj e3
  unfold isTurnC
  by_cases h1 : c = 114
  · subst h1; exact absurd e4 (by decide)
  · by_cases h2 : c = 102
    · subst h2; exact absurd e4 (by decide)
    · simp [h1, h2]
theorem step_no {s : Bl} {h w : Nat} (R : Rect s.G h w) (hi : s.Ins h w) (hn : NoT s.G) : s.step.G = s.G := by
  obtain ⟨l, e1, e2⟩ := R.get hi.1 hi.2.1 hi.2.2.1 hi.2.2.2
  show setL s.G s.r.toNat s.c.toNat (flipC (cellAt s.G s.r s.c)) = _
  unfold setL
  rw [e1]
  show s.G.set s.r.toNat (l.set s.c.toNat (flipC (cellAt s.G s.r s.c))) = _
  rw [flip_no (hn l (List.mem_of_getElem? e1) _ (List.mem_of_getElem? e2))]
  have : l.set s.c.toNat (cellAt s.G s.r s.c) = l := by
    apply List.ext_getElem?
    intro j
    by_cases hj : s.c.toNat = j
    · subst hj; rw [List.getElem?_set_self (List.getElem?_eq_some_iff.mp e2).1, e2]
    · rw [List.getElem?_set_ne hj]
  rw [this]
  apply List.ext_getElem?
  intro j
  by_cases hj : s.r.toNat = j
  · subst hj; rw [List.getElem?_set_self (List.getElem?_eq_some_iff.mp e1).1, e1]
  · rw [List.getElem?_set_ne hj]
theorem it_no {h w : Nat} : ∀ (k : Nat) {s : Bl}, Rect s.G h w → (∀ i, i < k → (Bl.it i s).Ins h w) → NoT s.G → (Bl.it k s).G = s.G
  | 0, _, _, _, _ => rfl
  | k + 1, s, R, hi, hn => by
    have e := step_no R (hi 0 (by omega)) hn
    exact (it_no (s := s.step) k (by rw [e]; exact R) (fun i q => hi (i + 1) (by omega)) (by rw [e]; exact hn)).trans e
theorem after_no {ls : List Str} (hv : Valid ls) {p : Int} (hp : PortOk ls p) (hn : NoT (gridL ls)) : afterP ls p = ls := by
  have S := steps_ok hv hp
  unfold afterP endP
  rw [it_no (s := startB ls p) (stepsP ls p) (rect_room hv) S.ins hn]
  exact room_grid ls
theorem flipR_iff {ls : List Str} : flipR ls = ls ↔ NoT (gridL ls) := by
  rw [← flip_iff]
  constructor
  · intro e
    have := congrArg gridL e
    unfold flipR at this
    rwa [grid_room] at this
  · intro e
    unfold flipR
    rw [e, room_grid]
theorem exit_exit {ls : List Str} (hv : Valid ls) {p : Int} (hp : PortOk ls p) (hn : NoT (gridL ls)) : exitP ls (exitP ls p) = p := by
  have B := (back_ok hv hp).exit
  rwa [after_no hv hp hn, flipR_iff.mpr hn] at B
end MT

/-! SP5: parse, rooms of rows, truth, equality. -/
namespace MT
open PySem PySem.StrLaws TL L2
local macro_rules | `(tactic| os_names $xs:ident*) => `(tactic| simp -implicitDefEqProofs only [Bool.not_true, Bool.not_false, decide_true, decide_false, Res.bind_ok, Res.bind_bad, Res.bind_exc, Res.toS_ok, Res.toS_bad, Res.toS_exc, ResS.bind_nxt, ResS.bind_ret, ResS.bind_bad, ResS.bind_exc, bind_ite, toS_ite, bindS_ite, selB_bl, selB_t, selB_f, runK_ite, runK_nxt, runK_ret, runK_bad, runK_exc, runD_0, runD_1, runD_2, runD_3, runD_4, pVar_v, varK_s, pC_e, p1_e, p2_e, pF_e, evL_nil, evL_cons, pIf_e, pAnd_e, pOr_e, pChain_e, pRm_e, rmK_room, pSm_e, smK_s, pLm_e, lmK_e, lmK2_e, pFL_e, plNil_e, plCons_e, plStar_e, plK_tup, plK_fl, pMk_e, pItems_tup, pItems_fl, pMkV_e, mkVK_e, pCm_e, sSeq_e, sSet_e, sRet_e, sExpr_e, sNil_e, sBad_e, sIf_e, optN_some, sAsgT_e, bindT_nm, bindT_2, bindT_3, bindT_4, sPar_e, parK2_e, sPar3_e, parK3_e, optM_some, sSub_e, gSetL_e, setLK_e, sAug_e, augK_e, gSub_e, gAdd_i, gCmp_e, gTup_0, gTup_1, gTup_2, gTup_3, gTup_4, gList_0, gList_1, gList_2, gList_3, gNot_e, gLines_e, gPorts_e, gEqS_i, gIx_l, ixK_e, gIx_t, gIx_f, optR_s, atI_0, gLen_l, lenK_e, gLen_t, gLen_f, gAppend_e, gRev_f, gRevT_e, gTupOf_f, gTupOf_t, gListOf_f, gListOf_t, get_last, set_last, get_2a, get_2b, set_2a, set_2b, len_1, len_2, app_1, pFz_e, fzK_ite, fzK_exc, fzK_bad, dec_t, if_true, if_false, reduceIte, Bool.false_eq_true, wipeD, List.map_cons, List.map_nil, List.cons_append, List.nil_append, List.append_nil, List.replicate_succ, List.replicate_zero, List.set_cons_zero, List.set_cons_succ, Nat.reduceSub, Nat.reduceAdd, List.length_cons, List.length_nil, List.length_set, List.getElem?_cons_zero, List.getElem?_cons_succ, Option.map_some, $[$xs:ident],*])
/-! ### texts of rows -/
theorem sum_le {α : Type} {f : α → Nat} {k : Nat} : ∀ {l : List α}, (∀ x ∈ l, f x ≤ k) → (l.map f).sum ≤ l.length * k
  | [], _ => by simp
  | x :: l, h => by
    have h1 := h x List.mem_cons_self
    have h2 := sum_le (l := l) fun y hy => h y (List.mem_cons_of_mem _ hy)
    rw [List.map_cons, List.sum_cons, List.length_cons, Nat.succ_mul]
    omega
theorem nl_cps : ("\n" : Str).cps.toList = [10] := by decide +kernel
theorem nl_len : ("\n" : Str).length = 1 := by decide +kernel
theorem Valid.sum8 {ls : List Str} (hv : Valid ls) : (ls.map fun z : Str => z.length).sum + ls.length * 1 ≤ 72 := by
  have h8 : ls.length ≤ 8 := hv.2.1
  have := sum_le (l := ls) (f := fun z : Str => z.length) (k := 8) fun z hz => by
    have := (hv.2.2.2.2.1 z hz).1
    have := hv.2.2.2.1
    show z.length ≤ 8
    omega
  omega
noncomputable def textR (ls : List Str) : Str := Txt.join "\n" ls
theorem textR_len {ls : List Str} (hv : Valid ls) : (textR ls).length ≤ 72 := by
  have h := StrLaws.join_length_le "\n" ls
  rw [nl_len] at h
  unfold textR
  rw [join_eq]
  exact Nat.le_trans h hv.sum8
theorem sign_nl {c : Nat} (h : isSignC c = true) : c ≠ 10 := by rintro rfl; exact absurd h (by decide)
theorem split_textR {ls : List Str} (hv : Valid ls) : Txt.split (textR ls) "\n" = ls := by
  refine split_join (s := 10) (S := []) nl_cps (by decide +kernel) (by rintro rfl; have := hv.1; simp at this) fun p hp hm => ?_
  exact sign_nl ((hv.2.2.2.2.1 p hp).2 10 hm) rfl
theorem joinR_ok {ls : List Str} (hv : Valid ls) (m : Store) : joinR "\n" (ls.map .str) m = .ok (.str (textR ls)) m := by
  unfold joinR
  rw [strsOf_map']
  show (if (ls.map fun z : Str => z.length).sum + ls.length * ("\n" : Str).length ≤ lim then _ else _) = _
  rw [nl_len, if_pos (Nat.le_trans hv.sum8 (by unfold lim; omega))]
  rfl
theorem parse_ok {ls : List Str} (hv : Valid ls) (CR : Addr) (m : Store) : f_parse CR [.adr CR, .str (textR ls)] m = .ok (.room ls) m := by
  have e : gSplit "\n" [.str (textR ls)] m = .ok (.loc m.length) (m ++ [.lst (ls.map .str)]) := by
    have h : (textR ls).length + 2 ≤ lim := by have := textR_len hv; unfold lim; omega
    have e1 : gSplit "\n" [.str (textR ls)] m = .ok (.loc m.length) (m ++ [.lst ((Txt.split (textR ls) "\n").map .str)]) := if_pos h
    rw [e1, split_textR hv]
  have hz := fzK_loc (m := m) (xs := ls.map D.str) ltDs_str
  have hm := fun m => mkRoom_v (m := m) hv
  unfold f_parse P_parse
  os_names e hz hm
/-- the room of some rows, a list -/
theorem room_ok {ls : List Str} (hv : Valid ls) (CR : Addr) {d : D} {m : Store} (h : lsD m d = some (ls.map .str)) (nt : ∀ xs, d ≠ .tup xs) : f__law_room CR [d] m = .ok (.room ls) m := by
  have hi : itsD m d = some (ls.map .str) := by
    rw [← h]
    cases d <;> first | rfl | exact absurd rfl (nt _)
  have hj : gJoin [.str "\n", d] m = .ok (.str (textR ls)) m := by
    have e : gJoin [.str "\n", d] m = match itsD m d with | some xs => joinR "\n" xs m | none => .bad := rfl
    rw [e, hi]
    exact joinR_ok hv m
  have hp := parse_ok hv CR m
  unfold f__law_room P__law_room
  os_names hj hp
theorem room_fl {ls : List Str} (hv : Valid ls) (CR : Addr) (m : Store) : f__law_room CR [.fl (ls.map .str)] m = .ok (.room ls) m := room_ok hv CR rfl fun _ q => nomatch q
theorem RowsOk.room {G : List (List Nat)} {h w : Nat} {t : Int} (r : RowsOk G h w t) (ht : t ≤ 10) (h1 : 1 ≤ h) (h8 : h ≤ 8) (w1 : 1 ≤ w) (w8 : w ≤ 8) : Valid (roomOf G) :=
  (VG.valid ⟨r.R, r.sg, by have := r.ct; omega⟩ h1 h8 w1 w8).1
/-! ### signs replaced -/
def mapC (f : Nat → Nat) (ls : List Str) : List Str := ls.map fun z => strOf (z.cps.toList.map f)
theorem replL_one {c e : Nat} : ∀ (l : List Nat), replL [c] [e] l = l.map fun x => if x = c then e else x
  | [] => replL_nil
  | x :: l => by
    by_cases h : x = c
    · subst h
      rw [replL_hit (by simp) (by simp)]
      show e :: replL [x] [e] l = _
      rw [replL_one l, List.map_cons, if_pos rfl]
    · rw [replL_miss (by simpa using h), replL_one l, List.map_cons, if_neg h]
theorem repl_ok {y z : Str} {c e : Nat} (hy : y.cps.toList = [c]) (hz : z.cps.toList = [e]) (l : List Nat) (m : Store) (hl : l.length ≤ 1000) : gRepl y z [.str (strOf l)] m = .ok (.str (strOf (l.map fun x => if x = c then e else x))) m := by
  have h1 : y.length = 1 := by have := congrArg List.length hy; simpa [Str.length] using this
  have h2 : z.length = 1 := by have := congrArg List.length hz; simpa [Str.length] using this
  have e1 : Txt.replace (strOf l) y z = strOf (l.map fun x => if x = c then e else x) := by
    apply str_ext'
    rw [replace_list (by omega), hy, hz, show (strOf l).cps.toList = l by simp [strOf], replL_one]
    simp [strOf]
  have e2 : (strOf l).length = l.length := by simp [strOf, Str.length]
  have : gRepl y z [.str (strOf l)] m = .ok (.str (Txt.replace (strOf l) y z)) m := if_pos (by rw [e2, h2]; unfold lim; omega)
  rw [this, e1]
/-! ### a comprehension of two clauses -/
theorem lcI_go {ys : List D} {t1 : Tgt} {pe : Pg} {ε : EnvD} {m : Store} {g : D → D} (step : ∀ y ∈ ys, ∃ ε2, bindT t1 y ε = some ε2 ∧ ∀ l, pe ε2 (m ++ l) = .ok (g y) (m ++ l)) :
    ∀ (k i n : Nat) (acc : List D), ys.length - i = k → i ≤ ys.length → k < n → acc.length + k ≤ lim → lcI (nxF ys) t1 (pC (.bl true)) pe ε m.length n i (m ++ [.lst acc]) = .ok () (m ++ [.lst (acc ++ (ys.drop i).map g)])
  | 0, i, n + 1, acc, hk, hi, _, _ => by
    have e : i = ys.length := by omega
    subst e
    simp [lcI, nxF]
  | k + 1, i, n + 1, acc, hk, hi, hn, ha => by
    have hlt : i < ys.length := by omega
    have hx : ys[i]? = some ys[i] := List.getElem?_eq_getElem hlt
    obtain ⟨ε1, h1, h2⟩ := step ys[i] (List.getElem_mem hlt)
    have h3 := h2 [.lst acc]
    have ih := lcI_go step k (i + 1) n (acc ++ [g ys[i]]) (by omega) hlt (by omega) (by simp; omega)
    have e : nxF ys i (m ++ [.lst acc]) = some (some ys[i]) := by unfold nxF; rw [hx]
    have hx2 : acc ++ (ys.drop i).map g = (acc ++ [g ys[i]]) ++ (ys.drop (i + 1)).map g := by rw [List.drop_eq_getElem_cons hlt, List.map_cons]; exact List.append_cons _ _ _
    rw [hx2]
    simp only [lcI, e, h1, pC_e, h3, get_last, if_pos (show acc.length ≤ lim by omega), set_last]
    exact ih
theorem lc2_go {γ : Type} {xs : List γ} {en : γ → D} {ys : List D} {t t1 : Tgt} {pi1 : PgI} {vs1 : List Nat} {pe : Pg} {ε : EnvD} {m : Store} {g : γ → D → D}
    (step : ∀ x ∈ xs, ∃ ε1, bindT t (en x) ε = some ε1 ∧ (∀ l, pi1 ε1 (m ++ l) = .ok (nxF ys) (m ++ l)) ∧ ∀ y ∈ ys, ∃ ε2, bindT t1 y (wipeD ε1 vs1) = some ε2 ∧ ∀ l, pe ε2 (m ++ l) = .ok (g x y) (m ++ l)) (hy : ys.length ≤ 1000) :
    ∀ (k i n : Nat) (acc : List D), xs.length - i = k → i ≤ xs.length → k < n → acc.length + k * ys.length ≤ lim → lc2N (nxF (xs.map en)) t (pC (.bl true)) pi1 vs1 t1 (pC (.bl true)) pe ε m.length n i (m ++ [.lst acc]) = .ok (.loc m.length) (m ++ [.lst (acc ++ (xs.drop i).flatMap fun x => ys.map (g x))])
  | 0, i, n + 1, acc, hk, hi, _, _ => by
    have e : i = xs.length := by omega
    subst e
    simp [lc2N, nxF]
  | k + 1, i, n + 1, acc, hk, hi, hn, ha => by
    have hlt : i < xs.length := by omega
    have hx : xs[i]? = some xs[i] := List.getElem?_eq_getElem hlt
    obtain ⟨ε1, h1, h2, h3⟩ := step xs[i] (List.getElem_mem hlt)
    have h4 := h2 [.lst acc]
    have hs : (k + 1) * ys.length = k * ys.length + ys.length := Nat.succ_mul _ _
    have inner := lcI_go (g := g xs[i]) h3 ys.length 0 bigN acc (by omega) (Nat.zero_le _) (by unfold bigN; omega) (by omega)
    rw [List.drop_zero] at inner
    have ih := lc2_go step hy k (i + 1) n (acc ++ ys.map (g xs[i])) (by omega) hlt (by omega) (by simp; omega)
    have e : nxF (xs.map en) i (m ++ [.lst acc]) = some (some (en xs[i])) := by unfold nxF; rw [List.getElem?_map, hx]; rfl
    rw [List.drop_eq_getElem_cons hlt, List.flatMap_cons, ← List.append_assoc]
    simp only [lc2N, e, h1, pC_e, h4, inner, Res.bind_ok]
    exact ih
/-! ### bool(room) -/
theorem blsOf_map : ∀ (bs : List Bool), blsOf (bs.map D.bl) = some bs
  | [] => rfl
  | b :: bs => by simp [blsOf, blsOf_map bs]
theorem kR_cps : kR = ⟨#[114]⟩ := by decide +kernel
theorem kF_cps : kF = ⟨#[102]⟩ := by decide +kernel
theorem gInS_c {c : Nat} {z : Str} {m : Store} : gInS false [.str ⟨#[c]⟩, .str z] m = .ok (.bl (decide (c ∈ z.cps.toList))) m := rfl
theorem bool_ok {ls : List Str} (hv : Valid ls) (m : Store) : ∃ b : Bool, f___bool__ [.room ls] m = .ok (.bl b) m ∧ (b = true ↔ ¬ NoT (gridL ls)) := by
  have h8 : ls.length ≤ 8 := hv.2.1
  have e : pFz (pLc2 (iTp (p1 gLines (pVar 0))) [1, 2] (.nm 1) (pC (.bl true)) iTurned [2] (.nm 2) (pC (.bl true)) (p2 (gInS false) (pVar 2) (pVar 1))) [some (.room ls), none, none] m =
      .ok (.fl ((ls.flatMap fun z => [decide (114 ∈ z.cps.toList), decide (102 ∈ z.cps.toList)]).map D.bl)) m := by
    have e1 : pLc2 (iTp (p1 gLines (pVar 0))) [1, 2] (.nm 1) (pC (.bl true)) iTurned [2] (.nm 2) (pC (.bl true)) (p2 (gInS false) (pVar 2) (pVar 1)) [some (.room ls), none, none] m =
        .ok (.loc m.length) (m ++ [.lst ((ls.flatMap fun z => [decide (114 ∈ z.cps.toList), decide (102 ∈ z.cps.toList)]).map D.bl)]) := by
      have hs : iTp (p1 gLines (pVar 0)) [some (.room ls), none, none] m = .ok (nxF (ls.map D.str)) m := iTp_t rfl
      unfold pLc2
      rw [hs]
      show lc2N _ _ _ _ _ _ _ _ [some (.room ls), none, none] _ _ _ _ = _
      have := lc2_go (xs := ls) (en := D.str) (ys := [.str kR, .str kF]) (t := .nm 1) (t1 := .nm 2) (pi1 := iTurned) (vs1 := [2]) (pe := p2 (gInS false) (pVar 2) (pVar 1)) (ε := [some (.room ls), none, none]) (m := m) (g := fun z y => match y with | .str q => D.bl (decide (q.cps.toList.headD 0 ∈ z.cps.toList)) | _ => .non) (fun z _ => ⟨[some (.room ls), some (.str z), none], rfl, fun l => rfl, fun y hy => by
        rcases List.mem_cons.mp hy with rfl | hy
        · refine ⟨[some (.room ls), some (.str z), some (.str kR)], rfl, fun l => ?_⟩
          have hc := fun m => gInS_c (c := 114) (z := z) (m := m)
          rw [kR_cps]
          os_names hc
          try rfl
        · rw [List.mem_singleton.mp hy]
          refine ⟨[some (.room ls), some (.str z), some (.str kF)], rfl, fun l => ?_⟩
          have hc := fun m => gInS_c (c := 102) (z := z) (m := m)
          rw [kF_cps]
          os_names hc
          try rfl⟩) (by decide) ls.length 0 bigN [] (by omega) (Nat.zero_le _) (by unfold bigN; omega) (by show 0 + ls.length * 2 ≤ lim; unfold lim; omega)
      rw [List.drop_zero, List.nil_append] at this
      rw [this, List.map_flatMap]
      rw [kR_cps, kF_cps]; rfl
    rw [pFz_e, e1]
    exact fzK_loc (ltDs_map fun _ _ => rfl)
  have ha : ∀ bs : List Bool, gAny [.fl (bs.map D.bl)] m = .ok (.bl (bs.any id)) m := fun bs => by
    have : gAny [.fl (bs.map D.bl)] m = match blsOf (bs.map D.bl) with | some bs => .ok (.bl (bs.any id)) m | none => .bad := rfl
    rw [this, blsOf_map]
  refine ⟨(ls.flatMap fun z => [decide (114 ∈ z.cps.toList), decide (102 ∈ z.cps.toList)]).any id, ?_, ?_⟩
  · unfold f___bool__ P___bool__
    rw [runD_1]
    show runK (sRet (pF gAny [pFz _]) [some (.room ls), none, none] m) = _
    rw [sRet_e, pF_e, evL_cons, e, Res.bind_ok, evL_nil, Res.bind_ok, Res.bind_ok, ha, Res.toS_ok, runK_ret]
  · rw [List.any_eq_true]
    constructor
    · rintro ⟨b, hb, rfl⟩ hn
      obtain ⟨z, hz, hb⟩ := List.mem_flatMap.mp hb
      have hl : z.cps.toList ∈ gridL ls := List.mem_map.mpr ⟨z, hz, rfl⟩
      rcases List.mem_cons.mp hb with hb | hb
      · have := hn _ hl 114 (of_decide_eq_true hb.symm); exact absurd this (by decide)
      · have := hn _ hl 102 (of_decide_eq_true (List.mem_singleton.mp hb).symm); exact absurd this (by decide)
    · intro hn
      apply Classical.byContradiction
      intro hx
      refine hn fun l hl c hc => ?_
      obtain ⟨z, hz, rfl⟩ := List.mem_map.mp hl
      apply Bool.eq_false_iff.mpr
      intro t
      unfold isTurnC at t
      simp only [Bool.or_eq_true, beq_iff_eq] at t
      refine hx ⟨true, List.mem_flatMap.mpr ⟨z, hz, ?_⟩, rfl⟩
      rcases t with rfl | rfl
      · rw [decide_eq_true hc]; exact List.mem_cons_self
      · rw [decide_eq_true hc]; exact List.mem_cons_of_mem _ List.mem_cons_self
/-! ### equality -/
section
variable {rm neg : Bool} {m : Store} {n : Nat} {xs ys : List D} {x y : D} {a b : List Str} {i j : Int}
theorem eqD_tup : eqD rm m (n + 1) (.tup xs) (.tup ys) = eqL (eqD rm m n) xs ys := by
  unfold eqD; rfl
theorem eqD_fl : eqD rm m (n + 1) (.fl xs) (.fl ys) = eqL (eqD rm m n) xs ys := by
  unfold eqD; rfl
theorem eqD_fll {k : Nat} (h : m[k]? = some (.lst ys)) : eqD rm m (n + 1) (.fl xs) (.loc k) = eqL (eqD rm m n) xs ys := by
  have e : lsD m (.loc k) = some ys := by
    show (match m[k]? with | some (.lst xs) => some xs | _ => none) = _
    rw [h]
  have e2 : eqD rm m (n + 1) (.fl xs) (.loc k) = match lsD m (.fl xs), lsD m (.loc k) with | some xs, some ys => eqL (eqD rm m n) xs ys | _, _ => none := by
    conv => lhs; unfold eqD
    rfl
  rw [e2, e]; rfl
theorem eqD_int : eqD rm m (n + 1) (.int i) (.int j) = some (decide (i = j)) := by
  unfold eqD; rfl
theorem eqD_room : eqD true m (n + 1) (.room a) (.room b) = some (decide (a = b)) := by
  unfold eqD; rfl
theorem eqL_nil {f : D → D → Option Bool} : eqL f [] [] = some true := rfl
theorem eqL_cons {f : D → D → Option Bool} {p q : Bool} (h1 : f x y = some p) (h2 : eqL f xs ys = some q) : eqL f (x :: xs) (y :: ys) = some (p && q) := by
  unfold eqL; rw [h1, h2]
theorem eqL_id {f : D → D → Option Bool} : ∀ {xs : List D}, (∀ x ∈ xs, f x x = some true) → eqL f xs xs = some true
  | [], _ => rfl
  | x :: xs, h => by
    rw [eqL_cons (h x List.mem_cons_self) (eqL_id fun y hy => h y (List.mem_cons_of_mem _ hy))]; rfl
theorem eqL_ints {is : List Int} : eqL (eqD rm m (n + 1)) (is.map .int) (is.map .int) = some true := eqL_id fun x hx => by
  obtain ⟨i, _, rfl⟩ := List.mem_map.mp hx
  rw [eqD_int, decide_eq_true rfl]
theorem eqL_tiles {ts : List (Int × Int)} : eqL (eqD rm m (n + 2)) (ts.map tileD) (ts.map tileD) = some true := eqL_id fun x hx => by
  obtain ⟨t, _, rfl⟩ := List.mem_map.mp hx
  unfold tileD
  rw [eqD_tup, eqL_cons (eqD_int.trans (congrArg some (decide_eq_true rfl))) (eqL_cons (eqD_int.trans (congrArg some (decide_eq_true rfl))) eqL_nil)]; rfl
theorem gEqD_e {r : Bool} (h : eqD rm m 6 x y = some r) : gEqD rm neg [x, y] m = .ok (.bl (if neg = true then !r else r)) m := by
  have e : gEqD rm neg [x, y] m = match eqD rm m 6 x y with | some r => .ok (.bl (if neg = true then !r else r)) m | none => .bad := rfl
  rw [e, h]
theorem ne_same (h : eqD rm m 6 x y = some true) : gEqD rm true [x, y] m = .ok (.bl false) m := gEqD_e h
theorem eqDsame (h : eqD rm m 6 x y = some true) : gEqD rm false [x, y] m = .ok (.bl true) m := gEqD_e h
theorem ne_room : gEqD true true [.room a, .room a] m = .ok (.bl false) m := ne_same (by rw [eqD_room, decide_eq_true rfl])
theorem ne_ints_room {is : List Int} : gEqD true true [.tup [.fl (is.map .int), .room a], .tup [.fl (is.map .int), .room a]] m = .ok (.bl false) m :=
  ne_same (by rw [eqD_tup, eqL_cons (eqD_fl.trans eqL_ints) (eqL_cons (eqD_room.trans (congrArg some (decide_eq_true rfl))) eqL_nil)]; rfl)
theorem ne_intsl_room {is : List Int} {k : Nat} (h : m[k]? = some (.lst (is.map .int))) : gEqD true true [.tup [.fl (is.map .int), .room a], .tup [.loc k, .room a]] m = .ok (.bl false) m :=
  ne_same (by rw [eqD_tup, eqL_cons ((eqD_fll h).trans eqL_ints) (eqL_cons (eqD_room.trans (congrArg some (decide_eq_true rfl))) eqL_nil)]; rfl)
theorem ne_int_room : gEqD true true [.tup [.int i, .room a], .tup [.int i, .room a]] m = .ok (.bl false) m :=
  ne_same (by rw [eqD_tup, eqL_cons (eqD_int.trans (congrArg some (decide_eq_true rfl))) (eqL_cons (eqD_room.trans (congrArg some (decide_eq_true rfl))) eqL_nil)]; rfl)
theorem ne_tiles {ts : List (Int × Int)} : gEqD true true [.fl (ts.map tileD), .fl (ts.map tileD)] m = .ok (.bl false) m := ne_same (by rw [eqD_fl, eqL_tiles])
theorem eq_room : gEqD true false [.room a, .room b] m = .ok (.bl (decide (a = b))) m := gEqD_e eqD_room
end
def revK (o : Option Cell) (m : Store) : Res D := match o with
  | some (.lst xs) => .ok (.loc m.length) (m ++ [.lst xs.reverse])
  | _ => .bad
theorem gRev_l {n : Nat} {m : Store} : gRev [.loc n] m = revK m[n]? m := by
  unfold gRev revK lsD
  dsimp only
  generalize m[n]? = o
  cases o with
  | none => rfl
  | some c => cases c <;> rfl
theorem revK_e {xs : List D} {m : Store} : revK (some (.lst xs)) m = .ok (.loc m.length) (m ++ [.lst xs.reverse]) := rfl
section
variable {a b c d e f : D} {l : List D}
theorem at_2 : atI (a :: b :: c :: l) 2 = some c := by unfold atI ixN; rw [if_pos (by omega), if_pos (by simp; omega)]; rfl
theorem at_3 : atI (a :: b :: c :: d :: l) 3 = some d := by unfold atI ixN; rw [if_pos (by omega), if_pos (by simp; omega)]; rfl
theorem at_4 : atI (a :: b :: c :: d :: e :: l) 4 = some e := by unfold atI ixN; rw [if_pos (by omega), if_pos (by simp; omega)]; rfl
theorem at_5 : atI (a :: b :: c :: d :: e :: f :: l) 5 = some f := by unfold atI ixN; rw [if_pos (by omega), if_pos (by simp; omega)]; rfl
end
end MT

/-! SPB: benches, plainly. -/
namespace MT
open PySem L2
local macro_rules | `(tactic| os_names $xs:ident*) => `(tactic| simp -implicitDefEqProofs only [Bool.not_true, Bool.not_false, decide_true, decide_false, Res.bind_ok, Res.bind_bad, Res.bind_exc, Res.toS_ok, Res.toS_bad, Res.toS_exc, ResS.bind_nxt, ResS.bind_ret, ResS.bind_bad, ResS.bind_exc, bind_ite, toS_ite, bindS_ite, selB_bl, selB_t, selB_f, runK_ite, runK_nxt, runK_ret, runK_bad, runK_exc, runD_0, runD_1, runD_2, runD_3, runD_4, pVar_v, varK_s, pC_e, p1_e, p2_e, pF_e, evL_nil, evL_cons, pIf_e, pAnd_e, pOr_e, pChain_e, pRm_e, rmK_room, pSm_e, smK_s, pLm_e, lmK_e, lmK2_e, pFL_e, plNil_e, plCons_e, plStar_e, plK_tup, plK_fl, pMk_e, pItems_tup, pItems_fl, pMkV_e, mkVK_e, pCm_e, sSeq_e, sSet_e, sRet_e, sExpr_e, sNil_e, sBad_e, sIf_e, optN_some, sAsgT_e, bindT_nm, bindT_2, bindT_3, bindT_4, sPar_e, parK2_e, sPar3_e, parK3_e, optM_some, sSub_e, gSetL_e, setLK_e, sAug_e, augK_e, gSub_e, gAdd_i, gCmp_e, gTup_0, gTup_1, gTup_2, gTup_3, gTup_4, gList_0, gList_1, gList_2, gList_3, gNot_e, gLines_e, gPorts_e, gEqS_i, gIx_l, ixK_e, gIx_t, gIx_f, optR_s, atI_0, gLen_l, lenK_e, gLen_t, gLen_f, gAppend_e, gRev_f, gRevT_e, gTupOf_f, gTupOf_t, gListOf_f, gListOf_t, get_last, set_last, get_2a, get_2b, set_2a, set_2b, len_1, len_2, app_1, pFz_e, fzK_ite, fzK_exc, fzK_bad, dec_t, if_true, if_false, reduceIte, Bool.false_eq_true, wipeD, List.map_cons, List.map_nil, List.cons_append, List.nil_append, List.append_nil, List.replicate_succ, List.replicate_zero, List.set_cons_zero, List.set_cons_succ, Nat.reduceSub, Nat.reduceAdd, List.length_cons, List.length_nil, List.length_set, List.getElem?_cons_zero, List.getElem?_cons_succ, Option.map_some, $[$xs:ident],*])
variable {m m1 m2 : Store}
/-- the fields of a bench -/
def BF (nw : D) (pl ul : Nat) (sv : D) : List (Str × D) := [("now", nw), ("past", .loc pl), ("undone", .loc ul), ("saved", sv)]
structure Bn (m : Store) (b pl ul : Nat) (sv nw : D) (ps us : List D) : Prop where
  o : m[b]? = some (.ins "Bench" (BF nw pl ul sv))
  p : m[pl]? = some (.lst ps)
  u : m[ul]? = some (.lst us)
  bp : b ≠ pl
  bu : b ≠ ul
  pu : pl ≠ ul
/-- what an operation keeps -/
structure Kp (b pl ul ul' : Nat) (m m' : Store) : Prop where
  len : m.length ≤ m'.length
  uk : ul' = ul ∨ m.length ≤ ul'
  at_ : ∀ n, n < m.length → n ≠ b → n ≠ pl → n ≠ ul → m'[n]? = m[n]?
theorem Kp.refl {b pl ul : Nat} : Kp b pl ul ul m m := ⟨Nat.le_refl _, .inl rfl, fun _ _ _ _ _ => rfl⟩
theorem Kp.trans {b pl ul ul' ul2 : Nat} (a : Kp b pl ul ul' m m1) (c : Kp b pl ul' ul2 m1 m2) : Kp b pl ul ul2 m m2 := by
  refine ⟨Nat.le_trans a.len c.len, ?_, fun n h1 h2 h3 h4 => ?_⟩
  · rcases c.uk with e | e
    · rw [e]; exact a.uk
    · exact .inr (Nat.le_trans a.len e)
  · rw [c.at_ n (Nat.lt_of_lt_of_le h1 a.len) h2 h3 ?_, a.at_ n h1 h2 h3 h4]
    rcases a.uk with e | e
    · rw [e]; exact h4
    · omega
section
variable {b pl ul : Nat} {sv nw nw' : D} {ps us : List D}
theorem BF_now : (BF nw pl ul sv).lookup ("now" : Str) = some nw := rfl
theorem kPN : (("past" : Str) == "now") = false := by decide +kernel
theorem kUN : (("undone" : Str) == "now") = false := by decide +kernel
theorem kUP : (("undone" : Str) == "past") = false := by decide +kernel
theorem kSN : (("saved" : Str) == "now") = false := by decide +kernel
theorem kSP : (("saved" : Str) == "past") = false := by decide +kernel
theorem kSU : (("saved" : Str) == "undone") = false := by decide +kernel
theorem BF_past : (BF nw pl ul sv).lookup ("past" : Str) = some (.loc pl) := by simp [BF, List.lookup, kPN]
theorem BF_undone : (BF nw pl ul sv).lookup ("undone" : Str) = some (.loc ul) := by simp [BF, List.lookup, kUN, kUP]
theorem BF_none {x : Str} (h1 : (x == ("now" : Str)) = false) (h2 : (x == ("past" : Str)) = false) (h3 : (x == ("undone" : Str)) = false) (h4 : (x == ("saved" : Str)) = false) : (BF nw pl ul sv).lookup x = none := by simp only [BF, List.lookup, h1, h2, h3, h4]
theorem BF_record : (BF nw pl ul sv).lookup ("record" : Str) = none := BF_none (by decide +kernel) (by decide +kernel) (by decide +kernel) (by decide +kernel)
theorem BF_len : (BF nw pl ul sv).length < 1000 := by show 4 < 1000; omega
theorem nPN : ¬ (("now" : Str) = "past") := by decide +kernel
theorem nNU : ¬ (("now" : Str) = "undone") := by decide +kernel
theorem nPU : ¬ (("past" : Str) = "undone") := by decide +kernel
theorem BF_put_now : putD ("now" : Str) nw' (BF nw pl ul sv) = BF nw' pl ul sv := rfl
theorem BF_put_undone {k : Nat} : putD ("undone" : Str) (.loc k) (BF nw pl ul sv) = BF nw pl k sv := by
  simp [BF, putD, nNU, nPU]
theorem Bn.now (B : Bn m b pl ul sv nw ps us) : gFld "Bench" "now" [.loc b] m = .ok nw m := gFld_of B.o BF_now
theorem Bn.past (B : Bn m b pl ul sv nw ps us) : gFld "Bench" "past" [.loc b] m = .ok (.loc pl) m := gFld_of B.o BF_past
theorem Bn.undone (B : Bn m b pl ul sv nw ps us) : gFld "Bench" "undone" [.loc b] m = .ok (.loc ul) m := gFld_of B.o BF_undone
theorem Bn.lt (B : Bn m b pl ul sv nw ps us) : b < m.length ∧ pl < m.length ∧ ul < m.length := ⟨(List.getElem?_eq_some_iff.mp B.o).1, (List.getElem?_eq_some_iff.mp B.p).1, (List.getElem?_eq_some_iff.mp B.u).1⟩
theorem Bn.set_now (B : Bn m b pl ul sv nw ps us) : setO "Bench" "now" (.loc b) nw' m = some (m.set b (.ins "Bench" (BF nw' pl ul sv))) := setO_of B.o BF_len
theorem Bn.set_undone (B : Bn m b pl ul sv nw ps us) {k : Nat} : setO "Bench" "undone" (.loc b) (.loc k) m = some (m.set b (.ins "Bench" (BF nw pl k sv))) := by
  rw [setO_of B.o BF_len, BF_put_undone]
/-- word, before, after -/
def entryD (w : Str) (x y : D) : D := .tup [.str w, x, y]
theorem record_ok (B : Bn m b pl ul sv nw ps us) (w : Str) (nw' : D) (hl : ps.length ≤ lim) : ∃ m', f_Bench_record [.loc b, .str w, nw'] m = .ok .non m' ∧ Bn m' b pl m.length sv nw' (ps ++ [entryD w nw nw']) [] ∧ Kp b pl ul m.length m m' := by
  obtain ⟨lb, lp, lu⟩ := B.lt
  have a1 := B.past
  have a2 := B.now
  have hp := B.p
  have a3 := fun d m => apK_e (n := pl) (d := d) (m := m) (xs := ps) hl
  obtain ⟨m1, h1⟩ : ∃ m1, m.set pl (.lst (ps ++ [.tup [.str w, nw, nw']])) = m1 := ⟨_, rfl⟩
  have l1 : m1.length = m.length := by rw [← h1, List.length_set]
  have o1 : (m1 ++ [Cell.lst []])[b]? = some (.ins "Bench" (BF nw pl ul sv)) := by
    rw [List.getElem?_append_left (by omega), ← h1, List.getElem?_set_ne (Ne.symm B.bp)]; exact B.o
  have a4 : setO "Bench" "undone" (.loc b) (.loc m1.length) (m1 ++ [Cell.lst []]) = some ((m1 ++ [Cell.lst []]).set b (.ins "Bench" (BF nw pl m.length sv))) := by
    rw [setO_of o1 BF_len, BF_put_undone, l1]
  obtain ⟨m3, h3⟩ : ∃ m3, (m1 ++ [Cell.lst []]).set b (.ins "Bench" (BF nw pl m.length sv)) = m3 := ⟨_, rfl⟩
  have o3 : m3[b]? = some (.ins "Bench" (BF nw pl m.length sv)) := by
    rw [← h3, List.getElem?_set_self (by simp; omega)]
  have a5 : setO "Bench" "now" (.loc b) nw' m3 = some (m3.set b (.ins "Bench" (BF nw' pl m.length sv))) := setO_of o3 BF_len
  rw [h3] at a4
  have g3 : ∀ n, n ≠ b → m3[n]? = (m1 ++ [Cell.lst []])[n]? := fun n hn => by rw [← h3, List.getElem?_set_ne (Ne.symm hn)]
  refine ⟨m3.set b (.ins "Bench" (BF nw' pl m.length sv)), ?_, ⟨?_, ?_, ?_, B.bp, by omega, by omega⟩, ⟨?_, .inr (Nat.le_refl _), fun n k1 k2 k3 k4 => ?_⟩⟩
  · unfold f_Bench_record P_Bench_record
    os_names a1 a2 hp a3 h1 sFldC_e a4 a5
  · rw [List.getElem?_set_self (by rw [← h3]; simp; omega)]
  · rw [List.getElem?_set_ne B.bp, g3 _ (Ne.symm B.bp), List.getElem?_append_left (by omega), ← h1, List.getElem?_set_self lp]; rfl
  · rw [List.getElem?_set_ne (by omega), g3 _ (by omega), ← l1]; exact get_last
  · rw [List.length_set, ← h3, List.length_set, List.length_append, l1]; omega
  · rw [List.getElem?_set_ne (Ne.symm k2), g3 _ k2, List.getElem?_append_left (by omega), ← h1, List.getElem?_set_ne (Ne.symm k3)]
/-! ### undo, redo -/
theorem ne_nil_l {k : Nat} {xs : List D} {e : D} (h : m[k]? = some (.lst (xs ++ [e]))) : gEqD false false [.loc k, .fl []] m = .ok (.bl false) m := by
  refine gEqD_e ?_
  show (if scalD (.loc k) (.fl []) = true then _ else match lsD m (.loc k), lsD m (.fl []) with
      | some xs, some ys => eqL (eqD false m 5) xs ys
      | _, _ => none) = _
  have hs : scalD (.loc k) (.fl []) = false := rfl
  rw [hs, if_neg Bool.false_ne_true]
  show (match (match m[k]? with | some (.lst xs) => some xs | _ => none), some [] with
      | some xs, some ys => eqL (eqD false m 5) xs ys
      | _, _ => none) = _
  rw [h]
  cases xs <;> rfl
theorem eq_nil_l {k : Nat} (h : m[k]? = some (.lst [])) : gEqD false false [.loc k, .fl []] m = .ok (.bl true) m := by
  refine gEqD_e ?_
  show (if scalD (.loc k) (.fl []) = true then _ else match lsD m (.loc k), lsD m (.fl []) with
      | some xs, some ys => eqL (eqD false m 5) xs ys
      | _, _ => none) = _
  have hs : scalD (.loc k) (.fl []) = false := rfl
  rw [hs, if_neg Bool.false_ne_true]
  show (match (match m[k]? with | some (.lst xs) => some xs | _ => none), some [] with
      | some xs, some ys => eqL (eqD false m 5) xs ys
      | _, _ => none) = _
  rw [h]
  rfl
theorem undo_ok {w : Str} {x y : D} (B : Bn m b pl ul sv nw (ps ++ [entryD w x y]) us) (hl : us.length ≤ lim) : ∃ m', f_Bench_undo [.loc b] m = .ok (.bl true) m' ∧ Bn m' b pl ul sv x ps (us ++ [entryD w x y]) ∧ Kp b pl ul ul m m' := by
  obtain ⟨lb, lp, lu⟩ := B.lt
  have a1 := B.past
  have hp := B.p
  have hz := fun m : Store => fzK_loc (m := m) (xs := []) rfl
  have a2 := ne_nil_l hp
  have a3 := gPop_e hp
  obtain ⟨m1, h1⟩ : ∃ m1, m.set pl (.lst ps) = m1 := ⟨_, rfl⟩
  rw [h1] at a3
  have g1 : ∀ n, n ≠ pl → m1[n]? = m[n]? := fun n hn => by rw [← h1, List.getElem?_set_ne (Ne.symm hn)]
  have o1 : m1[b]? = some (.ins "Bench" (BF nw pl ul sv)) := by rw [g1 _ B.bp]; exact B.o
  have u1 : m1[ul]? = some (.lst us) := by rw [g1 _ (Ne.symm B.pu)]; exact B.u
  have a4 : gFld "Bench" "undone" [.loc b] m1 = .ok (.loc ul) m1 := gFld_of o1 BF_undone
  have a5 := fun d m => apK_e (n := ul) (d := d) (m := m) (xs := us) hl
  obtain ⟨m2, h2⟩ : ∃ m2, m1.set ul (.lst (us ++ [.tup [.str w, x, y]])) = m2 := ⟨_, rfl⟩
  have g2 : ∀ n, n ≠ ul → m2[n]? = m1[n]? := fun n hn => by rw [← h2, List.getElem?_set_ne (Ne.symm hn)]
  have o2 : m2[b]? = some (.ins "Bench" (BF nw pl ul sv)) := by rw [g2 _ B.bu]; exact o1
  have a6 : setO "Bench" "now" (.loc b) x m2 = some (m2.set b (.ins "Bench" (BF x pl ul sv))) := setO_of o2 BF_len
  have l2 : m2.length = m.length := by rw [← h2, ← h1]; simp
  refine ⟨m2.set b (.ins "Bench" (BF x pl ul sv)), ?_, ⟨?_, ?_, ?_, B.bp, B.bu, B.pu⟩, ⟨?_, .inl rfl, fun n k1 k2 k3 k4 => ?_⟩⟩
  · unfold f_Bench_undo P_Bench_undo
    unfold entryD at a3
    have e1 : atI [.str w, x, y] 1 = some x := atI_1
    os_names a1 hz a2 a3 a4 u1 a5 h2 sFldC_e e1 a6
  · rw [List.getElem?_set_self (by omega)]
  · rw [List.getElem?_set_ne B.bp, g2 _ B.pu, ← h1, List.getElem?_set_self lp]
  · rw [List.getElem?_set_ne B.bu, ← h2, List.getElem?_set_self (by rw [← h1]; simpa using lu)]; rfl
  · rw [List.length_set, l2]; exact Nat.le_refl _
  · rw [List.getElem?_set_ne (Ne.symm k2), g2 _ k4, g1 _ k3]
theorem undo_no (B : Bn m b pl ul sv nw [] us) : f_Bench_undo [.loc b] m = .ok (.bl false) m := by
  have a1 := B.past
  have hz := fun m : Store => fzK_loc (m := m) (xs := []) rfl
  have a2 := eq_nil_l B.p
  unfold f_Bench_undo P_Bench_undo
  os_names a1 hz a2
theorem redo_ok {w : Str} {x y : D} (B : Bn m b pl ul sv nw ps (us ++ [entryD w x y])) (hl : ps.length ≤ lim) : ∃ m', f_Bench_redo [.loc b] m = .ok (.bl true) m' ∧ Bn m' b pl ul sv y (ps ++ [entryD w x y]) us ∧ Kp b pl ul ul m m' := by
  obtain ⟨lb, lp, lu⟩ := B.lt
  have a1 := B.undone
  have hu := B.u
  have hz := fun m : Store => fzK_loc (m := m) (xs := []) rfl
  have a2 := ne_nil_l hu
  have a3 := gPop_e hu
  obtain ⟨m1, h1⟩ : ∃ m1, m.set ul (.lst us) = m1 := ⟨_, rfl⟩
  rw [h1] at a3
  have g1 : ∀ n, n ≠ ul → m1[n]? = m[n]? := fun n hn => by rw [← h1, List.getElem?_set_ne (Ne.symm hn)]
  have o1 : m1[b]? = some (.ins "Bench" (BF nw pl ul sv)) := by rw [g1 _ B.bu]; exact B.o
  have p1 : m1[pl]? = some (.lst ps) := by rw [g1 _ B.pu]; exact B.p
  have a4 : gFld "Bench" "past" [.loc b] m1 = .ok (.loc pl) m1 := gFld_of o1 BF_past
  have a5 := fun d m => apK_e (n := pl) (d := d) (m := m) (xs := ps) hl
  obtain ⟨m2, h2⟩ : ∃ m2, m1.set pl (.lst (ps ++ [.tup [.str w, x, y]])) = m2 := ⟨_, rfl⟩
  have g2 : ∀ n, n ≠ pl → m2[n]? = m1[n]? := fun n hn => by rw [← h2, List.getElem?_set_ne (Ne.symm hn)]
  have o2 : m2[b]? = some (.ins "Bench" (BF nw pl ul sv)) := by rw [g2 _ B.bp]; exact o1
  have a6 : setO "Bench" "now" (.loc b) y m2 = some (m2.set b (.ins "Bench" (BF y pl ul sv))) := setO_of o2 BF_len
  have l2 : m2.length = m.length := by rw [← h2, ← h1]; simp
  refine ⟨m2.set b (.ins "Bench" (BF y pl ul sv)), ?_, ⟨?_, ?_, ?_, B.bp, B.bu, B.pu⟩, ⟨?_, .inl rfl, fun n k1 k2 k3 k4 => ?_⟩⟩
  · unfold f_Bench_redo P_Bench_redo
    unfold entryD at a3
    have e1 : atI [.str w, x, y] 2 = some y := at_2
    os_names a1 hz a2 a3 a4 p1 a5 h2 sFldC_e e1 a6
  · rw [List.getElem?_set_self (by omega)]
  · rw [List.getElem?_set_ne B.bp, ← h2, List.getElem?_set_self (by rw [← h1]; simpa using lp)]; rfl
  · rw [List.getElem?_set_ne B.bu, g2 _ (Ne.symm B.pu), ← h1, List.getElem?_set_self lu]
  · rw [List.length_set, l2]; exact Nat.le_refl _
  · rw [List.getElem?_set_ne (Ne.symm k2), g2 _ k3, g1 _ k4]
theorem redo_no (B : Bn m b pl ul sv nw ps []) : f_Bench_redo [.loc b] m = .ok (.bl false) m := by
  have a1 := B.undone
  have hz := fun m : Store => fzK_loc (m := m) (xs := []) rfl
  have a2 := eq_nil_l B.u
  unfold f_Bench_redo P_Bench_redo
  os_names a1 hz a2
/-! ### room_now, passes, beam, turn_all -/
def nowD (R : List Str) (c : Int) : D := .tup [.room R, .int c]
theorem room_now_ok {R : List Str} {c : Int} (B : Bn m b pl ul sv (nowD R c) ps us) : f_Bench_room_now [.loc b] m = .ok (.room R) m := by
  have a1 : gFld "Bench" "now" [.loc b] m = .ok (.tup [.room R, .int c]) m := B.now
  unfold f_Bench_room_now P_Bench_room_now
  os_names a1
theorem passes_ok {R : List Str} {c : Int} (B : Bn m b pl ul sv (nowD R c) ps us) : f_Bench_passes [.loc b] m = .ok (.int c) m := by
  have a1 : gFld "Bench" "now" [.loc b] m = .ok (.tup [.room R, .int c]) m := B.now
  have e1 : atI [D.room R, .int c] 1 = some (.int c) := atI_1
  unfold f_Bench_passes P_Bench_passes
  os_names a1 e1
theorem bbeam_ok {R : List Str} {c p : Int} (B : Bn m b pl ul sv (nowD R c) ps us) (hv : Valid R) (hp : PortOk R p) (hl : ps.length ≤ lim) :
    ∃ m', f_Bench_beam [.loc b, .int p] m = .ok (.int (exitP R p)) m' ∧ Bn m' b pl m.length sv (nowD (afterP R p) (c + ((tilesP R p).length : Nat))) (ps ++ [entryD "beam" (nowD R c) (nowD (afterP R p) (c + ((tilesP R p).length : Nat)))]) [] ∧ Kp b pl ul m.length m m' := by
  have a1 : gFld "Bench" "now" [.loc b] m = .ok (.tup [.room R, .int c]) m := B.now
  have hc := fun m => call_ok hv hp m
  have hb := fun m => beam_ok hv hp m
  obtain ⟨m', h1, h2, h3⟩ := record_ok B "beam" (nowD (afterP R p) (c + ((tilesP R p).length : Nat))) hl
  have h1' : f_Bench_record [.loc b, .str "beam", .tup [.room (afterP R p), .int (c + ((tilesP R p).length : Nat))]] m = .ok .non m' := h1
  have ho := fun r => omK_of (mm := "record") (f := f_Bench_record) (r := r) B.o BF_record
  have e1 : atI [D.int (exitP R p), .fl ((tilesP R p).map tileD), .room (afterP R p)] 1 = some (.fl ((tilesP R p).map tileD)) := atI_1
  refine ⟨m', ?_, h2, h3⟩
  unfold f_Bench_beam P_Bench_beam
  os_names a1 hc hb pOm_e ho e1 List.length_map h1'
end
end MT

/-! SPC: mirrors that turn, tiles read, tiles with another sign, plainly. -/
namespace MT
open PySem L2
local macro_rules | `(tactic| os_names $xs:ident*) => `(tactic| simp -implicitDefEqProofs only [Bool.not_true, Bool.not_false, decide_true, decide_false, Res.bind_ok, Res.bind_bad, Res.bind_exc, Res.toS_ok, Res.toS_bad, Res.toS_exc, ResS.bind_nxt, ResS.bind_ret, ResS.bind_bad, ResS.bind_exc, bind_ite, toS_ite, bindS_ite, selB_bl, selB_t, selB_f, runK_ite, runK_nxt, runK_ret, runK_bad, runK_exc, runD_0, runD_1, runD_2, runD_3, runD_4, pVar_v, varK_s, pC_e, p1_e, p2_e, pF_e, evL_nil, evL_cons, pIf_e, pAnd_e, pOr_e, pChain_e, pRm_e, rmK_room, pSm_e, smK_s, pLm_e, lmK_e, lmK2_e, pFL_e, plNil_e, plCons_e, plStar_e, plK_tup, plK_fl, pMk_e, pItems_tup, pItems_fl, pMkV_e, mkVK_e, pCm_e, sSeq_e, sSet_e, sRet_e, sExpr_e, sNil_e, sBad_e, sIf_e, optN_some, sAsgT_e, bindT_nm, bindT_2, bindT_3, bindT_4, sPar_e, parK2_e, sPar3_e, parK3_e, optM_some, sSub_e, gSetL_e, setLK_e, sAug_e, augK_e, gSub_e, gAdd_i, gCmp_e, gTup_0, gTup_1, gTup_2, gTup_3, gTup_4, gList_0, gList_1, gList_2, gList_3, gNot_e, gLines_e, gPorts_e, gEqS_i, gIx_l, ixK_e, gIx_t, gIx_f, optR_s, atI_0, gLen_l, lenK_e, gLen_t, gLen_f, gAppend_e, gRev_f, gRevT_e, gTupOf_f, gTupOf_t, gListOf_f, gListOf_t, get_last, set_last, get_2a, get_2b, set_2a, set_2b, len_1, len_2, app_1, pFz_e, fzK_ite, fzK_exc, fzK_bad, dec_t, if_true, if_false, reduceIte, Bool.false_eq_true, wipeD, List.map_cons, List.map_nil, List.cons_append, List.nil_append, List.append_nil, List.replicate_succ, List.replicate_zero, List.set_cons_zero, List.set_cons_succ, Nat.reduceSub, Nat.reduceAdd, List.length_cons, List.length_nil, List.length_set, List.getElem?_cons_zero, List.getElem?_cons_succ, Option.map_some, $[$xs:ident],*])
variable {m m1 m2 : Store} {ε : EnvD}
/-! ### loops over what is numbered -/
theorem forX_rel {γ : Type} {nx : Nx} {t : Tgt} {pb : PgS} (xs : List γ) (en : Nat → γ → D) (hnx : ∀ i m, i ≤ xs.length → nx i m = some (xs[i]?.map (en i))) (R : Nat → EnvD → Store → Prop)
    (step : ∀ i x ε m, xs[i]? = some x → R i ε m → ∃ ε1 ε2 m2, bindT t (en i x) ε = some ε1 ∧ pb ε1 m = .nxt ε2 m2 ∧ R (i + 1) ε2 m2) :
    ∀ (k i n : Nat) (ε : EnvD) (m : Store), xs.length - i = k → i ≤ xs.length → k < n → R i ε m → ∃ ε2 m2, forN nx t pb n i ε m = .nxt ε2 m2 ∧ R xs.length ε2 m2
  | 0, i, n + 1, ε, m, hk, hi, _, r => by
    have e : i = xs.length := by omega
    subst e
    exact ⟨ε, m, by simp only [forN, hnx _ _ hi, List.getElem?_eq_none (Nat.le_refl _), Option.map_none], r⟩
  | k + 1, i, n + 1, ε, m, hk, hi, hn, r => by
    have hlt : i < xs.length := by omega
    have hx : xs[i]? = some xs[i] := List.getElem?_eq_getElem hlt
    obtain ⟨ε1, ε2, m2, h1, h2, r2⟩ := step i _ ε m hx r
    obtain ⟨ε3, m3, h3, r3⟩ := forX_rel xs en hnx R step k (i + 1) n ε2 m2 (by omega) hlt (by omega) r2
    refine ⟨ε3, m3, ?_, r3⟩
    simp only [forN, hnx _ _ hi, hx, Option.map_some, h1, h2, ResS.bind]
    exact h3
theorem sForX_rel {γ : Type} {pi : PgI} {nx : Nx} {t : Tgt} {pb : PgS} (xs : List γ) (en : Nat → γ → D) (R : Nat → EnvD → Store → Prop) (hp : pi ε m = .ok nx m1) (hnx : ∀ i m, i ≤ xs.length → nx i m = some (xs[i]?.map (en i))) (h0 : R 0 ε m1) (hl : xs.length ≤ lim)
    (step : ∀ i x ε m, xs[i]? = some x → R i ε m → ∃ ε1 ε2 m2, bindT t (en i x) ε = some ε1 ∧ pb ε1 m = .nxt ε2 m2 ∧ R (i + 1) ε2 m2) :
    ∃ ε2 m2, sFor pi t pb ε m = .nxt ε2 m2 ∧ R xs.length ε2 m2 := by
  unfold sFor
  rw [hp]
  exact forX_rel xs en hnx R step xs.length 0 bigN ε m1 rfl (Nat.zero_le _) (by unfold bigN; unfold lim at hl; omega) h0
/-- what is kept of numbered things -/
def selN {γ δ : Type} (c : γ → Bool) (g : Nat → γ → δ) : Nat → List γ → List δ
  | _, [] => []
  | i, x :: xs => if c x = true then g i x :: selN c g (i + 1) xs else selN c g (i + 1) xs
theorem selN_len {γ δ : Type} {c : γ → Bool} {g : Nat → γ → δ} : ∀ {i : Nat} {xs : List γ}, (selN c g i xs).length ≤ xs.length
  | _, [] => Nat.le_refl _
  | i, x :: xs => by
    have := selN_len (c := c) (g := g) (i := i + 1) (xs := xs)
    unfold selN
    split <;> simp only [List.length_cons] <;> omega
theorem selN_app {γ δ : Type} {c : γ → Bool} {g : Nat → γ → δ} {y : γ} : ∀ {i : Nat} {xs : List γ}, selN c g i (xs ++ [y]) = selN c g i xs ++ (if c y = true then [g (i + xs.length) y] else [])
  | i, [] => by simp [selN]
  | i, x :: xs => by
    have := selN_app (c := c) (g := g) (y := y) (i := i + 1) (xs := xs)
    simp only [List.cons_append, selN, this, List.length_cons]
    rw [show i + 1 + xs.length = i + (xs.length + 1) by omega]
    split <;> simp
theorem lcX_go {γ : Type} {nx : Nx} {xs : List γ} {en : Nat → γ → D} {t : Tgt} {pt pe : Pg} {ε : EnvD} {m : Store} {c : γ → Bool} {g : Nat → γ → D} (hnx : ∀ i m, i ≤ xs.length → nx i m = some (xs[i]?.map (en i)))
    (step : ∀ (i : Nat) (x : γ), xs[i]? = some x → ∃ ε1, bindT t (en i x) ε = some ε1 ∧ ∀ l, pt ε1 (m ++ l) = .ok (.bl (c x)) (m ++ l) ∧ (c x = true → pe ε1 (m ++ l) = .ok (g i x) (m ++ l))) (hl : xs.length ≤ lim) :
    ∀ (k i n : Nat), xs.length - i = k → i ≤ xs.length → k < n → lcN nx t pt pe ε m.length n i (m ++ [.lst (selN c g 0 (xs.take i))]) = .ok (.loc m.length) (m ++ [.lst (selN c g 0 xs)])
  | 0, i, n + 1, hk, hi, _ => by
    have e : i = xs.length := by omega
    subst e
    simp only [lcN, hnx _ _ hi, List.getElem?_eq_none (Nat.le_refl _), Option.map_none, List.take_length]
  | k + 1, i, n + 1, hk, hi, hn => by
    have hlt : i < xs.length := by omega
    have hx : xs[i]? = some xs[i] := List.getElem?_eq_getElem hlt
    obtain ⟨ε1, h1, h2⟩ := step i xs[i] hx
    obtain ⟨h3, h4⟩ := h2 [.lst (selN c g 0 (xs.take i))]
    have ih := lcX_go (g := g) hnx step hl k (i + 1) n (by omega) hlt (by omega)
    have et : xs.take (i + 1) = xs.take i ++ [xs[i]] := by rw [List.take_succ, hx]; rfl
    have lt : (xs.take i).length = i := by rw [List.length_take]; omega
    rw [et, selN_app, lt, Nat.zero_add] at ih
    cases hc : c xs[i] with
    | false =>
      rw [hc] at h3 ih
      simp only [Bool.false_eq_true, if_false, List.append_nil] at ih
      simp only [lcN, hnx _ _ hi, hx, Option.map_some, h1, h3]
      exact ih
    | true =>
      rw [hc] at h3 ih
      simp only [if_true] at ih
      have hle : (selN c g 0 (xs.take i)).length ≤ lim := Nat.le_trans selN_len (by rw [lt]; omega)
      simp only [lcN, hnx _ _ hi, hx, Option.map_some, h1, h3, h4 hc, get_last, if_pos hle, set_last]
      exact ih
theorem lcX_filter {γ : Type} {pi : PgI} {own : List Nat} {nx : Nx} (xs : List γ) (en : Nat → γ → D) {t : Tgt} {pt pe : Pg} (c : γ → Bool) (g : Nat → γ → D) (hp : pi ε m = .ok nx m1) (hnx : ∀ i m, i ≤ xs.length → nx i m = some (xs[i]?.map (en i))) (hl : xs.length ≤ lim)
    (step : ∀ (i : Nat) (x : γ), xs[i]? = some x → ∃ ε1, bindT t (en i x) (wipeD ε own) = some ε1 ∧ ∀ l, pt ε1 (m1 ++ l) = .ok (.bl (c x)) (m1 ++ l) ∧ (c x = true → pe ε1 (m1 ++ l) = .ok (g i x) (m1 ++ l))) :
    pLc pi own t pt pe ε m = .ok (.loc m1.length) (m1 ++ [.lst (selN c g 0 xs)]) := by
  unfold pLc
  rw [hp]
  exact lcX_go hnx step hl xs.length 0 bigN rfl (Nat.zero_le _) (by unfold bigN; unfold lim at hl; omega)
theorem nxE_map {γ : Type} {xs : List γ} {h : γ → D} (i : Nat) (m : Store) (hi : i ≤ xs.length) : nxE (xs.map h) i m = some (xs[i]?.map fun x => .tup [.int (i : Nat), h x]) := by
  unfold nxE
  rw [if_pos (by rw [List.length_map]; exact hi), List.getElem?_map, Option.map_map]; rfl
theorem iEnT_t {p : Pg} {xs : List D} (h : p ε m = .ok (.tup xs) m1) : iEnT p ε m = .ok (nxE xs) m1 := by unfold iEnT; rw [h]; rfl
theorem iEnS_s {p : Pg} {z : Str} (h : p ε m = .ok (.str z) m1) : iEnS p ε m = .ok (nxE (chars z)) m1 := by unfold iEnS; rw [h]; rfl
/-! ### turning -/
theorem rowT_sel (i : Int) : ∀ (j : Nat) (l : List Nat), (rowT i j l).map tileD = selN isTurnC (fun k _ => D.tup [.int i, .int (k : Nat)]) j l
  | _, [] => rfl
  | j, c :: l => by
    have := rowT_sel i (j + 1) l
    unfold rowT selN
    split
    · rw [List.map_cons, this]; rfl
    · exact this
theorem gridT_app : ∀ (i : Nat) (G : List (List Nat)) (l : List Nat), gridT i (G ++ [l]) = gridT i G ++ rowT ((i + G.length : Nat) : Int) 0 l
  | i, [], l => by simp [gridT]
  | i, x :: G, l => by
    have := gridT_app (i + 1) G l
    simp only [List.cons_append, gridT, this, List.append_assoc, List.length_cons]
    rw [show i + 1 + G.length = i + (G.length + 1) by omega]
theorem gInTurn_c {c : Nat} : gInTurn [.str ⟨#[c]⟩] m = .ok (.bl (isTurnC c)) m := by
  show Res.ok (D.bl (isTurnS ⟨#[c]⟩)) m = _
  unfold isTurnS isTurnC
  rw [kR_cps, kF_cps]
  congr 2
  by_cases h : c = 114
  · subst h; rfl
  · by_cases h2 : c = 102
    · subst h2; rfl
    · have e1 : (c == 114) = false := by simpa using h
      have e2 : (c == 102) = false := by simpa using h2
      rw [e1, e2, decide_eq_false (by simpa using h), decide_eq_false (by simpa using h2)]
theorem turning_ok {ls : List Str} (hv : Valid ls) (m : Store) : fzF f_turning [.room ls] m = .ok (.fl ((gridT 0 (gridL ls)).map tileD)) m := by
  have h8 : ls.length ≤ 8 := hv.2.1
  have hcnt : (gridT 0 (gridL ls)).length ≤ 10 := by rw [gridT_room]; exact hv.2.2.2.2.2
  have hsrc : iEnT (p1 gLines (pVar 0)) [some (.room ls), some (.loc m.length), none, none, none, none] (m ++ [.lst []]) = .ok (nxE (ls.map .str)) (m ++ [.lst []]) := iEnT_t rfl
  obtain ⟨ε2, m2, e1, gb, rfl, o2, o3, o4, o5, rfl⟩ := sForX_rel (t := .tp [2, 3]) (pb := sExpr (pLm gExtend (pVar 1) [(pLc (iEnS (pVar 3)) [4, 5] (.tp [4, 5]) (p1 gInTurn (pVar 5)) (pF gTup [(pVar 2), (pVar 4)]))])) ls (fun i z => .tup [.int (i : Nat), .str z])
    (fun i ε m' => ∃ gb, m' = m ++ (.lst ((gridT 0 ((gridL ls).take i)).map tileD) :: gb) ∧ ∃ o2 o3 o4 o5, ε = [some (.room ls), some (.loc m.length), o2, o3, o4, o5])
    hsrc (fun i m hi => nxE_map i m hi) ⟨[], rfl, _, _, _, _, rfl⟩ (by unfold lim; omega) fun i z ε m' hz hr => by
      obtain ⟨gb, rfl, o2, o3, o4, o5, rfl⟩ := hr
      have hz8 : z.length ≤ 8 := hv.len8 (List.mem_of_getElem? hz)
      obtain ⟨mm, hmm⟩ : ∃ mm, m ++ (Cell.lst ((gridT 0 ((gridL ls).take i)).map tileD) :: gb) = mm := ⟨_, rfl⟩
      have hG : (gridL ls)[i]? = some z.cps.toList := by unfold gridL; rw [List.getElem?_map, hz]; rfl
      have hi : i < ls.length := (List.getElem?_eq_some_iff.mp hz).1
      have hTi : (gridL ls).take (i + 1) = (gridL ls).take i ++ [z.cps.toList] := by rw [List.take_succ, hG]; rfl
      have hLi : ((gridL ls).take i).length = i := by rw [List.length_take]; unfold gridL; rw [List.length_map]; omega
      have hlc : pLc (iEnS (pVar 3)) [4, 5] (.tp [4, 5]) (p1 gInTurn (pVar 5)) (pF gTup [(pVar 2), (pVar 4)]) [some (.room ls), some (.loc m.length), some (.int (i : Nat)), some (.str z), o4, o5] mm =
          .ok (.loc mm.length) (mm ++ [.lst (selN isTurnC (fun k _ => D.tup [.int (i : Nat), .int (k : Nat)]) 0 z.cps.toList)]) := by
        refine lcX_filter (nx := nxE (chars z)) z.cps.toList (fun j c => .tup [.int (j : Nat), .str ⟨#[c]⟩]) isTurnC _ (iEnS_s (v_ok (i := 3) rfl)) (fun j m hj => nxE_map j m hj) (by show z.cps.toList.length ≤ lim; have : z.cps.toList.length = z.length := Array.length_toList; unfold lim; omega) fun j c hc => ?_
        refine ⟨[some (.room ls), some (.loc m.length), some (.int (i : Nat)), some (.str z), some (.int (j : Nat)), some (.str ⟨#[c]⟩)], rfl, fun l => ⟨?_, fun _ => ?_⟩⟩
        · os_names gInTurn_c
        · os_names dec_t
      rw [← rowT_sel] at hlc
      have g1 : mm[m.length]? = some (.lst ((gridT 0 ((gridL ls).take i)).map tileD)) := by rw [← hmm]; simp
      have g2 : (mm ++ [Cell.lst ((rowT (i : Nat) 0 z.cps.toList).map tileD)])[m.length]? = some (.lst ((gridT 0 ((gridL ls).take i)).map tileD)) := by
        rw [List.getElem?_append_left (by rw [← hmm]; simp)]; exact g1
      have hle : ((gridT 0 ((gridL ls).take i)).map tileD).length + ((rowT (i : Nat) 0 z.cps.toList).map tileD).length ≤ lim := by
        have e : gridT 0 ((gridL ls).take (i + 1)) = gridT 0 ((gridL ls).take i) ++ rowT (i : Nat) 0 z.cps.toList := by rw [hTi, gridT_app, hLi, Nat.zero_add]
        have h2 : (gridT 0 ((gridL ls).take i)).length + (rowT (i : Nat) 0 z.cps.toList).length ≤ 16 * 64 := by
          rw [rowT_len, gridT_len]
          have q1 := List.length_filter_le isTurnC z.cps.toList
          have q2 : z.cps.toList.length = z.length := Array.length_toList
          have q3 := sum_le (l := (gridL ls).take i) (f := fun l => (l.filter isTurnC).length) (k := 8) fun l hl => by
            obtain ⟨y, hy, rfl⟩ := List.mem_map.mp (List.mem_of_mem_take hl)
            have := hv.len8 hy
            have q := List.length_filter_le isTurnC y.cps.toList
            have q2 : y.cps.toList.length = y.length := Array.length_toList
            omega
          rw [hLi] at q3
          omega
        rw [List.length_map, List.length_map]
        unfold lim; omega
      have hx : gExtend [.loc m.length, .loc mm.length] (mm ++ [Cell.lst ((rowT (i : Nat) 0 z.cps.toList).map tileD)]) = .ok .non ((mm ++ [Cell.lst ((rowT (i : Nat) 0 z.cps.toList).map tileD)]).set m.length (.lst ((gridT 0 ((gridL ls).take i)).map tileD ++ (rowT (i : Nat) 0 z.cps.toList).map tileD))) := by
        unfold gExtend
        simp only [g2, get_last, if_pos hle]
      refine ⟨[some (.room ls), some (.loc m.length), some (.int (i : Nat)), some (.str z), o4, o5], [some (.room ls), some (.loc m.length), some (.int (i : Nat)), some (.str z), o4, o5], (mm ++ [Cell.lst ((rowT (i : Nat) 0 z.cps.toList).map tileD)]).set m.length (.lst ((gridT 0 ((gridL ls).take i)).map tileD ++ (rowT (i : Nat) 0 z.cps.toList).map tileD)), rfl, ?_, gb ++ [Cell.lst ((rowT (i : Nat) 0 z.cps.toList).map tileD)], ?_, _, _, _, _, rfl⟩
      · rw [hmm]
        os_names g1 hlc hx
      · rw [← hmm, hTi, gridT_app, hLi, Nat.zero_add, List.map_append]
        simp
  have hfin : (gridL ls).take ls.length = gridL ls := by
    have : (gridL ls).length = ls.length := by unfold gridL; rw [List.length_map]
    rw [← this, List.take_length]
  rw [hfin] at e1
  have e : f_turning [.room ls] m = .ok (.loc m.length) (m ++ (Cell.lst ((gridT 0 (gridL ls)).map tileD) :: gb)) := by
    unfold f_turning P_turning
    os_names e1
  rw [fzF_e, e]
  refine fzK_app (frz_loc (k := 5) (Nat.le_refl _) (by simp) ?_)
  exact ltDs_tiles
end MT

/-! SPD: tiles: checked, read, turned. -/
namespace MT
open PySem L2
local macro_rules | `(tactic| os_names $xs:ident*) => `(tactic| simp -implicitDefEqProofs only [Bool.not_true, Bool.not_false, decide_true, decide_false, Res.bind_ok, Res.bind_bad, Res.bind_exc, Res.toS_ok, Res.toS_bad, Res.toS_exc, ResS.bind_nxt, ResS.bind_ret, ResS.bind_bad, ResS.bind_exc, bind_ite, toS_ite, bindS_ite, selB_bl, selB_t, selB_f, runK_ite, runK_nxt, runK_ret, runK_bad, runK_exc, runD_0, runD_1, runD_2, runD_3, runD_4, pVar_v, varK_s, pC_e, p1_e, p2_e, pF_e, evL_nil, evL_cons, pIf_e, pAnd_e, pOr_e, pChain_e, pRm_e, rmK_room, pSm_e, smK_s, pLm_e, lmK_e, lmK2_e, pFL_e, plNil_e, plCons_e, plStar_e, plK_tup, plK_fl, pMk_e, pItems_tup, pItems_fl, pMkV_e, mkVK_e, pCm_e, sSeq_e, sSet_e, sRet_e, sExpr_e, sNil_e, sBad_e, sIf_e, optN_some, sAsgT_e, bindT_nm, bindT_2, bindT_3, bindT_4, sPar_e, parK2_e, sPar3_e, parK3_e, optM_some, sSub_e, gSetL_e, setLK_e, sAug_e, augK_e, gSub_e, gAdd_i, gCmp_e, gTup_0, gTup_1, gTup_2, gTup_3, gTup_4, gList_0, gList_1, gList_2, gList_3, gNot_e, gLines_e, gPorts_e, gEqS_i, gIx_l, ixK_e, gIx_t, gIx_f, optR_s, atI_0, gLen_l, lenK_e, gLen_t, gLen_f, gAppend_e, gRev_f, gRevT_e, gTupOf_f, gTupOf_t, gListOf_f, gListOf_t, get_last, set_last, get_2a, get_2b, set_2a, set_2b, len_1, len_2, app_1, pFz_e, fzK_ite, fzK_exc, fzK_bad, dec_t, if_true, if_false, reduceIte, Bool.false_eq_true, wipeD, List.map_cons, List.map_nil, List.cons_append, List.nil_append, List.append_nil, List.replicate_succ, List.replicate_zero, List.set_cons_zero, List.set_cons_succ, Nat.reduceSub, Nat.reduceAdd, List.length_cons, List.length_nil, List.length_set, List.getElem?_cons_zero, List.getElem?_cons_succ, Option.map_some, $[$xs:ident],*])
variable {m m1 m2 : Store}
theorem dec_refl2 {i : Int} : decide (i = i) = true := decide_eq_true rfl
theorem gIsi_t {xs : List D} : gIsi "tuple" [.tup xs] m = .ok (.bl true) m := by
  show Res.ok (D.bl (isSub "tuple" "tuple")) m = _
  rw [show isSub "tuple" "tuple" = true by decide]
/-- the tile r, c has the sign a -/
structure Tile (ls : List Str) (r c a : Nat) : Prop where
  hr : r < heightS ls
  hc : c < widthS ls
  z : ∃ z, ls[r]? = some z ∧ z.cps.toList[c]? = some a
section
variable {ls : List Str} {r c a : Nat}
theorem in_rng {n : Nat} (h : r < n) : (decide ((0 : Int) ≤ (r : Nat)) && decide (((r : Nat) : Int) ≤ (n : Nat) - 1)) = true := by
  rw [decide_eq_true (by omega), decide_eq_true (by omega)]; rfl
theorem check_tile_ok (hv : Valid ls) (t : Tile ls r c a) (m : Store) : f_check_tile [.room ls, .tup [.int (r : Nat), .int (c : Nat)]] m = .ok .non m := by
  have hs := fun m => size_ok hv m
  have q1 := fun m => isint_ok (r : Nat) 0 ((heightS ls : Nat) - 1) m
  have q2 := fun m => isint_ok (c : Nat) 0 ((widthS ls : Nat) - 1) m
  rw [in_rng t.hr] at q1
  rw [in_rng t.hc] at q2
  have e1 : atI [D.int (r : Nat), .int (c : Nat)] 1 = some (.int (c : Nat)) := atI_1
  unfold f_check_tile P_check_tile
  os_names hs q1 q2 e1 gIsi_t gEqS_i dec_refl2
  rfl
theorem getitem_ok (hv : Valid ls) (t : Tile ls r c a) (m : Store) : f___getitem__ [.room ls, .tup [.int (r : Nat), .int (c : Nat)]] m = .ok (.str ⟨#[a]⟩) m := by
  have hs := fun m => size_ok hv m
  have q1 := fun m => isint_ok (r : Nat) 0 ((heightS ls : Nat) - 1) m
  have q2 := fun m => isint_ok (c : Nat) 0 ((widthS ls : Nat) - 1) m
  rw [in_rng t.hr] at q1
  rw [in_rng t.hc] at q2
  have e1 : atI [D.int (r : Nat), .int (c : Nat)] 1 = some (.int (c : Nat)) := atI_1
  obtain ⟨z, hz, ha⟩ := t.z
  have e2 : atI (ls.map D.str) (r : Nat) = some (.str z) := by rw [atI_n, List.getElem?_map, hz]; rfl
  have h8 := hv.len8 (List.mem_of_getElem? hz)
  have hzl : z.length ≤ lim := by have : z.cps.toList.length = z.length := Array.length_toList; unfold lim; omega
  have e3 : ∀ m, gIx [.str z, .int (c : Nat)] m = .ok (.str ⟨#[a]⟩) m := fun m => by
    rw [gIx_s hzl]
    have : atI (z.cps.toList.map fun c => c) (c : Nat) = some a := by
      unfold atI ixN
      rw [if_pos (by omega), if_pos (by rw [List.length_map]; have := (List.getElem?_eq_some_iff.mp ha).1; omega)]
      simpa using ha
    rw [List.map_id'] at this
    rw [this]; rfl
  unfold f___getitem__ P___getitem__
  os_names hs q1 q2 e1 gIsi_t gEqS_i dec_refl2 e2 e3
  rfl
/-- the tile's mirror turned -/
noncomputable def turnAt (ls : List Str) (r c : Nat) : List Str := roomOf (setL (gridL ls) r c (flipC (cellAt (gridL ls) r c)))
theorem Tile.cell (t : Tile ls r c a) : cellAt (gridL ls) r c = a := by
  obtain ⟨z, hz, ha⟩ := t.z
  unfold cellAt gridL
  simp only [Int.toNat_natCast]
  rw [List.getElem?_map, hz]
  show ((z.cps.toList[c]?).getD 46) = a
  rw [ha]; rfl
theorem turn_set (t : Tile ls r c a) {z : Str} (hz : ls[r]? = some z) : turnAt ls r c = ls.set r (strOf (z.cps.toList.set c (flipC a))) := by
  unfold turnAt setL roomOf
  rw [t.cell]
  have hG : (gridL ls)[r]? = some z.cps.toList := by unfold gridL; rw [List.getElem?_map, hz]; rfl
  rw [hG]
  show ((gridL ls).set r (z.cps.toList.set c (flipC a))).map strOf = _
  rw [List.map_set]
  have := room_grid ls
  unfold roomOf at this
  rw [this]
theorem turn_valid (hv : Valid ls) (t : Tile ls r c a) : Valid (turnAt ls r c) ∧ heightS (turnAt ls r c) = heightS ls ∧ widthS (turnAt ls r c) = widthS ls := by
  have hn := hv.np
  have hr := t.hr
  have hc := t.hc
  have v := (VG.room hv).step (s := ⟨gridL ls, r, c, (0, 1)⟩) ⟨by show (0 : Int) ≤ (r : Nat); omega, by show ((r : Nat) : Int) < (heightS ls : Nat); omega, by show (0 : Int) ≤ (c : Nat); omega, by show ((c : Nat) : Int) < (widthS ls : Nat); omega⟩
  have e : (Bl.step ⟨gridL ls, r, c, (0, 1)⟩).G = setL (gridL ls) r c (flipC (cellAt (gridL ls) r c)) := rfl
  rw [e] at v
  exact v.valid hn.1 hn.2.1 hn.2.2.1 hn.2.2.2
theorem turn_tile (hv : Valid ls) (t : Tile ls r c a) : Tile (turnAt ls r c) r c (flipC a) := by
  obtain ⟨_, h1, h2⟩ := turn_valid hv t
  obtain ⟨z, hz, ha⟩ := t.z
  refine ⟨by rw [h1]; exact t.hr, by rw [h2]; exact t.hc, _, by rw [turn_set t hz, List.getElem?_set_self (List.getElem?_eq_some_iff.mp hz).1], ?_⟩
  show ((z.cps.toList.set c (flipC a)).toArray.toList)[c]? = _
  rw [List.getElem?_set_self (List.getElem?_eq_some_iff.mp ha).1]
theorem turn_turn (hv : Valid ls) (t : Tile ls r c a) : turnAt (turnAt ls r c) r c = ls := by
  obtain ⟨z, hz, ha⟩ := t.z
  have t2 := turn_tile hv t
  have hz2 : (turnAt ls r c)[r]? = some (strOf (z.cps.toList.set c (flipC a))) := by rw [turn_set t hz, List.getElem?_set_self (List.getElem?_eq_some_iff.mp hz).1]
  rw [turn_set t2 hz2, flip_flip, turn_set t hz, List.set_set]
  have e : ((strOf (z.cps.toList.set c (flipC a))).cps.toList.set c a) = z.cps.toList := by
    show ((z.cps.toList.set c (flipC a)).toArray.toList).set c a = _
    show ((z.cps.toList.set c (flipC a))).set c a = _
    rw [List.set_set]
    exact List.ext_getElem? fun i => by
      by_cases hi : i = c
      · subst hi; rw [List.getElem?_set_self (List.getElem?_eq_some_iff.mp ha).1, ha]
      · rw [List.getElem?_set_ne (Ne.symm hi)]
  rw [e, strOf_cps]
  exact List.ext_getElem? fun i => by
    by_cases hi : i = r
    · subst hi; rw [List.getElem?_set_self (List.getElem?_eq_some_iff.mp hz).1, hz]
    · rw [List.getElem?_set_ne (Ne.symm hi)]
theorem sl_u {z : Str} (hz : z.length ≤ lim) {c : Nat} (hc : c ≤ z.length) : gSlU [.str z, .int (c : Nat)] m = .ok (.str (strOf (z.cps.toList.take c))) m := by
  show gSl none (some ((c : Nat) : Int)) (.str z) m = _
  unfold gSl
  simp only [if_pos hz]
  unfold cutS
  rw [HT.sIx_none, HT.sIx_nat, Nat.sub_zero, List.drop_zero, Nat.min_eq_left hc]; rfl
theorem sl_l {z : Str} (hz : z.length ≤ lim) {c : Nat} (hc : c ≤ z.length) : gSlL [.str z, .int (c : Nat)] m = .ok (.str (strOf (z.cps.toList.drop c))) m := by
  show gSl (some ((c : Nat) : Int)) none (.str z) m = _
  unfold gSl
  simp only [if_pos hz]
  unfold cutS
  rw [HT.sIx_none, HT.sIx_nat, Nat.min_eq_left hc]
  have : z.cps.toList.length = z.length := Array.length_toList
  rw [List.take_of_length_le (by rw [List.length_drop]; omega)]; rfl
theorem strOf_app2 (l k : List Nat) : strOf l ++ strOf k = strOf (l ++ k) := by
  apply str_ext'
  rw [app_cps]
  simp [strOf]
theorem with_sign_ok (hv : Valid ls) (t : Tile ls r c a) (m : Store) : f_with_sign [.room ls, .tup [.int (r : Nat), .int (c : Nat)], .str ⟨#[flipC a]⟩] m = .ok (.room (turnAt ls r c)) (m ++ [.lst ((turnAt ls r c).map .str)]) := by
  have e1 : atI [D.int (r : Nat), .int (c : Nat)] 1 = some (.int (c : Nat)) := atI_1
  obtain ⟨z, hz, ha⟩ := t.z
  have e2 : atI (ls.map D.str) (r : Nat) = some (.str z) := by rw [atI_n, List.getElem?_map, hz]; rfl
  have h8 := hv.len8 (List.mem_of_getElem? hz)
  have hzz : z.cps.toList.length = z.length := Array.length_toList
  have hzl : z.length ≤ lim := by unfold lim; omega
  have hcz := (List.getElem?_eq_some_iff.mp ha).1
  have hrows : ∀ m : Store, f_rows [.room ls] m = .ok (.tup (ls.map .str)) m := fun m => rows_ok ls m
  have s1 := fun m : Store => sl_u (m := m) hzl (c := c) (by omega)
  have s2 : ∀ m : Store, gAdd [.str (strOf (z.cps.toList.take c)), .str ⟨#[flipC a]⟩] m = .ok (.str (strOf (z.cps.toList.take c ++ [flipC a]))) m := fun m => by
    rw [gAdd_s, strOf_app]
    show (z.cps.toList.take c).toArray.size + 1 ≤ lim
    rw [List.size_toArray, List.length_take]; unfold lim; omega
  have s3 := fun m : Store => sl_l (m := m) hzl (c := c + 1) (by omega)
  have s4 : ∀ m : Store, gAdd [.str (strOf (z.cps.toList.take c ++ [flipC a])), .str (strOf (z.cps.toList.drop (c + 1)))] m = .ok (.str (strOf (z.cps.toList.set c (flipC a)))) m := fun m => by
    rw [gAdd_s, strOf_app2]
    · congr 3
      rw [List.set_eq_take_append_cons_drop, if_pos hcz]; simp
    · show (z.cps.toList.take c ++ [flipC a]).toArray.size + (z.cps.toList.drop (c + 1)).toArray.size ≤ lim
      rw [List.size_toArray, List.size_toArray, List.length_append, List.length_take, List.length_drop]; simp only [List.length_cons, List.length_nil]; unfold lim; omega
  have hrl := (List.getElem?_eq_some_iff.mp hz).1
  have s5 : ixN (ls.map D.str).length (r : Nat) = some r := by
    unfold ixN
    rw [if_pos (by omega), if_pos (by rw [List.length_map]; omega)]; simp
  have s7 : (ls.map D.str).set r (.str (strOf (z.cps.toList.set c (flipC a)))) = (turnAt ls r c).map .str := by rw [turn_set t hz, List.map_set]
  have s6 : pItems mkRoom (.loc m.length) (m ++ [.lst ((turnAt ls r c).map .str)]) = .ok (.room (turnAt ls r c)) (m ++ [.lst ((turnAt ls r c).map .str)]) := by
    unfold pItems
    simp only [get_last]
    exact mkRoom_v (turn_valid hv t).1
  unfold f_with_sign P_with_sign
  have c1 : ((c : Nat) : Int) + 1 = ((c + 1 : Nat) : Int) := by omega
  os_names hrows e1 e2 s1 s2 c1 s3 s4 s5 s7 s6
end
/-! ### the bench's turns -/
section
variable {b pl ul : Nat} {sv : D} {ps us : List D} {R : List Str} {n : Int} {r c a : Nat}
theorem Bn.grow {nw : D} (B : Bn m b pl ul sv nw ps us) (l : Store) : Bn (m ++ l) b pl ul sv nw ps us := by
  obtain ⟨lb, lp, lu⟩ := B.lt
  exact ⟨by rw [List.getElem?_append_left lb]; exact B.o, by rw [List.getElem?_append_left lp]; exact B.p, by rw [List.getElem?_append_left lu]; exact B.u, B.bp, B.bu, B.pu⟩
theorem Kp.grow (l : Store) : Kp b pl ul ul m (m ++ l) := ⟨by simp, .inl rfl, fun n h _ _ _ => List.getElem?_append_left h⟩
theorem bturn_ok (B : Bn m b pl ul sv (nowD R n) ps us) (hv : Valid R) (t : Tile R r c a) (ha : isTurnC a = true) (hl : ps.length ≤ lim) :
    ∃ m' ul', f_Bench_turn [.loc b, .int (r : Nat), .int (c : Nat)] m = .ok (.str ⟨#[flipC a]⟩) m' ∧ Bn m' b pl ul' sv (nowD (turnAt R r c) n) (ps ++ [entryD "turn" (nowD R n) (nowD (turnAt R r c) n)]) [] ∧ Kp b pl ul ul' m m' := by
  have a1 : gFld "Bench" "now" [.loc b] m = .ok (.tup [.room R, .int n]) m := B.now
  have h1 := fun m => check_tile_ok hv t m
  have h2 := fun m => getitem_ok hv t m
  have h3 := with_sign_ok hv t m
  have ht : isTurnS ⟨#[a]⟩ = true := by
    have := gInTurn_c (c := a) (m := m)
    rw [ha] at this
    have e : gInTurn [.str ⟨#[a]⟩] m = .ok (.bl (isTurnS ⟨#[a]⟩)) m := rfl
    rw [e] at this
    cases h : isTurnS ⟨#[a]⟩ with
    | true => rfl
    | false => rw [h] at this; cases this
  have h4 : ∀ m : Store, gNotTurn [.str ⟨#[a]⟩] m = .ok (.bl false) m := fun m => by
    show Res.ok (D.bl (!isTurnS ⟨#[a]⟩)) m = _
    rw [ht]; rfl
  have h5 : ∀ m : Store, gTurnIx [.str ⟨#[a]⟩] m = .ok (.str ⟨#[flipC a]⟩) m := fun m => by
    show (if isTurnS ⟨#[a]⟩ = true then Res.ok (D.str (turnS ⟨#[a]⟩)) m else .bad) = _
    rw [if_pos ht, turn_one]
  have B2 := B.grow [.lst ((turnAt R r c).map .str)]
  obtain ⟨m', k1, k2, k3⟩ := record_ok B2 "turn" (nowD (turnAt R r c) n) hl
  have k1' : f_Bench_record [.loc b, .str "turn", .tup [.room (turnAt R r c), .int n]] (m ++ [.lst ((turnAt R r c).map .str)]) = .ok .non m' := k1
  have ho := fun r => omK_of (mm := "record") (f := f_Bench_record) (r := r) B.o BF_record
  refine ⟨m', _, ?_, k2, (Kp.grow _).trans k3⟩
  unfold f_Bench_turn P_Bench_turn
  os_names a1 h1 gGetR_e h2 h4 pOm_e ho h3 h5 k1'
theorem turn_all_ok (B : Bn m b pl ul sv (nowD R n) ps us) (hv : Valid R) (hl : ps.length ≤ lim) :
    ∃ m', f_Bench_turn_all [.loc b] m = .ok (.int ((gridT 0 (gridL R)).length : Nat)) m' ∧ Bn m' b pl m.length sv (nowD (flipR R) n) (ps ++ [entryD "turn_all" (nowD R n) (nowD (flipR R) n)]) [] ∧ Kp b pl ul m.length m m' := by
  have a1 : gFld "Bench" "now" [.loc b] m = .ok (.tup [.room R, .int n]) m := B.now
  have hi := fun m => invert_ok hv m
  have ht := fun m => turning_ok hv m
  obtain ⟨m', k1, k2, k3⟩ := record_ok B "turn_all" (nowD (flipR R) n) hl
  have k1' : f_Bench_record [.loc b, .str "turn_all", .tup [.room (flipR R), .int n]] m = .ok .non m' := k1
  have ho := fun r => omK_of (mm := "record") (f := f_Bench_record) (r := r) B.o BF_record
  refine ⟨m', ?_, k2, k3⟩
  unfold f_Bench_turn_all P_Bench_turn_all
  os_names a1 hi pOm_e ho k1' ht List.length_map
end
end MT

/-! SPE: _law_equal upon equal data. -/
namespace MT
open PySem L2
local macro_rules | `(tactic| os_names $xs:ident*) => `(tactic| simp -implicitDefEqProofs only [Bool.not_true, Bool.not_false, decide_true, decide_false, Res.bind_ok, Res.bind_bad, Res.bind_exc, Res.toS_ok, Res.toS_bad, Res.toS_exc, ResS.bind_nxt, ResS.bind_ret, ResS.bind_bad, ResS.bind_exc, bind_ite, toS_ite, bindS_ite, selB_bl, selB_t, selB_f, runK_ite, runK_nxt, runK_ret, runK_bad, runK_exc, runD_0, runD_1, runD_2, runD_3, runD_4, pVar_v, varK_s, pC_e, p1_e, p2_e, pF_e, evL_nil, evL_cons, pIf_e, pAnd_e, pOr_e, pChain_e, pRm_e, rmK_room, pSm_e, smK_s, pLm_e, lmK_e, lmK2_e, pFL_e, plNil_e, plCons_e, plStar_e, plK_tup, plK_fl, pMk_e, pItems_tup, pItems_fl, pMkV_e, mkVK_e, pCm_e, sSeq_e, sSet_e, sRet_e, sExpr_e, sNil_e, sBad_e, sIf_e, optN_some, sAsgT_e, bindT_nm, bindT_2, bindT_3, bindT_4, sPar_e, parK2_e, sPar3_e, parK3_e, optM_some, sSub_e, gSetL_e, setLK_e, sAug_e, augK_e, gSub_e, gAdd_i, gCmp_e, gTup_0, gTup_1, gTup_2, gTup_3, gTup_4, gList_0, gList_1, gList_2, gList_3, gNot_e, gLines_e, gPorts_e, gEqS_i, gIx_l, ixK_e, gIx_t, gIx_f, optR_s, atI_0, gLen_l, lenK_e, gLen_t, gLen_f, gAppend_e, gRev_f, gRevT_e, gTupOf_f, gTupOf_t, gListOf_f, gListOf_t, get_last, set_last, get_2a, get_2b, set_2a, set_2b, len_1, len_2, app_1, pFz_e, fzK_ite, fzK_exc, fzK_bad, dec_t, if_true, if_false, reduceIte, Bool.false_eq_true, wipeD, List.map_cons, List.map_nil, List.cons_append, List.nil_append, List.append_nil, List.replicate_succ, List.replicate_zero, List.set_cons_zero, List.set_cons_succ, Nat.reduceSub, Nat.reduceAdd, List.length_cons, List.length_nil, List.length_set, List.getElem?_cons_zero, List.getElem?_cons_succ, Option.map_some, $[$xs:ident],*])
variable {m m1 m2 : Store} {ε : EnvD}
noncomputable def PEq (F : Fn) : PgS :=
  (sSeq (sIf (p2 gIsN (pVar 1) (pC .non)) (sRet (p2 gIsN (pVar 0) (pC .non))) sNil)
    (sSeq (sIf (p1 (gIsi "bool") (pVar 1)) (sRet (pAnd (p1 (gIsi "bool") (pVar 0)) (p2 (gEqS false) (pVar 0) (pVar 1)))) sNil)
    (sSeq (sIf (p1 (gIsi "int") (pVar 1)) (sRet (pAnd (p1 (gIsi "int") (pVar 0)) (pAnd (p1 gNot (p1 (gIsi "bool") (pVar 0))) (p2 (gEqS false) (pVar 0) (pVar 1))))) sNil)
    (sSeq (sIf (p1 (gIsi "str") (pVar 1)) (sRet (pAnd (p1 (gIsi "str") (pVar 0)) (p2 (gEqS false) (pVar 0) (pVar 1)))) sNil)
    (sSeq (sIf (p2 (gEqS true) (p1 (gIsi "tuple") (pVar 1)) (p1 (gIsi "tuple") (pVar 0))) (sRet (pC (.bl false))) sNil)
    (sSeq (sIf (p2 (gEqS true) (p1 (gIsi "list") (pVar 1)) (p1 (gIsi "list") (pVar 0))) (sRet (pC (.bl false))) sNil)
    (sSeq (sIf (p2 (gEqS true) (pF gLen [(pVar 0)]) (pF gLen [(pVar 1)])) (sRet (pC (.bl false))) sNil)
    (sRet (pF gAll [(pFz (pLc (iR1 (pF gLen [(pVar 1)])) [2] (.nm 2) (pC (.bl true)) (pF F [(p2 gIx (pVar 0) (pVar 2)), (p2 gIx (pVar 1) (pVar 2))])))])))))))))
/-- data of at most n levels -/
def dataD : Nat → D → Bool
  | 0, _ => false
  | _ + 1, .non => true
  | _ + 1, .bl _ => true
  | _ + 1, .int _ => true
  | _ + 1, .str _ => true
  | n + 1, .tup xs => decide (xs.length ≤ lim) && xs.all (dataD n)
  | n + 1, .fl xs => decide (xs.length ≤ lim) && xs.all (dataD n)
  | _ + 1, _ => false
theorem gIsi_fl {xs : List D} {b : String} : gIsi b [.fl xs] m = .ok (.bl (isSub "list" b)) m := rfl
theorem gIsi_tu {xs : List D} {b : String} : gIsi b [.tup xs] m = .ok (.bl (isSub "tuple" b)) m := rfl
theorem gIsi_i {i : Int} {b : String} : gIsi b [.int i] m = .ok (.bl (isSub "int" b)) m := rfl
theorem gIsi_s {z : Str} {b : String} : gIsi b [.str z] m = .ok (.bl (isSub "str" b)) m := rfl
theorem gIsi_b {z : Bool} {b : String} : gIsi b [.bl z] m = .ok (.bl (isSub "bool" b)) m := rfl
theorem gIsN_e {d : D} : gIsN [d, .non] m = .ok (.bl (isN d)) m := rfl
theorem isSub_list : isSub "list" "bool" = false ∧ isSub "list" "int" = false ∧ isSub "list" "str" = false ∧ isSub "list" "tuple" = false ∧ isSub "list" "list" = true := by decide
theorem isSub_tup : isSub "tuple" "bool" = false ∧ isSub "tuple" "int" = false ∧ isSub "tuple" "str" = false ∧ isSub "tuple" "tuple" = true ∧ isSub "tuple" "list" = false := by decide
theorem isSub_sc : isSub "int" "bool" = false ∧ isSub "int" "int" = true ∧ isSub "str" "bool" = false ∧ isSub "str" "int" = false ∧ isSub "str" "str" = true ∧ isSub "bool" "bool" = true := by decide
theorem gEqS_b {b : Bool} {neg : Bool} : gEqS neg [.bl b, .bl b] m = .ok (.bl (!neg)) m := by cases b <;> cases neg <;> rfl
theorem gEqS_ii {i : Int} : gEqS false [.int i, .int i] m = .ok (.bl true) m := by rw [gEqS_i]; simp
theorem gEqS_ss {z : Str} : gEqS false [.str z, .str z] m = .ok (.bl true) m := by
  show Res.ok (D.bl (z == z)) m = _
  rw [beq_self_eq_true]
theorem gEqS_in {i : Int} : gEqS true [.int i, .int i] m = .ok (.bl false) m := by rw [gEqS_i]; simp
theorem gAll_f {bs : List Bool} : gAll [.fl (bs.map .bl)] m = .ok (.bl (bs.all id)) m := by
  show (match blsOf (bs.map D.bl) with | some bs => Res.ok (D.bl (bs.all id)) m | none => .bad) = _
  rw [blsOf_map]
theorem eqSeq {F : Fn} {xs : List D} {d : D} (hd : d = .tup xs ∨ d = .fl xs) (hl : xs.length ≤ lim) (hF : ∀ x ∈ xs, ∀ m, F [x, x] m = .ok (.bl true) m) (hlen : ∀ m, gLen [d] m = .ok (.int (xs.length : Nat)) m) (hix : ∀ (i : Nat) m, gIx [d, .int i] m = optR xs[i]? m) (m : Store) :
    pFz (pLc (iR1 (pF gLen [(pVar 1)])) [2] (.nm 2) (pC (.bl true)) (pF F [(p2 gIx (pVar 0) (pVar 2)), (p2 gIx (pVar 1) (pVar 2))])) [some d, some d, none] m = .ok (.fl ((List.replicate xs.length true).map .bl)) m := by
  have src : iR1 (pF gLen [(pVar 1)]) [some d, some d, none] m = .ok (nxF ((List.range xs.length).map fun i : Nat => D.int (0 + (i : Nat)))) m := by
    have h : pF gLen [(pVar 1)] [some d, some d, none] m = .ok (.int (xs.length : Nat)) m := by os_names hlen
    exact iR1_n h hl
  have e : (List.replicate xs.length true).map D.bl = (List.range xs.length).map fun _ => D.bl true := by
    rw [List.map_replicate]
    exact (List.eq_replicate_iff.mpr ⟨by simp, fun b hb => by obtain ⟨_, _, rfl⟩ := List.mem_map.mp hb; rfl⟩).symm
  rw [e]
  refine lcz_map (List.range xs.length) (fun i : Nat => D.int (0 + (i : Nat))) _ src (by rw [List.length_range]; exact hl) (fun _ _ => rfl) fun j i hi => ?_
  have hi' : i < xs.length := List.mem_range.mp (List.mem_of_getElem? hi)
  refine ⟨[some d, some d, some (.int i)], by rw [Int.zero_add]; rfl, fun l => ?_⟩
  have hx : xs[i]? = some xs[i] := List.getElem?_eq_getElem hi'
  have h1 := hF xs[i] (List.getElem_mem hi')
  os_names hix hx h1
theorem eq_step {F : Fn} {n : Nat} (hF : ∀ x, dataD n x = true → ∀ m, F [x, x] m = .ok (.bl true) m) {d : D} (hd : dataD (n + 1) d = true) (m : Store) : runD 2 3 (PEq F) [d, d] m = .ok (.bl true) m := by
  obtain ⟨l1, l2, l3, l4, l5⟩ := isSub_list
  obtain ⟨t1, t2, t3, t4, t5⟩ := isSub_tup
  obtain ⟨s1, s2, s3, s4, s5, s6⟩ := isSub_sc
  have n1 : isN (.non) = true := rfl
  unfold PEq
  cases d with
  | non => os_names gIsN_e n1
  | bl b =>
    have nn : isN (.bl b) = false := rfl
    os_names gIsN_e nn gIsi_b s6 gEqS_b
  | int i =>
    have nn : isN (.int i) = false := rfl
    os_names gIsN_e nn gIsi_i s1 s2 gEqS_ii
  | str z =>
    have nn : isN (.str z) = false := rfl
    os_names gIsN_e nn gIsi_s s3 s4 s5 gEqS_ss
  | tup xs =>
    have nn : isN (.tup xs) = false := rfl
    simp only [dataD, Bool.and_eq_true, decide_eq_true_eq, List.all_eq_true] at hd
    have hs := fun m => eqSeq (F := F) (d := .tup xs) (.inl rfl) hd.1 (fun x hx m => hF x (hd.2 x hx) m) (fun m => gLen_t) (fun i m => by rw [gIx_t, atI_n]) m
    have ha : ∀ m : Store, gAll [.fl ((List.replicate xs.length true).map .bl)] m = .ok (.bl true) m := fun m => by rw [gAll_f]; simp
    os_names gIsN_e nn gIsi_tu t1 t2 t3 t4 t5 gEqS_b gEqS_in
    simp only [pFz_e] at hs
    os_names hs ha
  | fl xs =>
    have nn : isN (.fl xs) = false := rfl
    simp only [dataD, Bool.and_eq_true, decide_eq_true_eq, List.all_eq_true] at hd
    have hs := fun m => eqSeq (F := F) (d := .fl xs) (.inr rfl) hd.1 (fun x hx m => hF x (hd.2 x hx) m) (fun m => gLen_f) (fun i m => by rw [gIx_f, atI_n]) m
    have ha : ∀ m : Store, gAll [.fl ((List.replicate xs.length true).map .bl)] m = .ok (.bl true) m := fun m => by rw [gAll_f]; simp
    os_names gIsN_e nn gIsi_fl l1 l2 l3 l4 l5 gEqS_b gEqS_in
    simp only [pFz_e] at hs
    os_names hs ha
  | _ => exact absurd hd Bool.false_ne_true
theorem equal_ok {d : D} (hd : dataD 4 d = true) (m : Store) : f__law_equal_4 [d, d] m = .ok (.bl true) m := by
  have h0 : ∀ x, dataD 0 x = true → ∀ m, f__law_equal_0 [x, x] m = .ok (.bl true) m := fun x h => absurd h Bool.false_ne_true
  have h1 : ∀ x, dataD 1 x = true → ∀ m, f__law_equal_1 [x, x] m = .ok (.bl true) m := fun x h m => eq_step h0 h m
  have h2 : ∀ x, dataD 2 x = true → ∀ m, f__law_equal_2 [x, x] m = .ok (.bl true) m := fun x h m => eq_step h1 h m
  have h3 : ∀ x, dataD 3 x = true → ∀ m, f__law_equal_3 [x, x] m = .ok (.bl true) m := fun x h m => eq_step h2 h m
  exact eq_step h3 hd m
end MT

/-! K37: benches and rooms, plainly. -/
namespace MT
open PySem L2
local macro_rules | `(tactic| os_names $xs:ident*) => `(tactic| simp -implicitDefEqProofs only [Bool.not_true, Bool.not_false, decide_true, decide_false, Res.bind_ok, Res.bind_bad, Res.bind_exc, Res.toS_ok, Res.toS_bad, Res.toS_exc, ResS.bind_nxt, ResS.bind_ret, ResS.bind_bad, ResS.bind_exc, bind_ite, toS_ite, bindS_ite, selB_bl, selB_t, selB_f, runK_ite, runK_nxt, runK_ret, runK_bad, runK_exc, runD_0, runD_1, runD_2, runD_3, runD_4, pVar_v, varK_s, pC_e, p1_e, p2_e, pF_e, evL_nil, evL_cons, pIf_e, pAnd_e, pOr_e, pChain_e, pRm_e, rmK_room, pSm_e, smK_s, pLm_e, lmK_e, lmK2_e, pFL_e, plNil_e, plCons_e, plStar_e, plK_tup, plK_fl, pMk_e, pItems_tup, pItems_fl, pMkV_e, mkVK_e, pCm_e, sSeq_e, sSet_e, sRet_e, sExpr_e, sNil_e, sBad_e, sIf_e, optN_some, sAsgT_e, bindT_nm, bindT_2, bindT_3, bindT_4, sPar_e, parK2_e, sPar3_e, parK3_e, optM_some, sSub_e, gSetL_e, setLK_e, sAug_e, augK_e, gSub_e, gAdd_i, gCmp_e, gTup_0, gTup_1, gTup_2, gTup_3, gTup_4, gList_0, gList_1, gList_2, gList_3, gNot_e, gLines_e, gPorts_e, gEqS_i, gIx_l, ixK_e, gIx_t, gIx_f, optR_s, atI_0, gLen_l, lenK_e, gLen_t, gLen_f, gAppend_e, gRev_f, gRevT_e, gTupOf_f, gTupOf_t, gListOf_f, gListOf_t, get_last, set_last, get_2a, get_2b, set_2a, set_2b, len_1, len_2, app_1, pFz_e, fzK_ite, fzK_exc, fzK_bad, dec_t, if_true, if_false, reduceIte, Bool.false_eq_true, wipeD, List.map_cons, List.map_nil, List.cons_append, List.nil_append, List.append_nil, List.replicate_succ, List.replicate_zero, List.set_cons_zero, List.set_cons_succ, Nat.reduceSub, Nat.reduceAdd, List.length_cons, List.length_nil, List.length_set, List.getElem?_cons_zero, List.getElem?_cons_succ, Option.map_some, $[$xs:ident],*])
variable {m m1 m2 : Store} {ε : EnvD}
theorem ports_in2 {ls : List Str} (hv : Valid ls) : 4 ≤ nPorts ls ∧ nPorts ls ≤ 32 := ⟨by have := hv.np; unfold nPorts; omega, hv.ports⟩
theorem port_draw2 {ls : List Str} (hv : Valid ls) (d : RD) : PortOk ls (d.draw (nPorts ls : Nat)) := by
  have h := ports_in2 hv
  exact d.draw_in (k := (nPorts ls : Nat)) (by omega)
theorem pListG_e2 {f : FnG} {ps : List Pg} {ε : EnvD} {m : Store} : pListG f ps ε m = (evL ps ε m).bind fun ds m1 => (f ds m1).bind fun ys m2 => .ok (.loc m2.length) (m2 ++ [.lst ys]) := rfl
/-! ### the state of the law: the bench stands at 1, its lists at 2 and elsewhere, the exits at 5 -/
def LS (m : Store) (nw : D) (es us : List D) (X : List Int) : Prop := ∃ ul, Bn m 1 2 ul (.loc 4) nw es us ∧ ul ≠ 5 ∧ m[5]? = some (.lst (X.map .int))
section
variable {nw nw' : D} {es es' us us' : List D} {X : List Int} {ul ul' b pl n : Nat} {sv : D} {c : Cell}
theorem Bn.set (B : Bn m b pl ul sv nw es us) (h1 : n ≠ b) (h2 : n ≠ pl) (h3 : n ≠ ul) : Bn (m.set n c) b pl ul sv nw es us :=
  ⟨by rw [List.getElem?_set_ne h1]; exact B.o, by rw [List.getElem?_set_ne h2]; exact B.p, by rw [List.getElem?_set_ne h3]; exact B.u, B.bp, B.bu, B.pu⟩
theorem LS.lt (L : LS m nw es us X) : 5 < m.length := by obtain ⟨ul, B, n, h⟩ := L; exact (List.getElem?_eq_some_iff.mp h).1
theorem LS.grow (L : LS m nw es us X) (l : Store) : LS (m ++ l) nw es us X := by
  obtain ⟨ul, B, n, h⟩ := L
  exact ⟨ul, B.grow l, n, by rw [List.getElem?_append_left (List.getElem?_eq_some_iff.mp h).1]; exact h⟩
theorem LS.op (h5 : m[5]? = some (.lst (X.map .int))) (n5 : ul ≠ 5) (B : Bn m2 1 2 ul' (.loc 4) nw' es' us') (k : Kp 1 2 ul ul' m m2) : LS m2 nw' es' us' X := by
  have l5 := (List.getElem?_eq_some_iff.mp h5).1
  refine ⟨ul', B, ?_, by rw [k.at_ 5 l5 (by omega) (by omega) (Ne.symm n5)]; exact h5⟩
  rcases k.uk with e | e
  · rw [e]; exact n5
  · omega
theorem lcB {pi : PgI} {own : List Nat} {t : Tgt} {pe : Pg} (xs gs : List D) (Nw : Nat → D) (Es Us : Nat → List D) (hp : pi ε m = .ok (nxF xs) m1) (L : LS m1 (Nw 0) (Es 0) (Us 0) X) (len : gs.length = xs.length) (hl : xs.length ≤ lim)
    (step : ∀ i x y m' ul, xs[i]? = some x → gs[i]? = some y → Bn m' 1 2 ul (.loc 4) (Nw i) (Es i) (Us i) →
      ∃ ε1 m2 ul', bindT t x (wipeD ε own) = some ε1 ∧ pe ε1 m' = .ok y m2 ∧ Bn m2 1 2 ul' (.loc 4) (Nw (i + 1)) (Es (i + 1)) (Us (i + 1)) ∧ Kp 1 2 ul ul' m' m2) :
    ∃ m2, pLc pi own t (pC (.bl true)) pe ε m = .ok (.loc m1.length) m2 ∧ LS m2 (Nw xs.length) (Es xs.length) (Us xs.length) X ∧ m2[m1.length]? = some (.lst gs) := by
  have l5 := L.lt
  obtain ⟨ul0, B0, n0, h50⟩ := L
  obtain ⟨m2, e, ⟨ul, B, n5, n6, h5, hlen⟩, hg⟩ := lc_rel (pe := pe) (t := t) (own := own) xs gs (fun i m' => ∃ ul, Bn m' 1 2 ul (.loc 4) (Nw i) (Es i) (Us i) ∧ ul ≠ 5 ∧ ul ≠ m1.length ∧ m'[5]? = some (.lst (X.map .int)) ∧ m1.length < m'.length)
    hp ⟨ul0, B0.grow _, n0, Nat.ne_of_lt B0.lt.2.2, by rw [List.getElem?_append_left l5]; exact h50, by simp⟩ len hl (fun i m' _ => rfl) fun i x y m' hx hy hR hg => by
      obtain ⟨ul, B, n5, n6, h5, hlen⟩ := hR
      obtain ⟨ε1, m2, ul', h1, h2, B2, k⟩ := step i x y m' ul hx hy B
      have l5' := (List.getElem?_eq_some_iff.mp h5).1
      have n5' : ul' ≠ 5 := by
        rcases k.uk with e | e
        · rw [e]; exact n5
        · omega
      have n6' : ul' ≠ m1.length := by
        rcases k.uk with e | e
        · rw [e]; exact n6
        · omega
      have c5 : m2[5]? = some (.lst (X.map .int)) := by rw [k.at_ 5 l5' (by omega) (by omega) (Ne.symm n5)]; exact h5
      have c6 : m2[m1.length]? = some (.lst (gs.take i)) := by rw [k.at_ _ hlen (by omega) (by omega) (Ne.symm n6)]; exact hg
      refine ⟨ε1, m2, h1, h2, c6, ul', B2.set (by omega) (by omega) (Ne.symm n6'), n5', n6', ?_, ?_⟩
      · rw [List.getElem?_set_ne (by omega)]; exact c5
      · rw [List.length_set]; have := k.len; omega
  exact ⟨m2, e, ⟨ul, B, n5, h5⟩, hg⟩
end
/-! ### chains of entries -/
inductive Chain (a : D) : List D → D → Prop where
  | nil : Chain a [] a
  | snoc {ps : List D} {b : D} (h : Chain a ps b) (w : Str) (c : D) : Chain a (ps ++ [entryD w b c]) c
theorem Chain.fn {a : D} {ps : List D} {b : D} (h : Chain a ps b) : ∃ (S : Nat → D) (Wd : Nat → Str), ps = (List.range ps.length).map (fun i => entryD (Wd i) (S i) (S (i + 1))) ∧ S 0 = a ∧ S ps.length = b := by
  induction h with
  | nil => exact ⟨fun _ => a, fun _ => "", rfl, rfl, rfl⟩
  | @snoc ps b h w c ih =>
    obtain ⟨S, Wd, e, h0, h1⟩ := ih
    have hne : ∀ i, i < ps.length → (if i < ps.length + 1 then S i else c) = S i := fun i hi => if_pos (by omega)
    refine ⟨fun i => if i < ps.length + 1 then S i else c, fun i => if i < ps.length then Wd i else w, ?_, ?_, ?_⟩
    · rw [List.length_append, List.length_singleton, List.range_succ, List.map_append]
      congr 1
      · conv => lhs; rw [e]
        refine List.map_congr_left fun i hi => ?_
        have hi' := List.mem_range.mp hi
        show _ = entryD (if i < ps.length then Wd i else w) (if i < ps.length + 1 then S i else c) (if i + 1 < ps.length + 1 then S (i + 1) else c)
        rw [if_pos hi', if_pos (by omega), if_pos (by omega)]
      · simp [h1]
    · show (if 0 < ps.length + 1 then S 0 else c) = a
      rw [if_pos (by omega)]; exact h0
    · rw [List.length_append, List.length_singleton]
      show (if ps.length + 1 < ps.length + 1 then S (ps.length + 1) else c) = c
      rw [if_neg (by omega)]
/-! ### passes -/
noncomputable def passN : List Str → List Int → Nat
  | _, [] => 0
  | ls, p :: ps => (tilesP ls p).length + passN (afterP ls p) ps
theorem pass_app : ∀ (ps qs : List Int) (ls : List Str), passN ls (ps ++ qs) = passN ls ps + passN (sendN ls ps).2 qs
  | [], qs, ls => by simp [passN, sendN]
  | p :: ps, qs, ls => by
    have := pass_app ps qs (afterP ls p)
    simp only [List.cons_append, passN, this, sendN]
    omega
theorem pass_back : ∀ (ps : List Int) {ls : List Str}, Valid ls → (∀ p ∈ ps, PortOk ls p) → passN (flipR (sendN ls ps).2) (sendN ls ps).1.reverse = passN ls ps
  | [], ls, hv, hp => by simp [passN, sendN]
  | p :: ps, ls, hv, hp => by
    have hp0 := hp p (List.mem_cons_self ..)
    obtain ⟨hA, _, _⟩ := after_valid hv hp0
    have hps : ∀ q ∈ ps, PortOk (afterP ls p) q := fun q hq => by
      have := hp q (List.mem_cons_of_mem _ hq)
      unfold PortOk at this ⊢; rw [ports_after hv hp0]; exact this
    have ih := pass_back ps hA hps
    have sb := send_back ps hA hps
    have B := back_ok hv hp0
    simp only [sendN, passN, List.reverse_cons]
    rw [pass_app, ih, sb]
    simp only [passN]
    rw [B.tiles, List.length_reverse]
    omega
/-! ### equalities -/
theorem ne_ints_ll {a b : Nat} {is : List Int} (h1 : m[a]? = some (.lst (is.map .int))) (h2 : m[b]? = some (.lst (is.map .int))) : gEqD true true [.loc a, .loc b] m = .ok (.bl false) m := by
  refine ne_same ?_
  show (if scalD (.loc a) (.loc b) = true then some (eqS (.loc a) (.loc b)) else match lsD m (.loc a), lsD m (.loc b) with
      | some xs, some ys => eqL (eqD true m 5) xs ys
      | _, _ => none) = _
  have hs : scalD (.loc a) (.loc b) = false := rfl
  rw [hs, if_neg Bool.false_ne_true]
  show (match (match m[a]? with | some (.lst xs) => some xs | _ => none), (match m[b]? with | some (.lst xs) => some xs | _ => none) with
      | some xs, some ys => eqL (eqD true m 5) xs ys
      | _, _ => none) = _
  rw [h1, h2]
  exact eqL_ints
theorem eqD_lf {a : Nat} {xs ys : List D} (h1 : m[a]? = some (.lst xs)) : eqD true m 6 (.loc a) (.fl ys) = eqL (eqD true m 5) xs ys := by
  show (if scalD (.loc a) (.fl ys) = true then some (eqS (.loc a) (.fl ys)) else match lsD m (.loc a), lsD m (.fl ys) with
      | some xs, some ys => eqL (eqD true m 5) xs ys
      | _, _ => none) = _
  have hs : scalD (.loc a) (.fl ys) = false := rfl
  rw [hs, if_neg Bool.false_ne_true]
  show (match (match m[a]? with | some (.lst xs) => some xs | _ => none), some ys with
      | some xs, some ys => eqL (eqD true m 5) xs ys
      | _, _ => none) = _
  rw [h1]
theorem ne_ints_lf {a : Nat} {is : List Int} (h1 : m[a]? = some (.lst (is.map .int))) : gEqD true true [.loc a, .fl (is.map .int)] m = .ok (.bl false) m := by
  refine ne_same ?_
  rw [eqD_lf h1]
  exact eqL_ints
theorem eqD_bl {b : Bool} {k : Nat} : eqD true m (k + 1) (.bl b) (.bl b) = some true := by cases b <;> rfl
theorem ne_bls_lf {a : Nat} {bs : List Bool} (h1 : m[a]? = some (.lst (bs.map .bl))) : gEqD true true [.loc a, .fl (bs.map .bl)] m = .ok (.bl false) m := by
  refine ne_same ?_
  rw [eqD_lf h1]
  exact eqL_id fun x hx => by
    obtain ⟨b, _, rfl⟩ := List.mem_map.mp hx
    exact eqD_bl
theorem ne_int_int {i : Int} : gEqD true true [.int i, .int i] m = .ok (.bl false) m := ne_same (by rw [eqD_int, decide_eq_true rfl])
theorem eq_int_int {i : Int} : gEqD true false [.int i, .int i] m = .ok (.bl true) m := eqDsame (by rw [eqD_int, decide_eq_true rfl])
theorem eq_room_same {a : List Str} : gEqD true false [.room a, .room a] m = .ok (.bl true) m := eqDsame (by rw [eqD_room, decide_eq_true rfl])
theorem ne_str_same {x : Str} : gEqD true true [.str x, .str x] m = .ok (.bl false) m := ne_same (by rw [eqD_str, beq_self_eq_true])
theorem eq_str_no {x y : Str} (h : x ≠ y) : gEqD true false [.str x, .str y] m = .ok (.bl false) m := gEqD_e (by rw [eqD_str, beq_eq_false_iff_ne.mpr h])
theorem flip_ne {a : Nat} (h : isTurnC a = true) : (⟨#[flipC a]⟩ : Str) ≠ ⟨#[a]⟩ := by
  intro e
  have e2 : flipC a = a := by
    have := congrArg (fun z : Str => z.cps.toList) e
    simpa using this
  unfold isTurnC at h
  simp only [Bool.or_eq_true, beq_iff_eq] at h
  rcases h with rfl | rfl <;> exact absurd e2 (by decide)
theorem turns_flip {ls : List Str} (hv : Valid ls) : (gridT 0 (gridL (flipR ls))).length = (gridT 0 (gridL ls)).length := by
  rw [gridT_len, gridT_len]
  unfold flipR
  rw [grid_room]
  unfold flipL
  rw [List.map_map]
  congr 1
  refine List.map_congr_left fun l _ => ?_
  exact flip_cnt l
theorem turn_len {ls : List Str} (hv : Valid ls) : (gridT 0 (gridL ls)).length ≤ 10 := by rw [gridT_room]; exact hv.2.2.2.2.2
theorem turn_mem {ls : List Str} (hv : Valid ls) {x : Int × Int} (h : x ∈ gridT 0 (gridL ls)) : ∃ r c a : Nat, x = (((r : Nat) : Int), ((c : Nat) : Int)) ∧ Tile ls r c a ∧ isTurnC a = true := by
  obtain ⟨n, k, l, c, h1, h2, h3, h4⟩ := gridT_mem.mp h
  have R := rect_room hv
  have hn : n < heightS ls := by
    have := (List.getElem?_eq_some_iff.mp h1).1
    unfold gridL at this
    rwa [List.length_map] at this
  unfold gridL at h1
  rw [List.getElem?_map, Option.map_eq_some_iff] at h1
  obtain ⟨z, hz, rfl⟩ := h1
  have hk : k < widthS ls := by
    have q := (List.getElem?_eq_some_iff.mp h2).1
    have w := (hv.2.2.2.2.1 z (List.mem_of_getElem? hz)).1
    have : z.cps.toList.length = z.length := Array.length_toList
    omega
  exact ⟨n, k, c, by rw [h4, Nat.zero_add], ⟨hn, hk, z, hz, h2⟩, h3⟩
end MT

/-! K37b: the law's bench made, its beams. -/
namespace MT
open PySem L2
local macro_rules | `(tactic| os_names $xs:ident*) => `(tactic| simp -implicitDefEqProofs only [Bool.not_true, Bool.not_false, decide_true, decide_false, Res.bind_ok, Res.bind_bad, Res.bind_exc, Res.toS_ok, Res.toS_bad, Res.toS_exc, ResS.bind_nxt, ResS.bind_ret, ResS.bind_bad, ResS.bind_exc, bind_ite, toS_ite, bindS_ite, selB_bl, selB_t, selB_f, runK_ite, runK_nxt, runK_ret, runK_bad, runK_exc, runD_0, runD_1, runD_2, runD_3, runD_4, pVar_v, varK_s, pC_e, p1_e, p2_e, pF_e, evL_nil, evL_cons, pIf_e, pAnd_e, pOr_e, pChain_e, pRm_e, rmK_room, pSm_e, smK_s, pLm_e, lmK_e, lmK2_e, pFL_e, plNil_e, plCons_e, plStar_e, plK_tup, plK_fl, pMk_e, pItems_tup, pItems_fl, pMkV_e, mkVK_e, pCm_e, sSeq_e, sSet_e, sRet_e, sExpr_e, sNil_e, sBad_e, sIf_e, optN_some, sAsgT_e, bindT_nm, bindT_2, bindT_3, bindT_4, sPar_e, parK2_e, sPar3_e, parK3_e, optM_some, sSub_e, gSetL_e, setLK_e, sAug_e, augK_e, gSub_e, gAdd_i, gCmp_e, gTup_0, gTup_1, gTup_2, gTup_3, gTup_4, gList_0, gList_1, gList_2, gList_3, gNot_e, gLines_e, gPorts_e, gEqS_i, gIx_l, ixK_e, gIx_t, gIx_f, optR_s, atI_0, gLen_l, lenK_e, gLen_t, gLen_f, gAppend_e, gRev_f, gRevT_e, gTupOf_f, gTupOf_t, gListOf_f, gListOf_t, get_last, set_last, get_2a, get_2b, set_2a, set_2b, len_1, len_2, app_1, pFz_e, fzK_ite, fzK_exc, fzK_bad, dec_t, if_true, if_false, reduceIte, Bool.false_eq_true, wipeD, List.map_cons, List.map_nil, List.cons_append, List.nil_append, List.append_nil, List.replicate_succ, List.replicate_zero, List.set_cons_zero, List.set_cons_succ, Nat.reduceSub, Nat.reduceAdd, List.length_cons, List.length_nil, List.length_set, List.getElem?_cons_zero, List.getElem?_cons_succ, Option.map_some, $[$xs:ident],*])
variable {m m1 m2 : Store} {ε : EnvD}
def MB (R : List Str) (c0 : Cell) : Store := [c0, .ins "Bench" (BF (nowD R 0) 2 3 (.loc 4)), .lst [], .lst [], .dK []]
theorem nUN2 : ¬ (("past" : Str) = "now") := by decide +kernel
theorem init_ok {R : List Str} {c0 : Cell} : f_Bench___init__ [.loc 1, .room R] [c0, .ins "Bench" []] = .ok .non (MB R c0) := by
  have f1 : setO "Bench" "now" (.loc 1) (.tup [.room R, .int 0]) [c0, .ins "Bench" []] = some [c0, .ins "Bench" [("now", nowD R 0)]] := (setO_of (fs := []) rfl (by decide)).trans rfl
  have f2 : setO "Bench" "past" (.loc 1) (.loc 2) [c0, .ins "Bench" [("now", nowD R 0)], .lst []] = some [c0, .ins "Bench" [("now", nowD R 0), ("past", .loc 2)], .lst []] := by
    rw [setO_of (fs := [("now", nowD R 0)]) rfl (by show 1 < 1000; omega)]
    have : putD ("past" : Str) (.loc 2) [("now", nowD R 0)] = ([("now", nowD R 0), ("past", .loc 2)] : List (Str × D)) := by simp [putD, nPN]
    rw [this]; rfl
  have f3 : setO "Bench" "undone" (.loc 1) (.loc 3) [c0, .ins "Bench" [("now", nowD R 0), ("past", .loc 2)], .lst [], .lst []] = some [c0, .ins "Bench" [("now", nowD R 0), ("past", .loc 2), ("undone", .loc 3)], .lst [], .lst []] := by
    rw [setO_of (fs := [("now", nowD R 0), ("past", .loc 2)]) rfl (by show 2 < 1000; omega)]
    have : putD ("undone" : Str) (.loc 3) [("now", nowD R 0), ("past", .loc 2)] = ([("now", nowD R 0), ("past", .loc 2), ("undone", .loc 3)] : List (Str × D)) := by simp [putD, nNU, nPU]
    rw [this]; rfl
  have nS1 : ¬ (("now" : Str) = "saved") := by decide +kernel
  have nS2 : ¬ (("past" : Str) = "saved") := by decide +kernel
  have nS3 : ¬ (("undone" : Str) = "saved") := by decide +kernel
  have f4 : setO "Bench" "saved" (.loc 1) (.loc 4) [c0, .ins "Bench" [("now", nowD R 0), ("past", .loc 2), ("undone", .loc 3)], .lst [], .lst [], .dK []] = some (MB R c0) := by
    rw [setO_of (fs := [("now", nowD R 0), ("past", .loc 2), ("undone", .loc 3)]) rfl (by show 3 < 1000; omega)]
    have : putD ("saved" : Str) (.loc 4) [("now", nowD R 0), ("past", .loc 2), ("undone", .loc 3)] = BF (nowD R 0) 2 3 (.loc 4) := by simp [putD, nS1, nS2, nS3, BF]
    rw [this]; rfl
  unfold f_Bench___init__ P_Bench___init__
  os_names sFldC_e f1 f2 f3 f4 gDict0_e
/-! ### several draws -/
def drawN (k : Int) : Nat → RD → List Int × RD
  | 0, d => ([], d)
  | n + 1, d => ((drawN k n d).1 ++ [(drawN k n d).2.draw k], (drawN k n d).2.next k)
theorem drawN_len {k : Int} {d : RD} : ∀ n, (drawN k n d).1.length = n
  | 0 => rfl
  | n + 1 => by simp [drawN, drawN_len n]
theorem drawN_get {k : Int} {d : RD} {i : Nat} : ∀ {n : Nat}, i < n → (drawN k n d).1[i]? = some ((drawN k i d).2.draw k)
  | n + 1, h => by
    have l := drawN_len (k := k) (d := d) n
    show ((drawN k n d).1 ++ [(drawN k n d).2.draw k])[i]? = _
    by_cases q : i < n
    · rw [List.getElem?_append_left (by omega)]; exact drawN_get q
    · have : i = n := by omega
      subst this
      rw [List.getElem?_append_right (by omega), l, Nat.sub_self]; rfl
theorem drawN_take {k : Int} {d : RD} {i : Nat} : ∀ {n : Nat}, i ≤ n → (drawN k n d).1.take i = (drawN k i d).1
  | 0, h => by have : i = 0 := by omega
               subst this; rfl
  | n + 1, h => by
    have l := drawN_len (k := k) (d := d) n
    by_cases q : i ≤ n
    · show ((drawN k n d).1 ++ [(drawN k n d).2.draw k]).take i = _
      rw [List.take_append_of_le_length (by omega)]; exact drawN_take q
    · have : i = n + 1 := by omega
      subst this
      rw [List.take_of_length_le (by rw [drawN_len]; omega)]
theorem drawN_ok {k : Int} (hk : 0 < k) {d : RD} (hd : d.Ok) : ∀ n, (drawN k n d).2.Ok
  | 0 => hd
  | n + 1 => (drawN_ok hk hd n).next hk
theorem drawN_mem {R : List Str} (hv : Valid R) {d : RD} : ∀ (n : Nat), ∀ p ∈ (drawN (nPorts R : Nat) n d).1, PortOk R p
  | 0, p, h => nomatch h
  | n + 1, p, h => by
    rcases List.mem_append.mp h with h | h
    · exact drawN_mem hv n p h
    · rw [List.mem_singleton.mp h]; exact port_draw2 hv _
theorem draws_ok {R : List Str} (hv : Valid R) {d : RD} (hd : d.Ok) {rest : Store} {o0 : Option D} :
    pFz (pLc (iR1 (pC (.int 5))) [6] (.nm 6) (pC (.bl true)) (pF (f__law_below) [(pVar 1), (pF (gLenU f___len__) [(pVar 2)])])) [o0, some (.loc 0), some (.room R), none, none, none, none, none, none, none, none, none, none, none, none] (.lst d.l :: rest) =
      .ok (.fl ((drawN (nPorts R : Nat) 5 d).1.map .int)) (.lst (drawN (nPorts R : Nat) 5 d).2.l :: rest) := by
  have hlen := fun m => lenU_ok hv m
  have np := ports_in2 hv
  have hk0 : (0 : Int) < (nPorts R : Nat) := by omega
  have src : iR1 (pC (.int 5)) [o0, some (.loc 0), some (.room R), none, none, none, none, none, none, none, none, none, none, none, none] (.lst d.l :: rest) = .ok (nxF (rngD 0 5)) (.lst d.l :: rest) := iR1_n (n := 5) rfl (by decide)
  have ev : ∀ (i : Nat) (M M2 : Store) (v : D), f__law_below [.loc 0, .int (nPorts R : Nat)] M = .ok v M2 → pF (f__law_below) [(pVar 1), (pF (gLenU f___len__) [(pVar 2)])] [o0, some (.loc 0), some (.room R), none, none, none, some (.int i), none, none, none, none, none, none, none, none] M = .ok v M2 := fun i M M2 v h => by os_names hlen h
  obtain ⟨m2, e, ⟨c, rfl⟩, hg⟩ := lc_rel (own := [6]) (t := .nm 6) (pe := pF (f__law_below) [(pVar 1), (pF (gLenU f___len__) [(pVar 2)])]) (rngD 0 5) ((drawN (nPorts R : Nat) 5 d).1.map .int)
    (fun i m' => ∃ c, m' = .lst (drawN (nPorts R : Nat) i d).2.l :: rest ++ [c]) src ⟨_, rfl⟩ (by rw [List.length_map, drawN_len, rng_len]) (by rw [rng_len]; decide) (fun _ _ _ => rfl) fun i x y m' hx hy hR hg => by
      obtain ⟨c, rfl⟩ := hR
      obtain ⟨hi, rfl⟩ := rng_get hx
      rw [List.getElem?_map, drawN_get hi] at hy
      cases hy
      have hb := below_ok (m := .lst (drawN (nPorts R : Nat) i d).2.l :: rest ++ [c]) (n := 0) rfl (drawN_ok hk0 hd i) hk0 (by omega)
      refine ⟨[o0, some (.loc 0), some (.room R), none, none, none, some (.int i), none, none, none, none, none, none, none, none], .lst ((drawN (nPorts R : Nat) i d).2.next (nPorts R : Nat)).l :: rest ++ [c], rfl, ?_, ?_, .lst (((drawN (nPorts R : Nat) 5 d).1.map .int).take (i + 1)), ?_⟩
      · have hb' : f__law_below [.loc 0, .int (nPorts R : Nat)] (.lst (drawN (nPorts R : Nat) i d).2.l :: rest ++ [c]) = .ok (.int ((drawN (nPorts R : Nat) i d).2.draw (nPorts R : Nat))) (.lst ((drawN (nPorts R : Nat) i d).2.next (nPorts R : Nat)).l :: rest ++ [c]) := hb
        exact ev _ _ _ _ hb'
      · have : (.lst ((drawN (nPorts R : Nat) i d).2.next (nPorts R : Nat)).l :: rest ++ [c] : Store)[(Cell.lst d.l :: rest).length]? = (.lst (drawN (nPorts R : Nat) i d).2.l :: rest ++ [c] : Store)[(Cell.lst d.l :: rest).length]? := rfl
        rw [this]; exact hg
      · simp [drawN]
  have hc : c = .lst ((drawN (nPorts R : Nat) 5 d).1.map .int) := by
    have q : (.lst (drawN (nPorts R : Nat) (rngD 0 5).length d).2.l :: rest ++ [c] : Store)[(Cell.lst d.l :: rest).length]? = some c := by simp
    rw [hg] at q
    exact (Option.some.inj q).symm
  subst hc
  rw [pFz_e, e, rng_len]
  exact fzK_set (m := .lst d.l :: rest) (n := 0) (c := .lst (drawN (nPorts R : Nat) 5 d).2.l) (RD.lt _ _) ltDs_int
/-! ### the first beams -/
section
variable {nw nw' : D} {es es' us us' : List D} {X : List Int} {ul : Nat}
theorem LS.app (L : LS m nw es us X) (x : Int) : LS (m.set 5 (.lst (X.map .int ++ [.int x]))) nw es us (X ++ [x]) := by
  obtain ⟨ul, B, n, h⟩ := L
  exact ⟨ul, B.set (by omega) (by omega) (Ne.symm n), n, by rw [List.getElem?_set_self (List.getElem?_eq_some_iff.mp h).1, List.map_append]; rfl⟩
end
theorem take_snoc {α : Type} {xs : List α} {i : Nat} {x : α} (h : xs[i]? = some x) : xs.take (i + 1) = xs.take i ++ [x] := by
  rw [List.take_succ, h]; rfl
noncomputable def loop37 : PgS := (sFor (iSeq (pVar 4)) (.nm 9) (sSeq (sSet 5 (p2 gAdd (pVar 5) (pF gLen [(pFz (pListG f_path [(pVar 8), (pVar 9)]))])))
    (sSeq (sAsgT (.tp [10, 8]) (pRm f___call__ (pVar 8) [(pVar 9)]))
    (sExpr (pLm gAppend (pVar 7) [(pVar 10)])))))
theorem loop37_ok {R : List Str} (hv : Valid R) {ps : List Int} (hp : ∀ p ∈ ps, PortOk R p) (hl : ps.length ≤ 1000) {es us : List D} {o0 o1 o6 o9 o10 o11 o12 o13 o14 : Option D} (L : LS m (nowD R 0) es us []) :
    ∃ (m' : Store) (q9 q10 : Option D), loop37 [o0, o1, some (.room R), some (.loc 1), some (.fl (ps.map .int)), some (.int 0), o6, some (.loc 5), some (.room R), o9, o10, o11, o12, o13, o14] m =
      .nxt [o0, o1, some (.room R), some (.loc 1), some (.fl (ps.map .int)), some (.int (passN R ps : Nat)), o6, some (.loc 5), some (.room (sendN R ps).2), q9, q10, o11, o12, o13, o14] m' ∧ LS m' (nowD R 0) es us (sendN R ps).1 := by
  have src : iSeq (pVar 4) [o0, o1, some (.room R), some (.loc 1), some (.fl (ps.map .int)), some (.int 0), o6, some (.loc 5), some (.room R), o9, o10, o11, o12, o13, o14] m = .ok (nxF (ps.map .int)) m := iSeq_f (v_ok (i := 4) rfl)
  obtain ⟨ε2, m2, e, q9, q10, rfl, L2⟩ := sFor_rel (t := .nm 9) (pb := (sSeq (sSet 5 (p2 gAdd (pVar 5) (pF gLen [(pFz (pListG f_path [(pVar 8), (pVar 9)]))])))
    (sSeq (sAsgT (.tp [10, 8]) (pRm f___call__ (pVar 8) [(pVar 9)]))
    (sExpr (pLm gAppend (pVar 7) [(pVar 10)])))))
    (fun i ε m' => ∃ q9 q10, ε = [o0, o1, some (.room R), some (.loc 1), some (.fl (ps.map .int)), some (.int (passN R (ps.take i) : Nat)), o6, some (.loc 5), some (.room (sendN R (ps.take i)).2), q9, q10, o11, o12, o13, o14] ∧ LS m' (nowD R 0) es us (sendN R (ps.take i)).1)
    src ⟨o9, o10, rfl, L⟩ (by rw [List.length_map]; unfold lim; omega) fun i x ε m' hx hr => by
      obtain ⟨q9, q10, rfl, L⟩ := hr
      rw [List.getElem?_map, Option.map_eq_some_iff] at hx
      obtain ⟨p, hpx, rfl⟩ := hx
      have hpm := hp p (List.mem_of_getElem? hpx)
      have hpt : ∀ q ∈ ps.take i, PortOk R q := fun q hq => hp q (List.mem_of_mem_take hq)
      obtain ⟨hS, g1, g2⟩ := send_valid (ps.take i) hv hpt
      have np := ports_same g1 g2
      have hsl : (sendN R (ps.take i)).1.length ≤ 1000 := by rw [send_len, List.length_take]; omega
      have et := take_snoc hpx
      have es1 : sendN R (ps.take (i + 1)) = ((sendN R (ps.take i)).1 ++ [exitP (sendN R (ps.take i)).2 p], afterP (sendN R (ps.take i)).2 p) := by rw [et, send_app]; rfl
      have ep1 : passN R (ps.take (i + 1)) = passN R (ps.take i) + (tilesP (sendN R (ps.take i)).2 p).length := by rw [et, pass_app]; rfl
      obtain ⟨S, hS2⟩ : ∃ S, (sendN R (ps.take i)).2 = S := ⟨_, rfl⟩
      obtain ⟨E, hE⟩ : ∃ E, (sendN R (ps.take i)).1 = E := ⟨_, rfl⟩
      obtain ⟨N, hN⟩ : ∃ N, passN R (ps.take i) = N := ⟨_, rfl⟩
      rw [hS2] at hS np es1 ep1
      rw [hE] at L hsl es1
      rw [hN] at ep1
      have hps : PortOk S p := by unfold PortOk at hpm ⊢; rw [np]; exact hpm
      have hc := fun m => call_ok hS hps m
      have q2 := fun m => path_ok hS hps m
      have z2 := fun m : Store => fzK_loc (m := m) (xs := (tilesP S p).map tileD) ltDs_tiles
      obtain ⟨ul, B, n5, h5⟩ := id L
      have a2 := fun n d m => apK_e (n := n) (d := d) (m := m) (xs := E.map D.int) (by rw [List.length_map]; unfold lim; omega)
      refine ⟨[o0, o1, some (.room R), some (.loc 1), some (.fl (ps.map .int)), some (.int (N : Nat)), o6, some (.loc 5), some (.room S), some (.int p), q10, o11, o12, o13, o14], [o0, o1, some (.room R), some (.loc 1), some (.fl (ps.map .int)), some (.int (passN R (ps.take (i + 1)) : Nat)), o6, some (.loc 5), some (.room (sendN R (ps.take (i + 1))).2), some (.int p), some (.int (exitP S p)), o11, o12, o13, o14], m'.set 5 (.lst (E.map .int ++ [.int (exitP S p)])), by rw [hN, hS2]; rfl, ?_, _, _, rfl, ?_⟩
      · have ec : ((N : Nat) : Int) + ((tilesP S p).length : Nat) = ((passN R (ps.take (i + 1)) : Nat) : Int) := by rw [ep1]; omega
        rw [es1]
        os_names hc q2 z2 pListG_e2 h5 a2 List.length_map ec
      · rw [es1]; exact L.app _
  rw [List.length_map, List.take_length] at L2
  rw [List.length_map, List.take_length] at e
  refine ⟨m2, q9, q10, ?_, L2⟩
  unfold loop37
  exact e
end MT

/-! SPN: _law_equal upon live lists. -/
namespace MT
open PySem L2
local macro_rules | `(tactic| os_names $xs:ident*) => `(tactic| simp -implicitDefEqProofs only [Bool.not_true, Bool.not_false, decide_true, decide_false, Res.bind_ok, Res.bind_bad, Res.bind_exc, Res.toS_ok, Res.toS_bad, Res.toS_exc, ResS.bind_nxt, ResS.bind_ret, ResS.bind_bad, ResS.bind_exc, bind_ite, toS_ite, bindS_ite, selB_bl, selB_t, selB_f, runK_ite, runK_nxt, runK_ret, runK_bad, runK_exc, runD_0, runD_1, runD_2, runD_3, runD_4, pVar_v, varK_s, pC_e, p1_e, p2_e, pF_e, evL_nil, evL_cons, pIf_e, pAnd_e, pOr_e, pChain_e, pRm_e, rmK_room, pSm_e, smK_s, pLm_e, lmK_e, lmK2_e, pFL_e, plNil_e, plCons_e, plStar_e, plK_tup, plK_fl, pMk_e, pItems_tup, pItems_fl, pMkV_e, mkVK_e, pCm_e, sSeq_e, sSet_e, sRet_e, sExpr_e, sNil_e, sBad_e, sIf_e, optN_some, sAsgT_e, bindT_nm, bindT_2, bindT_3, bindT_4, sPar_e, parK2_e, sPar3_e, parK3_e, optM_some, sSub_e, gSetL_e, setLK_e, sAug_e, augK_e, gSub_e, gAdd_i, gCmp_e, gTup_0, gTup_1, gTup_2, gTup_3, gTup_4, gList_0, gList_1, gList_2, gList_3, gNot_e, gLines_e, gPorts_e, gEqS_i, gIx_l, ixK_e, gIx_t, gIx_f, optR_s, atI_0, gLen_l, lenK_e, gLen_t, gLen_f, gAppend_e, gRev_f, gRevT_e, gTupOf_f, gTupOf_t, gListOf_f, gListOf_t, get_last, set_last, get_2a, get_2b, set_2a, set_2b, len_1, len_2, app_1, pFz_e, fzK_ite, fzK_exc, fzK_bad, dec_t, if_true, if_false, reduceIte, Bool.false_eq_true, wipeD, List.map_cons, List.map_nil, List.cons_append, List.nil_append, List.append_nil, List.replicate_succ, List.replicate_zero, List.set_cons_zero, List.set_cons_succ, Nat.reduceSub, Nat.reduceAdd, List.length_cons, List.length_nil, List.length_set, List.getElem?_cons_zero, List.getElem?_cons_succ, Option.map_some, $[$xs:ident],*])
variable {m m1 m2 : Store} {ε : EnvD}
/-- a shows the data e in the store -/
def SameD (m : Store) : Nat → D → D → Prop
  | 0, _, _ => False
  | n + 1, a, e => match e with
    | .non => a = .non
    | .bl b => a = .bl b
    | .int i => a = .int i
    | .str z => a = .str z
    | .tup ys => ∃ xs, a = .tup xs ∧ ys.length ≤ lim ∧ xs.length = ys.length ∧ ∀ (i : Nat) (x y : D), xs[i]? = some x → ys[i]? = some y → SameD m n x y
    | .fl ys => ∃ xs, lsD m a = some xs ∧ ys.length ≤ lim ∧ xs.length = ys.length ∧ ∀ (i : Nat) (x y : D), xs[i]? = some x → ys[i]? = some y → SameD m n x y
    | _ => False
theorem lsD_app {l : Store} {a : D} {xs : List D} (h : lsD m a = some xs) : lsD (m ++ l) a = some xs := by
  cases a with
  | loc k =>
    have h' : (match m[k]? with | some (.lst xs) => some xs | _ => none) = some xs := h
    show (match (m ++ l)[k]? with | some (.lst xs) => some xs | _ => none) = some xs
    cases q : m[k]? with
    | none => rw [q] at h'; cases h'
    | some c => rw [get_app q]; rw [q] at h'; exact h'
  | _ => exact h
theorem SameD.app {l : Store} : ∀ {n : Nat} {a e : D}, SameD m n a e → SameD (m ++ l) n a e
  | n + 1, a, e, h => by
    cases e with
    | tup ys =>
      obtain ⟨xs, h1, h2, h3, h4⟩ := h
      exact ⟨xs, h1, h2, h3, fun i x y hx hy => (h4 i x y hx hy).app⟩
    | fl ys =>
      obtain ⟨xs, h1, h2, h3, h4⟩ := h
      exact ⟨xs, lsD_app h1, h2, h3, fun i x y hx hy => (h4 i x y hx hy).app⟩
    | _ => exact h
theorem SameD.of : ∀ {n : Nat} {d : D}, dataD n d = true → SameD m n d d
  | n + 1, d, h => by
    cases d with
    | tup xs =>
      simp only [dataD, Bool.and_eq_true, decide_eq_true_eq, List.all_eq_true] at h
      exact ⟨xs, rfl, h.1, rfl, fun i x y hx hy => by rw [hx] at hy; cases hy; exact SameD.of (h.2 x (List.mem_of_getElem? hx))⟩
    | fl xs =>
      simp only [dataD, Bool.and_eq_true, decide_eq_true_eq, List.all_eq_true] at h
      exact ⟨xs, rfl, h.1, rfl, fun i x y hx hy => by rw [hx] at hy; cases hy; exact SameD.of (h.2 x (List.mem_of_getElem? hx))⟩
    | non => rfl
    | bl b => rfl
    | int i => rfl
    | str z => rfl
    | _ => exact absurd h Bool.false_ne_true
theorem eqSeq2 {F : Fn} {xs ys : List D} {a d : D} (hl : ys.length ≤ lim) (hx : xs.length = ys.length) (hF : ∀ (i : Nat) (x y : D), xs[i]? = some x → ys[i]? = some y → ∀ l, F [x, y] (m ++ l) = .ok (.bl true) (m ++ l)) (hlen : ∀ m, gLen [d] m = .ok (.int (ys.length : Nat)) m) (hixA : ∀ (i : Nat) l, gIx [a, .int i] (m ++ l) = optR xs[i]? (m ++ l)) (hix : ∀ (i : Nat) m, gIx [d, .int i] m = optR ys[i]? m) :
    pFz (pLc (iR1 (pF gLen [(pVar 1)])) [2] (.nm 2) (pC (.bl true)) (pF F [(p2 gIx (pVar 0) (pVar 2)), (p2 gIx (pVar 1) (pVar 2))])) [some a, some d, none] m = .ok (.fl ((List.replicate ys.length true).map .bl)) m := by
  have src : iR1 (pF gLen [(pVar 1)]) [some a, some d, none] m = .ok (nxF ((List.range ys.length).map fun i : Nat => D.int (0 + (i : Nat)))) m := by
    have h : pF gLen [(pVar 1)] [some a, some d, none] m = .ok (.int (ys.length : Nat)) m := by os_names hlen
    exact iR1_n h hl
  have e : (List.replicate ys.length true).map D.bl = (List.range ys.length).map fun _ => D.bl true := by
    rw [List.map_replicate]
    exact (List.eq_replicate_iff.mpr ⟨by simp, fun b hb => by obtain ⟨_, _, rfl⟩ := List.mem_map.mp hb; rfl⟩).symm
  rw [e]
  refine lcz_map (List.range ys.length) (fun i : Nat => D.int (0 + (i : Nat))) _ src (by rw [List.length_range]; exact hl) (fun _ _ => rfl) fun j i hi => ?_
  have hi' : i < ys.length := List.mem_range.mp (List.mem_of_getElem? hi)
  refine ⟨[some a, some d, some (.int i)], by rw [Int.zero_add]; rfl, fun l => ?_⟩
  have hy : ys[i]? = some ys[i] := List.getElem?_eq_getElem hi'
  have hxx : xs[i]? = some (xs[i]'(by omega)) := List.getElem?_eq_getElem (by omega)
  have h1 := hF i _ _ hxx hy l
  have h2 := hixA i l
  os_names h2 hix hxx hy h1
theorem gIsi_ls {a : D} {xs : List D} {b : String} (h : lsD m a = some xs) (nk : ∀ ys, a ≠ .kl ys) : gIsi b [a] m = .ok (.bl (isSub "list" b)) m := by
  cases a with
  | loc k =>
    have h' : (match m[k]? with | some (.lst xs) => some xs | _ => none) = some xs := h
    show (match (match m[k]? with
      | some (.lst _) => some "list"
      | some (.dK _) => some "dict"
      | some (.dT _) => some "dict"
      | _ => none) with
    | some a => Res.ok (D.bl (isSub a b)) m
    | none => .bad) = _
    cases q : m[k]? with
    | none => rw [q] at h'; cases h'
    | some c =>
      rw [q] at h'
      cases c with
      | lst _ => rfl
      | _ => cases h'
  | fl _ => rfl
  | kl ys => exact absurd rfl (nk ys)
  | _ => cases h
theorem gLen_ls {a : D} {xs : List D} (h : lsD m a = some xs) (nk : ∀ ys, a ≠ .kl ys) : gLen [a] m = .ok (.int (xs.length : Nat)) m := by
  cases a with
  | loc k =>
    have h' : (match m[k]? with | some (.lst xs) => some xs | _ => none) = some xs := h
    show (match m[k]? with
      | some (.lst xs) => Res.ok (D.int (xs.length : Nat)) m
      | _ => .bad) = _
    cases q : m[k]? with
    | none => rw [q] at h'; cases h'
    | some c =>
      rw [q] at h'
      cases c with
      | lst _ => cases h'; rfl
      | _ => cases h'
  | fl _ => cases h; rfl
  | kl ys => exact absurd rfl (nk ys)
  | _ => cases h
theorem gIx_ls {a : D} {xs : List D} {i : Int} (h : lsD m a = some xs) : gIx [a, .int i] m = optR (atI xs i) m := by
  cases a with
  | loc k =>
    have h' : (match m[k]? with | some (.lst xs) => some xs | _ => none) = some xs := h
    cases q : m[k]? with
    | none => rw [q] at h'; cases h'
    | some c =>
      rw [q] at h'
      cases c with
      | lst _ =>
        cases h'
        rw [gIx_l, q, ixK_e]
      | _ => cases h'
  | fl _ => cases h; rfl
  | kl ys => cases h
  | _ => cases h
theorem eq_step2 {F : Fn} {n : Nat} (hF : ∀ (m : Store) (x y : D), SameD m n x y → F [x, y] m = .ok (.bl true) m) {a d : D} (nk : ∀ ys, a ≠ .kl ys) (hd : SameD m (n + 1) a d) : runD 2 3 (PEq F) [a, d] m = .ok (.bl true) m := by
  obtain ⟨l1, l2, l3, l4, l5⟩ := isSub_list
  obtain ⟨t1, t2, t3, t4, t5⟩ := isSub_tup
  obtain ⟨s1, s2, s3, s4, s5, s6⟩ := isSub_sc
  have n1 : isN (.non) = true := rfl
  unfold PEq
  cases d with
  | non =>
    have e : a = .non := hd
    subst e
    os_names gIsN_e n1
  | bl b =>
    have e : a = .bl b := hd
    subst e
    have nn : isN (.bl b) = false := rfl
    os_names gIsN_e nn gIsi_b s6 gEqS_b
  | int i =>
    have e : a = .int i := hd
    subst e
    have nn : isN (.int i) = false := rfl
    os_names gIsN_e nn gIsi_i s1 s2 gEqS_ii
  | str z =>
    have e : a = .str z := hd
    subst e
    have nn : isN (.str z) = false := rfl
    os_names gIsN_e nn gIsi_s s3 s4 s5 gEqS_ss
  | tup ys =>
    obtain ⟨xs, rfl, h2, h3, h4⟩ := hd
    have nn : isN (.tup ys) = false := rfl
    have hs := eqSeq2 (m := m) (F := F) (a := .tup xs) (d := .tup ys) h2 h3 (fun i x y hx hy l => hF _ x y (h4 i x y hx hy).app) (fun m => gLen_t) (fun i l => by rw [gIx_t, atI_n]) (fun i m => by rw [gIx_t, atI_n])
    have ha : ∀ m : Store, gAll [.fl ((List.replicate ys.length true).map .bl)] m = .ok (.bl true) m := fun m => by rw [gAll_f]; simp
    os_names gIsN_e nn gIsi_tu t1 t2 t3 t4 t5 gEqS_b h3 gEqS_in
    simp only [pFz_e] at hs
    os_names hs ha
  | fl ys =>
    obtain ⟨xs, h1, h2, h3, h4⟩ := hd
    have nn : isN (.fl ys) = false := rfl
    have g1 := fun b => gIsi_ls (m := m) (b := b) h1 nk
    have g2 := gLen_ls h1 nk
    rw [h3] at g2
    have hs := eqSeq2 (m := m) (F := F) (a := a) (d := .fl ys) h2 h3 (fun i x y hx hy l => hF _ x y (h4 i x y hx hy).app) (fun m => gLen_f) (fun i l => by rw [gIx_ls (lsD_app h1), atI_n]) (fun i m => by rw [gIx_f, atI_n])
    have ha : ∀ m : Store, gAll [.fl ((List.replicate ys.length true).map .bl)] m = .ok (.bl true) m := fun m => by rw [gAll_f]; simp
    os_names gIsN_e nn gIsi_fl l1 l2 l3 l4 l5 g1 gEqS_b g2 gEqS_in
    simp only [pFz_e] at hs
    os_names hs ha
  | _ => exact False.elim hd
end MT

/-! SPV: calls that raise; what the def that tells errors answers. -/
namespace MT
open PySem L2
local macro_rules | `(tactic| os_names $xs:ident*) => `(tactic| simp -implicitDefEqProofs only [Bool.not_true, Bool.not_false, decide_true, decide_false, Res.bind_ok, Res.bind_bad, Res.bind_exc, Res.toS_ok, Res.toS_bad, Res.toS_exc, ResS.bind_nxt, ResS.bind_ret, ResS.bind_bad, ResS.bind_exc, bind_ite, toS_ite, bindS_ite, selB_bl, selB_t, selB_f, runK_ite, runK_nxt, runK_ret, runK_bad, runK_exc, runD_0, runD_1, runD_2, runD_3, runD_4, pVar_v, varK_s, pC_e, p1_e, p2_e, pF_e, evL_nil, evL_cons, pIf_e, pAnd_e, pOr_e, pChain_e, pRm_e, rmK_room, pSm_e, smK_s, pLm_e, lmK_e, lmK2_e, pFL_e, plNil_e, plCons_e, plStar_e, plK_tup, plK_fl, pMk_e, pItems_tup, pItems_fl, pMkV_e, mkVK_e, pCm_e, sSeq_e, sSet_e, sRet_e, sExpr_e, sNil_e, sBad_e, sIf_e, optN_some, sAsgT_e, bindT_nm, bindT_2, bindT_3, bindT_4, sPar_e, parK2_e, sPar3_e, parK3_e, optM_some, sSub_e, gSetL_e, setLK_e, sAug_e, augK_e, gSub_e, gAdd_i, gCmp_e, gTup_0, gTup_1, gTup_2, gTup_3, gTup_4, gList_0, gList_1, gList_2, gList_3, gNot_e, gLines_e, gPorts_e, gEqS_i, gIx_l, ixK_e, gIx_t, gIx_f, optR_s, atI_0, gLen_l, lenK_e, gLen_t, gLen_f, gAppend_e, gRev_f, gRevT_e, gTupOf_f, gTupOf_t, gListOf_f, gListOf_t, get_last, set_last, get_2a, get_2b, set_2a, set_2b, len_1, len_2, app_1, pFz_e, fzK_ite, fzK_exc, fzK_bad, dec_t, if_true, if_false, reduceIte, Bool.false_eq_true, wipeD, List.map_cons, List.map_nil, List.cons_append, List.nil_append, List.append_nil, List.replicate_succ, List.replicate_zero, List.set_cons_zero, List.set_cons_succ, Nat.reduceSub, Nat.reduceAdd, List.length_cons, List.length_nil, List.length_set, List.getElem?_cons_zero, List.getElem?_cons_succ, Option.map_some, $[$xs:ident],*])
variable {m m1 m2 : Store} {ε : EnvD}
theorem nx_b {f : Fn} {ds : List D} {d : D} (h : f ds m = .ok d m1) : nx f ds m = .ok d m1 := nx_e h
/-- values that are no port -/
inductive NoPort (ls : List Str) : D → Prop where
  | non : NoPort ls .non
  | bl (b : Bool) : NoPort ls (.bl b)
  | str (z : Str) : NoPort ls (.str z)
  | int (i : Int) (h : ¬ PortOk ls i) : NoPort ls (.int i)
theorem isint_no {v : D} {lo hi : D} (h : (∃ z, v = .str z) ∨ v = .non ∨ ∃ b, v = .bl b) (m : Store) : f_is_int_in [v, lo, hi] m = .ok (.bl false) m := by
  refine run_ret rfl (ret_ok ?_)
  rcases h with ⟨z, rfl⟩ | rfl | ⟨b, rfl⟩
  · exact and_f ((p1_ok (v_ok rfl)).trans (show gIsi "int" [.str z] m = .ok (.bl false) m by
      show Res.ok (D.bl (isSub "str" "int")) m = _
      rw [show isSub "str" "int" = false from by decide]))
  · exact and_f ((p1_ok (v_ok rfl)).trans (show gIsi "int" [.non] m = .ok (.bl false) m by
      show Res.ok (D.bl (isSub "NoneType" "int")) m = _
      rw [show isSub "NoneType" "int" = false from by decide]))
  · refine (and_t ((p1_ok (v_ok rfl)).trans (show Res.ok (D.bl (isSub "bool" "int")) m = .ok (.bl true) m by rw [show isSub "bool" "int" = true from by decide]))).trans ?_
    exact and_f ((p1_ok ((p1_ok (v_ok rfl)).trans (show gIsi "bool" [.bl b] m = .ok (.bl true) m by
      show Res.ok (D.bl (isSub "bool" "bool")) m = _
      rw [show isSub "bool" "bool" = true from by decide]))).trans rfl)
theorem hasport_no {ls : List Str} (hv : Valid ls) {v : D} (h : NoPort ls v) (m : Store) : f_has_port [.room ls, v] m = .ok (.bl false) m := by
  have hlen := fun m => lenU_ok hv m
  cases h with
  | non =>
    have q := fun hi m => isint_no (v := .non) (lo := .int 0) (hi := hi) (.inr (.inl rfl)) m
    unfold f_has_port P_has_port
    os_names hlen q
  | bl b =>
    have q := fun hi m => isint_no (v := .bl b) (lo := .int 0) (hi := hi) (.inr (.inr ⟨b, rfl⟩)) m
    unfold f_has_port P_has_port
    os_names hlen q
  | str z =>
    have q := fun hi m => isint_no (v := .str z) (lo := .int 0) (hi := hi) (.inl ⟨z, rfl⟩) m
    unfold f_has_port P_has_port
    os_names hlen q
  | int i hn =>
    have q := fun m => isint_ok i 0 ((nPorts ls : Nat) - 1) m
    have e : (decide ((0 : Int) ≤ i) && decide (i ≤ (nPorts ls : Nat) - 1)) = false := by
      rw [Bool.eq_false_iff, ne_eq, Bool.and_eq_true, decide_eq_true_eq, decide_eq_true_eq]
      intro z
      exact hn ⟨z.1, by omega⟩
    rw [e] at q
    unfold f_has_port P_has_port
    os_names hlen q
theorem sIf_exc {pc : Pg} {pa pb : PgS} {x : Exn} {ε1 : EnvD} (hc : pc ε m = .ok (.bl true) m1) (h : pa ε m1 = .exc x ε1 m2) : sIf pc pa pb ε m = .exc x ε1 m2 := (sif_t hc).trans h
theorem xcheck_no {ls : List Str} (hv : Valid ls) {v : D} (h : NoPort ls v) (m : Store) : fX_check_port [.room ls, v] m = .exc ⟨"UnknownPort", []⟩ m := by
  have q := fun m => nx_b (hasport_no hv h m)
  have e : p1 gNot (pRm (nx f_has_port) (pVar 0) [(pVar 1)]) [some (.room ls), some v] m = .ok (.bl true) m := by
    have a : pRm (nx f_has_port) (pVar 0) [(pVar 1)] [some (.room ls), some v] m = .ok (.bl false) m := (rm_ok (v_ok rfl) (ev_cons (v_ok rfl) ev_nil)).trans (q m)
    exact (p1_ok a).trans rfl
  unfold fX_check_port PX_check_port
  rw [runD_2]
  show runK (sIf _ _ _ [some (.room ls), some v] m) = _
  have r := sIf_exc (pa := sRaise "UnknownPort") (pb := sNil) (x := ⟨"UnknownPort", []⟩) (m2 := m) (ε1 := [some (.room ls), some v]) e rfl
  rw [r]; rfl
theorem sFor_exc {pi : PgI} {nx : Nx} {t : Tgt} {pb : PgS} {x : D} {y : Exn} {ε1 ε2 : EnvD} (hp : pi ε m = .ok nx m1) (hx : nx 0 m1 = some (some x)) (hb : bindT t x ε = some ε1) (he : pb ε1 m1 = .exc y ε2 m2) : sFor pi t pb ε m = .exc y ε2 m2 := by
  unfold sFor
  rw [hp]
  show forN nx t pb bigN 0 ε m1 = _
  obtain ⟨n, hn⟩ : ∃ n, bigN = n + 1 := ⟨bigN - 1, by unfold bigN; omega⟩
  rw [hn]
  simp only [forN, hx, hb, he, ResS.bind]
theorem seq_exc {p q : PgS} {x : Exn} {ε1 : EnvD} (h : p ε m = .exc x ε1 m1) : sSeq p q ε m = .exc x ε1 m1 := by unfold sSeq; rw [h]; rfl
theorem xsend_no {ls : List Str} (hv : Valid ls) {v : D} (h : NoPort ls v) {ds : List D} (hl : ds.length ≤ 100) (m : Store) : fX_send (.room ls :: v :: ds) m = .exc ⟨"UnknownPort", []⟩ m := by
  have hc := xcheck_no hv h m
  have l1 : sFor (iTp (pVar 1)) (.nm 2) (sExpr (pF (fX_check_port) [(pVar 0), (pVar 2)])) [some (.room ls), some (.tup (v :: ds)), none, none, none] m = .exc ⟨"UnknownPort", []⟩ [some (.room ls), some (.tup (v :: ds)), some v, none, none] m := by
    refine sFor_exc (iTp_t rfl) rfl rfl ?_
    show sExpr (pF fX_check_port [(pVar 0), (pVar 2)]) [some (.room ls), some (.tup (v :: ds)), some v, none, none] m = _
    unfold sExpr
    rw [pF2 (v_ok rfl) (v_ok rfl), hc]; rfl
  have e : fX_send (.room ls :: v :: ds) m = runD 2 5 PX_send [.room ls, .tup (v :: ds)] m := by
    unfold fX_send runV
    rw [if_pos ⟨by simp, by simp; unfold lim; omega⟩]; rfl
  rw [e, runD_2]
  show runK (sSeq _ _ [some (.room ls), some (.tup (v :: ds)), none, none, none] m) = _
  rw [seq_exc l1]; rfl
theorem xunsent_no {ls : List Str} (hv : Valid ls) {v : D} {i : Int} (h : NoPort (flipR ls) v) (m : Store) : fX_unsent [.room ls, .int i, v] m = .exc ⟨"UnknownPort", []⟩ m := by
  have hi := fun m => nx_b (invert_ok hv m)
  have hs := xsend_no (flip_valid hv).1 h (ds := [.int i]) (by show 1 ≤ 100; omega) m
  have e : fX_unsent [.room ls, .int i, v] m = runD 2 5 PX_unsent [.room ls, .tup [.int i, v]] m := by
    unfold fX_unsent runV
    rw [if_pos ⟨by simp, by simp; unfold lim; omega⟩]; rfl
  rw [e, runD_2]
  have hs' : fX_send [.room (flipR ls), v, .int i] m = .exc ⟨"UnknownPort", []⟩ m := hs
  have e2 : [D.int i, v].reverse = [v, .int i] := rfl
  unfold PX_unsent
  os_names hi e2 hs'
/-! ### what is told of an error -/
theorem addL_ok {i k : Nat} {xs ys : List D} {ps : List Pg} (he : ε[i]? = some (some (.loc k))) (hk : m[k]? = some (.lst xs)) (hp : ∀ m, evL ps ε m = .ok ys m) (hl : xs.length + ys.length ≤ lim) :
    p2 gAdd (pVar i) (pF gList ps) ε m = .ok (.loc (m.length + 1)) (m ++ [.lst ys] ++ [.lst (xs ++ ys)]) := by
  have a : pF gList ps ε m = .ok (.loc m.length) (m ++ [.lst ys]) := by
    show (evL ps ε m).bind _ = _
    rw [hp]
    show gList ys m = _
    exact if_pos (by omega)
  refine (p2_ok (v_ok he) a).trans ?_
  have g1 : (m ++ [Cell.lst ys])[k]? = some (.lst xs) := get_app hk
  have g2 : (m ++ [Cell.lst ys])[m.length]? = some (.lst ys) := get_last
  show (match lsD (m ++ [Cell.lst ys]) (.loc k), lsD (m ++ [Cell.lst ys]) (.loc m.length) with
    | some xs, some ys' => if xs.length + ys'.length ≤ lim then Res.ok (D.loc (m ++ [Cell.lst ys]).length) ((m ++ [Cell.lst ys]) ++ [Cell.lst (xs ++ ys')]) else Res.bad
    | _, _ => Res.bad) = _
  have l1 : lsD (m ++ [Cell.lst ys]) (.loc k) = some xs := by
    show (match (m ++ [Cell.lst ys])[k]? with | some (.lst xs) => some xs | _ => none) = _
    rw [g1]
  have l2 : lsD (m ++ [Cell.lst ys]) (.loc m.length) = some ys := by
    show (match (m ++ [Cell.lst ys])[m.length]? with | some (.lst xs) => some xs | _ => none) = _
    rw [g2]
  rw [l1, l2]
  show (if _ then _ else _) = _
  rw [if_pos hl, List.length_append]; rfl
/-- lists, methods -/
def lwK (f : Fn) (d : D) (o : Option (List D)) (r : Res (List D)) : Res D := match o with
  | some _ => r.bind fun ds m2 => f (d :: ds) m2
  | none => .bad
theorem pLw_e {f : Fn} {po : Pg} {ps : List Pg} : pLw f po ps ε m = (po ε m).bind fun d m1 => lwK f d (lsD m1 d) (evL ps ε m1) := by
  unfold pLw
  congr 1
theorem lwK_s {f : Fn} {d : D} {xs : List D} {r : Res (List D)} : lwK f d (some xs) r = r.bind fun ds m2 => f (d :: ds) m2 := rfl
theorem lsD_l {k : Nat} {xs : List D} (h : m[k]? = some (.lst xs)) : lsD m (.loc k) = some xs := by
  show (match m[k]? with | some (.lst xs) => some xs | _ => none) = _
  rw [h]
def kindsL (b0 b1 b2 b3 b4 b5 b6 b7 b8 b9 b10 : Bool) : List D := [.bl b0, .bl b1, .bl b2, .bl b3, .bl b4, .bl b5, .bl b6, .bl b7, .bl b8, .bl b9, .bl b10]
def toldL : List Str := ["room", "port", "tile", "number", "other", "many", "contradiction", "turning", "name", "unknown"]
theorem isE_ok {aE : Addr} {b : Bool} (h : ε[1]? = some (some (.adr aE))) : p1 (gAdr aE b) (pVar 1) ε m = .ok (.bl b) m := by
  refine (p1_ok (v_ok h)).trans ?_
  show (if aE = aE then Res.ok (D.bl b) m else .bad) = _
  rw [if_pos rfl]
theorem gAdr_e {aE : Addr} {b : Bool} : gAdr aE b [.adr aE] m = .ok (.bl b) m := by
  show (if aE = aE then Res.ok (D.bl b) m else .bad) = _
  rw [if_pos rfl]
/-- what is told: the error's name, where its class is the n-th one -/
theorem errR_ok {c : Str} {n : Nat} {nm : Str} {b0 b1 b2 b3 b4 b5 b6 b7 b8 b9 b10 : Bool} (k0 : decide (("InvalidRoom" : Str) = c) = b0) (k1 : decide (("UnknownPort" : Str) = c) = b1) (k2 : decide (("UnknownTile" : Str) = c) = b2) (k3 : decide (("InvalidNumber" : Str) = c) = b3) (k4 : decide (("OtherRoom" : Str) = c) = b4) (k5 : decide (("TooMany" : Str) = c) = b5) (k6 : decide (("Contradiction" : Str) = c) = b6) (k7 : decide (("NotTurning" : Str) = c) = b7) (k8 : decide (("InvalidName" : Str) = c) = b8) (k9 : decide (("UnknownName" : Str) = c) = b9) (k10 : decide (("InvalidOperation" : Str) = c) = b10)
    (hc : ∀ m k, m[k]? = some (.lst (kindsL b0 b1 b2 b3 b4 b5 b6 b7 b8 b9 b10)) → gCount [.loc k, .bl true] m = .ok (.int 1) m) (hi : ∀ m k, m[k]? = some (.lst (kindsL b0 b1 b2 b3 b4 b5 b6 b7 b8 b9 b10)) → gIndexG [.loc k, .bl true] m = .ok (.int (n : Nat)) m)
    (hn : toldL[n]? = some nm) (n1 : (nm == ("room" : Str)) = false) (n2 : (nm == ("operation" : Str)) = false) (m : Store) : ∃ gb, ∀ aE, errR 5 1 pS__law_error_of c aE m = .ok (.tup [.str nm, .int 0]) (m ++ gb) := by
  obtain ⟨m1, h1⟩ : ∃ m1, m ++ [Cell.lst [.bl b0, .bl b1, .bl b2]] = m1 := ⟨_, rfl⟩
  obtain ⟨m2, h2⟩ : ∃ m2, m1 ++ [Cell.lst [.bl b3, .bl b4, .bl b5]] ++ [.lst ([.bl b0, .bl b1, .bl b2] ++ [.bl b3, .bl b4, .bl b5])] = m2 := ⟨_, rfl⟩
  obtain ⟨m3, h3⟩ : ∃ m3, m2 ++ [Cell.lst [.bl b6, .bl b7, .bl b8]] ++ [.lst ([.bl b0, .bl b1, .bl b2] ++ [.bl b3, .bl b4, .bl b5] ++ [.bl b6, .bl b7, .bl b8])] = m3 := ⟨_, rfl⟩
  obtain ⟨m4, h4⟩ : ∃ m4, m3 ++ [Cell.lst [.bl b9, .bl b10]] ++ [.lst ([.bl b0, .bl b1, .bl b2] ++ [.bl b3, .bl b4, .bl b5] ++ [.bl b6, .bl b7, .bl b8] ++ [.bl b9, .bl b10])] = m4 := ⟨_, rfl⟩
  have l1 : m1[m.length]? = some (.lst [.bl b0, .bl b1, .bl b2]) := by rw [← h1]; exact get_last
  have l2 : m2[m1.length + 1]? = some (.lst ([.bl b0, .bl b1, .bl b2] ++ [.bl b3, .bl b4, .bl b5])) := by
    rw [← h2]
    have e : m1.length + 1 = (m1 ++ [Cell.lst [.bl b3, .bl b4, .bl b5]]).length := by simp
    rw [e]; exact get_last
  have l3 : m3[m2.length + 1]? = some (.lst ([.bl b0, .bl b1, .bl b2] ++ [.bl b3, .bl b4, .bl b5] ++ [.bl b6, .bl b7, .bl b8])) := by
    rw [← h3]
    have e : m2.length + 1 = (m2 ++ [Cell.lst [.bl b6, .bl b7, .bl b8]]).length := by simp
    rw [e]; exact get_last
  have l4 : m4[m3.length + 1]? = some (.lst (kindsL b0 b1 b2 b3 b4 b5 b6 b7 b8 b9 b10)) := by
    rw [← h4]
    have e : m3.length + 1 = (m3 ++ [Cell.lst [.bl b9, .bl b10]]).length := by simp
    rw [e]; exact get_last
  obtain ⟨m5, h5⟩ : ∃ m5, m4 ++ [Cell.lst (toldL.map .str)] = m5 := ⟨_, rfl⟩
  have l5 : m5[m4.length]? = some (.lst (toldL.map .str)) := by rw [← h5]; exact get_last
  have l54 : m5[m3.length + 1]? = some (.lst (kindsL b0 b1 b2 b3 b4 b5 b6 b7 b8 b9 b10)) := by rw [← h5]; exact get_app l4
  obtain ⟨m6, h6⟩ : ∃ m6, m5 ++ [Cell.lst [.str "operation"]] ++ [.lst (toldL.map .str ++ [.str "operation"])] = m6 := ⟨_, rfl⟩
  have l6 : m6[m5.length + 1]? = some (.lst (toldL.map .str ++ [.str "operation"])) := by
    rw [← h6]
    have e : m5.length + 1 = (m5 ++ [Cell.lst [.str "operation"]]).length := by simp
    rw [e]; exact get_last
  have l64 : m6[m3.length + 1]? = some (.lst (kindsL b0 b1 b2 b3 b4 b5 b6 b7 b8 b9 b10)) := by rw [← h6]; exact get_app (get_app l54)
  have big : 100 ≤ lim := by unfold lim; omega
  have q1 : ∀ aE, sSet 2 (pF gList [(p1 (gAdr aE (decide (("InvalidRoom" : Str) = c))) (pVar 1)), (p1 (gAdr aE (decide (("UnknownPort" : Str) = c))) (pVar 1)), (p1 (gAdr aE (decide (("UnknownTile" : Str) = c))) (pVar 1))]) [none, some (.adr aE), none, none, none] m = .nxt [none, some (.adr aE), some (.loc m.length), none, none] m1 := fun aE => by
    rw [k0, k1, k2]
    os_names gAdr_e h1
  have q2 : ∀ aE, sSet 2 (p2 gAdd (pVar 2) (pF gList [(p1 (gAdr aE (decide (("InvalidNumber" : Str) = c))) (pVar 1)), (p1 (gAdr aE (decide (("OtherRoom" : Str) = c))) (pVar 1)), (p1 (gAdr aE (decide (("TooMany" : Str) = c))) (pVar 1))])) [none, some (.adr aE), some (.loc m.length), none, none] m1 = .nxt [none, some (.adr aE), some (.loc (m1.length + 1)), none, none] m2 := fun aE => by
    rw [k3, k4, k5]
    refine (set_ok (addL_ok rfl l1 (ys := [.bl b3, .bl b4, .bl b5]) (fun M => ?_) (by show 6 ≤ lim; omega))).trans (by rw [h2]; rfl)
    os_names gAdr_e
  have q3 : ∀ aE, sSet 2 (p2 gAdd (pVar 2) (pF gList [(p1 (gAdr aE (decide (("Contradiction" : Str) = c))) (pVar 1)), (p1 (gAdr aE (decide (("NotTurning" : Str) = c))) (pVar 1)), (p1 (gAdr aE (decide (("InvalidName" : Str) = c))) (pVar 1))])) [none, some (.adr aE), some (.loc (m1.length + 1)), none, none] m2 = .nxt [none, some (.adr aE), some (.loc (m2.length + 1)), none, none] m3 := fun aE => by
    rw [k6, k7, k8]
    refine (set_ok (addL_ok rfl l2 (ys := [.bl b6, .bl b7, .bl b8]) (fun M => ?_) (by show 9 ≤ lim; omega))).trans (by rw [h3]; rfl)
    os_names gAdr_e
  have q4 : ∀ aE, sSet 2 (p2 gAdd (pVar 2) (pF gList [(p1 (gAdr aE (decide (("UnknownName" : Str) = c))) (pVar 1)), (p1 (gAdr aE (decide (("InvalidOperation" : Str) = c))) (pVar 1))])) [none, some (.adr aE), some (.loc (m2.length + 1)), none, none] m3 = .nxt [none, some (.adr aE), some (.loc (m3.length + 1)), none, none] m4 := fun aE => by
    rw [k9, k10]
    refine (set_ok (addL_ok rfl l3 (ys := [.bl b9, .bl b10]) (fun M => ?_) (by show 11 ≤ lim; omega))).trans (by rw [h4]; rfl)
    os_names gAdr_e
  have c1 := hc m4 (m3.length + 1) l4
  have q5 : ∀ aE, (sIf (pOr (p2 (gEqS true) (pLw gCount (pVar 2) [(pC (.bl true))]) (pC (.int 1))) (p1 gNot (p1 (gAdr aE true) (pVar 1)))) (sRet (pF gTup [(pC (.str "other")), (pC (.int 0))])) sNil) [none, some (.adr aE), some (.loc (m3.length + 1)), none, none] m4 = .nxt [none, some (.adr aE), some (.loc (m3.length + 1)), none, none] m4 := fun aE => by
    have e1 := lsD_l l4
    have e2 : decide ((1 : Int) = 1) = true := rfl
    os_names gAdr_e e1 pLw_e lwK_s c1 e2
  have q6 : ∀ aE, sSet 3 (pF gList [(pC (.str "room")), (pC (.str "port")), (pC (.str "tile")), (pC (.str "number")), (pC (.str "other")), (pC (.str "many")), (pC (.str "contradiction")), (pC (.str "turning")), (pC (.str "name")), (pC (.str "unknown"))]) [none, some (.adr aE), some (.loc (m3.length + 1)), none, none] m4 = .nxt [none, some (.adr aE), some (.loc (m3.length + 1)), some (.loc m4.length), none] m5 := fun aE => by
    have e0 : ∀ M, gList [D.str "room", .str "port", .str "tile", .str "number", .str "other", .str "many", .str "contradiction", .str "turning", .str "name", .str "unknown"] M = .ok (.loc M.length) (M ++ [.lst (toldL.map .str)]) := fun M => if_pos (by show 10 ≤ lim; omega)
    os_names e0 h5
  have c2 := hi m6 (m3.length + 1) l64
  have q7 : ∀ aE, sSet 4 (p2 gIx (p2 gAdd (pVar 3) (pF gList [(pC (.str "operation"))])) (pLw gIndexG (pVar 2) [(pC (.bl true))])) [none, some (.adr aE), some (.loc (m3.length + 1)), some (.loc m4.length), none] m5 = .nxt [none, some (.adr aE), some (.loc (m3.length + 1)), some (.loc m4.length), some (.str nm)] m6 := fun aE => by
    have a0 := addL_ok (ε := [none, some (.adr aE), some (.loc (m3.length + 1)), some (.loc m4.length), none]) (i := 3) (ps := [(pC (.str "operation"))]) (ys := [.str "operation"]) rfl l5 (fun M => rfl) (by show 11 ≤ lim; omega)
    rw [h6] at a0
    have e1 := lsD_l l64
    have e3 : atI (toldL.map D.str ++ [.str "operation"]) (n : Nat) = some (.str nm) := by
      rw [atI_n, List.getElem?_append_left (by rw [List.length_map]; exact (List.getElem?_eq_some_iff.mp hn).1), List.getElem?_map, hn]; rfl
    refine set_ok ?_
    have a1 : pLw gIndexG (pVar 2) [(pC (.bl true))] [none, some (.adr aE), some (.loc (m3.length + 1)), some (.loc m4.length), none] m6 = .ok (.int (n : Nat)) m6 := by
      os_names e1 pLw_e lwK_s c2
    refine (p2_ok a0 a1).trans ?_
    rw [gIx_l, l6, ixK_e, e3]; rfl
  have q8 : ∀ aE, (sIf (p2 (gEqS false) (pVar 4) (pC (.str "room"))) sBad sNil) [none, some (.adr aE), some (.loc (m3.length + 1)), some (.loc m4.length), some (.str nm)] m6 = .nxt [none, some (.adr aE), some (.loc (m3.length + 1)), some (.loc m4.length), some (.str nm)] m6 := fun aE => by
    have e0 : gEqS false [.str nm, .str "room"] m6 = .ok (.bl false) m6 := by
      show Res.ok (D.bl (nm == "room")) m6 = _
      rw [n1]
    os_names e0
  have q9 : ∀ aE, (sRet (pF gTup [(pVar 4), (pIf (p2 (gEqS false) (pVar 4) (pC (.str "operation"))) pBad (pC (.int 0)))])) [none, some (.adr aE), some (.loc (m3.length + 1)), some (.loc m4.length), some (.str nm)] m6 = .ret (.tup [.str nm, .int 0]) m6 := fun aE => by
    have e0 : gEqS false [.str nm, .str "operation"] m6 = .ok (.bl false) m6 := by
      show Res.ok (D.bl (nm == "operation")) m6 = _
      rw [n2]
    os_names e0
  refine ⟨[Cell.lst [.bl b0, .bl b1, .bl b2], .lst [.bl b3, .bl b4, .bl b5], .lst ([.bl b0, .bl b1, .bl b2] ++ [.bl b3, .bl b4, .bl b5]), .lst [.bl b6, .bl b7, .bl b8], .lst ([.bl b0, .bl b1, .bl b2] ++ [.bl b3, .bl b4, .bl b5] ++ [.bl b6, .bl b7, .bl b8]), .lst [.bl b9, .bl b10], .lst ([.bl b0, .bl b1, .bl b2] ++ [.bl b3, .bl b4, .bl b5] ++ [.bl b6, .bl b7, .bl b8] ++ [.bl b9, .bl b10]), .lst (toldL.map .str), .lst [.str "operation"], .lst (toldL.map .str ++ [.str "operation"])], fun aE => ?_⟩
  have em : m6 = m ++ [Cell.lst [.bl b0, .bl b1, .bl b2], .lst [.bl b3, .bl b4, .bl b5], .lst ([.bl b0, .bl b1, .bl b2] ++ [.bl b3, .bl b4, .bl b5]), .lst [.bl b6, .bl b7, .bl b8], .lst ([.bl b0, .bl b1, .bl b2] ++ [.bl b3, .bl b4, .bl b5] ++ [.bl b6, .bl b7, .bl b8]), .lst [.bl b9, .bl b10], .lst ([.bl b0, .bl b1, .bl b2] ++ [.bl b3, .bl b4, .bl b5] ++ [.bl b6, .bl b7, .bl b8] ++ [.bl b9, .bl b10]), .lst (toldL.map .str), .lst [.str "operation"], .lst (toldL.map .str ++ [.str "operation"])] := by
    rw [← h6, ← h5, ← h4, ← h3, ← h2, ← h1]
    simp only [List.append_assoc, List.cons_append, List.nil_append]
  rw [← em]
  have e : pS__law_error_of c aE [none, some (.adr aE), none, none, none] m = .ret (.tup [.str nm, .int 0]) m6 := by
    unfold pS__law_error_of
    rw [seq_nxt (q1 aE), seq_nxt (q2 aE), seq_nxt (q3 aE), seq_nxt (q4 aE), seq_nxt (q5 aE), seq_nxt (q6 aE), seq_nxt (q7 aE), seq_nxt (q8 aE)]
    exact q9 aE
  unfold errR
  show (match pS__law_error_of c aE [none, some (.adr aE), none, none, none] m with
  | .ret d m' => Res.ok d m'
  | _ => .bad) = _
  rw [e]
theorem errR_port (m : Store) : ∃ gb, ∀ aE, errR 5 1 pS__law_error_of "UnknownPort" aE m = .ok (.tup [.str "port", .int 0]) (m ++ gb) :=
  errR_ok (n := 1) (b0 := false) (b1 := true) (b2 := false) (b3 := false) (b4 := false) (b5 := false) (b6 := false) (b7 := false) (b8 := false) (b9 := false) (b10 := false)
    (by decide +kernel) (by decide +kernel) (by decide +kernel) (by decide +kernel) (by decide +kernel) (by decide +kernel) (by decide +kernel) (by decide +kernel) (by decide +kernel) (by decide +kernel) (by decide +kernel)
    (fun m k h => by
      show (match lsD m (.loc k), pdD 5 (.bl true) with
        | some xs, some x => (match pdL (pdD 5) xs with
          | some ys => if SeqAt.shaped (.list ys) = true ∧ SeqAt.shaped x = true then Res.ok (D.int (ys.countP fun z => PyData.eqv z x : Nat)) m else Res.bad
          | none => Res.bad)
        | _, _ => Res.bad) = _
      rw [lsD_l h]; rfl) (fun m k h => by
      show (match lsD m (.loc k), pdD 5 (.bl true) with
        | some xs, some x => (match pdL (pdD 5) xs with
          | some ys => if SeqAt.shaped (.list ys) = true ∧ SeqAt.shaped x = true then (match fstEq x ys with | some k => Res.ok (D.int (k : Nat)) m | none => Res.bad) else Res.bad
          | none => Res.bad)
        | _, _ => Res.bad) = _
      rw [lsD_l h]; rfl) rfl (by decide +kernel) (by decide +kernel) m
end MT

/-! K04: beams undone: mirrors that turn stay where they are, how often each turns. -/
namespace MT
open PySem L2
local macro_rules | `(tactic| os_names $xs:ident*) => `(tactic| simp -implicitDefEqProofs only [Bool.not_true, Bool.not_false, decide_true, decide_false, Res.bind_ok, Res.bind_bad, Res.bind_exc, Res.toS_ok, Res.toS_bad, Res.toS_exc, ResS.bind_nxt, ResS.bind_ret, ResS.bind_bad, ResS.bind_exc, bind_ite, toS_ite, bindS_ite, selB_bl, selB_t, selB_f, runK_ite, runK_nxt, runK_ret, runK_bad, runK_exc, runD_0, runD_1, runD_2, runD_3, runD_4, pVar_v, varK_s, pC_e, p1_e, p2_e, pF_e, evL_nil, evL_cons, pIf_e, pAnd_e, pOr_e, pChain_e, pRm_e, rmK_room, pSm_e, smK_s, pLm_e, lmK_e, lmK2_e, pFL_e, plNil_e, plCons_e, plStar_e, plK_tup, plK_fl, pMk_e, pItems_tup, pItems_fl, pMkV_e, mkVK_e, pCm_e, sSeq_e, sSet_e, sRet_e, sExpr_e, sNil_e, sBad_e, sIf_e, optN_some, sAsgT_e, bindT_nm, bindT_2, bindT_3, bindT_4, sPar_e, parK2_e, sPar3_e, parK3_e, optM_some, sSub_e, gSetL_e, setLK_e, sAug_e, augK_e, gSub_e, gAdd_i, gCmp_e, gTup_0, gTup_1, gTup_2, gTup_3, gTup_4, gList_0, gList_1, gList_2, gList_3, gNot_e, gLines_e, gPorts_e, gEqS_i, gIx_l, ixK_e, gIx_t, gIx_f, optR_s, atI_0, gLen_l, lenK_e, gLen_t, gLen_f, gAppend_e, gRev_f, gRevT_e, gTupOf_f, gTupOf_t, gListOf_f, gListOf_t, get_last, set_last, get_2a, get_2b, set_2a, set_2b, len_1, len_2, app_1, pFz_e, fzK_ite, fzK_exc, fzK_bad, dec_t, if_true, if_false, reduceIte, Bool.false_eq_true, wipeD, List.map_cons, List.map_nil, List.cons_append, List.nil_append, List.append_nil, List.replicate_succ, List.replicate_zero, List.set_cons_zero, List.set_cons_succ, Nat.reduceSub, Nat.reduceAdd, List.length_cons, List.length_nil, List.length_set, List.getElem?_cons_zero, List.getElem?_cons_succ, Option.map_some, $[$xs:ident],*])
variable {m m1 m2 : Store} {ε : EnvD}
/-! ### where mirrors turn -/
def sgT (G : List (List Nat)) : List (List Bool) := G.map fun l => l.map isTurnC
theorem rowT_congr {i : Int} : ∀ {l l' : List Nat} {j : Nat}, l.map isTurnC = l'.map isTurnC → rowT i j l = rowT i j l'
  | [], [], _, _ => rfl
  | [], _ :: _, _, h => by cases h
  | _ :: _, [], _, h => by cases h
  | c :: l, c' :: l', j, h => by
    simp only [List.map_cons, List.cons.injEq] at h
    have ih := rowT_congr (i := i) (j := j + 1) h.2
    unfold rowT
    rw [h.1, ih]
theorem gridT_congr : ∀ {G G' : List (List Nat)} {i : Nat}, sgT G = sgT G' → gridT i G = gridT i G'
  | [], [], _, _ => rfl
  | [], _ :: _, _, h => by cases h
  | _ :: _, [], _, h => by cases h
  | l :: G, l' :: G', i, h => by
    have h' : l.map isTurnC :: sgT G = l'.map isTurnC :: sgT G' := h
    injection h' with h1 h2
    unfold gridT
    rw [rowT_congr h1, gridT_congr h2]
theorem sg_set {l : List Nat} {j c : Nat} (h : l[j]? = some c) : (l.set j (flipC c)).map isTurnC = l.map isTurnC := by
  rw [List.map_set, flip_turn]
  refine List.ext_getElem? fun i => ?_
  by_cases hi : i = j
  · subst hi
    have hl := (List.getElem?_eq_some_iff.mp h).1
    rw [List.getElem?_set_self (by simpa using hl), List.getElem?_map, h]; rfl
  · rw [List.getElem?_set_ne (Ne.symm hi)]
theorem sgT_it {h w : Nat} : ∀ (k : Nat) {s : Bl}, Rect s.G h w → (∀ i, i < k → (Bl.it i s).Ins h w) → sgT (Bl.it k s).G = sgT s.G
  | 0, _, _, _ => rfl
  | k + 1, s, R, hi => by
    have h0 : s.Ins h w := hi 0 (by omega)
    obtain ⟨l, e1, e2⟩ := R.get h0.1 h0.2.1 h0.2.2.1 h0.2.2.2
    have R1 : Rect s.step.G h w := R.set _ _ _
    refine (sgT_it k R1 fun i q => hi (i + 1) (by omega)).trans ?_
    show sgT (setL s.G s.r.toNat s.c.toNat (flipC (cellAt s.G s.r s.c))) = _
    unfold setL; rw [e1]
    exact map_set_same (f := fun l => l.map isTurnC) e1 (sg_set e2)
theorem turnsL_after {ls : List Str} (hv : Valid ls) {p : Int} (hp : PortOk ls p) : gridT 0 (gridL (afterP ls p)) = gridT 0 (gridL ls) := by
  have S := steps_ok hv hp
  unfold afterP
  rw [grid_room]
  exact gridT_congr (sgT_it (stepsP ls p) (s := startB ls p) (rect_room hv) S.ins)
theorem turnsL_flip (ls : List Str) : gridT 0 (gridL (flipR ls)) = gridT 0 (gridL ls) := by
  unfold flipR
  rw [grid_room]
  refine gridT_congr ?_
  unfold sgT flipL
  rw [List.map_map]
  refine List.map_congr_left fun l _ => ?_
  show (l.map flipC).map isTurnC = _
  rw [List.map_map]
  exact List.map_congr_left fun c _ => flip_turn c
theorem turnsL_send : ∀ (ps : List Int) {ls : List Str}, Valid ls → (∀ p ∈ ps, PortOk ls p) → gridT 0 (gridL (sendN ls ps).2) = gridT 0 (gridL ls)
  | [], _, _, _ => rfl
  | p :: ps, ls, hv, hp => by
    have hp0 := hp p List.mem_cons_self
    obtain ⟨h1, h2, h3⟩ := after_valid hv hp0
    have np := ports_same h2 h3
    have := turnsL_send ps h1 fun q hq => by unfold PortOk; rw [np]; exact hp q (List.mem_cons_of_mem _ hq)
    exact this.trans (turnsL_after hv hp0)
/-! ### how often a mirror turns -/
def flipN (n a : Nat) : Nat := if n % 2 = 0 then a else flipC a
theorem flipN_s (n a : Nat) : flipN n (flipC a) = flipN (n + 1) a := by
  unfold flipN
  by_cases h : n % 2 = 0
  · rw [if_pos h, if_neg (by omega)]
  · rw [if_neg h, if_pos (by omega), flip_flip]
theorem cell_it {h w : Nat} {i j : Int} (i0 : 0 ≤ i) (j0 : 0 ≤ j) : ∀ (k : Nat) {s : Bl}, Rect s.G h w → (∀ i, i < k → (Bl.it i s).Ins h w) → cellAt (Bl.it k s).G i j = flipN ((Bl.tiles k s).count (i, j)) (cellAt s.G i j)
  | 0, _, _, _ => rfl
  | k + 1, s, R, hi => by
    have h0 : s.Ins h w := hi 0 (by omega)
    have R1 : Rect s.step.G h w := R.set _ _ _
    have e : cellAt s.step.G i j = if i = s.r ∧ j = s.c then flipC (cellAt s.G s.r s.c) else cellAt s.G i j := cell_set R h0.1 h0.2.1 h0.2.2.1 h0.2.2.2 _ i0 j0
    refine (cell_it i0 j0 k R1 fun i q => hi (i + 1) (by omega)).trans ?_
    show _ = flipN (((s.r, s.c) :: Bl.tiles k s.step).count (i, j)) _
    rw [e, List.count_cons]
    by_cases q : i = s.r ∧ j = s.c
    · rw [if_pos q, flipN_s, if_pos (by rw [q.1, q.2]; exact beq_self_eq_true _), ← q.1, ← q.2]
    · rw [if_neg q, if_neg (by simpa using fun a b => q ⟨a.symm, b.symm⟩)]; rfl
theorem cell_after {ls : List Str} (hv : Valid ls) {p : Int} (hp : PortOk ls p) {r c : Nat} : cellAt (gridL (afterP ls p)) (r : Nat) (c : Nat) = flipN ((tilesP ls p).count (((r : Nat) : Int), ((c : Nat) : Int))) (cellAt (gridL ls) (r : Nat) (c : Nat)) := by
  have S := steps_ok hv hp
  unfold afterP
  rw [grid_room]
  exact cell_it (by omega) (by omega) (stepsP ls p) (s := startB ls p) (rect_room hv) S.ins
theorem tile_of {ls : List Str} (hv : Valid ls) {r c : Nat} (hr : r < heightS ls) (hc : c < widthS ls) : Tile ls r c (cellAt (gridL ls) (r : Nat) (c : Nat)) := by
  obtain ⟨l, e1, e2⟩ := (rect_room hv).get (i := (r : Nat)) (j := (c : Nat)) (by omega) (by omega) (by omega) (by omega)
  rw [Int.toNat_natCast] at e1 e2
  unfold gridL at e1
  rw [List.getElem?_map, Option.map_eq_some_iff] at e1
  obtain ⟨z, hz, rfl⟩ := e1
  exact ⟨hr, hc, z, hz, e2⟩
theorem flip_neC {a : Nat} (h : isTurnC a = true) : flipC a ≠ a := by
  unfold isTurnC at h
  simp only [Bool.or_eq_true, beq_iff_eq] at h
  rcases h with rfl | rfl <;> decide
theorem ne_chr {a b : Nat} : gEqD true true [.str ⟨#[a]⟩, .str ⟨#[b]⟩] m = .ok (.bl (decide (a ≠ b))) m := by
  refine (gEqD_e (r := decide (a = b)) ?_).trans ?_
  · rw [eqD_str]
    congr 1
    rw [Bool.eq_iff_iff, beq_iff_eq, decide_eq_true_iff]
    constructor
    · intro h
      have := congrArg (fun z : Str => z.cps.toList) h
      simpa using this
    · rintro rfl; rfl
  · by_cases h : a = b <;> simp [h]
theorem flipN_odd {n a : Nat} (h : isTurnC a = true) : (if decide (a ≠ flipN n a) = true then (1 : Int) else 0) = ((n : Nat) : Int) % 2 := by
  unfold flipN
  by_cases q : n % 2 = 0
  · rw [if_pos q]
    have e : decide (a ≠ a) = false := by simp
    rw [e, if_neg Bool.false_ne_true]; omega
  · rw [if_neg q]
    have e : decide (a ≠ flipC a) = true := decide_eq_true (Ne.symm (flip_neC h))
    rw [e, if_pos rfl]; omega
/-! ### how often a tile is passed -/
theorem pdL_tiles : ∀ ts : List (Int × Int), pdL (pdD 5) (ts.map tileD) = some (ts.map pyPr)
  | [] => rfl
  | t :: ts => by
    have e : pdD 5 (tileD t) = some (pyPr t) := rfl
    rw [List.map_cons]
    unfold pdL
    rw [e, pdL_tiles ts]; rfl
theorem count_tiles {ts : List (Int × Int)} {x : Int × Int} : (ts.map pyPr).countP (fun z => PyData.eqv z (pyPr x)) = ts.count x := by
  rw [List.countP_map]
  unfold List.count
  congr 1
  funext y
  show PyData.eqv (pyPr y) (pyPr x) = (y == x)
  rw [pr_eqv]
  rw [Bool.eq_iff_iff, decide_eq_true_iff, beq_iff_eq]
theorem gCount_tiles {ts : List (Int × Int)} {x : Int × Int} : gCount [.fl (ts.map tileD), tileD x] m = .ok (.int (ts.count x : Nat)) m := by
  have e : pdD 5 (tileD x) = some (pyPr x) := rfl
  show (match lsD m (.fl (ts.map tileD)), pdD 5 (tileD x) with
    | some xs, some x => (match pdL (pdD 5) xs with
      | some ys => if SeqAt.shaped (.list ys) = true ∧ SeqAt.shaped x = true then Res.ok (D.int (ys.countP fun z => PyData.eqv z x : Nat)) m else Res.bad
      | none => Res.bad)
    | _, _ => Res.bad) = _
  have l : lsD m (.fl (ts.map tileD)) = some (ts.map tileD) := rfl
  rw [l, e]
  show (match pdL (pdD 5) (ts.map tileD) with
      | some ys => if SeqAt.shaped (.list ys) = true ∧ SeqAt.shaped (pyPr x) = true then Res.ok (D.int (ys.countP fun z => PyData.eqv z (pyPr x) : Nat)) m else Res.bad
      | none => Res.bad) = _
  rw [pdL_tiles]
  show (if SeqAt.shaped (.list (ts.map pyPr)) = true ∧ SeqAt.shaped (pyPr x) = true then Res.ok (D.int ((ts.map pyPr).countP fun z => PyData.eqv z (pyPr x) : Nat)) m else Res.bad) = _
  rw [if_pos ⟨prs_shaped ts, pr_shaped x⟩, count_tiles]
/-! ### equal, live -/
theorem nk_of : ∀ {n : Nat} {a e : D}, SameD m n a e → ∀ ys, a ≠ .kl ys
  | n + 1, a, e, h, ys => by
    rintro rfl
    cases e with
    | tup _ => obtain ⟨xs, h1, _⟩ := h; cases h1
    | fl _ => obtain ⟨xs, h1, _⟩ := h; cases h1
    | _ => cases h
theorem equal_ok2 {a e : D} (h : SameD m 4 a e) : f__law_equal_4 [a, e] m = .ok (.bl true) m := by
  have h0 : ∀ m x y, SameD m 0 x y → f__law_equal_0 [x, y] m = .ok (.bl true) m := fun m x y h => h.elim
  have h1 : ∀ m x y, SameD m 1 x y → f__law_equal_1 [x, y] m = .ok (.bl true) m := fun m x y h => eq_step2 h0 (nk_of h) h
  have h2 : ∀ m x y, SameD m 2 x y → f__law_equal_2 [x, y] m = .ok (.bl true) m := fun m x y h => eq_step2 h1 (nk_of h) h
  have h3 : ∀ m x y, SameD m 3 x y → f__law_equal_3 [x, y] m = .ok (.bl true) m := fun m x y h => eq_step2 h2 (nk_of h) h
  exact eq_step2 h3 (nk_of h) h
/-! ### unsent, its list live -/
theorem unsentL_ok {ls : List Str} (hv : Valid ls) {es : List Int} (hp : ∀ p ∈ es, PortOk ls p) (hl : es.length ≤ 1000) (m : Store) : fL_unsent (.room ls :: es.map .int) m = .ok (.tup [.loc m.length, .room (unsentN ls es).2]) (m ++ [.lst ((unsentN ls es).1.map .int)]) := by
  have hlim : (es.map D.int).length ≤ lim := by rw [List.length_map]; unfold lim; omega
  obtain ⟨f1, f2, f3⟩ := flip_valid hv
  have np := ports_same f2 f3
  have hp' : ∀ p ∈ es.reverse, PortOk (flipR ls) p := fun p h => by unfold PortOk; rw [np]; exact hp p (List.mem_reverse.mp h)
  have hs := fun m => send_ok f1 hp' (by rw [List.length_reverse]; exact hl) m
  have hi := fun m => invert_ok hv m
  have hi2 := fun m => invert_ok (send_valid _ f1 hp').1 m
  unfold fL_unsent PL_unsent
  rw [runV_1 hlim, runD_2]
  rw [List.map_reverse] at hs
  os_names hs hi hi2
  unfold unsentN
  rw [List.map_reverse]
end MT

/-! K04b: beams undone: the law. -/
namespace MT
open PySem L2
local macro_rules | `(tactic| os_names $xs:ident*) => `(tactic| simp -implicitDefEqProofs only [Bool.not_true, Bool.not_false, decide_true, decide_false, Res.bind_ok, Res.bind_bad, Res.bind_exc, Res.toS_ok, Res.toS_bad, Res.toS_exc, ResS.bind_nxt, ResS.bind_ret, ResS.bind_bad, ResS.bind_exc, bind_ite, toS_ite, bindS_ite, selB_bl, selB_t, selB_f, runK_ite, runK_nxt, runK_ret, runK_bad, runK_exc, runD_0, runD_1, runD_2, runD_3, runD_4, pVar_v, varK_s, pC_e, p1_e, p2_e, pF_e, evL_nil, evL_cons, pIf_e, pAnd_e, pOr_e, pChain_e, pRm_e, rmK_room, pSm_e, smK_s, pLm_e, lmK_e, lmK2_e, pFL_e, plNil_e, plCons_e, plStar_e, plK_tup, plK_fl, pMk_e, pItems_tup, pItems_fl, pMkV_e, mkVK_e, pCm_e, sSeq_e, sSet_e, sRet_e, sExpr_e, sNil_e, sBad_e, sIf_e, optN_some, sAsgT_e, bindT_nm, bindT_2, bindT_3, bindT_4, sPar_e, parK2_e, sPar3_e, parK3_e, optM_some, sSub_e, gSetL_e, setLK_e, sAug_e, augK_e, gSub_e, gAdd_i, gCmp_e, gTup_0, gTup_1, gTup_2, gTup_3, gTup_4, gList_0, gList_1, gList_2, gList_3, gNot_e, gLines_e, gPorts_e, gEqS_i, gIx_l, ixK_e, gIx_t, gIx_f, optR_s, atI_0, gLen_l, lenK_e, gLen_t, gLen_f, gAppend_e, gRev_f, gRevT_e, gTupOf_f, gTupOf_t, gListOf_f, gListOf_t, get_last, set_last, get_2a, get_2b, set_2a, set_2b, len_1, len_2, app_1, pFz_e, fzK_ite, fzK_exc, fzK_bad, dec_t, if_true, if_false, reduceIte, Bool.false_eq_true, wipeD, List.map_cons, List.map_nil, List.cons_append, List.nil_append, List.append_nil, List.replicate_succ, List.replicate_zero, List.set_cons_zero, List.set_cons_succ, Nat.reduceSub, Nat.reduceAdd, List.length_cons, List.length_nil, List.length_set, List.getElem?_cons_zero, List.getElem?_cons_succ, Option.map_some, $[$xs:ident],*])
variable {m m1 m2 : Store} {ε : EnvD}
theorem set0_self {c : Cell} (h : m[0]? = some c) : m.set 0 c = m := by
  cases m with
  | nil => cases h
  | cons x m => cases h; rfl
theorem drawsG_ok {R : List Str} (hv : Valid R) {d : RD} (hd : d.Ok) (h0 : m[0]? = some (.lst d.l)) {o0 o2 o4 o5 o6 o7 o8 o9 o10 o11 o12 o13 o14 o15 o16 o17 o18 o19 : Option D} :
    pFz (pLc (iR1 (pC (.int 4))) [5] (.nm 5) (pC (.bl true)) (pF (f__law_below) [(pVar 1), (pF (gLenU f___len__) [(pVar 3)])])) [o0, some (.loc 0), o2, some (.room R), o4, o5, o6, o7, o8, o9, o10, o11, o12, o13, o14, o15, o16, o17, o18, o19] m =
      .ok (.fl ((drawN (nPorts R : Nat) 4 d).1.map .int)) (m.set 0 (.lst (drawN (nPorts R : Nat) 4 d).2.l)) := by
  have hm : 0 < m.length := (List.getElem?_eq_some_iff.mp h0).1
  have hlen := fun m => lenU_ok hv m
  have np := ports_in2 hv
  have hk0 : (0 : Int) < (nPorts R : Nat) := by omega
  have src : iR1 (pC (.int 4)) [o0, some (.loc 0), o2, some (.room R), o4, o5, o6, o7, o8, o9, o10, o11, o12, o13, o14, o15, o16, o17, o18, o19] m = .ok (nxF (rngD 0 4)) m := iR1_n (n := 4) rfl (by decide)
  have ev : ∀ (i : Nat) (M M2 : Store) (v : D), f__law_below [.loc 0, .int (nPorts R : Nat)] M = .ok v M2 → pF (f__law_below) [(pVar 1), (pF (gLenU f___len__) [(pVar 3)])] [o0, some (.loc 0), o2, some (.room R), o4, some (.int i), o6, o7, o8, o9, o10, o11, o12, o13, o14, o15, o16, o17, o18, o19] M = .ok v M2 := fun i M M2 v h => by os_names hlen h
  obtain ⟨m2, e, ⟨c, rfl⟩, hg⟩ := lc_rel (own := [5]) (t := .nm 5) (pe := pF (f__law_below) [(pVar 1), (pF (gLenU f___len__) [(pVar 3)])]) (rngD 0 4) ((drawN (nPorts R : Nat) 4 d).1.map .int)
    (fun i m' => ∃ c, m' = m.set 0 (.lst (drawN (nPorts R : Nat) i d).2.l) ++ [c]) src ⟨.lst [], by rw [show (drawN (nPorts R : Nat) 0 d).2 = d from rfl, set0_self h0]⟩ (by rw [List.length_map, drawN_len, rng_len]) (by rw [rng_len]; decide) (fun _ _ _ => rfl) fun i x y m' hx hy hR hg => by
      obtain ⟨c, rfl⟩ := hR
      obtain ⟨hi, rfl⟩ := rng_get hx
      rw [List.getElem?_map, drawN_get hi] at hy
      cases hy
      have g0 : (m.set 0 (.lst (drawN (nPorts R : Nat) i d).2.l) ++ [c])[0]? = some (.lst (drawN (nPorts R : Nat) i d).2.l) := by
        rw [List.getElem?_append_left (by rw [List.length_set]; exact hm), List.getElem?_set_self hm]
      have hb := below_ok (n := 0) g0 (drawN_ok hk0 hd i) hk0 (by omega)
      have eS : (m.set 0 (.lst (drawN (nPorts R : Nat) i d).2.l) ++ [c]).set 0 (.lst ((drawN (nPorts R : Nat) i d).2.next (nPorts R : Nat)).l) = m.set 0 (.lst ((drawN (nPorts R : Nat) i d).2.next (nPorts R : Nat)).l) ++ [c] := by
        rw [List.set_append_left _ _ (by rw [List.length_set]; exact hm), List.set_set]
      rw [eS] at hb
      refine ⟨[o0, some (.loc 0), o2, some (.room R), o4, some (.int i), o6, o7, o8, o9, o10, o11, o12, o13, o14, o15, o16, o17, o18, o19], m.set 0 (.lst ((drawN (nPorts R : Nat) i d).2.next (nPorts R : Nat)).l) ++ [c], rfl, ev _ _ _ _ hb, ?_, .lst (((drawN (nPorts R : Nat) 4 d).1.map .int).take (i + 1)), ?_⟩
      · rw [List.getElem?_append_right (by rw [List.length_set]; exact Nat.le_refl _), List.length_set] at hg ⊢
        exact hg
      · rw [List.set_append_right _ _ (by rw [List.length_set]; exact Nat.le_refl _), List.length_set, Nat.sub_self]
        rfl
  have hc : c = .lst ((drawN (nPorts R : Nat) 4 d).1.map .int) := by
    rw [List.getElem?_append_right (by rw [List.length_set]; exact Nat.le_refl _), List.length_set, Nat.sub_self] at hg
    exact Option.some.inj hg
  subst hc
  rw [pFz_e, e, rng_len]
  exact fzK_set (n := 0) (c := .lst (drawN (nPorts R : Nat) 4 d).2.l) (RD.lt _ _) ltDs_int
/-! ### the two comprehensions -/
theorem turns_count {R : List Str} (hv : Valid R) {ts : List (Int × Int)} {o0 o1 o2 o4 o5 o6 o7 o8 o9 o10 o11 o13 o14 o15 o16 o17 o18 o19 : Option D} :
    pFz (pLc (iSeq (pRm (fzF f_turning) (pVar 3) [])) [15] (.nm 15) (pC (.bl true)) (p2 gMod (pLw gCount (pVar 12) [(pVar 15)]) (pC (.int 2)))) [o0, o1, o2, some (.room R), o4, o5, o6, o7, o8, o9, o10, o11, some (.fl (ts.map tileD)), o13, o14, o15, o16, o17, o18, o19] m =
      .ok (.fl ((gridT 0 (gridL R)).map fun t => D.int (((ts.count t : Nat) : Int) % 2))) m := by
  have ht := fun m => turning_ok hv m
  have src : iSeq (pRm (fzF f_turning) (pVar 3) []) [o0, o1, o2, some (.room R), o4, o5, o6, o7, o8, o9, o10, o11, some (.fl (ts.map tileD)), o13, o14, o15, o16, o17, o18, o19] m = .ok (nxF ((gridT 0 (gridL R)).map tileD)) m := iSeq_f ((rm_ok (v_ok (i := 3) rfl) ev_nil).trans (ht m))
  refine lcz_map (gridT 0 (gridL R)) tileD _ src (by have := turn_len hv; unfold lim; omega) (fun _ _ => rfl) fun i t hx => ⟨[o0, o1, o2, some (.room R), o4, o5, o6, o7, o8, o9, o10, o11, some (.fl (ts.map tileD)), o13, o14, some (tileD t), o16, o17, o18, o19], rfl, fun l => ?_⟩
  have hc := fun m => gCount_tiles (m := m) (ts := ts) (x := t)
  have hl : ∀ m, lsD m (.fl (ts.map tileD)) = some (ts.map tileD) := fun _ => rfl
  have hm := fun (i : Int) (m : Store) => gMod_e (i := i) (j := 2) (m := m) (by decide)
  os_names pLw_e hl lwK_s hc hm
theorem turns_diff {R : List Str} (hv : Valid R) {p : Int} (hp : PortOk R p) {o0 o1 o2 o4 o5 o6 o7 o8 o9 o10 o12 o13 o14 o15 o16 o17 o18 o19 : Option D} :
    pFz (pLc (iSeq (pRm (fzF f_turning) (pVar 3) [])) [16, 17] (.tp [16, 17]) (pC (.bl true)) (pF gInt [(p2 (gEqD true true) (p2 (gGetR f___getitem__) (pVar 3) (pF gTup [(pVar 16), (pVar 17)])) (p2 (gGetR f___getitem__) (pVar 11) (pF gTup [(pVar 16), (pVar 17)])))])) [o0, o1, o2, some (.room R), o4, o5, o6, o7, o8, o9, o10, some (.room (afterP R p)), o12, o13, o14, o15, o16, o17, o18, o19] m =
      .ok (.fl ((gridT 0 (gridL R)).map fun t => D.int ((((tilesP R p).count t : Nat) : Int) % 2))) m := by
  have ht := fun m => turning_ok hv m
  obtain ⟨hA, A2, A3⟩ := after_valid hv hp
  have src : iSeq (pRm (fzF f_turning) (pVar 3) []) [o0, o1, o2, some (.room R), o4, o5, o6, o7, o8, o9, o10, some (.room (afterP R p)), o12, o13, o14, o15, o16, o17, o18, o19] m = .ok (nxF ((gridT 0 (gridL R)).map tileD)) m := iSeq_f ((rm_ok (v_ok (i := 3) rfl) ev_nil).trans (ht m))
  refine lcz_map (gridT 0 (gridL R)) tileD _ src (by have := turn_len hv; unfold lim; omega) (fun _ _ => rfl) fun i t hx => ?_
  obtain ⟨r, c, a, rfl, t1, ta⟩ := turn_mem hv (List.mem_of_getElem? hx)
  have t2 := tile_of hA (r := r) (c := c) (by rw [A2]; exact t1.hr) (by rw [A3]; exact t1.hc)
  have e1 := cell_after hv hp (r := r) (c := c)
  rw [t1.cell] at e1
  rw [e1] at t2
  obtain ⟨b, hb⟩ : ∃ b, flipN ((tilesP R p).count (((r : Nat) : Int), ((c : Nat) : Int))) a = b := ⟨_, rfl⟩
  rw [hb] at t2
  have g1 := fun m => getitem_ok hv t1 m
  have g2 := fun m => getitem_ok hA t2 m
  have q1 : ∀ m, gGetR f___getitem__ [.room R, .tup [.int (r : Nat), .int (c : Nat)]] m = .ok (.str ⟨#[a]⟩) m := g1
  have q2 : ∀ m, gGetR f___getitem__ [.room (afterP R p), .tup [.int (r : Nat), .int (c : Nat)]] m = .ok (.str ⟨#[b]⟩) m := g2
  have q3 := fun m => ne_chr (m := m) (a := a) (b := b)
  have q4 : ∀ (z : Bool) m, gInt [.bl z] m = .ok (.int (if z = true then 1 else 0)) m := fun _ _ => rfl
  have q5 := flipN_odd (n := (tilesP R p).count (((r : Nat) : Int), ((c : Nat) : Int))) ta
  rw [hb] at q5
  refine ⟨[o0, o1, o2, some (.room R), o4, o5, o6, o7, o8, o9, o10, some (.room (afterP R p)), o12, o13, o14, o15, some (.int (r : Nat)), some (.int (c : Nat)), o18, o19], rfl, fun l => ?_⟩
  have e : pF gInt [(p2 (gEqD true true) (p2 (gGetR f___getitem__) (pVar 3) (pF gTup [(pVar 16), (pVar 17)])) (p2 (gGetR f___getitem__) (pVar 11) (pF gTup [(pVar 16), (pVar 17)])))] [o0, o1, o2, some (.room R), o4, o5, o6, o7, o8, o9, o10, some (.room (afterP R p)), o12, o13, o14, o15, some (.int (r : Nat)), some (.int (c : Nat)), o18, o19] (m ++ l) = .ok (.int (if decide (a ≠ b) = true then 1 else 0)) (m ++ l) := by
    have a1 : p2 (gGetR f___getitem__) (pVar 3) (pF gTup [(pVar 16), (pVar 17)]) [o0, o1, o2, some (.room R), o4, o5, o6, o7, o8, o9, o10, some (.room (afterP R p)), o12, o13, o14, o15, some (.int (r : Nat)), some (.int (c : Nat)), o18, o19] (m ++ l) = .ok (.str ⟨#[a]⟩) (m ++ l) := by os_names q1
    have a2 : p2 (gGetR f___getitem__) (pVar 11) (pF gTup [(pVar 16), (pVar 17)]) [o0, o1, o2, some (.room R), o4, o5, o6, o7, o8, o9, o10, some (.room (afterP R p)), o12, o13, o14, o15, some (.int (r : Nat)), some (.int (c : Nat)), o18, o19] (m ++ l) = .ok (.str ⟨#[b]⟩) (m ++ l) := by os_names q2
    refine (pF1 ((p2_ok a1 a2).trans (q3 _))).trans (q4 _ _)
  rw [e, q5]
/-! ### one round -/
noncomputable def body04 (CR : Addr) : PgS := (sSeq (sSet 3 (pF (f__law_room CR) [(pF (fzF (f__law_lines)) [(pVar 1), (pC (.int 8)), (pC (.int 10))])]))
    (sSeq (sSet 4 (pFz (pLc (iR1 (pC (.int 4))) [5] (.nm 5) (pC (.bl true)) (pF (f__law_below) [(pVar 1), (pF (gLenU f___len__) [(pVar 3)])]))))
    (sSeq (sAsgT (.tp [6, 7]) (pF (fzF (f_send)) [(pVar 3), (p2 gIx (pVar 4) (pC (.int 0))), (p2 gIx (pVar 4) (pC (.int 1))), (p2 gIx (pVar 4) (pC (.int 2))), (p2 gIx (pVar 4) (pC (.int 3)))]))
    (sSeq (sAsgT (.tp [8, 9]) (pF (fL_unsent) [(pVar 7), (p2 gIx (pVar 6) (pC (.int 0))), (p2 gIx (pVar 6) (pC (.int 1))), (p2 gIx (pVar 6) (pC (.int 2))), (p2 gIx (pVar 6) (pC (.int 3)))]))
    (sSeq (sIf (p1 gNot (pF (f__law_equal_4) [(pFz (pF gList [(pVar 8), (pRm f_rows (pVar 9) [])])), (pFz (pF gList [(pVar 4), (pRm f_rows (pVar 3) [])]))])) (sRet (pC (.bl false))) sNil)
    (sSeq (sExpr (pLm gAppend (pVar 8) [(pC (.int 0))]))
    (sSeq (sAsgT (.tp [10, 11]) (pRm f___call__ (pRm f___invert__ (pVar 7) []) [(p2 gIx (pVar 6) (pC (.int 3)))]))
    (sSeq (sIf (pOr (p2 (gEqD true true) (pVar 10) (p2 gIx (pVar 4) (pC (.int 3)))) (p2 (gEqD true true) (p2 gIx (pF (fzF (f_send)) [(pVar 3), (p2 gIx (pVar 4) (pC (.int 0))), (p2 gIx (pVar 4) (pC (.int 1))), (p2 gIx (pVar 4) (pC (.int 2)))]) (pC (.int 1))) (pRm f___invert__ (pVar 11) []))) (sRet (pC (.bl false))) sNil)
    (sSeq (sAsgT (.tp [10, 11]) (pRm f___call__ (pVar 3) [(p2 gIx (pVar 4) (pC (.int 0)))]))
    (sSeq (sAsgT (.tp [12, 13]) (pF gTup [(pFz (pListG f_path [(pVar 3), (p2 gIx (pVar 4) (pC (.int 0)))])), (pFz (pListG f_path [(pRm f___invert__ (pVar 11) []), (pVar 10)]))]))
    (sSeq (sIf (pOr (p2 (gEqD true true) (pVar 12) (pFz (p1 gRev (pVar 13)))) (pOr (p2 (gEqD true true) (pRm (fzF f_turning) (pVar 3) []) (pRm (fzF f_turning) (pVar 7) [])) (p2 (gEqD true true) (pRm (fzF f_turning) (p2 gIx (pRm f___call__ (pRm f___invert__ (pVar 3) []) [(p2 gIx (pVar 4) (pC (.int 1)))]) (pC (.int 1))) []) (pRm (fzF f_turning) (pVar 3) [])))) (sRet (pC (.bl false))) sNil)
    (sSeq (sSet 14 (pFz (pLc (iSeq (pRm (fzF f_turning) (pVar 3) [])) [15] (.nm 15) (pC (.bl true)) (p2 gMod (pLw gCount (pVar 12) [(pVar 15)]) (pC (.int 2))))))
    (sSeq (sIf (p2 (gEqD true true) (pFz (pLc (iSeq (pRm (fzF f_turning) (pVar 3) [])) [16, 17] (.tp [16, 17]) (pC (.bl true)) (pF gInt [(p2 (gEqD true true) (p2 (gGetR f___getitem__) (pVar 3) (pF gTup [(pVar 16), (pVar 17)])) (p2 (gGetR f___getitem__) (pVar 11) (pF gTup [(pVar 16), (pVar 17)])))]))) (pVar 14)) (sRet (pC (.bl false))) sNil)
    (sSeq (sAsgT (.tp [18, 19]) (pF gTup [(pF (fzF (f_unsent)) [(pVar 3)]), (p2 gIx (pFz (pF gList [(p2 gSub (pC (.int 0)) (pC (.int 1))), (pF (gLenU f___len__) [(pVar 3)]), (pC .non), (pC (.bl true)), (pC (.str "0"))])) (pF (f__law_below) [(pVar 1), (pC (.int 5))]))]))
    (sSeq (sIf (p1 gNot (pF (f__law_equal_4) [(pFz (pF gList [(p2 gIx (pVar 18) (pC (.int 0))), (p2 (gEqD true false) (p2 gIx (pVar 18) (pC (.int 1))) (pVar 3))])), (pFz (pF gList [(pFz (pF gList [])), (pC (.bl true))]))])) (sRet (pC (.bl false))) sNil)
    (sIf (p2 (gEqD true true) (pErr 5 1 pS__law_error_of okErr (pF (fX_unsent) [(pVar 3), (pC (.int 0)), (pVar 19)])) (pF gTup [(pC (.str "port")), (pC (.int 0))])) (sRet (pC (.bl false))) sNil))))))))))))))))
theorem port_no {R : List Str} (hv : Valid R) (i : Int) (h0 : 0 ≤ i) (h5 : i < 5) : ∃ v, atI [D.int (0 - 1), .int (nPorts R : Nat), .non, .bl true, .str "0"] i = some v ∧ NoPort (flipR R) v := by
  have np : nPorts (flipR R) = nPorts R := ports_same (flip_valid hv).2.1 (flip_valid hv).2.2
  have : i = 0 ∨ i = 1 ∨ i = 2 ∨ i = 3 ∨ i = 4 := by omega
  rcases this with rfl | rfl | rfl | rfl | rfl
  · exact ⟨_, rfl, .int _ fun z => by have := z.1; omega⟩
  · exact ⟨_, rfl, .int _ fun z => by have := z.2; rw [np] at this; omega⟩
  · exact ⟨_, rfl, .non⟩
  · exact ⟨_, rfl, .bl true⟩
  · exact ⟨_, rfl, .str _⟩
theorem ne_port {z : Str} : gEqD true true [.tup [.str z, .int 0], .tup [.str z, .int 0]] m = .ok (.bl false) m := ne_same (by
  rw [eqD_tup, eqL_cons (eqD_str.trans (congrArg some (beq_self_eq_true _))) (eqL_cons (eqD_int.trans (congrArg some (decide_eq_true rfl))) eqL_nil)]; rfl)
theorem ne_ints_ff {is : List Int} : gEqD true true [.fl (is.map .int), .fl (is.map .int)] m = .ok (.bl false) m := ne_same (by rw [eqD_fl, eqL_ints])
theorem exits_port : ∀ (ps : List Int) {ls : List Str}, Valid ls → (∀ p ∈ ps, PortOk ls p) → ∀ e ∈ (sendN ls ps).1, PortOk ls e
  | [], _, _, _, e, h => nomatch h
  | p :: ps, ls, hv, hp, e, h => by
    have hp0 := hp p List.mem_cons_self
    obtain ⟨h1, h2, h3⟩ := after_valid hv hp0
    have np := ports_same h2 h3
    have h' : e ∈ exitP ls p :: (sendN (afterP ls p) ps).1 := h
    rcases List.mem_cons.mp h' with rfl | h'
    · exact (back_ok hv hp0).port
    · have := exits_port ps h1 (fun q hq => by unfold PortOk; rw [np]; exact hp q (List.mem_cons_of_mem _ hq)) e h'
      unfold PortOk at this ⊢; rw [← np]; exact this
theorem pErr_port {ε : EnvD} {p : Pg} (hx : p ε m = .exc ⟨"UnknownPort", []⟩ m) : ∃ gb, pErr 5 1 pS__law_error_of okErr p ε m = .ok (.tup [.str "port", .int 0]) (m ++ gb) := by
  obtain ⟨gb, hgb⟩ := errR_port m
  refine ⟨gb, ?_⟩
  unfold pErr
  rw [hx]
  exact (if_pos ⟨rfl, by decide +kernel, fun a => (hgb a).trans (hgb 0).symm⟩).trans (hgb 0)
theorem step04 (CR : Addr) {d : RD} (hd : d.Ok) (h0 : m[0]? = some (.lst d.l)) {o0 o2 o3 o4 o5 o6 o7 o8 o9 o10 o11 o12 o13 o14 o15 o16 o17 o18 o19 : Option D} :
    ∃ (m' : Store) (d' : RD) (q3 q4 q5 q6 q7 q8 q9 q10 q11 q12 q13 q14 q15 q16 q17 q18 q19 : Option D), body04 CR [o0, some (.loc 0), o2, o3, o4, o5, o6, o7, o8, o9, o10, o11, o12, o13, o14, o15, o16, o17, o18, o19] m =
      .nxt [o0, some (.loc 0), o2, q3, q4, q5, q6, q7, q8, q9, q10, q11, q12, q13, q14, q15, q16, q17, q18, q19] m' ∧ d'.Ok ∧ m'[0]? = some (.lst d'.l) := by
  have hm : 0 < m.length := (List.getElem?_eq_some_iff.mp h0).1
  obtain ⟨d1, G, hh, ww, hd1, rows, h1, h8, w1, w8, hl⟩ := lines_law (n := 0) h0 hd (most := 8) (by decide) (by decide) (turn := 10) (by decide)
  have hl' : fzF f__law_lines [.loc 0, .int 8, .int 10] m = .ok (.fl ((roomOf G).map .str)) (m.set 0 (.lst d1.l)) := hl
  have hv := rows.room (by decide) h1 (by omega) w1 (by omega)
  have hroom := fun m => room_fl hv CR m
  obtain ⟨R, hR⟩ : ∃ R, roomOf G = R := ⟨_, rfl⟩
  rw [hR] at hl' hv hroom
  have g1 : (m.set 0 (.lst d1.l))[0]? = some (.lst d1.l) := List.getElem?_set_self hm
  obtain ⟨M1, hM1⟩ : ∃ M1, m.set 0 (.lst d1.l) = M1 := ⟨_, rfl⟩
  rw [hM1] at hl' g1
  have hM1l : 0 < M1.length := (List.getElem?_eq_some_iff.mp g1).1
  have np := ports_in2 hv
  have hdr := fun o4 o5 o6 o7 o8 o9 o10 o11 o12 o13 o14 o15 o16 o17 o18 o19 => drawsG_ok hv hd1 g1 (o0 := o0) (o2 := o2) (o4 := o4) (o5 := o5) (o6 := o6) (o7 := o7) (o8 := o8) (o9 := o9) (o10 := o10) (o11 := o11) (o12 := o12) (o13 := o13) (o14 := o14) (o15 := o15) (o16 := o16) (o17 := o17) (o18 := o18) (o19 := o19)
  have hd2 := drawN_ok (k := (nPorts R : Nat)) (by omega) hd1 4
  have hpp := drawN_mem hv (d := d1) 4
  have hpl := drawN_len (k := (nPorts R : Nat)) (d := d1) 4
  obtain ⟨ps, hps⟩ : ∃ ps, (drawN (nPorts R : Nat) 4 d1).1 = ps := ⟨_, rfl⟩
  obtain ⟨d2, hd2e⟩ : ∃ d2, (drawN (nPorts R : Nat) 4 d1).2 = d2 := ⟨_, rfl⟩
  rw [hps] at hpp hpl
  simp only [hps, hd2e] at hdr
  rw [hd2e] at hd2
  have g2 : (M1.set 0 (.lst d2.l))[0]? = some (.lst d2.l) := List.getElem?_set_self hM1l
  obtain ⟨M2, hM2⟩ : ∃ M2, M1.set 0 (.lst d2.l) = M2 := ⟨_, rfl⟩
  simp only [hM2] at hdr
  rw [hM2] at g2
  have hM2l : 0 < M2.length := (List.getElem?_eq_some_iff.mp g2).1
  match ps, hpl with
  | [p0, p1, p2', p3], _ =>
    have hp0 : PortOk R p0 := hpp p0 (by simp)
    have hp1 : PortOk R p1 := hpp p1 (by simp)
    have hp3 : PortOk R p3 := hpp p3 (by simp)
    have h3 : ∀ p ∈ [p0, p1, p2'], PortOk R p := fun p h => hpp p (List.mem_append_left [p3] h)
    obtain ⟨hR3, r31, r32⟩ := send_valid [p0, p1, p2'] hv h3
    have np3 := ports_same r31 r32
    have hp33 : PortOk (sendN R [p0, p1, p2']).2 p3 := by unfold PortOk; rw [np3]; exact hp3
    have s3 := fun m => send_ok hv h3 (by show 3 ≤ 1000; omega) m
    have s4 := fun m => send_ok hv hpp (by show 4 ≤ 1000; omega) m
    obtain ⟨hS4, s41, s42⟩ := send_valid [p0, p1, p2', p3] hv hpp
    have np4 := ports_same s41 s42
    have us := unsent_send hv hpp
    have el := send_len [p0, p1, p2', p3] R
    have app : sendN R [p0, p1, p2', p3] = ((sendN R [p0, p1, p2']).1 ++ [exitP (sendN R [p0, p1, p2']).2 p3], afterP (sendN R [p0, p1, p2']).2 p3) := send_app [p0, p1, p2'] [p3] R
    have tS := turnsL_send [p0, p1, p2', p3] hv hpp
    have hXp := exits_port [p0, p1, p2', p3] hv hpp
    have B3 := back_ok hR3 hp33
    have B0 := back_ok hv hp0
    have eE : (sendN R [p0, p1, p2', p3]).1[3]? = some (exitP (sendN R [p0, p1, p2']).2 p3) := rfl
    have eS : (sendN R [p0, p1, p2', p3]).2 = afterP (sendN R [p0, p1, p2']).2 p3 := by rw [app]
    have e0h : (sendN R [p0, p1, p2', p3]).1[0]? = some (exitP R p0) := rfl
    obtain ⟨R3, hR3e⟩ : ∃ R3, (sendN R [p0, p1, p2']).2 = R3 := ⟨_, rfl⟩
    obtain ⟨Y, hY⟩ : ∃ Y, (sendN R [p0, p1, p2']).1 = Y := ⟨_, rfl⟩
    obtain ⟨S4, hS4e⟩ : ∃ S4, (sendN R [p0, p1, p2', p3]).2 = S4 := ⟨_, rfl⟩
    obtain ⟨X, hX⟩ : ∃ X, (sendN R [p0, p1, p2', p3]).1 = X := ⟨_, rfl⟩
    rw [hR3e] at hR3 hp33 eE eS B3
    rw [hR3e, hY] at s3
    rw [hS4e] at hS4 np4 tS eS us
    rw [hX] at el eE e0h us hXp
    simp only [hS4e, hX] at s4
    have uL := fun m => unsentL_ok hS4 (es := X) (fun p h => by unfold PortOk; rw [np4]; exact hXp p h) (by rw [el]; show 4 ≤ 1000; omega) m
    simp only [us] at uL
    have hfS4 := (flip_valid hS4).1
    have npf := ports_same (flip_valid hS4).2.1 (flip_valid hS4).2.2
    have hfR := (flip_valid hv).1
    have nfR := ports_same (flip_valid hv).2.1 (flip_valid hv).2.2
    obtain ⟨hR1, rA, rB⟩ := after_valid hv hp0
    have np1 := ports_same rA rB
    have hfR1 := (flip_valid hR1).1
    have nf1 := ports_same (flip_valid hR1).2.1 (flip_valid hR1).2.2
    match X, el with
    | [e0, e1, e2, e3], _ =>
      have x0 : e0 = exitP R p0 := Option.some.inj e0h
      have x3 : e3 = exitP R3 p3 := Option.some.inj eE
      simp only [List.map_cons, List.map_nil] at s3 s4 uL hdr
      have B3e : exitP (flipR S4) e3 = p3 := by rw [eS, x3]; exact B3.exit
      have B3a : afterP (flipR S4) e3 = flipR R3 := by rw [eS, x3]; exact B3.after
      have B0t : tilesP (flipR (afterP R p0)) e0 = (tilesP R p0).reverse := by rw [x0]; exact B0.tiles
      have i0 : atI [D.int p0, .int p1, .int p2', .int p3] 0 = some (.int p0) := rfl
      have i1 : atI [D.int p0, .int p1, .int p2', .int p3] 1 = some (.int p1) := rfl
      have i2 : atI [D.int p0, .int p1, .int p2', .int p3] 2 = some (.int p2') := rfl
      have i3 : atI [D.int p0, .int p1, .int p2', .int p3] 3 = some (.int p3) := rfl
      have j0 : atI [D.int e0, .int e1, .int e2, .int e3] 0 = some (.int e0) := rfl
      have j1 : atI [D.int e0, .int e1, .int e2, .int e3] 1 = some (.int e1) := rfl
      have j2 : atI [D.int e0, .int e1, .int e2, .int e3] 2 = some (.int e2) := rfl
      have j3 : atI [D.int e0, .int e1, .int e2, .int e3] 3 = some (.int e3) := rfl
      have ta : ∀ x y : D, atI [x, y] 0 = some x := fun _ _ => rfl
      have tb : ∀ x y : D, atI [x, y] 1 = some y := fun _ _ => atI_1
      -- the store with the list found
      obtain ⟨M3, hM3⟩ : ∃ M3, M2 ++ [Cell.lst [.int p0, .int p1, .int p2', .int p3]] = M3 := ⟨_, rfl⟩
      have l3 : M3[M2.length]? = some (.lst [.int p0, .int p1, .int p2', .int p3]) := by rw [← hM3]; exact get_last
      have len3 : M3.length = M2.length + 1 := by rw [← hM3]; simp
      have uL2 := uL M2
      rw [hM3] at uL2
      have zr : ∀ n, ltDs n [.fl [.int p0, .int p1, .int p2', .int p3], .tup (R.map .str)] = true := fun n => by
        show (true && (ltDs n (R.map .str) && true)) = true
        rw [ltDs_str]; rfl
      have zA : fzK M3 (.ok (.loc M3.length) (M3 ++ [.lst [.loc M2.length, .tup (R.map .str)]])) = .ok (.fl [.loc M2.length, .tup (R.map .str)]) M3 := fzK_loc (by
        show (decide (M2.length < M3.length) && (ltDs M3.length (R.map .str) && true)) = true
        rw [ltDs_str, decide_eq_true (by omega)]; rfl)
      have zB := fun m : Store => fzK_loc (m := m) (zr _)
      have hR8 : R.length ≤ 8 := hv.2.1
      have eqA : f__law_equal_4 [.fl [.loc M2.length, .tup (R.map .str)], .fl [.fl [.int p0, .int p1, .int p2', .int p3], .tup (R.map .str)]] M3 = .ok (.bl true) M3 := equal_ok2 (by
        refine ⟨_, rfl, by show 2 ≤ lim; unfold lim; omega, rfl, fun i x y hx hy => ?_⟩
        match i, hx, hy with
        | 0, hx, hy =>
          cases hx; cases hy
          refine ⟨_, lsD_l l3, by show 4 ≤ lim; unfold lim; omega, rfl, fun i x y hx hy => ?_⟩
          rw [hx] at hy; cases hy
          have hm := List.mem_of_getElem? hx
          simp only [List.mem_cons, List.not_mem_nil, or_false] at hm
          rcases hm with rfl | rfl | rfl | rfl <;> rfl
        | 1, hx, hy =>
          cases hx; cases hy
          refine ⟨_, rfl, by rw [List.length_map]; unfold lim; omega, rfl, fun i x y hx hy => ?_⟩
          rw [hx] at hy; cases hy
          have hm := List.mem_of_getElem? hx
          obtain ⟨z, _, rfl⟩ := List.mem_map.mp hm
          rfl
        | k + 2, hx, hy => cases hx)
      have hrw := fun m => rows_ok R m
      have apA := fun d m => apK_e (n := M2.length) (d := d) (m := m) (xs := [.int p0, .int p1, .int p2', .int p3]) (by show 4 ≤ lim; unfold lim; omega)
      obtain ⟨M4, hM4⟩ : ∃ M4, M3.set M2.length (.lst ([.int p0, .int p1, .int p2', .int p3] ++ [.int 0])) = M4 := ⟨_, rfl⟩
      have g4 : M4[0]? = some (.lst d2.l) := by
        rw [← hM4, List.getElem?_set_ne (by omega), ← hM3, List.getElem?_append_left hM2l]; exact g2
      have hM4l : 0 < M4.length := (List.getElem?_eq_some_iff.mp g4).1
      simp only [List.cons_append, List.nil_append] at hM4
      -- rooms
      have iS := fun m => invert_ok hS4 m
      have cS := fun m => call_ok hfS4 (p := e3) (by unfold PortOk; rw [npf, np4]; exact hXp e3 (by simp)) m
      rw [B3e, B3a] at cS
      have iR3 := fun m => invert_ok (flip_valid hR3).1 m
      rw [flip_flipR] at iR3
      have ne1 := fun m : Store => ne_int_int (m := m) (i := p3)
      have ne2 := fun m : Store => ne_room (m := m) (a := R3)
      have cR := fun m => call_ok hv hp0 m
      rw [← x0] at cR
      have q1 := fun m => path_ok hv hp0 m
      have iR1 := fun m => invert_ok hR1 m
      have q2 := fun m => path_ok hfR1 (p := e0) (by unfold PortOk; rw [nf1, np1]; exact hXp e0 (by simp)) m
      rw [B0t, List.map_reverse] at q2
      have z1 := fun m : Store => fzK_loc (m := m) (xs := ((tilesP R p0).map tileD).reverse) (by rw [ltDs_rev]; exact ltDs_tiles)
      have z2 := fun m : Store => fzK_loc (m := m) (xs := (tilesP R p0).map tileD) ltDs_tiles
      have t1 := fun m : Store => ne_tiles (m := m) (ts := tilesP R p0)
      have tuR := fun m => turning_ok hv m
      have tuS := fun m => turning_ok hS4 m
      rw [tS] at tuS
      have t2 := fun m : Store => ne_tiles (m := m) (ts := gridT 0 (gridL R))
      have iR := fun m => invert_ok hv m
      have hp1f : PortOk (flipR R) p1 := by unfold PortOk; rw [nfR]; exact hp1
      have cF := fun m => call_ok hfR hp1f m
      have tuF := fun m => turning_ok (after_valid hfR hp1f).1 m
      rw [turnsL_after hfR hp1f, turnsL_flip] at tuF
      have tc := fun o0 o1 o2 o4 o5 o6 o7 o8 o9 o10 o11 o13 o14 o15 o16 o17 o18 o19 m => turns_count (m := m) hv (ts := tilesP R p0) (o0 := o0) (o1 := o1) (o2 := o2) (o4 := o4) (o5 := o5) (o6 := o6) (o7 := o7) (o8 := o8) (o9 := o9) (o10 := o10) (o11 := o11) (o13 := o13) (o14 := o14) (o15 := o15) (o16 := o16) (o17 := o17) (o18 := o18) (o19 := o19)
      have td := fun o0 o1 o2 o4 o5 o6 o7 o8 o9 o10 o12 o13 o14 o15 o16 o17 o18 o19 m => turns_diff (m := m) hv hp0 (o0 := o0) (o1 := o1) (o2 := o2) (o4 := o4) (o5 := o5) (o6 := o6) (o7 := o7) (o8 := o8) (o9 := o9) (o10 := o10) (o12 := o12) (o13 := o13) (o14 := o14) (o15 := o15) (o16 := o16) (o17 := o17) (o18 := o18) (o19 := o19)
      have ec : ((gridT 0 (gridL R)).map fun t => D.int ((((tilesP R p0).count t : Nat) : Int) % 2)) = ((gridT 0 (gridL R)).map fun t => (((tilesP R p0).count t : Nat) : Int) % 2).map D.int := by rw [List.map_map]; rfl
      have t3 : ∀ m : Store, gEqD true true [.fl ((gridT 0 (gridL R)).map fun t => D.int ((((tilesP R p0).count t : Nat) : Int) % 2)), .fl ((gridT 0 (gridL R)).map fun t => D.int ((((tilesP R p0).count t : Nat) : Int) % 2))] m = .ok (.bl false) m := fun m => by rw [ec]; exact ne_ints_ff
      have uE : ∀ m, fzF f_unsent [.room R] m = .ok (.tup [.fl [], .room R]) m := fun m => by
        have h := unsent_ok hv (es := []) (fun _ h => nomatch h) (Nat.zero_le _) m
        have e : unsentN R [] = ([], R) := by
          show ([], flipR (flipR R)) = _
          rw [flip_flipR]
        rw [e] at h
        exact h
      have hlen := fun m => lenU_ok hv m
      have gl5 : ∀ (a b c d e : D) m, gList [a, b, c, d, e] m = .ok (.loc m.length) (m ++ [.lst [a, b, c, d, e]]) := fun a b c d e m => if_pos (by show 5 ≤ lim; unfold lim; omega)
      have z5 := fun m : Store => fzK_loc (m := m) (xs := [.int (0 - 1), .int (nPorts R : Nat), .non, .bl true, .str "0"]) rfl
      have hb5 := below_ok g4 hd2 (k := 5) (by decide) (by decide)
      have hd3 := hd2.next (k := 5) (by decide)
      obtain ⟨dr0, dr5⟩ := d2.draw_in (k := 5) (by decide)
      obtain ⟨v, hv5, hvn⟩ := port_no hv (d2.draw 5) dr0 dr5
      obtain ⟨d3, hd3e⟩ : ∃ d3, d2.next 5 = d3 := ⟨_, rfl⟩
      rw [hd3e] at hb5 hd3
      have g5 : (M4.set 0 (.lst d3.l))[0]? = some (.lst d3.l) := List.getElem?_set_self hM4l
      obtain ⟨M5, hM5⟩ : ∃ M5, M4.set 0 (.lst d3.l) = M5 := ⟨_, rfl⟩
      rw [hM5] at hb5 g5
      have er := fun m : Store => eq_room_same (m := m) (a := R)
      have z0 := fun m : Store => fzK_loc (m := m) (xs := []) rfl
      have z6 := fun m : Store => fzK_loc (m := m) (xs := [.fl [], .bl true]) rfl
      have eqB := fun m => equal_ok (d := .fl [.fl [], .bl true]) (by
        show (decide _ && _) = true
        rw [decide_eq_true (by show 2 ≤ lim; unfold lim; omega)]
        show (true && ((decide (0 ≤ lim) && true) && (true && true))) = true
        rw [decide_eq_true (Nat.zero_le _)]; rfl) m
      have xu := xunsent_no hv (i := 0) hvn M5
      have ne9 := fun m : Store => ne_port (m := m) (z := "port")
      have pE : ∃ gb, pErr 5 1 pS__law_error_of okErr (pF (fX_unsent) [(pVar 3), (pC (.int 0)), (pVar 19)]) [o0, some (.loc 0), o2, some (.room R), some (.fl [.int p0, .int p1, .int p2', .int p3]), o5, some (.fl [.int e0, .int e1, .int e2, .int e3]), some (.room S4), some (.loc M2.length), some (.room R), some (.int e0), some (.room (afterP R p0)), some (.fl ((tilesP R p0).map tileD)), some (.fl ((tilesP R p0).map tileD).reverse), some (.fl ((gridT 0 (gridL R)).map fun t => D.int ((((tilesP R p0).count t : Nat) : Int) % 2))), o15, o16, o17, some (.tup [.fl [], .room R]), some v] M5 = .ok (.tup [.str "port", .int 0]) (M5 ++ gb) :=
        pErr_port (by os_names xu)
      obtain ⟨gb, hgb⟩ := pE
      simp only [pFz_e] at hdr tc td
      refine ⟨M5 ++ gb, d3, some (.room R), some (.fl [.int p0, .int p1, .int p2', .int p3]), o5, some (.fl [.int e0, .int e1, .int e2, .int e3]), some (.room S4), some (.loc M2.length), some (.room R), some (.int e0), some (.room (afterP R p0)), some (.fl ((tilesP R p0).map tileD)), some (.fl ((tilesP R p0).map tileD).reverse), some (.fl ((gridT 0 (gridL R)).map fun t => D.int ((((tilesP R p0).count t : Nat) : Int) % 2))), o15, o16, o17, some (.tup [.fl [], .room R]), some v, ?_, hd3, get_app g5⟩
      unfold body04
      os_names hl' hroom hdr i0 i1 i2 i3 j0 j1 j2 j3 s3 s4 uL2 ta tb hrw zA zB eqA l3 apA hM4 iS cS iR3 ne1 ne2 cR q1 iR1 q2 pListG_e2 z1 z2 List.reverse_reverse t1 tuR tuS t2 iR cF tuF tc td t3 uE hlen gl5 z5 hb5 hv5 er z0 z6 eqB hgb ne9
end MT

/-! K04c: beams undone: the law whole. -/
namespace MT
open PySem L2
local macro_rules | `(tactic| os_names $xs:ident*) => `(tactic| simp -implicitDefEqProofs only [Bool.not_true, Bool.not_false, decide_true, decide_false, Res.bind_ok, Res.bind_bad, Res.bind_exc, Res.toS_ok, Res.toS_bad, Res.toS_exc, ResS.bind_nxt, ResS.bind_ret, ResS.bind_bad, ResS.bind_exc, bind_ite, toS_ite, bindS_ite, selB_bl, selB_t, selB_f, runK_ite, runK_nxt, runK_ret, runK_bad, runK_exc, runD_0, runD_1, runD_2, runD_3, runD_4, pVar_v, varK_s, pC_e, p1_e, p2_e, pF_e, evL_nil, evL_cons, pIf_e, pAnd_e, pOr_e, pChain_e, pRm_e, rmK_room, pSm_e, smK_s, pLm_e, lmK_e, lmK2_e, pFL_e, plNil_e, plCons_e, plStar_e, plK_tup, plK_fl, pMk_e, pItems_tup, pItems_fl, pMkV_e, mkVK_e, pCm_e, sSeq_e, sSet_e, sRet_e, sExpr_e, sNil_e, sBad_e, sIf_e, optN_some, sAsgT_e, bindT_nm, bindT_2, bindT_3, bindT_4, sPar_e, parK2_e, sPar3_e, parK3_e, optM_some, sSub_e, gSetL_e, setLK_e, sAug_e, augK_e, gSub_e, gAdd_i, gCmp_e, gTup_0, gTup_1, gTup_2, gTup_3, gTup_4, gList_0, gList_1, gList_2, gList_3, gNot_e, gLines_e, gPorts_e, gEqS_i, gIx_l, ixK_e, gIx_t, gIx_f, optR_s, atI_0, gLen_l, lenK_e, gLen_t, gLen_f, gAppend_e, gRev_f, gRevT_e, gTupOf_f, gTupOf_t, gListOf_f, gListOf_t, get_last, set_last, get_2a, get_2b, set_2a, set_2b, len_1, len_2, app_1, pFz_e, fzK_ite, fzK_exc, fzK_bad, dec_t, if_true, if_false, reduceIte, Bool.false_eq_true, wipeD, List.map_cons, List.map_nil, List.cons_append, List.nil_append, List.append_nil, List.replicate_succ, List.replicate_zero, List.set_cons_zero, List.set_cons_succ, Nat.reduceSub, Nat.reduceAdd, List.length_cons, List.length_nil, List.length_set, List.getElem?_cons_zero, List.getElem?_cons_succ, Option.map_some, $[$xs:ident],*])
theorem law04_ok (CR : Addr) (ns : List Int) (hns : ns.length ≤ 63) : ∃ m', f_law CR [.kl (ns.map D.int)] [] = .ok (.bl true) m' := by
  obtain ⟨d, hd⟩ := random_ok hns 4 []
  obtain ⟨hd, hr⟩ : d.Ok ∧ f__law_random [.kl (ns.map .int), .int 4] [] = .ok (.loc 0) [.lst d.l] := hd.resolve_right (by decide)
  have src : iR1 (pC (.int 3)) [some (.kl (ns.map .int)), some (.loc 0), none, none, none, none, none, none, none, none, none, none, none, none, none, none, none, none, none, none] [.lst d.l] = .ok (nxF (rngD 0 3)) [.lst d.l] := iR1_n (n := 3) rfl (by decide)
  obtain ⟨ε2, m2, e, d', o2, q3, q4, q5, q6, q7, q8, q9, q10, q11, q12, q13, q14, q15, q16, q17, q18, q19, hd', rfl, h0⟩ := sFor_rel (t := .nm 2) (pb := body04 CR)
    (fun i ε m' => ∃ (d' : RD) (o2 q3 q4 q5 q6 q7 q8 q9 q10 q11 q12 q13 q14 q15 q16 q17 q18 q19 : Option D), d'.Ok ∧ ε = [some (.kl (ns.map .int)), some (.loc 0), o2, q3, q4, q5, q6, q7, q8, q9, q10, q11, q12, q13, q14, q15, q16, q17, q18, q19] ∧ m'[0]? = some (.lst d'.l))
    src ⟨d, none, none, none, none, none, none, none, none, none, none, none, none, none, none, none, none, none, none, hd, rfl, rfl⟩ (by rw [rng_len]; decide) fun i x ε m' hx hr => by
      obtain ⟨d', o2, q3, q4, q5, q6, q7, q8, q9, q10, q11, q12, q13, q14, q15, q16, q17, q18, q19, hd', rfl, h0⟩ := hr
      obtain ⟨m2, d2, r3, r4, r5, r6, r7, r8, r9, r10, r11, r12, r13, r14, r15, r16, r17, r18, r19, e, hd2, h2⟩ := step04 CR hd' h0 (o0 := some (.kl (ns.map .int))) (o2 := some x) (o3 := q3) (o4 := q4) (o5 := q5) (o6 := q6) (o7 := q7) (o8 := q8) (o9 := q9) (o10 := q10) (o11 := q11) (o12 := q12) (o13 := q13) (o14 := q14) (o15 := q15) (o16 := q16) (o17 := q17) (o18 := q18) (o19 := q19)
      exact ⟨_, _, m2, rfl, e, d2, some x, r3, r4, r5, r6, r7, r8, r9, r10, r11, r12, r13, r14, r15, r16, r17, r18, r19, hd2, rfl, h2⟩
  refine ⟨m2, ?_⟩
  have eP : P_law CR = sSeq (sSet 1 (pF (f__law_random) [(pVar 0), (pC (.int 4))])) (sSeq (sFor (iR1 (pC (.int 3))) (.nm 2) (body04 CR)) (sRet (pC (.bl true)))) := rfl
  unfold f_law
  rw [eP, runD_1]
  show runK (sSeq _ _ [some (.kl (ns.map .int)), none, none, none, none, none, none, none, none, none, none, none, none, none, none, none, none, none, none, none] []) = _
  os_names hr e
end MT

namespace MT
open PySem PySem.Spec PyProof.Rows L2
def gOf (K : Frag) : G := { K := K, CR := cR K, cl := fun x => He.ga K x, T := [((He.cT K ("law", none)).2, (("law" : Str) ++ ".<locals>.") ++ "<lambda>")] }
theorem tx_of {P : Program} {w : World} {K : Frag} {h base : Heap} {mg : Str → Option Value} (KX : K.In h) (G : h.Ns mainGlobals mg) (c : SaysM exL fnL tsL w K) : Tx P w mg base (gOf K) where
  R := ⟨He.cls_ok (c.fact 0), He.noat_ok (c.fact 1), He.noat_ok (c.fact 2)⟩
  RI := bRoomI_ok rfl rfl (c.fact 3)
  neq := He.eqO_ok (c.fact 4)
  mRoom := He.glo_ok KX G (c.fact 5)
  turned := ⟨_, He.glo_ok KX G (c.fact 6), turned_ok (c.tab 0 (t := (atG "TURNED", [kR, kF])) rfl) (c.fact 7)⟩
  c_EMPTY := bStr_kc KX G (c.fact 8)
  c_SIGNS := bStr_kc KX G (c.fact 9)
  c_UP := bTup_kc (is := [(-1), 0]) rfl KX G (c.fact 10) (c.fact 11)
  c_DOWN := bTup_kc (is := [1, 0]) rfl KX G (c.fact 12) (c.fact 13)
  c_LEFT := bTup_kc (is := [0, (-1)]) rfl KX G (c.fact 14) (c.fact 15)
  c_RIGHT := bTup_kc (is := [0, 1]) rfl KX G (c.fact 16) (c.fact 17)
  v_MAX_SIZE := bCV_cv rfl rfl (He.glo_ok KX G (c.fact 5)) (c.fact 18) (c.fact 19)
  v_MAX_TURNING := bCV_cv rfl rfl (He.glo_ok KX G (c.fact 5)) (c.fact 18) (c.fact 20)
  n_len := He.free_ok KX G (c.fact 21)
  n_isinstance := He.free_ok KX G (c.fact 22)
  n_int := He.free_ok KX G (c.fact 23)
  n_bool := He.free_ok KX G (c.fact 24)
  n_str := He.free_ok KX G (c.fact 25)
  n_min := He.free_ok KX G (c.fact 26)
  n_any := He.free_ok KX G (c.fact 27)
  n_all := He.free_ok KX G (c.fact 28)
  n_list := He.free_ok KX G (c.fact 29)
  n_range := He.free_ok KX G (c.fact 30)
  n_enumerate := He.free_ok KX G (c.fact 31)
  n_abs := He.free_ok KX G (c.fact 32)
  n_tuple := He.free_ok KX G (c.fact 33)
  n_ValueError := He.free_ok KX G (c.fact 34)
  m_MirrorError := He.glo_ok KX G (c.fact 35)
  m_InvalidRoom := He.glo_ok KX G (c.fact 36)
  m_UnknownPort := He.glo_ok KX G (c.fact 37)
  m_UnknownTile := He.glo_ok KX G (c.fact 38)
  m_InvalidNumber := He.glo_ok KX G (c.fact 39)
  m_OtherRoom := He.glo_ok KX G (c.fact 40)
  m_TooMany := He.glo_ok KX G (c.fact 41)
  m_Contradiction := He.glo_ok KX G (c.fact 42)
  m_NotTurning := He.glo_ok KX G (c.fact 43)
  m_InvalidName := He.glo_ok KX G (c.fact 44)
  m_UnknownName := He.glo_ok KX G (c.fact 45)
  m_InvalidOperation := He.glo_ok KX G (c.fact 46)
  err := bErrs_ok (c.fact 47)
  d_is_int_in := (let ⟨fd, F⟩ := (c.def_ 0 rfl); ⟨_, fd, F, He.glo_ok KX G (c.fact 48)⟩)
  d_thrown := (let ⟨fd, F⟩ := (c.def_ 1 rfl); ⟨_, fd, F, He.glo_ok KX G (c.fact 49)⟩)
  i___init__ := (let ⟨fd, F⟩ := (c.def_ 2 rfl); ⟨_, fd, F, He.mkr_ok (c.fact 50)⟩)
  d_parse := (let ⟨fd, F⟩ := (c.def_ 3 rfl); ⟨_, fd, _, _, F, bRead_ok (c.fact 18), bCM_ok (c.fact 51)⟩)
  d_rows := (let ⟨fd, F⟩ := (c.def_ 4 rfl); ⟨_, _, fd, F, bProp_ok (c.fact 52)⟩)
  d_text := (let ⟨fd, F⟩ := (c.def_ 5 rfl); ⟨_, _, fd, F, bProp_ok (c.fact 53)⟩)
  d_size := (let ⟨fd, F⟩ := (c.def_ 6 rfl); ⟨_, _, fd, F, bProp_ok (c.fact 54)⟩)
  d_turning := (let ⟨fd, F⟩ := (c.def_ 7 rfl); ⟨_, _, fd, F, bProp_ok (c.fact 55)⟩)
  d_entry := (let ⟨fd, F⟩ := (c.def_ 8 rfl); ⟨_, fd, F, He.meth_ok (c.fact 56)⟩)
  d_exit_of := (let ⟨fd, F⟩ := (c.def_ 9 rfl); ⟨_, fd, F, He.meth_ok (c.fact 57)⟩)
  d___len__ := (let ⟨fd, F⟩ := (c.def_ 10 rfl); ⟨_, fd, F, bFn_ok (c.fact 58)⟩)
  d_has_port := (let ⟨fd, F⟩ := (c.def_ 11 rfl); ⟨_, fd, F, He.meth_ok (c.fact 59)⟩)
  d_beam := (let ⟨fd, F⟩ := (c.def_ 12 rfl); ⟨_, fd, F, He.meth_ok (c.fact 60)⟩)
  d___call__ := (let ⟨fd, F⟩ := (c.def_ 13 rfl); let b := bFn_ok (c.fact 61); ⟨_, fd, F, ⟨b.1, b.2.1, b.2.2⟩⟩)
  d___eq__ := (let ⟨fd, F⟩ := (c.def_ 14 rfl); ⟨_, fd, F, bFn_ok (c.fact 62)⟩)
  d___bool__ := (let ⟨fd, F⟩ := (c.def_ 15 rfl); ⟨_, fd, F, bFn_ok (c.fact 63)⟩)
  d___getitem__ := (let ⟨fd, F⟩ := (c.def_ 16 rfl); ⟨_, fd, F, bFn_ok (c.fact 64)⟩)
  d___invert__ := (let ⟨fd, F⟩ := (c.def_ 17 rfl); ⟨_, fd, F, He.meth_ok (c.fact 65)⟩)
  d_check_port := (let ⟨fd, F⟩ := (c.def_ 18 rfl); ⟨_, fd, F, He.glo_ok KX G (c.fact 66)⟩)
  d_path := (let ⟨fd, F⟩ := (c.def_ 19 rfl); ⟨_, fd, F, He.glo_ok KX G (c.fact 67)⟩)
  d_send := (let ⟨fd, F⟩ := (c.def_ 20 rfl); ⟨_, fd, F, He.glo_ok KX G (c.fact 68)⟩)
  d_unsent := (let ⟨fd, F⟩ := (c.def_ 21 rfl); ⟨_, fd, F, He.glo_ok KX G (c.fact 69)⟩)
  d__law_random := (let ⟨fd, F⟩ := (c.def_ 22 rfl); ⟨_, fd, F, He.glo_ok KX G (c.fact 70)⟩)
  d__law_room := (let ⟨fd, F⟩ := (c.def_ 23 rfl); ⟨_, fd, F, He.glo_ok KX G (c.fact 71)⟩)
  d__law_below := (let ⟨fd, F⟩ := (c.def_ 24 rfl); ⟨_, fd, F, He.glo_ok KX G (c.fact 72)⟩)
  d__law_lines := (let ⟨fd, F⟩ := (c.def_ 25 rfl); ⟨_, fd, F, He.glo_ok KX G (c.fact 73)⟩)
  d__law_equal := (let ⟨fd, F⟩ := (c.def_ 26 rfl); ⟨_, fd, F, He.glo_ok KX G (c.fact 74)⟩)
  d__law_error_of := (let ⟨fd, F⟩ := (c.def_ 27 rfl); ⟨_, fd, F, He.glo_ok KX G (c.fact 75)⟩)
section
variable {P : Program} {w : World} {mg : Str → Option Value} {base : Heap} {g : G}
theorem law_fn (T : Tx P w mg base g) {ad : Addr} {fd : FuncData} (F : Fun g.K "law" "law" s_law ad fd) {c0 P0 : Addr} (hTab : g.T = [(P0, (("law" : Str) ++ ".<locals>.") ++ "<lambda>")]) (TB : LamX.TabB base mg c0 P0) (hcd : fd.code = .ref c0) : FnOk P w g.K mg base CX0 15 ad fd ["_law_script"] (spOf g (f_law g.CR)) := by
  have c_is_int_in := d_is_int_in T 
  have c_thrown := d_thrown T 
  have c___init__ := d___init__ T 
  have c_parse := d_parse T c___init__
  have c_rows := d_rows T 
  have c_text := d_text T 
  have c_size := d_size T 
  have c_turning := d_turning T 
  have c_entry := d_entry T c_size
  have c_exit_of := d_exit_of T c_size
  have c___len__ := d___len__ T 
  have c_has_port := d_has_port T c_is_int_in c___len__
  have c_beam := d_beam T c_thrown c___init__ c_size c_entry c_exit_of
  have c___call__ := d___call__ T c_has_port c_beam
  have rE := d___eq__ T 
  have c___bool__ := d___bool__ T 
  have c___getitem__ := d___getitem__ T c_is_int_in c_size
  have c___invert__ := d___invert__ T c___init__
  have c_check_port := d_check_port T c_has_port
  have cX_check_port := dX_check_port T c_has_port
  have c_path := d_path T c_beam c_check_port
  have c_send := d_send T c___call__ c_check_port
  have cX_send := dX_send T c___call__ cX_check_port
  have c_unsent := d_unsent T c___invert__ c_send
  have cL_unsent := dL_unsent T c___invert__ c_send
  have cX_unsent := dX_unsent T c___invert__ cX_send
  have c__law_random := d__law_random T 
  have c__law_room := d__law_room T c_parse
  have c__law_below := d__law_below T 
  have c__law_lines := d__law_lines T c__law_below
  have c__law_equal_0 := d__law_equal_0 T 
  have c__law_equal_1 := d__law_equal_1 T c__law_equal_0
  have c__law_equal_2 := d__law_equal_2 T c__law_equal_1
  have c__law_equal_3 := d__law_equal_3 T c__law_equal_2
  have c__law_equal_4 := d__law_equal_4 T c__law_equal_3
  exact d_law T c_rows c_turning c___len__ c___call__ c___getitem__ c___invert__ c_path c_send c_unsent cL_unsent cX_unsent c__law_random c__law_room c__law_below c__law_lines c__law_equal_4 rE F hTab TB hcd
end
end MT
open PySem PySem.W PySem.Calls PyProof.Rows
theorem PySem.Challenge.cw_mirrorturns_k04_whole_beams_undone_holds : PySem.Challenge.rw_mirrorturns_k04_whole_beams_undone.Holds := by
  w_on; o_law
  refine HandSHeadRun.head_any (r := OpenLaw.row PySem.Challenge.rw_mirrorturns_k04_whole_beams_undone) (q := view (OpenLaw.row PySem.Challenge.rw_mirrorturns_k04_whole_beams_undone).prog [36]) (H := MT.hk) (ob := MT.ob) (M := 8000) (loose := MT.looseL) (d := HandSHeadRun.topDef (OpenLaw.row PySem.Challenge.rw_mirrorturns_k04_whole_beams_undone).prog 36) (kwd := []) MT.ob_eq
    (by kernel_rfl) (fun s => by kernel_rfl) MT.run (by kernel_rfl) (by kernel_rfl) (by kernel_rfl) (by rfl) (by first | assumption | decide +kernel) (by decide +kernel) ⟨rfl, rfl, rfl, rfl, rfl, by decide +kernel⟩ ?hw ?hc
  case hw => w_witness2
  case hc =>
    refine LamX.walk_ofTsE (l := PySem.Challenge.rw_mirrorturns_k04_whole_beams_undone) (n := 63) (k := 15) (x := "_law_script") (CX := fun _ => L2.CX0) rfl (by decide) (by kernel_rfl) ⟨rfl, by decide, by decide⟩ ?F (fun _ _ _ _ _ z => z)
    intro w mg fa h Y G hmg0
    obtain ⟨K, KX, c⟩ := Y
    have hmg : mg ("law" : PySem.Str) = some (.ref fa) := by
      have e : (HandSHeadRun.topDef (OpenLaw.row PySem.Challenge.rw_mirrorturns_k04_whole_beams_undone).prog 36).name = ("law" : PySem.Str) := by kernel_rfl
      rw [← e]
      exact hmg0
    obtain ⟨fd, F⟩ := c.m.def_ 28 rfl
    have hfa : fa = MT.atG "law" K := by
      have e := He.glo_ok KX G (c.m.fact 76 rfl)
      rw [hmg] at e
      exact Value.ref.inj (Option.some.inj e)
    subst hfa
    refine ⟨K, KX, fd, [He.cT K ("law", none)], fun vs H Q E => MT.spOf (MT.gOf K) (MT.f_law (MT.cR K)) vs H Q E ∨ ∃ a xs, H a = some (.lst xs) ∧ ∀ o, MT.spOf (MT.gOf K) (MT.f_law (MT.cR K)) vs (L2.upd H a (.frz o (.lst xs))) Q E, ?_, ?_, ?_, fun s u => MT.law_binds F (fun _ _ _ _ _ _ us hl => match us, hl with | [_], _ => rfl) s u, ?_, ?_⟩
    · intro p hp
      rw [List.mem_singleton.mp hp]
      exact c.empty _ (List.mem_singleton.mpr rfl)
    · intro p hp
      rw [List.mem_singleton.mp hp]
      exact c.out _ (List.mem_singleton.mpr rfl)
    · intro p hp
      rw [List.mem_singleton.mp hp]
      exact PySem.W.codeHd_of_K KX (c.hd _ (List.mem_singleton.mpr rfl))
    · intro H a ns hl hbits hH hS
      exact MT.law_spT rfl (hH _ (List.mem_singleton.mpr rfl)) hS (MT.law04_ok _ ns hl) _
    · intro base hb hn TB
      exact MT.fnok_lock (MT.law_fn (g := MT.gOf K) (MT.tx_of hb hn c.m) F rfl (TB _ (List.mem_singleton.mpr rfl)) (MT.code_of F))
